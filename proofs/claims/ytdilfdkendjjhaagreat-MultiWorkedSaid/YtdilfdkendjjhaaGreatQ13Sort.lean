/- slices.SortStableFunc of bytes: it comes to its end, and what is sorted are as many bytes as before; predict.Rank gives as many as are asked for. -/
import Derived.Test.YtdilfdkendjjhaaGreatQ12Pred
import Derived.Test.YtdilfdkendjjhaaGreatQ08RefS
import Derived.Test.YtdilfdkendjjhaaGreatQ05Job
import Derived.Test.YtdilfdkendjjhaaGreatQ06Chk2
namespace Go.Proofs.YtdilfdkendjjhaaGreat
open Go.RowKit
set_option linter.unusedVariables false
set_option linter.unusedSimpArgs false
set_option maxRecDepth 10000
set_option synthInstance.maxSize 4000
set_option synthInstance.maxHeartbeats 400000
section
structure CmpS (W:World)(L:List SP)(f:FuncId)(us:List Value):Prop where
 c:callable Tryz.prog f=true
 h:∀ {w:World} {M:List SP} {x y:UInt8},St W w M→(∀ {w'},St W w' M→St W w' L)→Calls Tryz.prog f (List.toArray (.int .u8 (x.toNat:Nat)::.int .u8 (y.toNat:Nat)::us)) w λe w'=>∃ z:Int,e=.returned (.int .i64 z)∧St W w' M
abbrev sbS (bb oo m c:Nat)(xs:List UInt8):SP:=Sl 5 1 (some ⟨bb,oo,none⟩) m c (bc xs)
abbrev sv (bb oo m c:Nat):Value:=.slice (some ⟨bb,oo,none⟩) m c
abbrev fv (f:FuncId)(us:List Value):Value:=.func (.func f) #[] us.toArray
theorem bcs (bs:List UInt8)(i:Nat)(x:UInt8):(bc bs).set i (.int .u8 (x.toNat:Int))=bc (bs.set i x):=by rw[bc,bc,List.map_set]
theorem wu {n:Nat}(h:n≤9223372036854775807):IntKind.u64.wrap (n:Int)=n:=by rw[wrap_u64];omega
section
variable {W w:World}{L:List SP}{bb oo m c lo up f n k:Nat}{us:List Value}{xs:List UInt8}
theorem insertion (hs:St W w (sbS bb oo m c xs::L))(hF:CmpS W L f us)(hx:xs.length=m)(hb:up≤m)(hm:m≤1000)(ha0:lo≤m) :
   Calls Tryz.prog 288 #[sv bb oo m c,.int .i64 lo,.int .i64 up,fv f us] w λe w'=>∃ ys:List UInt8,e=.returned (.tuple #[])∧ys.length=m∧St W w' (sbS bb oo m c ys::L):=by
 refine EN Tryz.func288 Tryz.ntmps288 rfl rfl λa ha=>?_
 refine RN 4 ha hs λa ha=>?_
 refine wp_loop_ghost (λμ a w=>∃ (i:Nat) (ys:List UInt8),(μ=up-i∧lo<i∧ys.length=m)∧Fr a 53 [(0,sv bb oo m c),(1,.int .i64 lo),(2,.int .i64 up),(3,fv f us),(8,.int .i64 i)]∧St W w (sbS bb oo m c ys::L)) (up-(lo+1)) (⟨lo+1,xs,⟨rfl,by omega,hx⟩,ha.keep [0,1,2,3,8],hs⟩) ?_
 clear ha hs
 rintro μ a w ⟨i,ys,⟨rfl,hi,hy⟩,ha,hs⟩
 refine IF 5 ha hs (λhc0 a ha=>?_) λhc0 a ha=>?_
 ·
  have him:i<m:=by omega
  refine RN 4 ha hs λa ha=>?_
  refine wp_loop_ghost (λμ a w=>∃ (j:Nat) (zs:List UInt8),(μ=j∧j≤i∧zs.length=m)∧Fr a 53 [(0,sv bb oo m c),(1,.int .i64 lo),(2,.int .i64 up),(3,fv f us),(8,.int .i64 i),(9,.int .i64 j)]∧St W w (sbS bb oo m c zs::L)) (i) (⟨i,ys,⟨rfl,Nat.le_refl _,hy⟩,ha.keep [0,1,2,3,8,9],hs⟩) ?_
  clear ha hs
  rintro μ a w ⟨j,zs,⟨hμ,hj,hz⟩,ha,hs⟩
  have hjz:j<zs.length:=by omega
  have hjz1:j-1<zs.length:=by omega
  refine DWO 2 [13] [0,1,2,3,4,5,6,7,9,10,11,12,3008,1013,1014,15,16] ha hs λa w ha hs hH hC=>?_
  have hr:Rd w bb oo (bc zs):=hs.slRdAt bb oo (by omega)
  refine RH 4 ha hs hH hC λa ha=>?_
  refine ha.by (s:=21) (λhg3 ha=>?_) (λhg3 ha=>?_)
  ·
   refine RH 7 ha hs hH hC λa ha=>?_
   rw[show (j:Int)-1=((j-1:Nat):Int) from by omega]at ha
   refine RH 1 ha hs hH hC λa ha=>?_
   refine QH ha (λw hc=>ld1 ha (hc.cell (hr j _ (bc_at hjz)))) hC λa ha=>?_
   refine RH 0 ha hs hH hC λa ha=>?_
   refine st_set ha (wgT ha rfl (s:=21)) (ld1 ha (hr (j-1) _ (bc_at hjz1))) rfl λa ha=>?_
   refine RH 0 ha hs hH hC λa ha=>?_
   refine CL1 0 ha hs (hF.h hs λh=>h.tail) (hf:=hF.c) λz a w ha hs=>?_
   refine RN 2 ha hs λa ha=>?_
   refine IF 0 ha hs (λhc1 a ha=>?_) λhc1 a ha=>?_
   ·
    refine DWO 1 [13] [0,1,2,3,4,5,6,7,8,10,11,12,3009,1013,14,1015,16,1017] ha hs λa w ha hs hH hC=>?_
    have hr:Rd w bb oo (bc zs):=hs.slRdAt bb oo (by omega)
    refine RH 5 ha hs hH hC λa ha=>?_
    rw[show (j:Int)-1=((j-1:Nat):Int) from by omega]at ha
    refine RH 3 ha hs hH hC λa ha=>?_
    rw[show (j:Int)-1=((j-1:Nat):Int) from by omega]at ha
    refine RH 4 ha hs hH hC λa ha=>?_
    refine QH ha (λw hc=>ld1 ha (hc.cell (hr (j-1) _ (bc_at hjz1)))) hC λa ha=>?_
    refine RH 0 ha hs hH hC λa ha=>?_
    refine SS ha (ld1 ha (hr j _ (bc_at hjz))) λa ha=>?_
    refine RH 1 ha hs hH hC λa ha=>?_
    refine st_storeS (off:=oo) (k:=j) ha rfl hs Ty.t5 rfl (by omega) (by rw[bc_len];omega) λa w ha hs=>?_
    rw[bcs]at hs
    refine RN 1 ha hs λa ha=>?_
    refine st_storeS (off:=oo) (k:=j-1) ha rfl hs Ty.t5 rfl (by omega) (by rw[bc_len,List.length_set];omega) λa w ha hs=>?_
    rw[bcs]at hs
    refine RN 2 ha hs λa ha=>?_
    rw[show (j:Int)-1=((j-1:Nat):Int) from by omega]at ha
    refine RN 1 ha hs λa ha=>?_
    exact⟨j-1,by omega,j-1,_,⟨rfl,by omega,by simp[hz]⟩,ha.keep [0,1,2,3,8,9],hs⟩
   refine RN 3 ha hs λa ha=>?_
   exact⟨up-(i+1),by omega,i+1,zs,⟨rfl,by omega,hz⟩,ha.keep [0,1,2,3,8],hs⟩
  refine RH 13 ha hs hH hC λa ha=>?_
  refine RN 4 ha hs λa ha=>?_
  exact⟨up-(i+1),by omega,i+1,zs,⟨rfl,by omega,hz⟩,ha.keep [0,1,2,3,8],hs⟩
 refine RT 0 ha hs ?_
 exact⟨ys,rfl,hy,hs⟩
theorem swapRange (hs:St W w (sbS bb oo m c xs::L))(hx:xs.length=m)(h1:lo+n≤m)(h2:up+n≤m)(hm:m≤1000) :
   Calls Tryz.prog 298 #[sv bb oo m c,.int .i64 lo,.int .i64 up,.int .i64 n,fv f us] w λe w'=>∃ ys:List UInt8,e=.returned (.tuple #[])∧ys.length=m∧St W w' (sbS bb oo m c ys::L):=by
 refine EN Tryz.func298 Tryz.ntmps298 rfl rfl λa ha=>?_
 refine RN 2 ha hs λa ha=>?_
 refine wp_loop_ghost (λμ a w=>∃ (i:Nat) (zs:List UInt8),(μ=n-i∧i≤n∧zs.length=m)∧Fr a 38 [(0,sv bb oo m c),(1,.int .i64 lo),(2,.int .i64 up),(3,.int .i64 n),(10,.int .i64 i)]∧St W w (sbS bb oo m c zs::L)) (n) (⟨0,xs,⟨rfl,Nat.zero_le _,hx⟩,ha.keep [0,1,2,3,10],hs⟩) ?_
 clear ha hs
 rintro μ a w ⟨i,zs,⟨rfl,hi,hz⟩,ha,hs⟩
 refine IF 5 ha hs (λhc0 a ha=>?_) λhc0 a ha=>?_
 ·
  have hl1:lo+i<zs.length:=by omega
  have hl2:up+i<zs.length:=by omega
  refine DWO 1 [19] [0,1,2,3,4,5,6,7,8,9,10,11,12,14,15,16,17,18,3013,1019,20,1021,22,1023] ha hs λa w ha hs hH hC=>?_
  have hr:Rd w bb oo (bc zs):=hs.slRdAt bb oo (by omega)
  refine RH 18 ha hs hH hC λa ha=>?_
  refine QH ha (λw hc=>ld1 ha (hc.cell (hr (up+i) _ (bc_at hl2)))) hC λa ha=>?_
  refine RH 0 ha hs hH hC λa ha=>?_
  refine SS ha (ld1 ha (hr (lo+i) _ (bc_at hl1))) λa ha=>?_
  refine RH 1 ha hs hH hC λa ha=>?_
  refine st_storeS (off:=oo) (k:=lo+i) ha rfl hs Ty.t5 rfl (by omega) (by rw[bc_len];omega) λa w ha hs=>?_
  rw[bcs]at hs
  refine RN 1 ha hs λa ha=>?_
  refine st_storeS (off:=oo) (k:=up+i) ha rfl hs Ty.t5 rfl (by omega) (by rw[bc_len,List.length_set];omega) λa w ha hs=>?_
  rw[bcs]at hs
  refine RN 3 ha hs λa ha=>?_
  exact⟨n-(i+1),by omega,i+1,_,⟨rfl,by omega,by simp[hz]⟩,ha.keep [0,1,2,3,10],hs⟩
 refine RT 0 ha hs ?_
 exact⟨zs,rfl,hz,hs⟩
theorem rotate (hs:St W w (sbS bb oo m c xs::L))(hx:xs.length=m)(h1:lo<k)(h2:k<up)(h3:up≤m)(hm:m≤1000) :
   Calls Tryz.prog 297 #[sv bb oo m c,.int .i64 lo,.int .i64 k,.int .i64 up,fv f us] w λe w'=>∃ ys:List UInt8,e=.returned (.tuple #[])∧ys.length=m∧St W w' (sbS bb oo m c ys::L):=by
 refine EN Tryz.func297 Tryz.ntmps297 rfl rfl λa ha=>?_
 refine RN 4 ha hs λa ha=>?_
 rw[show (k:Int)-(lo:Int)=((k-lo:Nat):Int) from by omega]at ha
 refine RN 5 ha hs λa ha=>?_
 rw[show (up:Int)-(k:Int)=((up-k:Nat):Int) from by omega]at ha
 refine RN 2 ha hs λa ha=>?_
 refine wp_loop_ghost (λμ a w=>∃ (i j:Nat) (zs:List UInt8),(μ=i+j∧(1≤i∧1≤j)∧(i≤k∧k+j≤m)∧zs.length=m)∧Fr a 58 [(0,sv bb oo m c),(2,.int .i64 k),(4,fv f us),(10,.int .i64 i),(11,.int .i64 j)]∧St W w (sbS bb oo m c zs::L)) (k-lo+(up-k)) (⟨k-lo,up-k,xs,⟨rfl,⟨by omega,by omega⟩,⟨by omega,by omega⟩,hx⟩,ha.keep [0,2,4,10,11],hs⟩) ?_
 clear ha hs
 rintro μ a w ⟨i,j,zs,⟨rfl,⟨hi,hj⟩,⟨hik,hjm⟩,hz⟩,ha,hs⟩
 refine IF 5 ha hs (λhc0 a ha=>?_) λhc0 a ha=>?_
 ·
  refine IF 4 ha hs (λhc1 a ha=>?_) λhc1 a ha=>?_
  ·
   refine RN 5 ha hs λa ha=>?_
   rw[show (k:Int)-(i:Int)=((k-i:Nat):Int) from by omega]at ha
   refine CL1 3 ha hs (swapRange hs hz (by omega) (by omega) hm) λys a w ha ⟨hy,hs⟩=>?_
   refine RN 3 ha hs λa ha=>?_
   rw[show (i:Int)-(j:Int)=((i-j:Nat):Int) from by omega]at ha
   refine RN 1 ha hs λa ha=>?_
   exact⟨i-j+j,by omega,i-j,j,ys,⟨rfl,⟨by omega,by omega⟩,⟨by omega,by omega⟩,hy⟩,ha.keep [0,2,4,10,11],hs⟩
  refine RN 5 ha hs λa ha=>?_
  rw[show (k:Int)-(i:Int)=((k-i:Nat):Int) from by omega]at ha
  refine RN 5 ha hs λa ha=>?_
  rw[show (k:Int)+(j:Int)-(i:Int)=((k+j-i:Nat):Int) from by omega]at ha
  refine CL1 2 ha hs (swapRange hs hz (by omega) (by omega) hm) λys a w ha ⟨hy,hs⟩=>?_
  refine RN 3 ha hs λa ha=>?_
  rw[show (j:Int)-(i:Int)=((j-i:Nat):Int) from by omega]at ha
  refine RN 1 ha hs λa ha=>?_
  exact⟨i+(j-i),by omega,i,j-i,ys,⟨rfl,⟨by omega,by omega⟩,⟨by omega,by omega⟩,hy⟩,ha.keep [0,2,4,10,11],hs⟩
 refine RN 4 ha hs λa ha=>?_
 rw[show (k:Int)-(i:Int)=((k-i:Nat):Int) from by omega]at ha
 refine CL1 3 ha hs (swapRange hs hz (by omega) (by omega) hm) λys a w ha ⟨hy,hs⟩=>?_
 refine RT 0 ha hs ?_
 exact⟨ys,rfl,hy,hs⟩
theorem symMerge (hF:CmpS W L f us)(hm:m≤1000):∀ (d:Nat) {w:World} {xs:List UInt8} {lo k up:Nat},up-lo≤d→xs.length=m→lo<k→k<up→up≤m→St W w (sbS bb oo m c xs::L) →
   Calls Tryz.prog 289 #[sv bb oo m c,.int .i64 lo,.int .i64 k,.int .i64 up,fv f us] w λe w'=>∃ ys:List UInt8,e=.returned (.tuple #[])∧ys.length=m∧St W w' (sbS bb oo m c ys::L):=by
 intro d
 induction d with
 | zero=>intro w xs lo k up hd hx h1 h2 h3 hs;omega
 | succ d ih =>
   intro w xs lo k up hd hx h1 h2 h3 hs
   refine EN Tryz.func289 Tryz.ntmps289 rfl rfl λa ha=>?_
   refine RN 5 ha hs λa ha=>?_
   rw[show (k:Int)-(lo:Int)=((k-lo:Nat):Int) from by omega]at ha
   refine IF 1 ha hs (λhc0 a ha=>?_) λhc0 a ha=>?_
   ·
    refine RN 7 ha hs λa ha=>?_
    refine wp_loop_ghost (λμ a w=>∃ (i j:Nat),(μ=j-i∧(k≤i∧i≤j)∧j≤up)∧Fr a 220 [(0,sv bb oo m c),(1,.int .i64 lo),(2,.int .i64 k),(4,fv f us),(10,.int .i64 i),(11,.int .i64 j)]∧St W w (sbS bb oo m c xs::L)) (up-k) (⟨k,up,⟨rfl,⟨Nat.le_refl _,by omega⟩,Nat.le_refl _⟩,ha.keep [0,1,2,4,10,11],hs⟩) ?_
    clear ha hs
    rintro μ a w ⟨i,j,⟨rfl,⟨hi,hij⟩,hj⟩,ha,hs⟩
    refine IF 5 ha hs (λhc1 a ha=>?_) λhc1 a ha=>?_
    ·
     have hq1:(i+j)/2<xs.length:=by omega
     have hq2:lo<xs.length:=by omega
     refine RN 4 ha hs λa ha=>?_
     rw[show (i:Int)+(j:Int)=((i+j:Nat):Int) from rfl]at ha
     refine SX 0 ha hs (wu (by omega)) λa ha=>?_
     refine RN 1 ha hs λa ha=>?_
     rw[show (((i+j:Nat):Int).fdiv (2 ^ 1))=(((i+j)/2:Nat):Int) from fdivN (i+j) 2]at ha
     refine SX 0 ha hs (wrap_in (by omega) (by omega)) λa ha=>?_
     refine DWO 2 [8] [0,1,2,3,5,6,7,3004,1008,1009,10] ha hs λa w ha hs hH hC=>?_
     have hr:Rd w bb oo (bc xs):=hs.slRdAt bb oo (by omega)
     refine RH 7 ha hs hH hC λa ha=>?_
     refine QH ha (λw hc=>ld1 ha (hc.cell (hr ((i+j)/2) _ (bc_at hq1)))) hC λa ha=>?_
     refine RH 0 ha hs hH hC λa ha=>?_
     refine SS ha (ld1 ha (hr lo _ (bc_at hq2))) λa ha=>?_
     refine RH 0 ha hs hH hC λa ha=>?_
     refine CL1 0 ha hs (hF.h hs λh=>h.tail) (hf:=hF.c) λz a w ha hs=>?_
     refine RN 1 ha hs λa ha=>?_
     refine IF 0 ha hs (λhc2 a ha=>?_) λhc2 a ha=>?_
     ·
      refine RN 3 ha hs λa ha=>?_
      exact⟨j-((i+j)/2+1),by omega,(i+j)/2+1,j,⟨rfl,⟨by omega,by omega⟩,hj⟩,ha.keep [0,1,2,4,10,11],hs⟩
     refine RN 2 ha hs λa ha=>?_
     exact⟨(i+j)/2-i,by omega,i,(i+j)/2,⟨rfl,⟨hi,by omega⟩,by omega⟩,ha.keep [0,1,2,4,10,11],hs⟩
    refine RN 4 ha hs λa ha=>?_
    refine wp_loop_ghost (λμ a w=>∃ (q:Nat) (zs:List UInt8),(μ=i-q∧lo≤q∧zs.length=m)∧Fr a 220 [(0,sv bb oo m c),(10,.int .i64 i),(13,.int .i64 q)]∧St W w (sbS bb oo m c zs::L)) (i-lo) (⟨lo,xs,⟨rfl,Nat.le_refl _,hx⟩,ha.keep [0,10,13],hs⟩) ?_
    clear ha hs
    rintro μ a w ⟨q,zs,⟨rfl,hq,hz⟩,ha,hs⟩
    refine RN 5 ha hs λa ha=>?_
    rw[show (i:Int)-1=((i-1:Nat):Int) from by omega]at ha
    refine IF 1 ha hs (λhc3 a ha=>?_) λhc3 a ha=>?_
    ·
     have hz1:q<zs.length:=by omega
     have hz2:q+1<zs.length:=by omega
     refine DWO 1 [13] [0,1,2,3,4,5,6,7,8,10,11,12,3009,1013,14,1015,16,1017] ha hs λa w ha hs hH hC=>?_
     have hr:Rd w bb oo (bc zs):=hs.slRdAt bb oo (by omega)
     refine RH 12 ha hs hH hC λa ha=>?_
     refine QH ha (λw hc=>ld1 ha (hc.cell (hr (q+1) _ (bc_at hz2)))) hC λa ha=>?_
     refine RH 0 ha hs hH hC λa ha=>?_
     refine SS ha (ld1 ha (hr q _ (bc_at hz1))) λa ha=>?_
     refine RH 1 ha hs hH hC λa ha=>?_
     refine st_storeS (off:=oo) (k:=q) ha rfl hs Ty.t5 rfl (by omega) (by rw[bc_len];omega) λa w ha hs=>?_
     rw[bcs]at hs
     refine RN 1 ha hs λa ha=>?_
     refine st_storeS (off:=oo) (k:=q+1) ha rfl hs Ty.t5 rfl (by omega) (by rw[bc_len,List.length_set];omega) λa w ha hs=>?_
     rw[bcs]at hs
     refine RN 3 ha hs λa ha=>?_
     exact⟨i-(q+1),by omega,q+1,_,⟨rfl,by omega,by simp[hz]⟩,ha.keep [0,10,13],hs⟩
    refine RT 0 ha hs ?_
    exact⟨zs,rfl,hz,hs⟩
   refine RN 5 ha hs λa ha=>?_
   rw[show (up:Int)-(k:Int)=((up-k:Nat):Int) from by omega]at ha
   refine IF 1 ha hs (λhc4 a ha=>?_) λhc4 a ha=>?_
   ·
    refine RN 7 ha hs λa ha=>?_
    refine wp_loop_ghost (λμ a w=>∃ (i j:Nat),(μ=j-i∧(lo≤i∧i≤j)∧j≤k)∧Fr a 220 [(0,sv bb oo m c),(2,.int .i64 k),(4,fv f us),(14,.int .i64 i),(15,.int .i64 j)]∧St W w (sbS bb oo m c xs::L)) (k-lo) (⟨lo,k,⟨rfl,⟨Nat.le_refl _,by omega⟩,Nat.le_refl _⟩,ha.keep [0,2,4,14,15],hs⟩) ?_
    clear ha hs
    rintro μ a w ⟨i,j,⟨rfl,⟨hi,hij⟩,hj⟩,ha,hs⟩
    refine IF 5 ha hs (λhc5 a ha=>?_) λhc5 a ha=>?_
    ·
     have hq1:(i+j)/2<xs.length:=by omega
     have hq2:k<xs.length:=by omega
     refine RN 4 ha hs λa ha=>?_
     rw[show (i:Int)+(j:Int)=((i+j:Nat):Int) from rfl]at ha
     refine SX 0 ha hs (wu (by omega)) λa ha=>?_
     refine RN 1 ha hs λa ha=>?_
     rw[show (((i+j:Nat):Int).fdiv (2 ^ 1))=(((i+j)/2:Nat):Int) from fdivN (i+j) 2]at ha
     refine SX 0 ha hs (wrap_in (by omega) (by omega)) λa ha=>?_
     refine DWO 2 [8] [0,1,2,3,5,6,7,3004,1008,1009,10,11] ha hs λa w ha hs hH hC=>?_
     have hr:Rd w bb oo (bc xs):=hs.slRdAt bb oo (by omega)
     refine RH 7 ha hs hH hC λa ha=>?_
     refine QH ha (λw hc=>ld1 ha (hc.cell (hr k _ (bc_at hq2)))) hC λa ha=>?_
     refine RH 0 ha hs hH hC λa ha=>?_
     refine SS ha (ld1 ha (hr ((i+j)/2) _ (bc_at hq1))) λa ha=>?_
     refine RH 0 ha hs hH hC λa ha=>?_
     refine CL1 0 ha hs (hF.h hs λh=>h.tail) (hf:=hF.c) λz a w ha hs=>?_
     refine RN 2 ha hs λa ha=>?_
     refine IF 0 ha hs (λhc6 a ha=>?_) λhc6 a ha=>?_
     ·
      refine RN 3 ha hs λa ha=>?_
      exact⟨j-((i+j)/2+1),by omega,(i+j)/2+1,j,⟨rfl,⟨by omega,by omega⟩,hj⟩,ha.keep [0,2,4,14,15],hs⟩
     refine RN 2 ha hs λa ha=>?_
     exact⟨(i+j)/2-i,by omega,i,(i+j)/2,⟨rfl,⟨hi,by omega⟩,by omega⟩,ha.keep [0,2,4,14,15],hs⟩
    refine RN 4 ha hs λa ha=>?_
    refine wp_loop_ghost (λμ a w=>∃ (q:Nat) (zs:List UInt8),(μ=q∧q≤k∧zs.length=m)∧Fr a 220 [(0,sv bb oo m c),(14,.int .i64 i),(17,.int .i64 q)]∧St W w (sbS bb oo m c zs::L)) (k) (⟨k,xs,⟨rfl,Nat.le_refl _,hx⟩,ha.keep [0,14,17],hs⟩) ?_
    clear ha hs
    rintro μ a w ⟨q,zs,⟨hμ,hq,hz⟩,ha,hs⟩
    refine IF 5 ha hs (λhc7 a ha=>?_) λhc7 a ha=>?_
    ·
     have hz1:q<zs.length:=by omega
     have hz2:q-1<zs.length:=by omega
     refine DWO 1 [13] [0,1,2,3,4,5,6,7,8,10,11,12,3009,1013,14,1015,16,1017] ha hs λa w ha hs hH hC=>?_
     have hr:Rd w bb oo (bc zs):=hs.slRdAt bb oo (by omega)
     refine RH 5 ha hs hH hC λa ha=>?_
     rw[show (q:Int)-1=((q-1:Nat):Int) from by omega]at ha
     refine RH 3 ha hs hH hC λa ha=>?_
     rw[show (q:Int)-1=((q-1:Nat):Int) from by omega]at ha
     refine RH 4 ha hs hH hC λa ha=>?_
     refine QH ha (λw hc=>ld1 ha (hc.cell (hr (q-1) _ (bc_at hz2)))) hC λa ha=>?_
     refine RH 0 ha hs hH hC λa ha=>?_
     refine SS ha (ld1 ha (hr q _ (bc_at hz1))) λa ha=>?_
     refine RH 1 ha hs hH hC λa ha=>?_
     refine st_storeS (off:=oo) (k:=q) ha rfl hs Ty.t5 rfl (by omega) (by rw[bc_len];omega) λa w ha hs=>?_
     rw[bcs]at hs
     refine RN 1 ha hs λa ha=>?_
     refine st_storeS (off:=oo) (k:=q-1) ha rfl hs Ty.t5 rfl (by omega) (by rw[bc_len,List.length_set];omega) λa w ha hs=>?_
     rw[bcs]at hs
     refine RN 2 ha hs λa ha=>?_
     rw[show (q:Int)-1=((q-1:Nat):Int) from by omega]at ha
     refine RN 1 ha hs λa ha=>?_
     exact⟨q-1,by omega,q-1,_,⟨rfl,by omega,by simp[hz]⟩,ha.keep [0,14,17],hs⟩
    refine RT 0 ha hs ?_
    exact⟨zs,rfl,hz,hs⟩
   refine RN 4 ha hs λa ha=>?_
   rw[show (lo:Int)+(up:Int)=((lo+up:Nat):Int) from rfl]at ha
   refine SX 0 ha hs (wu (by omega)) λa ha=>?_
   refine RN 1 ha hs λa ha=>?_
   rw[show (((lo+up:Nat):Int).fdiv (2 ^ 1))=(((lo+up)/2:Nat):Int) from fdivN (lo+up) 2]at ha
   refine SX 0 ha hs (wrap_in (by omega) (by omega)) λa ha=>?_
   refine RN 1 ha hs λa ha=>?_
   obtain⟨mid,hmid⟩:∃ mid,mid=(lo+up)/2:=⟨_,rfl⟩
   rw[← hmid]at ha
   refine RN 8 ha hs λa ha=>?_
   refine wp_seq_cut (M:=λa w=>∃ s r:Nat,((lo≤s∧mid+k≤s+up)∧s≤r∧r≤mid∧r≤k)∧Fr a 220 [(0,sv bb oo m c),(1,.int .i64 lo),(2,.int .i64 k),(3,.int .i64 up),(4,fv f us),(18,.int .i64 mid),(19,.int .i64 ((mid:Int)+k)),(20,.int .i64 s),(21,.int .i64 r)]∧St W w (sbS bb oo m c xs::L)) ?_ ?_
   ·
    refine IF 4 ha hs (λhc8 a ha=>?_) λhc8 a ha=>?_
    ·
     refine RN 4 ha hs λa ha=>?_
     rw[show (mid:Int)+(k:Int)-(up:Int)=((mid+k-up:Nat):Int) from by omega]at ha
     refine RN 3 ha hs λa ha=>?_
     exact⟨mid+k-up,mid,⟨⟨by omega,by omega⟩,by omega,by omega,by omega⟩,ha.keep [0,1,2,3,4,18,19,20,21],hs⟩
    refine RN 5 ha hs λa ha=>?_
    exact⟨lo,k,⟨⟨by omega,by omega⟩,by omega,by omega,by omega⟩,ha.keep [0,1,2,3,4,18,19,20,21],hs⟩
   clear ha;(try clear hs)
   rintro a w ⟨s0,r0,⟨⟨hs1,hs2⟩,hs3,hs4,hs5⟩,ha,hs⟩
   refine RN 3 ha hs λa ha=>?_
   rw[show (mid:Int)+(k:Int)-1=((mid+k-1:Nat):Int) from by omega]at ha
   refine RN 2 ha hs λa ha=>?_
   refine wp_loop_ghost (λμ a w=>∃ (s r:Nat),(μ=r-s∧(lo≤s∧mid+k≤s+up)∧s≤r∧r≤mid∧r≤k)∧Fr a 220 [(0,sv bb oo m c),(1,.int .i64 lo),(2,.int .i64 k),(3,.int .i64 up),(4,fv f us),(18,.int .i64 mid),(19,.int .i64 ((mid:Int)+k)),(20,.int .i64 s),(21,.int .i64 r),(22,.int .i64 ((mid+k-1:Nat):Int))]∧St W w (sbS bb oo m c xs::L)) (r0-s0) (⟨s0,r0,⟨rfl,⟨hs1,hs2⟩,hs3,hs4,hs5⟩,ha.keep [0,1,2,3,4,18,19,20,21,22],hs⟩) ?_
   clear ha hs
   rintro μ a w ⟨s,r,⟨rfl,⟨g1,g2⟩,g3,g4,g5⟩,ha,hs⟩
   refine IF 5 ha hs (λhc9 a ha=>?_) λhc9 a ha=>?_
   ·
    have hq1:(s+r)/2<xs.length:=by omega
    have hq2:mid+k-1-(s+r)/2<xs.length:=by omega
    refine RN 4 ha hs λa ha=>?_
    rw[show (s:Int)+(r:Int)=((s+r:Nat):Int) from rfl]at ha
    refine SX 0 ha hs (wu (by omega)) λa ha=>?_
    refine RN 1 ha hs λa ha=>?_
    rw[show (((s+r:Nat):Int).fdiv (2 ^ 1))=(((s+r)/2:Nat):Int) from fdivN (s+r) 2]at ha
    refine SX 0 ha hs (wrap_in (by omega) (by omega)) λa ha=>?_
    refine DWO 2 [10] [0,1,2,3,4,5,7,8,9,3006,1010,1011,12,13] ha hs λa w ha hs hH hC=>?_
    have hr:Rd w bb oo (bc xs):=hs.slRdAt bb oo (by omega)
    refine RH 5 ha hs hH hC λa ha=>?_
    rw[show ((mid+k-1:Nat):Int)-(((s+r)/2:Nat):Int)=((mid+k-1-(s+r)/2:Nat):Int) from by omega]at ha
    refine RH 4 ha hs hH hC λa ha=>?_
    refine QH ha (λw hc=>ld1 ha (hc.cell (hr (mid+k-1-(s+r)/2) _ (bc_at hq2)))) hC λa ha=>?_
    refine RH 0 ha hs hH hC λa ha=>?_
    refine SS ha (ld1 ha (hr ((s+r)/2) _ (bc_at hq1))) λa ha=>?_
    refine RH 0 ha hs hH hC λa ha=>?_
    refine CL1 0 ha hs (hF.h hs λh=>h.tail) (hf:=hF.c) λz a w ha hs=>?_
    refine RN 2 ha hs λa ha=>?_
    refine IF 0 ha hs (λhc10 a ha=>?_) λhc10 a ha=>?_
    ·
     refine RN 3 ha hs λa ha=>?_
     exact⟨r-((s+r)/2+1),by omega,(s+r)/2+1,r,⟨rfl,⟨by omega,by omega⟩,by omega,g4,g5⟩,ha.keep [0,1,2,3,4,18,19,20,21,22],hs⟩
    refine RN 2 ha hs λa ha=>?_
    exact⟨(s+r)/2-s,by omega,s,(s+r)/2,⟨rfl,⟨g1,g2⟩,by omega,by omega,by omega⟩,ha.keep [0,1,2,3,4,18,19,20,21,22],hs⟩
   refine RN 4 ha hs λa ha=>?_
   rw[show (mid:Int)+(k:Int)-(s:Int)=((mid+k-s:Nat):Int) from by omega]at ha
   refine RN 1 ha hs λa ha=>?_
   refine wp_seq_cut (M:=λa w=>∃ zs:List UInt8,zs.length=m∧Fr a 220 [(0,sv bb oo m c),(1,.int .i64 lo),(3,.int .i64 up),(4,fv f us),(18,.int .i64 mid),(20,.int .i64 s),(24,.int .i64 ((mid+k-s:Nat):Int))]∧St W w (sbS bb oo m c zs::L)) ?_ ?_
   ·
    refine BY 5 ha hs (λhg3 a ha=>?_) λhg3 a ha=>?_
    ·
     refine IF 4 ha hs (λhc11 a ha=>?_) λhc11 a ha=>?_
     ·
      refine CL1 5 ha hs (rotate hs hx (by omega) (by omega) (by omega) hm) λys a w ha ⟨hy,hs⟩=>?_
      refine RN 0 ha hs λa ha=>?_
      exact⟨ys,hy,ha.keep [0,1,3,4,18,20,24],hs⟩
     refine RN 0 ha hs λa ha=>?_
     exact⟨xs,hx,ha.keep [0,1,3,4,18,20,24],hs⟩
    refine RN 5 ha hs λa ha=>?_
    exact⟨xs,hx,ha.keep [0,1,3,4,18,20,24],hs⟩
   clear ha;(try clear hs)
   rintro a w ⟨zs,hz,ha,hs⟩
   refine wp_seq_cut (M:=λa w=>∃ zs:List UInt8,zs.length=m∧Fr a 220 [(0,sv bb oo m c),(3,.int .i64 up),(4,fv f us),(18,.int .i64 mid),(24,.int .i64 ((mid+k-s:Nat):Int))]∧St W w (sbS bb oo m c zs::L)) ?_ ?_
   ·
    refine BY 5 ha hs (λhg3 a ha=>?_) λhg3 a ha=>?_
    ·
     refine IF 4 ha hs (λhc12 a ha=>?_) λhc12 a ha=>?_
     ·
      refine CL1 5 ha hs (ih (by omega) hz (by omega) (by omega) (by omega) hs) λys a w ha ⟨hy,hs⟩=>?_
      refine RN 0 ha hs λa ha=>?_
      exact⟨ys,hy,ha.keep [0,3,4,18,24],hs⟩
     refine RN 0 ha hs λa ha=>?_
     exact⟨zs,hz,ha.keep [0,3,4,18,24],hs⟩
    refine RN 5 ha hs λa ha=>?_
    exact⟨zs,hz,ha.keep [0,3,4,18,24],hs⟩
   clear ha;(try clear hs)
   rintro a w ⟨zs,hz,ha,hs⟩
   refine BY 5 ha hs (λhg3 a ha=>?_) λhg3 a ha=>?_
   ·
    refine IF 4 ha hs (λhc13 a ha=>?_) λhc13 a ha=>?_
    ·
     refine CL1 5 ha hs (ih (by omega) hz (by omega) (by omega) (by omega) hs) λys a w ha ⟨hy,hs⟩=>?_
     refine RT 0 ha hs ?_
     exact⟨ys,rfl,hy,hs⟩
    refine RT 0 ha hs ?_
    exact⟨zs,rfl,hz,hs⟩
   refine RT 5 ha hs ?_
   exact⟨zs,rfl,hz,hs⟩
theorem stableS (hs:St W w (sbS bb oo m c xs::L))(hF:CmpS W L f us)(hx:xs.length=m)(hm:m≤1000) :
   Calls Tryz.prog 276 #[sv bb oo m c,.int .i64 m,fv f us] w λe w'=>∃ ys:List UInt8,e=.returned (.tuple #[])∧ys.length=m∧St W w' (sbS bb oo m c ys::L):=by
 refine EN Tryz.func276 Tryz.ntmps276 rfl rfl λa ha=>?_
 refine RN 7 ha hs λa ha=>?_
 refine wp_loop_ghost (λμ a w=>∃ (q:Nat) (ys:List UInt8),(μ=m-q∧q≤m∧ys.length=m)∧Fr a 63 [(0,sv bb oo m c),(1,.int .i64 m),(2,fv f us),(6,.int .i64 20),(7,.int .i64 q),(8,.int .i64 ((q+20:Nat):Int))]∧St W w (sbS bb oo m c ys::L)) (m) (⟨0,xs,⟨rfl,Nat.zero_le _,hx⟩,ha.keep [0,1,2,6,7,8],hs⟩) ?_
 clear ha hs
 rintro μ a w ⟨q,ys,⟨rfl,hq,hy⟩,ha,hs⟩
 refine IF 5 ha hs (λhc0 a ha=>?_) λhc0 a ha=>?_
 ·
  refine CL1 5 ha hs (insertion hs hF hy (by omega) hm hq) λzs a w ha ⟨hz,hs⟩=>?_
  refine RN 7 ha hs λa ha=>?_
  exact⟨m-(q+20),by omega,q+20,zs,⟨rfl,by omega,hz⟩,ha.keep [0,1,2,6,7,8],hs⟩
 refine CL1 5 ha hs (insertion hs hF hy (Nat.le_refl _) hm hq) λzs a w ha ⟨hz,hs⟩=>?_
 refine RN 0 ha hs λa ha=>?_
 refine wp_loop_ghost (λμ a w=>∃ (s:Nat) (ys:List UInt8),(μ=m-s∧(1≤s∧s≤2000)∧ys.length=m)∧Fr a 63 [(0,sv bb oo m c),(1,.int .i64 m),(2,fv f us),(6,.int .i64 s)]∧St W w (sbS bb oo m c ys::L)) (m-20) (⟨20,zs,⟨rfl,⟨by decide,by decide⟩,hz⟩,ha.keep [0,1,2,6],hs⟩) ?_
 clear ha hs
 rintro μ a w ⟨s,ys,⟨rfl,⟨hs1,hs2⟩,hy⟩,ha,hs⟩
 refine IF 5 ha hs (λhc1 a ha=>?_) λhc1 a ha=>?_
 ·
  refine RN 3 ha hs λa ha=>?_
  rw[show (2:Int)*(s:Int)=((2*s:Nat):Int) from by omega]at ha
  refine RN 3 ha hs λa ha=>?_
  refine wp_loop_ghost (λμ a w=>∃ (q:Nat) (ys:List UInt8),(μ=m-q∧q≤m∧ys.length=m)∧Fr a 63 [(0,sv bb oo m c),(1,.int .i64 m),(2,fv f us),(6,.int .i64 s),(7,.int .i64 q),(8,.int .i64 ((q+2*s:Nat):Int))]∧St W w (sbS bb oo m c ys::L)) (m) (⟨0,ys,⟨rfl,Nat.zero_le _,hy⟩,(by rw[Nat.zero_add];exact ha.keep [0,1,2,6,7,8]),hs⟩) ?_
  clear ha hs
  rintro μ a w ⟨q,ys,⟨rfl,hq,hy⟩,ha,hs⟩
  refine IF 5 ha hs (λhc2 a ha=>?_) λhc2 a ha=>?_
  ·
   refine RN 6 ha hs λa ha=>?_
   rw[show (q:Int)+(s:Int)=((q+s:Nat):Int) from rfl]at ha
   refine CL1 2 ha hs (symMerge hF hm _ (Nat.le_refl _) hy (by omega) (by omega) (by omega) hs) λzs a w ha ⟨hz,hs⟩=>?_
   refine RN 7 ha hs λa ha=>?_
   rw[show ((q+2*s:Nat):Int)+2*(s:Int)=((q+2*s+2*s:Nat):Int) from by omega]at ha
   refine RN 1 ha hs λa ha=>?_
   exact⟨m-(q+2*s),by omega,q+2*s,zs,⟨rfl,by omega,hz⟩,ha.keep [0,1,2,6,7,8],hs⟩
  refine RN 5 ha hs λa ha=>?_
  rw[show (q:Int)+(s:Int)=((q+s:Nat):Int) from rfl]at ha
  refine IF 5 ha hs (λhc3 a ha=>?_) λhc3 a ha=>?_
  ·
   refine CL1 5 ha hs (symMerge hF hm _ (Nat.le_refl _) hy (by omega) (by omega) (Nat.le_refl _) hs) λzs a w ha ⟨hz,hs⟩=>?_
   refine RN 2 ha hs λa ha=>?_
   rw[show (s:Int)*2=((s*2:Nat):Int) from by omega]at ha
   refine RN 1 ha hs λa ha=>?_
   exact⟨m-s*2,by omega,s*2,zs,⟨rfl,⟨by omega,by omega⟩,hz⟩,ha.keep [0,1,2,6],hs⟩
  refine RN 2 ha hs λa ha=>?_
  rw[show (s:Int)*2=((s*2:Nat):Int) from by omega]at ha
  refine RN 1 ha hs λa ha=>?_
  exact⟨m-s*2,by omega,s*2,ys,⟨rfl,⟨by omega,by omega⟩,hy⟩,ha.keep [0,1,2,6],hs⟩
 refine RT 0 ha hs ?_
 exact⟨ys,rfl,hy,hs⟩
theorem sortStable (hs:St W w (sbS bb oo m c xs::L))(hF:CmpS W L f us)(hx:xs.length=m)(hm:m≤1000) :
   Calls Tryz.prog 247 #[sv bb oo m c,fv f us] w λe w'=>∃ ys:List UInt8,e=.returned (.tuple #[])∧ys.length=m∧St W w' (sbS bb oo m c ys::L):=by
 refine EN Tryz.func247 Tryz.ntmps247 rfl rfl λa ha=>?_
 refine CL1 4 ha hs (stableS hs hF hx hm) λys a w ha ⟨hy,hs⟩=>?_
 refine RT 0 ha hs ?_
 exact⟨ys,rfl,hy,hs⟩
theorem rankCmp {b:Gs}{adT:Option Addr}{cT b3 b7 b8 b9:Nat}{d u:UInt8}{g:Nat→Int}:CmpS W (blk b8 5 [.int .u8 (d.toNat:Nat)]::blk b9 5 [.int .u8 (u.toNat:Nat)]::blk b3 150 (gsC b adT cT)::blk b7 245 (ints .i64 256 g)::L)
   248 [pt b8,pt b9,pt b3,pt b7]:=by
 refine⟨by kernel_rfl,?_⟩
 intro w M x y hs hM
 have hx:=x.toNat_lt
 have hy:=y.toNat_lt
 refine EN Tryz.func248 Tryz.ntmps248 rfl rfl λa ha=>?_
 refine RN 4 ha hs λa ha=>?_
 refine SS ha (ld1 ha ((hM hs).rd1 (b:=b8) rfl)) λa ha=>?_
 refine RN 0 ha hs λa ha=>?_
 refine SS ha (ld1 ha ((hM hs).rd1 (b:=b9) rfl)) λa ha=>?_
 refine RN 0 ha hs λa ha=>?_
 refine SS ha (ex_buildA ha Tryz.underlying339 Ty.t339 Ty.t5 rfl rfl) λa ha=>?_
 refine RN 1 ha hs λa ha=>?_
 refine wp_loop_ghost (λμ a w=>∃ (i:Nat),(μ=2-i∧i≤2)∧Fr a 47 [(0,.int .u8 (x.toNat:Nat)),(1,.int .u8 (y.toNat:Nat)),(4,pt b3),(5,pt b7),(13,.agg #[.int .u8 (d.toNat:Nat),.int .u8 (u.toNat:Nat)]),(14,.int .i64 i)]∧St W w M) (2) (⟨0,⟨rfl,by decide⟩,ha.keep [0,1,4,5,13,14],hs⟩) ?_
 clear ha hs
 rintro μ a w ⟨i,⟨rfl,hi⟩,ha,hs⟩
 refine IF 3 ha hs (λhc0 a ha=>?_) λhc0 a ha=>?_
 ·
  obtain⟨q,hq⟩:∃ q:UInt8,[Value.int .u8 (d.toNat:Nat),Value.int .u8 (u.toNat:Nat)][i]?=some (.int .u8 (q.toNat:Nat)):=by
    have:i=0∨i=1:=by omega
    rcases this with rfl | rfl
    · exact⟨d,rfl⟩
    · exact⟨u,rfl⟩
  refine RN 2 ha hs λa ha=>?_
  refine SS ha (ex_index1 ha Tryz.underlying339 Tryz.underlying5 rfl Ty.t5 (by omega) hq) λa ha=>?_
  refine DWO 3 [9] [0,1001,2,3,4,5,7,8,3006,1009,10,11] ha hs λa w ha hs hH hC=>?_
  refine RH 1 ha hs hH hC λa ha=>?_
  refine SS ha (ld1 ha ((hM hs).rd1 (b:=b3) rfl)) λa ha=>?_
  refine RH 2 ha hs hH hC λa ha=>?_
  refine ha.by (s:=20) (λhg3 ha=>?_) (λhg3 ha=>?_)
  ·
   refine RH 4 ha hs hH hC λa ha=>?_
   refine QH ha (λw hc=>ld1 ha (hc.cell ((hM hs).rd1 (b:=b7) (ints_get g hx)))) hC λa ha=>?_
   refine RH 0 ha hs hH hC λa ha=>?_
   refine st_set ha (wgT ha rfl (s:=20)) (ld1 ha ((hM hs).rd1 (b:=b7) (ints_get g hy))) rfl λa ha=>?_
   refine RH 2 ha hs hH hC λa ha=>?_
   refine IF 0 ha hs (λhc1 a ha=>?_) λhc1 a ha=>?_
   ·
    refine DWO 1 [5] [0,1,3,4,3002,1005,6,7] ha hs λa w ha hs hH hC=>?_
    refine RH 4 ha hs hH hC λa ha=>?_
    refine QH ha (λw hc=>ld1 ha (hc.cell ((hM hs).rd1 (b:=b7) (ints_get g hy)))) hC λa ha=>?_
    refine RH 0 ha hs hH hC λa ha=>?_
    refine SS ha (ld1 ha ((hM hs).rd1 (b:=b7) (ints_get g hx))) λa ha=>?_
    refine RH 0 ha hs hH hC λa ha=>?_
    refine QP ha (λw=>ex_sub ha) λa ha=>?_
    refine RH 1 ha hs hH hC λa ha=>?_
    refine RT 0 ha hs ?_
    exact⟨_,rfl,hs⟩
   refine IF 8 ha hs (λhc2 a ha=>?_) λhc2 a ha=>?_
   ·
    refine IF 5 ha hs (λhc3 a ha=>?_) λhc3 a ha=>?_
    ·
     refine RT 2 ha hs ?_
     exact⟨_,rfl,hs⟩
    refine RT 2 ha hs ?_
    exact⟨_,rfl,hs⟩
   refine RN 2 ha hs λa ha=>?_
   exact⟨2-(i+1),by omega,i+1,⟨rfl,by omega⟩,ha.keep [0,1,4,5,13,14],hs⟩
  refine RH 8 ha hs hH hC λa ha=>?_
  refine IF 9 ha hs (λhc2 a ha=>?_) λhc2 a ha=>?_
  ·
   refine IF 5 ha hs (λhc3 a ha=>?_) λhc3 a ha=>?_
   ·
    refine RT 2 ha hs ?_
    exact⟨_,rfl,hs⟩
   refine RT 2 ha hs ?_
   exact⟨_,rfl,hs⟩
  refine RN 2 ha hs λa ha=>?_
  exact⟨2-(i+1),by omega,i+1,⟨rfl,by omega⟩,ha.keep [0,1,4,5,13,14],hs⟩
 refine RT 2 ha hs ?_
 exact⟨_,rfl,hs⟩
end
theorem rankS:RankS:=by
 refine⟨?_⟩
 intro W w L c k cT ad adT past b hs hb hk hpl hpc hp ht
 refine EN Tryz.func208 Tryz.ntmps208 rfl rfl λa ha=>?_
 refine BX 1 ha hs λb3 a w ha hs=>?_
 change St W w (blk b3 150 (gsC b adT cT)::_) at hs
 refine CL1 4 ha hs (pred_may hs) λr a w ha ⟨hr,hs⟩=>?_
 obtain rfl:=hr.2 hb
 refine RN 1 ha hs λa ha=>?_
 replace ha:=ha.isF 14
 refine CL 4 ha hs (pred_weights hs hb (by omega) hpc (λw' h=>hp _ h.tail)) λa w ha hs=>?_
 refine AL 0 ha hs λb7 a w ha hs=>?_
 rw[rep_ints]at hs
 refine SA 0 ha hs λa w ha hs=>?_
 refine CL 3 ha hs (pred_first hs hb (by omega) hpc (λw' h=>hp _ h.tail.tail) (λw' h=>ht _ h.tail.tail)) λa w ha hs=>?_
 refine CL 1 ha hs (pred_last hs (by omega) (λw' h=>hp _ h.tail.tail)) λa w ha hs=>?_
 refine AL 0 ha hs λb8 a w ha hs=>?_
 refine AL 0 ha hs λb9 a w ha hs=>?_
 refine ST 0 ha hs (λa w ha hs=>?_)
 refine ST 0 ha hs (λa w ha hs=>?_)
 refine RN 5 ha hs λa ha=>?_
 replace hs:St W w (Sl 5 1 none 0 0 (bc [])::_):=hs.sl0 5 1 none
 refine wp_loop_ghost (λμ a w=>∃ (i:Nat) (adl:Option Addr) (cl:Nat) (ys:List UInt8),(μ=256-i∧i≤256∧ys.length=i)∧Fr a 40 [(2,.int .i64 k),(3,pt b3),(7,pt b7),(8,pt b8),(9,pt b9),(10,.slice adl i cl),(23,.int .i64 i)]∧St W w (Sl 5 1 adl i cl (bc ys)::blk b8 5 [.int .u8 ((firstB b past).toNat:Nat)]::blk b9 5 [.int .u8 ((lastB past).toNat:Nat)]::blk b3 150 (gsC b adT cT)::blk b7 245 (ints .i64 256 (wtL b past))::L)) (256) (⟨0,none,0,[],⟨rfl,by decide,rfl⟩,ha.keep [2,3,7,8,9,10,23],hs.sub⟩) ?_
 clear ha hs
 rintro μ a w ⟨i,adl,cl,ys,⟨rfl,hi,hy⟩,ha,hs⟩
 refine IF 3 ha hs (λhc1 a ha=>?_) λhc1 a ha=>?_
 ·
  refine RN 6 ha hs λa ha=>?_
  refine SS ha (ex_convII ha Tryz.underlying3 Tryz.underlying5) λa ha=>?_
  rw[wrap_u8,show (i:Int)%256=(((UInt8.ofNat i).toNat:Nat):Int) from by rw[UInt8.toNat_ofNat'];omega]at ha
  refine RN 0 ha hs λa ha=>?_
  refine st_buildSlice ha rfl hs Tryz.underlying22 Ty.t5 rfl rfl rfl rfl (by decide) (by decide) λb29 a w ha hs ho=>?_
  clear ho
  refine RN 0 ha hs λa ha=>?_
  refine st_append ha rfl hs Tryz.underlying22 Ty.t5 rfl rfl hs.rdAll rfl (bc_one [UInt8.ofNat i]) (by decide) (by decide) (by omega) λad30 c30 a w ha hs=>?_
  rw[show bc ys++_=bc (ys++[UInt8.ofNat i]) from (bc_app _ [_]).symm]at hs
  refine RN 3 ha hs λa ha=>?_
  exact⟨256-(i+1),by omega,i+1,ad30,c30,ys++[UInt8.ofNat i],⟨rfl,by omega,by simp[hy]⟩,ha.keep [2,3,7,8,9,10,23],hs.sub⟩
 refine RN 1 ha hs λa ha=>?_
 obtain rfl:i=256:=by omega
 have hA:=ha
 have hS:=hs
 obtain⟨bb,oo,rfl,_⟩:=hs.slRd adl (by omega)
 have ha:=hA
 have hs:=hS
 have hcl:=(hs.sl (some ⟨bb,oo,none⟩)).2
 refine CL1 2 ha hs (sortStable hs rankCmp hy (by decide)) λzs a w ha ⟨hz,hs⟩=>?_
 refine RN 5 ha hs λa ha=>?_
 rw[show min (max (k:Int) 0) 256=(k:Int) from by omega]at ha
 refine RT 2 ha hs ?_
 have h1:=hs.cutSl (some ⟨bb,oo,none⟩) 0 k (Nat.zero_le _) (by omega)
 rw[Nat.sub_zero,Nat.sub_zero,Nat.mul_one,Nat.zero_mul,List.drop_zero,show (bc zs).take k=bc (zs.take k) from by rw[bc,bc,List.map_take]]at h1
 have hl:(zs.take k).length=k:=by rw[List.length_take];omega
 exact⟨_,_,zs.take k,by rw[hl,Nat.sub_zero,Nat.sub_zero],hl,by rw[hl];exact h1.sub⟩
end
section
instance Cee.fvB {P l x f ws args vs}[ex:Ev l (.tmp x) (.func (.func f) (List.toArray ws) #[])][ev:EvL l args vs]:Cee P l (.value (.tmp x)) args f (ws++vs):=⟨λhb a n w ha _ _ _ _ _ _=>by
 simp[execOp,resolve,ex.ev a n ha,Deferred.ofValue,invoke,ev.ev a n ha,run_callFunc hb]⟩
structure MuB where
 mb:Nat
 B:PlB
 sq:Nat
 r:Nat
 tq:Nat
 jq:Nat
 adw:Option Addr
 cw:Nat
 adO:Option Addr
 cO:Nat
structure Mu where
 s:Pl
 A:Sn
 T:Tr
 J:Js
 ks:List Kx
 base:Nat
 front:Nat
abbrev muC (p:Pr)(M:MuB)(nk base front:Nat):List Value:=[pt M.B.pb,.string p.title,.slice M.adO p.ops.length M.cO,pt M.sq,pt M.tq,pt M.jq,.slice M.adw nk M.cw,.int .i64 base,.int .i64 front]
abbrev MuL (W:World)(M:MuB)(p:Pr)(m:Mu):List SP:=[blk M.mb 110 (muC p M m.ks.length m.base m.front),PlainS W M.B p m.s,RoP W p M.adO M.cO,Sl 112 1 M.adw m.ks.length M.cw (ptrs m.ks),All (ownK p M.adO M.cO M.tq M.jq M.sq) m.ks,Tree M.tq M.sq m.T,Store M.sq M.r m.A,Jobs M.jq m.J]
def MuS (W:World)(M:MuB)(p:Pr)(m:Mu):SP:=λh=>sepL (MuL W M p m) h
section
variable {W w:World}{L R:List SP}{M:MuB}{B:PlB}{p:Pr}{s:Pl}{m:Mu}
theorem MuS.open (hs:St W w (MuS W M p m::L)):St W w (blk M.mb 110 (muC p M m.ks.length m.base m.front)::PlainS W M.B p m.s::RoP W p M.adO M.cO::Sl 112 1 M.adw m.ks.length M.cw (ptrs m.ks)::All (ownK p M.adO M.cO M.tq M.jq M.sq) m.ks::Tree M.tq M.sq m.T::Store M.sq M.r m.A::Jobs M.jq m.J::L):=hs.open (M:=MuL W M p m) λ_ h=>h
theorem MuS.close (hs:St W w (MuL W M p m++L)):St W w (MuS W M p m::L):=St.shut (M:=MuL W M p m) hs λ_ h=>h
theorem MuS.fold (hs:St W w L)(M:MuB)(p:Pr)(m:Mu)[kk:Arr L (blk M.mb 110 (muC p M m.ks.length m.base m.front)::PlainS W M.B p m.s::RoP W p M.adO M.cO::Sl 112 1 M.adw m.ks.length M.cw (ptrs m.ks)::All (ownK p M.adO M.cO M.tq M.jq M.sq) m.ks::Tree M.tq M.sq m.T::Store M.sq M.r m.A::Jobs M.jq m.J::[]) R]:St W w (MuS W M p m::R):=MuS.close (hs.perm kk.perm)
theorem plain_game (hs:St W w (PlainS W B p s::L)):Calls Tryz.prog 53 #[pt B.pb] w λe w'=>e=.returned (.agg (ints .i32 32 s.g).toArray)∧St W w' (PlainS W B p s::L):=by
 replace hs:=PlainS.open hs
 refine EN Tryz.func53 Tryz.ntmps53 rfl rfl λa ha=>?_
 refine AL 1 ha hs λb2 a w ha hs=>?_
 change St W w (blk b2 116 (ints .i32 32 (λ_=>0))::_) at hs
 refine RN 4 ha hs λa ha=>?_
 refine SS ha (ex_loadN ha Tryz.underlying116 rfl Ty.t116 (plC_st (hs.rdAll (b:=B.pb)))) λa ha=>?_
 refine SA 0 ha hs λa w ha hs=>?_
 refine RT 0 ha hs ?_
 exact⟨rfl,(PlainS.fold hs B p s).sub⟩
theorem plain_by (hs:St W w (PlainS W B p s::L)):Calls Tryz.prog 87 #[pt B.pb] w λe w'=>e=.returned (.agg (gsC B.gs B.adT B.cT).toArray)∧St W w' (PlainS W B p s::L):=by
 replace hs:=PlainS.open hs
 refine EN Tryz.func87 Tryz.ntmps87 rfl rfl λa ha=>?_
 refine AL 1 ha hs λb2 a w ha hs=>?_
 refine RN 4 ha hs λa ha=>?_
 refine SS ha (ex_loadN ha Tryz.underlying150 rfl Ty.t150 (plC_by (hs.rdAll (b:=B.pb)))) λa ha=>?_
 refine SA 0 ha hs λa w ha hs=>?_
 refine RT 0 ha hs ?_
 exact⟨rfl,(PlainS.fold hs B p s).sub⟩
theorem mu_plain (hs:St W w (MuS W M p m::L)):Calls Tryz.prog 54 #[pt M.mb] w λe w'=>e=.returned (pt M.B.pb)∧St W w' (MuS W M p m::L):=by
 replace hs:=MuS.open hs
 refine EN Tryz.func54 Tryz.ntmps54 rfl rfl λa ha=>?_
 refine RN 6 ha hs λa ha=>?_
 replace ha:=ha.isF 4
 refine RT 7 ha hs ?_
 exact⟨rfl,MuS.fold hs M p m⟩
theorem mu_core (hs:St W w (MuS W M p m::L)):Calls Tryz.prog 40 #[pt M.mb] w λe w'=>e=.returned (pt M.B.core.cb)∧St W w' (MuS W M p m::L):=by
 refine EN Tryz.func40 Tryz.ntmps40 rfl rfl λa ha=>?_
 refine CL 4 ha hs (mu_plain hs) λa w ha hs=>?_
 replace hs:=MuS.open hs
 refine CL 0 ha hs (plain_core (hs.pick (PlainS W M.B p m.s))) λa w ha hs=>?_
 refine RT 1 ha hs ?_
 exact⟨rfl,MuS.fold hs M p m⟩
theorem mu_closed (hs:St W w (MuS W M p m::L)):Calls Tryz.prog 31 #[pt M.mb] w λe w'=>e=.returned (.bool m.s.k.cl)∧St W w' (MuS W M p m::L):=by
 refine EN Tryz.func31 Tryz.ntmps31 rfl rfl λa ha=>?_
 refine CL 4 ha hs (mu_plain hs) λa w ha hs=>?_
 replace hs:=MuS.open hs
 refine CL 0 ha hs (plain_closed (hs.pick (PlainS W M.B p m.s))) λa w ha hs=>?_
 refine RT 1 ha hs ?_
 exact⟨rfl,MuS.fold hs M p m⟩
theorem mu_store (hs:St W w (MuS W M p m::L)):Calls Tryz.prog 41 #[pt M.mb] w λe w'=>e=.returned (pt M.sq)∧St W w' (MuS W M p m::L):=by
 replace hs:=MuS.open hs
 refine EN Tryz.func41 Tryz.ntmps41 rfl rfl λa ha=>?_
 refine RN 6 ha hs λa ha=>?_
 replace ha:=ha.isF 4
 refine RT 7 ha hs ?_
 exact⟨rfl,MuS.fold hs M p m⟩
theorem mu_tree (hs:St W w (MuS W M p m::L)):Calls Tryz.prog 18 #[pt M.mb] w λe w'=>e=.returned (pt M.tq)∧St W w' (MuS W M p m::L):=by
 replace hs:=MuS.open hs
 refine EN Tryz.func18 Tryz.ntmps18 rfl rfl λa ha=>?_
 refine RN 6 ha hs λa ha=>?_
 replace ha:=ha.isF 4
 refine RT 7 ha hs ?_
 exact⟨rfl,MuS.fold hs M p m⟩
theorem mu_workers (hs:St W w (MuS W M p m::L)):Calls Tryz.prog 42 #[pt M.mb] w λe w'=>e=.returned (.int .i64 m.ks.length)∧St W w' (MuS W M p m::L):=by
 replace hs:=MuS.open hs
 refine EN Tryz.func42 Tryz.ntmps42 rfl rfl λa ha=>?_
 refine RN 6 ha hs λa ha=>?_
 replace ha:=ha.isF 4
 refine RT 8 ha hs ?_
 exact⟨rfl,MuS.fold hs M p m⟩
end
end
section
section
variable {p:Pr}{F F':Int}{g g0:Nat→Int}{t t':Nat→Nat}{base i:Nat}{A:Sn}{T:Tr}{ws:List Wk}{k:Wk}{P:List (List UInt8)}
theorem Inv.moved (h:Inv p F g0 t base A T ws)(hA:WF A)(hn:A.n+1<1099511627776)(hT:T.l=[])(hg:gOk g) :
   Inv p F' g t' (A.last+1) ((A.add g t').dropId base) T ws:=by
 have hA2:WF (A.add g t'):=hA.add hn g t'
 have hr:∀ x∈(A.add g t').pics,x.refs=1:=by
   intro x hx
   rcases List.mem_append.1 hx with hx | hx
   · exact (h.pics x hx).1
   · rw[List.mem_singleton.1 hx]
 have hnew:∀ z∈A.pics,z.id≠A.last+1:=λz hz e=>by have:=(hA.pic z hz).2.1;omega
 rw[dropId_pics hA2 hr]
 refine⟨?_,λx hx=>?_,λx hx he=>?_,λy hy=>?_,λk hk=>⟨(h.wks k hk).1,λ_ y hy=>?_⟩⟩
 · simp only
   rw[map_filter_id]
   have h1:((A.add g t').pics.map (·.id)).Perm (base::(A.last+1)::(T.l.map (·.snap)++heldW ws)):=by
     simp only[Sn.add,List.map_append,List.map_cons,List.map_nil]
     exact ((List.perm_append_singleton _ _).trans (h.perm.cons _)).trans (List.Perm.swap _ _ _)
   exact perm_drop (List.Perm.refl _) h1 hA2.nd
 · have hx:=memF hx
   rcases List.mem_append.1 hx with hx | hx
   · exact h.pics x hx
   · rw[List.mem_singleton.1 hx];exact⟨rfl,hg⟩
 · have hx:=memF hx
   rcases List.mem_append.1 hx with hx | hx
   · exact absurd he (hnew x hx)
   · rw[List.mem_singleton.1 hx];exact⟨rfl,rfl⟩
 · rw[hT]at hy;cases hy
 · rw[hT]at hy;cases hy
theorem heldW_none (h:∀ k∈ws,k.busy=false):heldW ws=[]:=by
 rw[heldW,List.filter_eq_nil_iff.2 (λk hk=>by rw[h k hk];decide)];rfl
theorem dropAll_room:∀ (l:List Br) (A:Sn),(A.dropAll l).room=A.room∧(A.dropAll l).n=A.n∧(A.dropAll l).last=A.last
 | [],_=>⟨rfl,rfl,rfl⟩
 | y::l,A=>by
   have h1:=dropAll_room l (A.dropId y.snap)
   have h2:=dropId_same A y.snap
   show ((A.dropId y.snap).dropAll l).room=_∧((A.dropId y.snap).dropAll l).n=_∧((A.dropId y.snap).dropAll l).last=_
   exact⟨h1.1.trans h2.1,h1.2.1.trans h2.2.1,h1.2.2.trans h2.2.2⟩
def knB (ls:List (List UInt8))(f:Nat)(j:List UInt8):Bool:=(List.range j.length).all λq=>!(decide (f<(ls.getD q []).length)&&(ls.getD q []).getD f 0 != j.getD q 0)
def knP (ls:List (List UInt8))(f:Nat)(P:List (List UInt8)):Bool:=(List.range P.length).all λi=>knB ls (f+i) (P.getD i [])
theorem knB_no {ls:List (List UInt8)}{f q:Nat}{j:List UInt8}(hq:q<j.length)(h1:f<(ls.getD q []).length)(h2:(ls.getD q []).getD f 0≠j.getD q 0):knB ls f j=false:=by
 rw[knB,List.all_eq_false]
 exact⟨q,List.mem_range.2 hq,by rw[decide_eq_true h1,Bool.true_and,bne_iff_ne.2 h2];decide⟩
theorem knB_yes {ls:List (List UInt8)}{f:Nat}{j:List UInt8}(h:∀ q,q<j.length→f<(ls.getD q []).length→(ls.getD q []).getD f 0=j.getD q 0):knB ls f j=true:=by
 rw[knB,List.all_eq_true]
 intro q hq
 have:=h q (List.mem_range.1 hq)
 by_cases h1:f<(ls.getD q []).length
 · rw[decide_eq_true h1,Bool.true_and,this h1,bne_self_eq_false];rfl
 · rw[decide_eq_false h1,Bool.false_and];rfl
theorem knP_no {ls:List (List UInt8)}{f i:Nat}{P:List (List UInt8)}(hi:i<P.length)(h:knB ls (f+i) (P.getD i [])=false):knP ls f P=false:=by
 rw[knP,List.all_eq_false]
 exact⟨i,List.mem_range.2 hi,by rw[h];decide⟩
theorem knP_yes {ls:List (List UInt8)}{f:Nat}{P:List (List UInt8)}(h:∀ i,i<P.length→knB ls (f+i) (P.getD i [])=true):knP ls f P=true:=by
 rw[knP,List.all_eq_true]
 intro i hi
 exact h i (List.mem_range.1 hi)
end
end
section
section
variable {W w:World}{L:List SP}{q r:Nat}{A:Sn}
theorem distinct_le (l:List Nat):distinct l≤l.length:=by
 induction l with
 | nil=>exact Nat.le_refl _
 | cons x l ih=>rw[distinct,List.length_cons];split <;> omega
theorem pages_len (l:List Pic):(pagesOf l).length=4*l.length:=by
 induction l with
 | nil=>rfl
 | cons x l ih=>show (_++pagesOf l).length=_;rw[List.length_append,ih,List.length_cons];simp;omega
theorem Store.used_le (hs:St W w (Store q r A::L)):A.used≤4*A.pics.length:=by
 rw[Store.used hs];have:=distinct_le (pagesOf A.pics);rw[pages_len]at this;exact this
end
end
section
theorem Tl.rest {N L:List SP}{A:SP}(t:Tl N (A::L)):Tl N L:=⟨let ⟨K,h⟩:=t.h;⟨K++[A],by simpa using h⟩⟩
section
variable {W w:World}{L:List SP}{n i tq sq r:Nat}{M:MuB}{B:PlB}{x:UInt8}{p:Pr}{s:Pl}{m:Mu}{A:Sn}{T:Tr}{F:Int}{g0:Nat→Int}{t:Nat→Nat}{px:Pic}
theorem tree_keep {kp:Br→Bool}{g:Nat}{ws:List Value}(hs:St W w (Tree tq sq T::Store sq r A::L))(he:T.epoch+1<1099511627776)(hcl:callable Tryz.prog g=true)
   (hg:∀ (N:List SP) (w':World) (x:Br) (ad':Option Addr) (c':Nat),x∈T.l→St W w' N→Tl N L→RdZ W N ad' x.press→x.press.length≤c'→OkP x.press →
     Calls Tryz.prog g (ws++[Value.agg (brC x ad' c').toArray]).toArray w' λe w''=>e=.returned (.bool (kp x))∧St W w'' N) :
   Calls Tryz.prog 122 #[pt tq,.func (.func g) ws.toArray #[]] w λe w'=>(∃ v:Int,e=.returned (.int .i64 v)) ∧
     St W w' (Tree tq sq (T.cut λx=>!kp x)::Store sq r (A.dropAll (T.l.filter λx=>!kp x))::L):=by
 have hF : ∀ (b3 : Nat) (N : List SP) (w' : World) (x : Br) (ad' : Option Addr) (c' : Nat), x ∈ T.l → St W w' N → Tl N (blk b3 199 [.func (.func g) ws.toArray #[]] :: L) → RdZ W N ad' x.press → x.press.length ≤ c' → OkP x.press →
     Calls Tryz.prog 182 (List.toArray [.agg (brC x ad' c').toArray,pt b3]) w' λe w''=>e=.returned (.bool (!kp x))∧St W w'' N:=by
   intro b3 N w x ad' c' hxt hs hM hx hxc hox
   refine EN Tryz.func182 Tryz.ntmps182 rfl rfl λa ha=>?_
   refine BX 1 ha hs λb2 a w ha hs=>?_
   refine RN 2 ha hs λa ha=>?_
   have hs5:=hs.tail.tl hM
   refine SS ha (ld1 ha (hs5.rd1 rfl)) λa ha=>?_
   refine CL 1 ha hs (hg (blk b2 45 (brC x ad' c')::N) _ x ad' c' hxt hs (@Tl.cons _ _ _ hM.rest) (hx.imp λzs h=>⟨h.1,λw'' h2=>h.2 _ h2.tail⟩) hxc hox) (hf:=hcl) λa w ha hs=>?_
   refine RT 2 ha hs ?_
   exact⟨rfl,hs.tail⟩
 refine EN Tryz.func122 Tryz.ntmps122 rfl rfl λa ha=>?_
 refine BX 1 ha hs λb3 a w ha hs=>?_
 refine CL 4 ha hs (tree_drop (tq:=tq) (sq:=sq) (r:=r) (A:=A) (T:=T) (wh:=λx=>!kp x) (us:=[pt b3]) (L:=blk b3 199 [.func (.func g) ws.toArray #[]]::L) hs.sub he (by kernel_rfl) (hF b3)) λa w ha hs=>?_
 refine RT 1 ha hs ?_
 exact⟨⟨_,rfl⟩,hs.sub⟩
theorem mu_rest (hs:St W w (MuS W M p m::L))(hI:Inv p F g0 t m.base m.A m.T (m.ks.map (·.1)))(he:m.T.epoch+1<1099511627776)(h4:m.ks.length≤4) :
   Calls Tryz.prog 179 #[pt M.mb] w λe w'=>∃ (A':Sn) (ks':List Kx),e=.returned (.tuple #[]) ∧
     (Inv p F g0 t m.base A' (m.T.cut λ_=>true) (ks'.map (·.1))∧ks'.length=m.ks.length∧(∀ k∈ks',k.1.busy=false)∧A'.room=m.A.room∧A'.n=m.A.n) ∧
     St W w' (MuS W M p { m with A:=A',ks:=ks',T:=m.T.cut λ_=>true }::L):=by
 obtain⟨mb,B,sq,r,tq,jq,adw,cw,adO,cO⟩:=M
 obtain⟨s,A,T,J,ks,base,front⟩:=m
 replace hs:=MuS.open hs
 simp only at hI he h4
 refine EN Tryz.func179 Tryz.ntmps179 rfl rfl λa ha=>?_
 refine RN 8 ha hs λa ha=>?_
 refine wp_loop_ghost (λμ a w=>∃ (i:Nat) (A1:Sn) (ks1:List Kx),(μ=ks.length-i∧i≤ks.length∧ks1.length=ks.length∧(∀ (j:Nat) (k:Kx),j<i→ks1[j]?=some k→k.1.busy=false)∧Inv p F g0 t base A1 T (ks1.map (·.1))∧A1.room=A.room∧A1.n=A.n)∧Fr a 21 [(0,pt mb),(7,.slice adw ks.length cw),(8,.int .i64 ks.length),(9,.int .i64 i)]∧St W w (blk mb 110 (muC p ⟨mb,B,sq,r,tq,jq,adw,cw,adO,cO⟩ ks.length base front)::PlainS W B p s::RoP W p adO cO::Sl 112 1 adw ks.length cw (ptrs ks1)::All (ownK p adO cO tq jq sq) ks1::Tree tq sq T::Store sq r A1::Jobs jq J::L)) (ks.length) (⟨0,A,ks,⟨rfl,by omega,rfl,λj k h=>absurd h (by omega),hI,rfl,rfl⟩,ha.keep [0,7,8,9],hs.sub⟩) ?_
 clear ha hs
 rintro μ a w ⟨i,A1,ks1,⟨rfl,hi,hkl,hidle,hI1,hrm,hnn⟩,ha,hs⟩
 refine IF 3 ha hs (λhc0 a ha=>?_) λhc0 a ha=>?_
 ·
  have hik:i<ks1.length:=by omega
  obtain⟨⟨k,wb⟩,hk⟩:∃ y,ks1[i]?=some y:=⟨_,List.getElem?_eq_getElem hik⟩
  obtain⟨b',off',rfl,hrd⟩:=hs.slRd adw (by omega)
  refine RN 3 ha hs λa ha=>?_
  refine SS ha (ld1 ha (hrd i _ (ptrs_at hk))) λa ha=>?_
  refine CL2 2 ha hs (shop_rest ((hs.store sq).pick (All (ownK p adO cO tq jq sq) ks1)) hk hI1) λA2 k2 a w ha ⟨⟨hk2,hI2,hr2,hn2⟩,hs⟩=>?_
  rw[← ptrs_set (k':=k2) hk]at hs
  refine RN 2 ha hs λa ha=>?_
  refine⟨ks.length-(i+1),by omega,i+1,A2,ks1.set i (k2,wb),⟨rfl,by omega,by rw[List.length_set];exact hkl,λj z hj hz=>?_,hI2,hr2.trans hrm,hn2.trans hnn⟩,ha.keep [0,7,8,9],hs.sub⟩
  rw[List.getElem?_set]at hz
  split at hz
  · cases hz;exact hk2
  · exact hidle j z (by omega) hz
 refine RN 0 ha hs λa ha=>?_
 have hs0:=hs
 refine CL 4 ha hs (tree_clear ((hs.store sq).tree tq) he) λa w ha hs=>?_
 refine RT 0 ha hs ?_
 obtain rfl:i=ks.length:=by omega
 have hA1:=hI1.cut (Store.facts (hs0.store sq)).1 (λ_=>true)
 rw[show T.l.filter (λ_=>true)=T.l from by simp]at hA1
 have hd:=dropAll_room T.l A1
 refine⟨A1.dropAll T.l,ks1,rfl,⟨hA1,hkl,λk hk=>?_,hd.1.trans hrm,hd.2.1.trans hnn⟩,?_⟩
 · obtain⟨j,hj⟩:=List.mem_iff_getElem?.1 hk
   exact hidle j k (by have:=(List.getElem?_eq_some_iff.1 hj).1;omega) hj
 · rw[← hkl]at hs
   exact MuS.fold hs ⟨mb,B,sq,r,tq,jq,adw,cw,adO,cO⟩ p ⟨s,A1.dropAll T.l,T.cut λ_=>true,J,ks1,base,front⟩
theorem mu_picture {id:Nat}(hs:St W w (MuS W M p m::L))(hx:m.A.pics[i]?=some px)(hid:px.id=id) :
   Calls Tryz.prog 88 #[pt M.mb,.int .i64 id] w λe w'=>e=.returned (.agg (ints .i32 32 px.g).toArray)∧St W w' (MuS W M p m::L):=by
 replace hs:=MuS.open hs
 refine EN Tryz.func88 Tryz.ntmps88 rfl rfl λa ha=>?_
 refine AL 1 ha hs λb4 a w ha hs=>?_
 change St W w (blk b4 116 (ints .i32 32 (λ_=>0))::_) at hs
 refine CL 6 ha hs (snap_state_id (hs.store M.sq) hx hid) λa w ha hs=>?_
 refine AL 3 ha hs λb5 a w ha hs=>?_
 change St W w (blk b5 116 (ints .i32 32 (λ_=>0))::_) at hs
 refine SA 0 ha hs λa w ha hs=>?_
 refine SA 3 ha hs λa w ha hs=>?_
 refine RT 0 ha hs ?_
 exact⟨rfl,(MuS.fold hs M p m).sub⟩
structure Moved (p:Pr)(M:MuB)(m m':Mu)(t':Nat→Nat):Prop where
 inv:Inv p (frontK m.s.k:Int) m.s.g t' m'.base m'.A m'.T (m'.ks.map (·.1))
 s:m'.s=m.s
 J:m'.J=m.J
 front:m'.front=frontK m.s.k
 room:m'.A.room=m.A.room
 n:m'.A.n≤m.A.n+1
 last:m'.T.last=m.T.last
 most:m'.T.most=m.T.most
 ep:m'.T.epoch≤m.T.epoch+2
 ks:m'.ks.length=m.ks.length
 tr:(m'.T=m.T∧m'.A=m.A∧m'.ks=m.ks)∨m'.T.l=[]
 same:m.front=frontK m.s.k→m'.T=m.T∧m'.A=m.A∧m'.ks=m.ks
theorem mu_move (hs:St W w (MuS W M p m::L))(hw:WF' p m.s)(hg:gOk m.s.g)(hI:Inv p (m.front:Int) g0 t m.base m.A m.T (m.ks.map (·.1)))(hfr:m.front=frontK m.s.k→g0=m.s.g)
   (he:m.T.epoch+2<1099511627776) (hn:m.A.n+1<1099511627776) (h4:m.ks.length≤4) (hR:12≤m.A.room) :
   Calls Tryz.prog 121 #[pt M.mb] w λe w'=>∃ (m':Mu) (t':Nat→Nat),e=.returned (.tuple #[])∧Moved p M m m' t'∧St W w' (MuS W M p m'::L):=by
 have hne:=hw.wc.lne
 have hl8:m.s.k.ls.length≤8:=by rw[hw.wc.ls];exact hw.wc.n.2
 obtain⟨mb,B,sq,r,tq,jq,adw,cw,adO,cO⟩:=M
 obtain⟨s,A,T,J,ks,base,front⟩:=m
 obtain⟨i,px,hpx,hpid⟩:=hI.pic (List.mem_cons_self ..)
 have hF : ∀ (N : List SP) (w' : World) (x : Br) (ad' : Option Addr) (c' : Nat), St W w' N →
     Calls Tryz.prog 178 ([]++[Value.agg (brC x ad' c').toArray]).toArray w' λe w''=>e=.returned (.bool false)∧St W w'' N:=by
   intro N w x ad' c' hs
   refine EN Tryz.func178 Tryz.ntmps178 rfl rfl λa ha=>?_
   refine BX 1 ha hs λb1 a w ha hs=>?_
   refine RT 3 ha hs ?_
   exact⟨rfl,hs.tail⟩
 simp only at hw hg hI hfr he hn h4 hR hne hl8 hpx hpid
 subst hpid
 replace hs:=MuS.open hs
 dsimp only at hs
 refine EN Tryz.func121 Tryz.ntmps121 rfl rfl λa ha=>?_
 refine CL 5 ha hs (plain_core (hs.pick (PlainS W B p s))) λa w ha hs=>?_
 replace hs:=PlainS.open hs
 refine CL 0 ha hs (core_queue (hs.pick (CoreS B.core s.k))) λa w ha hs=>?_
 obtain⟨D,hs,hD⟩:=CoreS.qu hs
 refine CL 0 ha hs (queue_front hs hne hl8) λa w ha hs=>?_
 refine RN 1 ha hs λa ha=>?_
 replace hs:=(PlainS.fold (hD _ _ hs) B p s)
 refine IF 8 ha hs (λhc0 a ha=>?_) λhc0 a ha=>?_
 ·
  have hff:front=frontK s.k:=by rw[frontK];omega
  refine RT 0 ha hs ?_
  exact⟨⟨s,A,T,J,ks,px.id,front⟩,t,rfl,⟨by rw[← hff,← hfr hff];exact hI,rfl,rfl,hff,rfl,by simp only;omega,rfl,rfl,by simp only;omega,rfl,.inl ⟨rfl,rfl,rfl⟩,λ_=>⟨rfl,rfl,rfl⟩⟩,MuS.fold hs ⟨mb,B,sq,r,tq,jq,adw,cw,adO,cO⟩ p ⟨s,A,T,J,ks,px.id,front⟩⟩
 refine RN 5 ha hs λa ha=>?_
 have hIc:=hI.cut (Store.facts (hs.store sq)).1 (λ_=>true)
 have hdr:=dropAll_room (T.l.filter λ_=>true) A
 have hTl:(T.cut λ_=>true).l=[]:=by simp[Tr.cut]
 have hTe:(T.cut λ_=>true).epoch≤T.epoch+1:=by simp only[Tr.cut];split <;> omega
 refine CLX 0 ha hs (tree_keep (kp:=λ_=>false) (ws:=[]) ((hs.store sq).tree tq) (by omega) (by kernel_rfl) (λN w' x ad' c' _ h1 _ _ _ _=>hF N w' x ad' c' h1)) ?_
 clear ha hs
 rintro e w ⟨⟨_,rfl⟩,hs⟩
 refine⟨_,rfl,λa ha=>?_⟩
 replace hs:St W w (Tree tq sq (T.cut λ_=>true)::Store sq r (A.dropAll (T.l.filter λ_=>true))::_):=hs
 generalize A.dropAll (T.l.filter λ_=>true)=A1 at hs hIc hdr
 have hT1:(T.cut λ_=>true).last=T.last∧(T.cut λ_=>true).most=T.most:=⟨rfl,rfl⟩
 generalize (T.cut λ_=>true)=T1 at hs hIc hTl hTe hT1
 obtain⟨i1,px1,hpx1,hpid1⟩:=hIc.pic (List.mem_cons_self ..)
 rw[← hpid1]at hs hIc
 refine RN 0 ha hs λa ha=>?_
 refine wp_seq_cut (M:=λa w=>∃ (A2:Sn) (T2:Tr) (ks2:List Kx),(A2.used+4≤A2.room∧Inv p (front:Int) g0 t px1.id A2 T2 (ks2.map (·.1))∧T2.l=[]∧T2.epoch≤T.epoch+2∧T2.last=T.last∧T2.most=T.most∧ks2.length=ks.length∧A2.room=A.room∧A2.n=A.n)∧Fr a 73 [(0,pt mb),(2,.int .i64 (frontL s.k.ls))]∧St W w (MuS W ⟨mb,B,sq,r,tq,jq,adw,cw,adO,cO⟩ p ⟨s,A2,T2,J,ks2,px1.id,front⟩::L)) ?_ ?_
 ·
  refine DWC 1 (λw0 w'=>Rd w' mb 0 (muC p ⟨mb,B,sq,r,tq,jq,adw,cw,adO,cO⟩ ks.length px1.id front)) [7,11,12,13] [0,1,2,4,5,6,8,9,10,3003,3007,1011,1012,1013,1014,15] ha hs λa w ha hs hH=>?_
  have hC:=hH.at w (hs.rdAll (b:=mb))
  refine RH 9 ha hs hH hC λa ha=>?_
  refine QH ha (λw hc=>ld1 ha (hc 3 _ rfl)) hC λa ha=>?_
  refine QH ha (λw hc=>ld1 ha (hc 3 _ rfl)) hC λa ha=>?_
  refine RH 0 ha hs hH hC λa ha=>?_
  refine SS ha (ld1 ha (hC 7 _ rfl)) λa ha=>?_
  refine RH 0 ha hs hH hC λa ha=>?_
  refine CL2 0 ha hs (snap_pages (hs.store sq) hpx1) λadp cp a w ha hs=>?_
  replace hC:=hH.at w (hs.rdAll (b:=mb))
  refine RH 1 ha hs hH hC λa ha=>?_
  refine CL 0 ha hs (snap_has (hs.store sq)) λa w ha hs=>?_
  refine RN 1 ha hs λa ha=>?_
  refine IF 0 ha hs (λhc1 a ha=>?_) λhc1 a ha=>?_
  ·
   replace hs:=MuS.fold hs ⟨mb,B,sq,r,tq,jq,adw,cw,adO,cO⟩ p ⟨s,A1,T1,J,ks,px1.id,front⟩
   refine CL2 1 ha hs (mu_rest hs hIc (by dsimp only;omega) h4) λA2 ks2 a w ha ⟨⟨hI2,hk2,hid2,hr2,hn2⟩,hs⟩=>?_
   refine RN 0 ha hs λa ha=>?_
   have hcl:(T1.cut λ_=>true).l=[]:=by simp[Tr.cut]
   have hce:(T1.cut λ_=>true).epoch≤T1.epoch+1:=by simp only[Tr.cut];split <;> omega
   have hu:=Store.used_le ((MuS.open hs).store sq)
   have hln:=hI2.len
   rw[heldW_none (λk hk=>by obtain⟨y,hy,rfl⟩:=List.mem_map.1 hk;exact hid2 y hy)]at hln
   simp only[hcl,List.length_nil]at hln hr2 hn2 hk2 hu
   exact⟨A2,T1.cut λ_=>true,ks2,⟨by rw[hr2,hdr.1];omega,hI2,hcl,by omega,hT1.1,hT1.2,hk2,by rw[hr2,hdr.1],by rw[hn2,hdr.2.1]⟩,ha.keep [0,2],hs.sub⟩
  refine RN 0 ha hs λa ha=>?_
  exact⟨A1,T1,ks,⟨by omega,hIc,hTl,by omega,hT1.1,hT1.2,rfl,hdr.1,hdr.2.1⟩,ha.keep [0,2],(MuS.fold hs ⟨mb,B,sq,r,tq,jq,adw,cw,adO,cO⟩ p ⟨s,A1,T1,J,ks,px1.id,front⟩).sub⟩
 clear ha;(try clear hs)
 rintro a w ⟨A2,T2,ks2,⟨hus,hI2,hT2,hE2,hL2,hM2,hk2,hr2,hn2⟩,ha,hs⟩
 refine RN 1 ha hs λa ha=>?_
 replace hs:=MuS.open hs
 dsimp only at hs
 refine DWC 0 (λw0 w'=>Rd w' mb 0 (muC p ⟨mb,B,sq,r,tq,jq,adw,cw,adO,cO⟩ ks2.length px1.id front)) [7,8] [0,1,2,4,5,6,3003,1007,1008,1009,10,11,12,13,14] ha hs λa w ha hs hH=>?_
 have hC:=hH.at w (hs.rdAll (b:=mb))
 refine RH 6 ha hs hH hC λa ha=>?_
 refine QH ha (λw hc=>ld1 ha (hc 3 _ rfl)) hC λa ha=>?_
 refine RH 0 ha hs hH hC λa ha=>?_
 refine SS ha (ld1 ha (hC 0 _ rfl)) λa ha=>?_
 refine RH 0 ha hs hH hC λa ha=>?_
 refine CL 0 ha hs (plain_game (hs.pick (PlainS W B p s))) λa w ha hs=>?_
 replace hC:=hH.at w (hs.rdAll (b:=mb))
 have hA2:=(Store.facts (hs.store sq)).1
 refine RH 0 ha hs hH hC λa ha=>?_
 refine CL1 0 ha hs (snap_make (g:=s.g) (hs.store sq) hus (by omega)) λt' a w ha ⟨⟨ht1,ht2⟩,hs⟩=>?_
 refine RN 5 ha hs λa ha=>?_
 refine RN 4 ha hs λa ha=>?_
 replace ha:=ha.isF 55
 refine DWC 2 (λw0 w'=>Rd w' mb 0 (muC p ⟨mb,B,sq,r,tq,jq,adw,cw,adO,cO⟩ ks2.length px1.id front)) [7] [0,1,2,4,5,6,3003,1007,1008] ha hs λa w ha hs hH=>?_
 have hC:=hH.at w (hs.rdAll (b:=mb))
 refine RH 6 ha hs hH hC λa ha=>?_
 refine QH ha (λw hc=>ld1 ha (hc 3 _ rfl)) hC λa ha=>?_
 refine RH 0 ha hs hH hC λa ha=>?_
 refine SS ha (ld1 ha (hC 7 _ rfl)) λa ha=>?_
 refine RH 0 ha hs hH hC λa ha=>?_
 refine CL1 0 ha hs (snap_dropId (hs.store sq)) λ_ a w ha hs=>?_
 refine ST 6 ha hs (λa w ha hs=>?_)
 refine ST 2 ha hs (λa w ha hs=>?_)
 refine RT 0 ha hs ?_
 have hm:=hI2.moved (F':=(frontK s.k:Int)) (g:=s.g) (t':=t') hA2 (by omega) hT2 hg
 have hd:=dropId_same (A2.add s.g t') px1.id
 exact⟨⟨s,(A2.add s.g t').dropId px1.id,T2,J,ks2,A2.last+1,frontL s.k.ls⟩,t',rfl,⟨hm,rfl,rfl,rfl,hd.1.trans hr2,by rw[hd.2.1];show A2.n+1≤A.n+1;omega,hL2,hM2,hE2,hk2,.inr hT2,λe=>(by have e2:front=frontL s.k.ls:=e;exfalso;omega)⟩,MuS.fold hs ⟨mb,B,sq,r,tq,jq,adw,cw,adO,cO⟩ p ⟨s,(A2.add s.g t').dropId px1.id,T2,J,ks2,A2.last+1,frontL s.k.ls⟩⟩
end
end
section
abbrev prx (xs:List BBx):List (List UInt8):=xs.map (·.2.2)
theorem prx_get {xs:List BBx}{i:Nat}{x:BBx}(h:xs[i]?=some x):(prx xs).getD i []=x.2.2:=by
 rw[List.getD_eq_getElem?_getD,List.getElem?_map,h];rfl
theorem prx_len (xs:List BBx):(prx xs).length=xs.length:=List.length_map _
theorem RdX.at {w:World}{ad:Option Addr}{xs:List BBx}(h:RdX w ad xs){i:Nat}(hi:i<xs.length):∃ b off x,ad=some ⟨b,off,none⟩∧xs[i]?=some x∧w.cell? ⟨b,off+i,none⟩=some (bbv x)∧RdB w x.1 x.2.2.length x.2.2:=by
 obtain⟨b,off,hb,hr⟩:=h.1 (by omega)
 have hx:xs[i]?=some xs[i]:=List.getElem?_eq_getElem hi
 exact⟨b,off,xs[i],hb,hx,hr i _ (by rw[List.getElem?_map,hx];rfl),h.2 _ (List.mem_of_getElem? hx)⟩
section
variable {W w:World}{L:List SP}{m cT to r f cl:Nat}{adT adl:Option Addr}{past:List UInt8}{b:Gs}{xs:List BBx}
theorem ref_front (hs:St W w L)(h0:0<xs.length)(h8:xs.length≤8)(hp:∀ w',St W w' L→RdX w' adl xs) :
   Calls Tryz.prog 94 #[.slice adl xs.length cl] w λe w'=>e=.returned (.int .i64 (frontL (prx xs)))∧St W w' L:=by
 refine EN Tryz.func94 Tryz.ntmps94 rfl rfl λa ha=>?_
 refine RN 3 ha hs λa ha=>?_
 obtain⟨bl,ol,x0,rfl,hx0,hcx,hrx⟩:=(hp _ hs).at h0
 refine RN 3 ha hs λa ha=>?_
 refine SS ha (ld1 ha (hcx)) λa ha=>?_
 rw[bbv]at ha
 refine RN 5 ha hs λa ha=>?_
 rw[show ((x0.2.2.length:Nat):Int)=(frontN (prx xs) 1:Nat) from by rw[frontN_one,frontN,List.headD_eq_getD,prx_get hx0]]at ha
 refine wp_loop_ghost (λμ a w=>∃ (i:Nat),(μ=xs.length-i∧i≤xs.length∧1≤i)∧Fr a 25 [(0,.slice (some ⟨bl,ol,none⟩) xs.length cl),(3,.int .i64 (frontN (prx xs) i:Nat)),(4,.int .i64 i)]∧St W w L) (xs.length-1) (⟨1,⟨rfl,by omega,by omega⟩,ha.keep [0,3,4],hs⟩) ?_
 clear ha hs
 rintro μ a w ⟨i,⟨rfl,hi,hi1⟩,ha,hs⟩
 refine IF 6 ha hs (λhc0 a ha=>?_) λhc0 a ha=>?_
 ·
  obtain⟨_,_,x,hxe,hx,hcx,hrx⟩:=(hp _ hs).at (i:=i) (by omega)
  cases hxe
  refine RN 6 ha hs λa ha=>?_
  refine SS ha (ld1 ha (hcx)) λa ha=>?_
  rw[bbv]at ha
  refine RN 2 ha hs λa ha=>?_
  rw[show min ((frontN (prx xs) i:Nat):Int) ((x.2.2.length:Nat):Int)=((frontN (prx xs) (i+1):Nat):Int) from by rw[frontN,prx_get hx];omega]at ha
  refine RN 4 ha hs λa ha=>?_
  exact⟨xs.length-(i+1),by omega,i+1,⟨rfl,by omega,by omega⟩,ha.keep [0,3,4],hs⟩
 refine RT 3 ha hs ?_
 obtain rfl:i=xs.length:=by omega
 exact⟨by rw[frontL,prx_len],hs⟩
theorem ref_joint (hs:St W w L)(h0:0<xs.length)(h8:xs.length≤8)(hp:∀ w',St W w' L→RdX w' adl xs)(hf:f<frontL (prx xs)) :
   Calls Tryz.prog 133 #[.slice adl xs.length cl,.int .i64 f] w λe w'=>∃ ad' c',e=.returned (.slice ad' (jointL (prx xs) f).length c')∧St W w' (Sl 5 1 ad' (jointL (prx xs) f).length c' (bc (jointL (prx xs) f))::L):=by
 refine EN Tryz.func133 Tryz.ntmps133 rfl rfl λa ha=>?_
 refine RN 7 ha hs λa ha=>?_
 replace hs:=hs.sl0 5 1 none
 refine wp_loop_ghost (λμ a w=>∃ (i:Nat) (ad2:Option Addr) (c2:Nat),(μ=xs.length-i∧i≤xs.length)∧Fr a 25 [(0,.slice adl xs.length cl),(1,.int .i64 f),(5,.slice ad2 (jointN (prx xs) f i).length c2),(6,.int .i64 i)]∧St W w (Sl 5 1 ad2 (jointN (prx xs) f i).length c2 (bc (jointN (prx xs) f i))::L)) (xs.length) (⟨0,none,0,⟨rfl,by omega⟩,ha.keep [0,1,5,6],hs⟩) ?_
 clear ha hs
 rintro μ a w ⟨i,ad2,c2,⟨rfl,hi⟩,ha,hs⟩
 refine IF 6 ha hs (λhc0 a ha=>?_) λhc0 a ha=>?_
 ·
  obtain⟨bl,ol,x,rfl,hx,hcx,hrx⟩:=(hp _ hs.tail).at (i:=i) (by omega)
  have hfl:f<x.2.2.length:=by
    have h1:=frontL_le (ls:=prx xs) (l:=x.2.2) (List.mem_map.2 ⟨x,List.mem_of_getElem? hx,rfl⟩)
    omega
  obtain⟨bx,ox,hxe,hrl⟩:=hrx.get (by omega)
  have hjl:=jointN_len (ls:=prx xs) (f:=f) (i:=i) (by rw[prx_len];exact hi)
  refine RN 6 ha hs λa ha=>?_
  refine SS ha (ld1 ha (hcx)) λa ha=>?_
  rw[bbv,hxe]at ha
  refine RN 2 ha hs λa ha=>?_
  refine SS ha (ld1 ha (hrl f _ (bc_atD hfl))) λa ha=>?_
  refine RN 0 ha hs λa ha=>?_
  refine st_buildSlice ha rfl hs Tryz.underlying22 Ty.t5 rfl rfl rfl rfl (by decide) (by decide) λb22 a w ha hs ho=>?_
  clear ho
  refine RN 0 ha hs λa ha=>?_
  refine st_append ha rfl hs Tryz.underlying22 Ty.t5 rfl rfl hs.rdAll rfl (bc_one [x.2.2.getD f 0]) (by decide) (by decide) (by omega) λad23 c23 a w ha hs=>?_
  rw[show bc (jointN (prx xs) f i)++_=bc (jointN (prx xs) f (i+1)) from by rw[jointN_succ (by rw[prx_len];omega),List.getElem_map,bc_app,(List.getElem?_eq_some_iff.1 hx).2],show (jointN (prx xs) f i).length+1=(jointN (prx xs) f (i+1)).length from by rw[hjl,jointN_len (by rw[prx_len];omega)]]at hs
  rw[show (jointN (prx xs) f i).length+1=(jointN (prx xs) f (i+1)).length from by rw[hjl,jointN_len (by rw[prx_len];omega)]]at ha
  refine RN 4 ha hs λa ha=>?_
  exact⟨xs.length-(i+1),by omega,i+1,ad23,c23,⟨rfl,by omega⟩,ha.keep [0,1,5,6],hs.sub⟩
 refine RT 3 ha hs ?_
 obtain rfl:i=xs.length:=by omega
 have hj:jointN (prx xs) f xs.length=jointL (prx xs) f:=by
   conv=>lhs;rw[← prx_len xs]
   exact jointN_all _ _
 rw[hj]at hs ⊢
 exact⟨_,_,rfl,hs⟩
set_option maxHeartbeats 1000000 in
theorem ref_aheadG (hr:r≤100000)(hs:St W w L)(hb:mayGs b)(h0:0<xs.length)(h8:xs.length≤8)(hl:∀ l∈prx xs,l.length≤1000)(hto:to≤1000)(hp:∀ w',St W w' L→RdX w' adl xs)(ht:∀ w',St W w' L→RdB w' adT b.table.length b.table) :
   Calls Tryz.prog 37 #[.slice adl xs.length cl,.agg (gsC b adT cT).toArray,.int .i64 r,.int .i64 to] w λe w'=>∃ (ad':Option Addr) (c':Nat) (X:List (List UInt8)),e=.returned (.slice ad' (to-frontL (prx xs)) c')∧(FitX to (prx xs) X∧(r=0→X=fullL b (prx xs) to)) ∧
     St W w' (OwnBB ad' (to-frontL (prx xs)) c' (aheadX X (frontL (prx xs)) to)::L):=by
 have hne:prx xs≠[]:=λe=>by have h1:=prx_len xs;rw[e]at h1;simp at h1;omega
 have hfr:frontL (prx xs)≤1000:=by
   obtain⟨l,hl1,hl2⟩:=frontL_some hne
   rw[hl2];exact hl l hl1
 refine EN Tryz.func37 Tryz.ntmps37 rfl rfl λa ha=>?_
 refine BX 1 ha hs λb5 a w ha hs=>?_
 change St W w (blk b5 61 (gsC b adT cT)::_) at hs
 refine CL 3 ha hs (ref_front (cl:=cl) hs h0 h8 (λw' hw=>hp w' hw.tail)) λa w ha hs=>?_
 refine CL1 4 ha hs (ref_mayBy hs) λrr a w ha ⟨hrr,hs⟩=>?_
 rw[hrr.2 hb]at ha
 refine RN 2 ha hs λa ha=>?_
 replace ha:=ha.isF 23
 refine RN 4 ha hs λa ha=>?_
 rw[decide_eq_false (by omega)]at ha
 refine RN 4 ha hs λa ha=>?_
 rw[decide_eq_false (by omega)]at ha
 refine IF 4 ha hs (λhc0 a ha=>?_) λhc0 a ha=>?_
 ·
  refine RT 2 ha hs ?_
  have hz:to-frontL (prx xs)=0:=by omega
  refine⟨none,0,fullL b (prx xs) to,by rw[hz],⟨⟨by rw[fullL,List.length_map],λj l x hj hx=>?_⟩,λ_=>rfl⟩,?_⟩
  · rw[fullL,List.getElem?_map,hj]at hx
    obtain rfl:fullB b l to=x:=by simpa using hx
    exact fullB_fit (hl l (List.mem_of_getElem? hj)) hto
  · rw[aheadX,hz];exact OwnBB.nil hs.tail
 refine RN 7 ha hs λa ha=>?_
 replace hs:=hs.sl0 22 1 none
 replace hs:=St.allNil (f:=bbo) hs
 have hfto:frontL (prx xs)<to:=by omega
 refine wp_loop_ghost (λμ a w=>∃ (i:Nat) (odd:Bool) (ys:List BBx) (ady:Option Addr) (cy:Nat),(μ=xs.length-i∧i≤xs.length∧ys.length=i∧(∀ (j:Nat) (l:List UInt8) (x:BBx),(prx xs)[j]?=some l→ys[j]?=some x→FitB to l x.2.2)∧(r=0→prx ys=(fullL b (prx xs) to).take i))∧Fr a 117 [(0,.slice adl xs.length cl),(2,.int .i64 r),(3,.int .i64 to),(5,pt b5),(9,.int .i64 (frontL (prx xs))),(10,.slice ady i cy),(11,.bool odd),(12,.int .i64 i)]∧St W w (Sl 22 1 ady i cy (ys.map bbv)::All bbo ys::blk b5 61 (gsC b adT cT)::L)) (xs.length) (⟨0,false,[],none,0,⟨rfl,by omega,rfl,λj l x _ h=>by simp at h,λ_=>rfl⟩,ha.keep [0,2,3,5,9,10,11,12],(hs.sub:St W w (Sl 22 1 none 0 0 []::All bbo []::blk b5 61 (gsC b adT cT)::L))⟩) ?_
 clear ha hs
 rintro μ a w ⟨i,odd,ys,ady,cy,⟨rfl,hi,hyl,hfit,hful⟩,ha,hs⟩
 refine IF 6 ha hs (λhc1 a ha=>?_) λhc1 a ha=>?_
 ·
  obtain⟨bl,ol,x,rfl,hx,hcx,hrx⟩:=(hp _ hs.tail.tail.tail).at (i:=i) (by omega)
  have hxm:(prx xs)[i]?=some x.2.2:=by rw[List.getElem?_map,hx];rfl
  have hxl:=hl _ (List.mem_of_getElem? hxm)
  replace hs:=hs.sl0 5 1 none
  refine RN 6 ha hs λa ha=>?_
  refine SS ha (ld1 ha (hcx)) λa ha=>?_
  rw[bbv]at ha
  refine RN 0 ha hs λa ha=>?_
  refine st_appendT ha rfl hs Tryz.underlying22 Ty.t5 rfl rfl (by decide) (λh0=>hrx.get h0) (by rw[bc_len];omega) (bc_one _) (by omega) λad47 c47 a w ha hs=>?_
  rw[List.nil_append,Nat.zero_add]at hs
  rw[Nat.zero_add]at ha
  refine RN 1 ha hs λa ha=>?_
  refine wp_seq_cut (M:=λa w=>∃ (odd':Bool) (adp:Option Addr) (cp:Nat) (y:List UInt8),((∃ t,y=x.2.2++t)∧y.length≤x.2.2.length+1∧(y=x.2.2∨x.2.2.length=frontL (prx xs))∧(r=0→y=x.2.2))∧Fr a 117 [(0,.slice (some ⟨bl,ol,none⟩) xs.length cl),(2,.int .i64 r),(3,.int .i64 to),(5,pt b5),(9,.int .i64 (frontL (prx xs))),(10,.slice ady i cy),(11,.bool odd'),(12,.int .i64 i),(13,.slice adp y.length cp)]∧St W w (Sl 5 1 adp y.length cp (bc y)::Sl 22 1 ady i cy (ys.map bbv)::All bbo ys::blk b5 61 (gsC b adT cT)::L)) ?_ ?_
  ·
   refine BY 4 ha hs (λhg2 a ha=>?_) λhg2 a ha=>?_
   ·
    refine BY 4 ha hs (λhg6 a ha=>?_) λhg6 a ha=>?_
    ·
     refine IF 5 ha hs (λhc2 a ha=>?_) λhc2 a ha=>?_
     ·
      refine RN 2 ha hs λa ha=>?_
      have hr6:r%256<256:=Nat.mod_lt _ (by decide)
      have hc47:=(hs.sl ad47).2
      refine SX 4 ha hs (by decide) λa ha=>?_
      rw[show ((r:Nat):Int).tmod 256=((r%256:Nat):Int) from remN _ 256]at ha
      generalize hre:r%256=r6 at ha hr6
      refine RN 1 ha hs λa ha=>?_
      rw[show ((r6:Nat):Int)+1=((r6+1:Nat):Int) from by omega]at ha
      refine CL3 0 ha hs (ref_rank (past:=x.2.2) (k:=r6+1) hs hb (by omega) (by omega) hc47 (λw' hw=>hw.rdB ad47 x.2.2 rfl rfl) (λw' hw=>ht w' hw.tail.tail.tail.tail)) λadr cr out a w ha ⟨⟨hol,_⟩,hs⟩=>?_
      obtain⟨br,or',rfl,hrr⟩:=hs.slRd adr (by omega)
      refine SX 1 ha hs (by decide) λa ha=>?_
      rw[show ((r:Nat):Int).tmod 256=((r6:Nat):Int) from by rw[← hre];exact remN _ 256]at ha
      refine RN 1 ha hs λa ha=>?_
      refine SS ha (ld1 ha (hrr r6 _ (bc_at (by omega)))) λa ha=>?_
      refine RN 0 ha hs λa ha=>?_
      refine st_buildSlice ha rfl hs Tryz.underlying22 Ty.t5 rfl rfl rfl rfl (by decide) (by decide) λb71 a w ha hs ho=>?_
      clear ho
      refine RN 0 ha hs λa ha=>?_
      refine st_append ha rfl hs Tryz.underlying22 Ty.t5 rfl rfl hs.rdAll rfl (bc_one [out[r6]]) (by decide) (by decide) (by omega) λad72 c72 a w ha hs=>?_
      rw[show bc x.2.2++_=bc (x.2.2++[out[r6]]) from (bc_app _ [_]).symm,show x.2.2.length+1=(x.2.2++[out[r6]]).length from by simp]at hs
      rw[show x.2.2.length+1=(x.2.2++[out[r6]]).length from by simp]at ha
      refine RN 1 ha hs λa ha=>?_
      exact⟨_,ad72,c72,x.2.2++[out[r6]],⟨⟨_,rfl⟩,by simp,.inr (by omega),λh=>by omega⟩,ha.keep [0,2,3,5,9,10,11,12,13],hs.sub⟩
     refine RN 0 ha hs λa ha=>?_
     exact⟨_,ad47,c47,x.2.2,⟨⟨[],by simp⟩,by omega,.inl rfl,λ_=>rfl⟩,ha.keep [0,2,3,5,9,10,11,12,13],hs.sub⟩
    refine RN 6 ha hs λa ha=>?_
    exact⟨_,ad47,c47,x.2.2,⟨⟨[],by simp⟩,by omega,.inl rfl,λ_=>rfl⟩,ha.keep [0,2,3,5,9,10,11,12,13],hs.sub⟩
   refine RN 10 ha hs λa ha=>?_
   exact⟨_,ad47,c47,x.2.2,⟨⟨[],by simp⟩,by omega,.inl rfl,λ_=>rfl⟩,ha.keep [0,2,3,5,9,10,11,12,13],hs.sub⟩
  clear ha;(try clear hs)
  rintro a w ⟨odd',adp,cp,y,⟨hy1,hy2,hy4,hy3⟩,ha,hs⟩
  refine wp_seq_cut (M:=λa w=>∃ (adq:Option Addr) (cq:Nat) (z:List UInt8),(FitB to x.2.2 z∧(r=0→z=fullB b x.2.2 to))∧Fr a 117 [(0,.slice (some ⟨bl,ol,none⟩) xs.length cl),(2,.int .i64 r),(3,.int .i64 to),(5,pt b5),(9,.int .i64 (frontL (prx xs))),(10,.slice ady i cy),(11,.bool odd'),(12,.int .i64 i),(13,.slice adq z.length cq)]∧St W w (Sl 5 1 adq z.length cq (bc z)::Sl 22 1 ady i cy (ys.map bbv)::All bbo ys::blk b5 61 (gsC b adT cT)::L)) ?_ ?_
  ·
   refine IF 5 ha hs (λhc3 a ha=>?_) λhc3 a ha=>?_
   ·
    have hyc:=(hs.sl adp).2
    have hchl:=chainB_len b y (to-y.length)
    refine RN 7 ha hs λa ha=>?_
    rw[show ((to:Nat):Int)-((y.length:Nat):Int)=((to-y.length:Nat):Int) from by omega]at ha
    refine CL2 0 ha hs (ref_chain (past:=y) (m:=to-y.length) hs hb (by omega) hyc (by omega) (λw' hw=>hw.rdB adp y rfl rfl) (λw' hw=>ht w' hw.tail.tail.tail.tail)) λadc cc a w ha hs=>?_
    refine RN 0 ha hs λa ha=>?_
    refine st_appendT ha rfl hs Tryz.underlying22 Ty.t5 rfl rfl (by decide) (λh0=>(hs.rdB adc (chainB b y (to-y.length)) rfl hchl).get h0) (by rw[bc_len];omega) (bc_one _) (by omega) λad85 c85 a w ha hs=>?_
    rw[← bc_app,chain_all,show y.length+(to-y.length)=(chainN b y (to-y.length)).length from by rw[chainN_len]]at hs
    rw[show y.length+(to-y.length)=(chainN b y (to-y.length)).length from by rw[chainN_len]]at ha
    refine RN 1 ha hs λa ha=>?_
    obtain⟨t,hyt⟩:=hy1
    refine⟨ad85,c85,_,⟨⟨⟨t++chainB b y (to-y.length),?_⟩,by rw[chainN_len];omega,by rw[chainN_len];omega⟩,λh=>?_⟩,ha.keep [0,2,3,5,9,10,11,12,13],hs.sub⟩
    · rw[← chain_all,hyt,List.append_assoc]
    · rw[hy3 h,fullB]
   refine RN 0 ha hs λa ha=>?_
   exact⟨adp,cp,y,⟨⟨hy1,by omega,by omega⟩,λh=>by rw[fullB_long (by rw[← hy3 h];omega)];exact hy3 h⟩,ha.keep [0,2,3,5,9,10,11,12,13],hs⟩
  clear ha;(try clear hs)
  rintro a w ⟨adq,cq,z,⟨hz1,hz2⟩,ha,hs⟩
  refine RN 2 ha hs λa ha=>?_
  refine st_buildSlice ha rfl hs Tryz.underlying42 Ty.t22 rfl rfl rfl rfl (by decide) (by decide) λb88 a w ha hs ho=>?_
  clear ho
  refine RN 0 ha hs λa ha=>?_
  refine st_append ha rfl hs Tryz.underlying42 Ty.t22 rfl rfl hs.rdAll rfl (by simp[Value.oneCell']) (by decide) (by decide) (by omega) λad89 c89 a w ha hs=>?_
  rw[show List.map bbv ys++_=List.map bbv (ys++[(adq,cq,z)]) from by rw[List.map_append];rfl]at hs
  refine RN 4 ha hs λa ha=>?_
  have hs2:=St.allPush (f:=bbo) (x:=(adq,cq,z)) (hs.sub (M:=Sl 5 1 adq z.length cq (bc z)::All bbo ys::Sl 22 1 ad89 (i+1) c89 ((ys++[(adq,cq,z)]).map bbv)::blk b5 61 (gsC b adT cT)::L))
  refine⟨xs.length-(i+1),by omega,i+1,odd',ys++[(adq,cq,z)],ad89,c89,⟨rfl,by omega,by rw[List.length_append,hyl];rfl,λj l y hj hy=>?_,λh=>?_⟩,ha.keep [0,2,3,5,9,10,11,12],hs2.sub⟩
  · by_cases hji:j<i
    · rw[List.getElem?_append_left (by omega)]at hy
      exact hfit j l y hj hy
    · have hjl:=(List.getElem?_eq_some_iff.1 hy).1
      rw[List.length_append,List.length_singleton]at hjl
      obtain rfl:j=i:=by omega
      rw[List.getElem?_append_right (by omega),hyl,Nat.sub_self]at hy
      obtain rfl:(adq,cq,z)=y:=by simpa using hy
      rw[hxm]at hj
      obtain rfl:x.2.2=l:=by simpa using hj
      exact hz1
  · rw[prx,List.map_append,← prx,hful h,List.take_succ_eq_append_getElem (by rw[fullL,List.length_map,prx_len];omega)]
    congr 1
    rw[List.map_singleton,hz2 h]
    simp only[fullL,List.getElem_map]
    rw[(List.getElem?_eq_some_iff.1 hx).2]
 obtain rfl:i=xs.length:=by omega
 have hX:FitX to (prx xs) (prx ys):=⟨by rw[prx_len,prx_len];exact hyl,λj l x hj hx=>by
   rw[List.getElem?_map]at hx
   obtain⟨y,hy,rfl⟩:=Option.map_eq_some_iff.1 hx
   exact hfit j l y hj hy⟩
 have hXf:r=0→prx ys=fullL b (prx xs) to:=λh=>by rw[hful h,List.take_of_length_le (by rw[fullL,List.length_map,prx_len];exact Nat.le_refl _)]
 clear hfit hful
 refine RN 6 ha hs λa ha=>?_
 replace hs:=hs.sl0 22 1 none
 replace hs:=St.allNil (f:=bbo) hs
 refine wp_loop_ghost (λμ a w=>∃ (d:Nat) (zs:List BBx) (adz:Option Addr) (cz:Nat),(μ=to-frontL (prx xs)-d∧d≤to-frontL (prx xs)∧prx zs=(List.range d).map λi=>jointL (prx ys) (frontL (prx xs)+i))∧Fr a 117 [(0,.slice adl xs.length cl),(3,.int .i64 to),(10,.slice ady xs.length cy),(14,.slice adz d cz),(15,.int .i64 (frontL (prx xs)+d:Nat))]∧St W w (Sl 22 1 adz d cz (zs.map bbv)::All bbo zs::Sl 22 1 ady xs.length cy (ys.map bbv)::All bbo ys::L)) (to-frontL (prx xs)) (⟨0,[],none,0,⟨rfl,by omega,rfl⟩,by rw[Nat.add_zero];exact ha.keep [0,3,10,14,15],(hs.sub:St W w (Sl 22 1 none 0 0 []::All bbo []::Sl 22 1 ady xs.length cy (ys.map bbv)::All bbo ys::L))⟩) ?_
 clear ha hs
 rintro μ a w ⟨d,zs,adz,cz,⟨rfl,hd,hzs⟩,ha,hs⟩
 refine IF 5 ha hs (λhc4 a ha=>?_) λhc4 a ha=>?_
 ·
  refine RN 6 ha hs λa ha=>?_
  replace hs:=hs.sl0 5 1 none
  refine wp_loop_ghost (λμ a w=>∃ (i:Nat) (adj:Option Addr) (cj:Nat),(μ=xs.length-i∧i≤xs.length)∧Fr a 117 [(0,.slice adl xs.length cl),(3,.int .i64 to),(10,.slice ady xs.length cy),(14,.slice adz d cz),(15,.int .i64 (frontL (prx xs)+d:Nat)),(16,.slice adj i cj),(17,.int .i64 i)]∧St W w (Sl 5 1 adj i cj (bc (jointN (prx ys) (frontL (prx xs)+d) i))::Sl 22 1 adz d cz (zs.map bbv)::All bbo zs::Sl 22 1 ady xs.length cy (ys.map bbv)::All bbo ys::L)) (xs.length) (⟨0,none,0,⟨rfl,by omega⟩,ha.keep [0,3,10,14,15,16,17],hs⟩) ?_
  clear ha hs
  rintro μ a w ⟨i,adj,cj,⟨rfl,hi⟩,ha,hs⟩
  refine IF 6 ha hs (λhc5 a ha=>?_) λhc5 a ha=>?_
  ·
   have hil:i<xs.length:=by omega
   have hrX:=St.rdX (xs:=ys) (hs.sub (M:=Sl 22 1 ady xs.length cy (ys.map bbv)::All bbo ys::[]))
   obtain⟨by',oy,y,rfl,hy,hcy,hry⟩:=hrX.at (i:=i) (by omega)
   have hyf:=hX.fit i _ y.2.2 (List.getElem?_eq_getElem (by rw[prx_len];exact hil)) (by rw[List.getElem?_map,hy];rfl)
   obtain⟨bb,oo,hye,hrl⟩:=hry.get (by have:=hyf.2.1;omega)
   refine RN 5 ha hs λa ha=>?_
   refine SS ha (ld1 ha (hcy)) λa ha=>?_
   rw[bbv,hye]at ha
   refine SX 1 ha hs (by have:=hyf.2.1;omega) λa ha=>?_
   refine RN 0 ha hs λa ha=>?_
   refine SS ha (ld1 ha (hrl (frontL (prx xs)+d) _ (bc_atD (by have:=hyf.2.1;omega)))) λa ha=>?_
   refine RN 0 ha hs λa ha=>?_
   refine st_buildSlice ha rfl hs Tryz.underlying22 Ty.t5 rfl rfl rfl rfl (by decide) (by decide) λb110 a w ha hs ho=>?_
   clear ho
   refine RN 0 ha hs λa ha=>?_
   refine st_append ha rfl hs Tryz.underlying22 Ty.t5 rfl rfl hs.rdAll rfl (bc_one [y.2.2.getD (frontL (prx xs)+d) 0]) (by decide) (by decide) (by omega) λad111 c111 a w ha hs=>?_
   rw[show bc (jointN (prx ys) (frontL (prx xs)+d) i)++_=bc (jointN (prx ys) (frontL (prx xs)+d) (i+1)) from by rw[jointN_succ (by rw[prx_len];omega),List.getElem_map,bc_app,(List.getElem?_eq_some_iff.1 hy).2]]at hs
   refine RN 4 ha hs λa ha=>?_
   exact⟨xs.length-(i+1),by omega,i+1,ad111,c111,⟨rfl,by omega⟩,ha.keep [0,3,10,14,15,16,17],hs.sub⟩
  obtain rfl:i=xs.length:=by omega
  have hjl:jointN (prx ys) (frontL (prx xs)+d) xs.length=jointL (prx ys) (frontL (prx xs)+d):=by
    conv=>lhs;rw[← hyl,← prx_len]
    exact jointN_all _ _
  rw[hjl]at hs
  have hjn:(jointL (prx ys) (frontL (prx xs)+d)).length=xs.length:=by rw[jointL_len,prx_len];exact hyl
  refine RN 2 ha hs λa ha=>?_
  refine st_buildSlice ha rfl hs Tryz.underlying42 Ty.t22 rfl rfl rfl rfl (by decide) (by decide) λb114 a w ha hs ho=>?_
  clear ho
  refine RN 0 ha hs λa ha=>?_
  refine st_append ha rfl hs Tryz.underlying42 Ty.t22 rfl rfl hs.rdAll rfl (by simp[Value.oneCell']) (by decide) (by decide) (by omega) λad115 c115 a w ha hs=>?_
  rw[show List.map bbv zs++_=List.map bbv (zs++[(adj,cj,jointL (prx ys) (frontL (prx xs)+d))]) from by rw[List.map_append,List.map_singleton,bbv,hjn];rfl]at hs
  refine RN 4 ha hs λa ha=>?_
  have hs2:=St.allPush (f:=bbo) (x:=(adj,cj,jointL (prx ys) (frontL (prx xs)+d))) (by
    rw[bbo,hjn]
    exact hs.sub (M:=Sl 5 1 adj xs.length cj (bc (jointL (prx ys) (frontL (prx xs)+d)))::All bbo zs::Sl 22 1 ad115 (d+1) c115 ((zs++[(adj,cj,jointL (prx ys) (frontL (prx xs)+d))]).map bbv)::Sl 22 1 ady xs.length cy (ys.map bbv)::All bbo ys::L))
  exact⟨to-frontL (prx xs)-(d+1),by omega,d+1,zs++[(adj,cj,jointL (prx ys) (frontL (prx xs)+d))],ad115,c115,⟨rfl,by omega,by rw[prx,List.map_append,← prx,hzs,List.range_succ,List.map_append];rfl⟩,by rw[show ((frontL (prx xs)+(d+1):Nat):Int)=((frontL (prx xs)+d:Nat):Int)+1 from by omega];exact ha.keep [0,3,10,14,15],hs2.sub⟩
 obtain rfl:d=to-frontL (prx xs):=by omega
 refine RT 3 ha hs ?_
 exact⟨adz,cz,prx ys,rfl,⟨hX,hXf⟩,OwnBB.close (xs:=zs) (hs.sub (M:=Sl 22 1 adz (to-frontL (prx xs)) cz (zs.map bbv)::All bbo zs::L)) hzs (aheadX_len _ _ _)⟩
end
end
section
section
variable {W w:World}{Z:List SP}{n c i tq sq r nk base front:Nat}{ad:Option Addr}{M:MuB}{B:PlB}{y:UInt8}{x:Br}{p:Pr}{s:Pl}{T:Tr}
theorem mu_may (hs:St W w (blk M.mb 110 (muC p M nk base front)::PlainS W M.B p s::Z))(hw:WF' p s)(hx:RdZ W (blk M.mb 110 (muC p M nk base front)::PlainS W M.B p s::Z) ad x.press)
   (hf:x.frm=(front:Int)) (hj:∀ j∈x.press,j.length=s.k.n) (hb:front+x.press.length≤100000) :
   Calls Tryz.prog 123 #[pt M.mb,.agg (brC x ad c).toArray] w λe w'=>e=.returned (.bool (knP s.k.ls front x.press))∧St W w' (blk M.mb 110 (muC p M nk base front)::PlainS W M.B p s::Z):=by
 obtain⟨zs,hz,hx⟩:=hx
 have hne:=hw.wc.lne
 have hls:=hw.wc.ls
 have hn8:=hw.wc.n
 have hzl:zs.length=x.press.length:=by rw[← hz,List.length_map]
 refine EN Tryz.func123 Tryz.ntmps123 rfl rfl λa ha=>?_
 refine BX 1 ha hs λb3 a w ha hs=>?_
 refine CL 6 ha hs (plain_core (hs.pick (PlainS W M.B p s))) λa w ha hs=>?_
 replace hs:=PlainS.open hs
 refine CL 0 ha hs (core_queue (hs.pick (CoreS M.B.core s.k))) λa w ha hs=>?_
 refine RN 1 ha hs λa ha=>?_
 obtain⟨D,hs,hD⟩:=CoreS.qu hs
 have hxD:∀ w',St W w' (Qu M.B.core.qb M.B.core.lbs s.k.ls::D::blk M.B.pb 180 (plC p M.B s.g)::RoP W p M.B.adO M.B.cO::Sl 5 1 M.B.adT M.B.gs.table.length M.B.cT (bc M.B.gs.table)::blk M.mb 110 (muC p M nk base front)::Z)→RdX w' ad zs :=
   λw' h=>hx w' ((PlainS.fold (hD _ _ h) M.B p s).sub)
 refine RN 6 ha hs λa ha=>?_
 refine wp_loop_ghost (λμ a w=>∃ (i:Nat),(μ=x.press.length-i∧i≤x.press.length∧(∀ j,j<i→knB s.k.ls (front+j) (x.press.getD j [])=true))∧Fr a 59 [(0,pt M.mb),(3,pt b3),(5,pt M.B.core.qb),(19,.slice ad x.press.length c),(20,.int .i64 x.press.length),(21,.int .i64 i)]∧St W w (Qu M.B.core.qb M.B.core.lbs s.k.ls::D::blk b3 45 (brC x ad c)::blk M.B.pb 180 (plC p M.B s.g)::RoP W p M.B.adO M.B.cO::Sl 5 1 M.B.adT M.B.gs.table.length M.B.cT (bc M.B.gs.table)::blk M.mb 110 (muC p M nk base front)::Z)) (x.press.length) (⟨0,⟨rfl,by omega,λj h=>absurd h (by omega)⟩,ha.keep [0,3,5,19,20,21],hs.sub⟩) ?_
 clear ha hs
 rintro μ a w ⟨i,⟨rfl,hi,hkn⟩,ha,hs⟩
 refine IF 3 ha hs (λhc0 a ha=>?_) λhc0 a ha=>?_
 ·
  have hil:i<zs.length:=by omega
  obtain⟨bx,ox,z,hade,hzi,hcell,hrz⟩:=(hxD _ hs.sub).at hil
  have hzp:x.press.getD i []=z.2.2:=by rw[List.getD_eq_getElem?_getD,← hz,List.getElem?_map,hzi];rfl
  have hzn:z.2.2.length=s.k.n:=hj _ (by rw[← hz];exact List.mem_map.2 ⟨z,List.mem_of_getElem? hzi,rfl⟩)
  refine RN 3 ha hs λa ha=>?_
  rw[hade]at ha
  refine RN 1 ha hs λa ha=>?_
  refine SS ha (ld1 ha (hcell)) λa ha=>?_
  rw[← hade]at ha
  rw[bbv]at ha
  refine RN 6 ha hs λa ha=>?_
  refine wp_loop_ghost (λμ a w=>∃ (v:Nat),(μ=z.2.2.length-v∧v≤z.2.2.length∧(∀ q,q<v→front+i<(s.k.ls.getD q []).length→(s.k.ls.getD q []).getD (front+i) 0=z.2.2.getD q 0))∧Fr a 59 [(0,pt M.mb),(3,pt b3),(5,pt M.B.core.qb),(6,.int .i64 i),(19,.slice ad x.press.length c),(20,.int .i64 x.press.length),(21,.int .i64 i),(26,.slice z.1 z.2.2.length z.2.1),(27,.int .i64 z.2.2.length),(28,.int .i64 v)]∧St W w (Qu M.B.core.qb M.B.core.lbs s.k.ls::D::blk b3 45 (brC x ad c)::blk M.B.pb 180 (plC p M.B s.g)::RoP W p M.B.adO M.B.cO::Sl 5 1 M.B.adT M.B.gs.table.length M.B.cT (bc M.B.gs.table)::blk M.mb 110 (muC p M nk base front)::Z)) (z.2.2.length) (⟨0,⟨rfl,by omega,λj h=>absurd h (by omega)⟩,ha.keep [0,3,5,6,19,20,21,26,27,28],hs⟩) ?_
  clear ha hs
  rintro μ a w ⟨v,⟨rfl,hv,hkv⟩,ha,hs⟩
  refine IF 3 ha hs (λhc1 a ha=>?_) λhc1 a ha=>?_
  ·
   have hvl:v<z.2.2.length:=by omega
   have hvs:v<s.k.ls.length:=by omega
   obtain⟨bz,oz,hz1,hrv⟩:=((hxD _ hs.sub).2 z (List.mem_of_getElem? hzi)).get (by omega)
   refine RN 3 ha hs λa ha=>?_
   rw[hz1]at ha
   refine RN 1 ha hs λa ha=>?_
   refine SS ha (ld1 ha (hrv v _ (bc_atD hvl))) λa ha=>?_
   rw[← hz1]at ha
   refine DWC 3 (λw0 w'=>Rd w' b3 0 (brC x ad c)) [2] [0,1,3,5,3004,6,1002,1007,8,9,10,11,12] ha hs λa w ha hs hH=>?_
   have hC:=hH.at w (hs.rdAll (b:=b3))
   refine RH 4 ha hs hH hC λa ha=>?_
   refine QH ha (λw hc=>ld1 ha (hc 1 _ rfl)) hC λa ha=>?_
   refine RH 1 ha hs hH hC λa ha=>?_
   rw[hf,show ((front:Nat):Int)+(i:Int)=((front+i:Nat):Int) from rfl]at ha
   refine CL 0 ha hs (queue_line (hs.pick (Qu M.B.core.qb M.B.core.lbs s.k.ls)) hvs) λa w ha hs=>?_
   replace hC:=hH.at w (hs.rdAll (b:=b3))
   refine RH 0 ha hs hH hC λa ha=>?_
   refine CL 0 ha hs (q_at hs hvs) λa w ha hs=>?_
   refine RN 5 ha hs λa ha=>?_
   refine BY 3 ha hs (λhg1 a ha=>?_) λhg1 a ha=>?_
   ·
    refine IF 4 ha hs (λhc2 a ha=>?_) λhc2 a ha=>?_
    ·
     refine RT 2 ha hs ?_
     exact⟨by rw[knP_no (i:=i) (by omega) (by rw[hzp];exact knB_no hvl hg1 (λe=>hc2 (by rw[e])))],((PlainS.fold (hD _ _ hs) M.B p s).sub)⟩
    refine RN 2 ha hs λa ha=>?_
    refine⟨z.2.2.length-(v+1),by omega,v+1,⟨rfl,by omega,λq hq h1=>?_⟩,ha.keep [0,3,5,6,19,20,21,26,27,28],hs.sub⟩
    rcases (by omega:q<v∨q=v) with h | rfl
    · exact hkv q h h1
    · exact UInt8.toNat.inj (by omega)
   refine RN 7 ha hs λa ha=>?_
   refine⟨z.2.2.length-(v+1),by omega,v+1,⟨rfl,by omega,λq hq h1=>?_⟩,ha.keep [0,3,5,6,19,20,21,26,27,28],hs.sub⟩
   rcases (by omega:q<v∨q=v) with h | rfl
   · exact hkv q h h1
   · omega
  refine RN 2 ha hs λa ha=>?_
  refine⟨x.press.length-(i+1),by omega,i+1,⟨rfl,by omega,λj hj=>?_⟩,ha.keep [0,3,5,19,20,21],hs.sub⟩
  rcases (by omega:j<i∨j=i) with h | rfl
  · exact hkn j h
  · rw[hzp];exact knB_yes λq hq=>hkv q (by omega)
 refine DWO 1 [5] [0,2,3,4,3001,1005,6,7] ha hs λa w ha hs hH hC=>?_
 refine RH 8 ha hs hH hC λa ha=>?_
 refine RT 0 ha hs ?_
 exact⟨by rw[hf,decide_eq_true rfl,knP_yes λj hj=>hkn j (by omega)],((PlainS.fold (hD _ _ hs) M.B p s).sub)⟩
theorem mu_has {P:List (List UInt8)}(hs:St W w (blk M.mb 110 (muC p M nk base front)::Tree M.tq M.sq T::Z))(hx:RdZ W Z ad P)(hPl:P.length≤65536) :
   Calls Tryz.prog 184 #[pt M.mb,.slice ad P.length c] w λe w'=>∃ r:Bool,e=.returned (.bool r)∧(r=true→T.l≠[])∧St W w' (blk M.mb 110 (muC p M nk base front)::Tree M.tq M.sq T::Z):=by
 obtain⟨zs,hz,hx⟩:=hx
 have hzl:zs.length=P.length:=by rw[← hz,List.length_map]
 have hwt:=Tree.wt (hs.tree M.tq)
 have hTm:=hwt.most
 refine EN Tryz.func184 Tryz.ntmps184 rfl rfl λa ha=>?_
 refine CL2 8 ha hs (tree_all (hs.tree M.tq)) λadt ct a w ha hs=>?_
 obtain⟨xs,h1,h2,hs⟩:=OwnBr.open hs
 have hxl:xs.length=T.l.length:=by rw[← h1,List.length_map]
 refine RN 2 ha hs λa ha=>?_
 refine wp_loop_ghost (λμ a w=>∃ (i:Nat),(μ=T.l.length-i∧i≤T.l.length)∧Fr a 61 [(0,pt M.mb),(1,.slice ad P.length c),(14,.slice adt T.l.length ct),(15,.int .i64 T.l.length),(16,.int .i64 i)]∧St W w (Sl 45 5 adt T.l.length ct (rows brc xs)::All bro xs::Tree M.tq M.sq T::blk M.mb 110 (muC p M nk base front)::Z)) (T.l.length) (⟨0,⟨rfl,by omega⟩,ha.keep [0,1,14,15,16],hs.sub⟩) ?_
 clear ha hs
 rintro μ a w ⟨i,⟨hμ,hi⟩,ha,hs⟩
 refine IF 3 ha hs (λhc0 a ha=>?_) λhc0 a ha=>?_
 ·
  obtain⟨b',off',rfl,hrd⟩:=hs.slRd adt (by omega)
  obtain⟨⟨x,ax,cx⟩,hxx⟩:∃ y,xs[i]?=some y:=⟨_,List.getElem?_eq_getElem (by omega)⟩
  have hrk:=row_rd hrd hxx
  have hTx:T.l[i]?=some x:=by rw[← h1,List.getElem?_map,hxx];rfl
  have hox:=hwt.ok x (List.mem_of_getElem? hTx)
  have hxP:=hox.1.1
  have hTne:T.l≠[]:=λe=>by rw[e]at hTx;cases hTx
  refine RN 3 ha hs λa ha=>?_
  refine SS ha (ex_loadN ha Tryz.underlying45 rfl Ty.t45 (hrk)) λa ha=>?_
  refine AL 0 ha hs λb6 a w ha hs=>?_
  refine SA 0 ha hs λa w ha hs=>?_
  refine RN 6 ha hs λa ha=>?_
  refine wp_seq_cut (M:=λa w=>∃ q:Bool,(q=false→x.press.length≤P.length)∧Fr a 61 [(0,pt M.mb),(1,.slice ad P.length c),(6,pt b6),(7,.int .i64 x.press.length),(14,.slice (some ⟨b',off',none⟩) T.l.length ct),(15,.int .i64 T.l.length),(16,.int .i64 i),(38,.bool q)]∧St W w (blk b6 45 (brC x ax cx)::Sl 45 5 (some ⟨b',off',none⟩) T.l.length ct (rows brc xs)::All bro xs::Tree M.tq M.sq T::blk M.mb 110 (muC p M nk base front)::Z)) ?_ ?_
  ·
   refine BY 5 ha hs (λhg4 a ha=>?_) λhg4 a ha=>?_
   ·
    refine RN 11 ha hs λa ha=>?_
    exact⟨_,(λh=>by first | omega | cases h),ha.keep [0,1,6,7,14,15,16,38],hs.sub⟩
   refine BY 5 ha hs (λhg9 a ha=>?_) λhg9 a ha=>?_
   ·
    refine RN 6 ha hs λa ha=>?_
    exact⟨_,(λh=>by first | omega | cases h),ha.keep [0,1,6,7,14,15,16,38],hs.sub⟩
   refine RN 6 ha hs λa ha=>?_
   exact⟨_,(λh=>by first | omega | cases h),ha.keep [0,1,6,7,14,15,16,38],hs.sub⟩
  clear ha;(try clear hs)
  rintro a w ⟨q,hq,ha,hs⟩
  refine IF 0 ha hs (λhc1 a ha=>?_) λhc1 a ha=>?_
  ·
   refine RN 2 ha hs λa ha=>?_
   exact⟨T.l.length-(i+1),by omega,i+1,⟨rfl,by omega⟩,ha.keep [0,1,14,15,16],hs.sub⟩
  have hnl:=hq hc1
  refine RN 6 ha hs λa ha=>?_
  refine wp_loop_ghost (λμ a w=>∃ (v:Nat) (sm:Bool),(μ=x.press.length-v∧v≤x.press.length)∧Fr a 61 [(0,pt M.mb),(1,.slice ad P.length c),(6,pt b6),(7,.int .i64 x.press.length),(8,.bool sm),(14,.slice (some ⟨b',off',none⟩) T.l.length ct),(15,.int .i64 T.l.length),(16,.int .i64 i),(39,.int .i64 x.press.length),(40,.int .i64 v)]∧St W w (blk b6 45 (brC x ax cx)::Sl 45 5 (some ⟨b',off',none⟩) T.l.length ct (rows brc xs)::All bro xs::Tree M.tq M.sq T::blk M.mb 110 (muC p M nk base front)::Z)) (x.press.length) (⟨0,true,⟨rfl,by omega⟩,ha.keep [0,1,6,7,8,14,15,16,39,40],hs⟩) ?_
  clear ha hs
  rintro μ a w ⟨v,sm,⟨rfl,hv⟩,ha,hs⟩
  refine IF 3 ha hs (λhc2 a ha=>?_) λhc2 a ha=>?_
  ·
   have hvl:v<x.press.length:=by omega
   refine RN 4 ha hs λa ha=>?_
   obtain⟨b9,o9,hax,f9⟩:=(All.rdBB (hs.drew.pick (All bro xs)) hxx).1.2 (by omega)
   obtain⟨a8,c8,hc8,hr8⟩:=f9 v x.press[v] (List.getElem?_eq_getElem hvl)
   obtain⟨b7,o7,z,hade,hzi,hcell,hrz⟩:=(hx _ hs.drew.sub).at (i:=v) (by omega)
   clear f9
   refine DWG 0 (λw'=>(Rd w' b6 0 (brC x ax cx)∧w'.cell? ⟨b9,o9+v,none⟩=some (.slice a8 x.press[v].length c8)∧RdB w' a8 x.press[v].length x.press[v])∧(w'.cell? ⟨b7,o7+v,none⟩=some (bbv z)∧RdB w' z.1 z.2.2.length z.2.2)) [11,12] [0,1,2,4,8,9,10,3003,5,3006,3007,1011,1012,13,14,15] ha hs λa ha=>?_
   replace hs:=hs.drew
   generalize w.drew=w at hs hc8 hr8 hcell hrz ⊢
   have hC:(Rd w b6 0 (brC x ax cx)∧w.cell? ⟨b9,o9+v,none⟩=some (.slice a8 x.press[v].length c8)∧RdB w a8 x.press[v].length x.press[v])∧(w.cell? ⟨b7,o7+v,none⟩=some (bbv z)∧RdB w z.1 z.2.2.length z.2.2):=⟨⟨hs.rdAll (b:=b6),hc8,hr8⟩,hcell,hrz⟩
   have hH:=Hd.any (λw'=>(Rd w' b6 0 (brC x ax cx)∧w'.cell? ⟨b9,o9+v,none⟩=some (.slice a8 x.press[v].length c8)∧RdB w' a8 x.press[v].length x.press[v])∧(w'.cell? ⟨b7,o7+v,none⟩=some (bbv z)∧RdB w' z.1 z.2.2.length z.2.2))
   refine RH 2 ha hs hH hC λa ha=>?_
   refine ha.by (s:=44) (λhg1 ha=>?_) (λhg1 ha=>?_)
   ·
    refine RH 4 ha hs hH hC λa ha=>?_
    rw[hade]at ha
    refine RH 1 ha hs hH hC λa ha=>?_
    rw[← hade]at ha
    refine QH ha (λw hc=>ld1 ha (hc.1.1 2 _ rfl)) hC λa ha=>?_
    rw[hax]at ha
    refine RH 1 ha hs hH hC λa ha=>?_
    refine QH ha (λw hc=>ld1 ha (hc.1.2.1)) hC λa ha=>?_
    refine QH ha (λw hc=>ex_toString ha Tryz.underlying22 Tryz.underlying5 Tryz.underlying9 (hc.1.2.2)) hC λa ha=>?_
    refine RH 0 ha hs hH hC λa ha=>?_
    refine st_set ha (wgT ha rfl (s:=44)) (ld1 ha (hC.2.1)) rfl λa ha=>?_
    rw[bbv]at ha
    refine RH 0 ha hs hH hC λa ha=>?_
    refine st_set ha (wgT ha rfl (s:=44)) (ex_toString ha Tryz.underlying22 Tryz.underlying5 Tryz.underlying9 (hC.2.2)) rfl λa ha=>?_
    refine RH 0 ha hs hH hC λa ha=>?_
    refine QP ha (λw=>ex_eqlS ha) λa ha=>?_
    refine RH 2 ha hs hH hC λa ha=>?_
    refine RN 2 ha hs λa ha=>?_
    exact⟨x.press.length-(v+1),by omega,v+1,_,⟨rfl,by omega⟩,ha.keep [0,1,6,7,8,14,15,16,39,40],hs.sub⟩
   refine RH 14 ha hs hH hC λa ha=>?_
   refine RN 2 ha hs λa ha=>?_
   exact⟨x.press.length-(v+1),by omega,v+1,_,⟨rfl,by omega⟩,ha.keep [0,1,6,7,8,14,15,16,39,40],hs.sub⟩
  refine IF 2 ha hs (λhc3 a ha=>?_) λhc3 a ha=>?_
  ·
   refine RT 2 ha hs ?_
   exact⟨_,rfl,λ_=>hTne,hs.sub⟩
  refine RN 2 ha hs λa ha=>?_
  exact⟨T.l.length-(i+1),by omega,i+1,⟨rfl,by omega⟩,ha.keep [0,1,14,15,16],hs.sub⟩
 refine RT 2 ha hs ?_
 exact⟨_,rfl,(λh=>by cases h),hs.sub⟩
end
end
end Go.Proofs.YtdilfdkendjjhaaGreat
