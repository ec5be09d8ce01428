/- slices.SortStableFunc of bytes: it comes to its end, and what is sorted are as many bytes as before; predict.Rank gives as many as are asked for. -/
import Derived.Test.YteoldcfapaiobaaGreatA15Fold
import Derived.Test.YteoldcfapaiobaaGreatA10Wk
import Derived.Test.YteoldcfapaiobaaGreatA16PlainS
import Derived.Test.YteoldcfapaiobaaGreatA08WkP
import Derived.Test.YteoldcfapaiobaaGreatA09Chk2
import Derived.Test.YteoldcfapaiobaaGreatA02Row
import Derived.Laws.StructEq
import Derived.ChangeKeysEq
import Derived.Test.YteoldcfapaiobaaGreatA04Ty
import Derived.ProofKit
import Derived.Deep.Slices
import Derived.Deep.Strs
namespace Go.Proofs.YteoldcfapaiobaaGreat
open Go.RowKit
set_option linter.unusedVariables false
set_option linter.unusedSimpArgs false
set_option maxRecDepth 10000
set_option synthInstance.maxSize 4000
set_option synthInstance.maxHeartbeats 400000
section
structure CmpS (W:World)(L:List SP)(f:FuncId)(us:List Value):Prop where
 c:callable Tryz.prog f=true
 h:∀ {w:World} {M:List SP} {x y:UInt8},St W w M→(∀ {w'},St W w' M→St W w' L)→Calls Tryz.prog f (List.toArray (.int .u8 (x.toNat:Nat)::.int .u8 (y.toNat:Nat)::us)) w λe w'=>∃ z:Int,e=.returned (.int .i64 z)∧St W w' M
abbrev sbS (bb oo m c:Nat)(xs:List UInt8):SP:=Sl 5 1 (some ⟨bb,oo,none⟩) m c (bc xs)
abbrev sv (bb oo m c:Nat):Value:=.slice (some ⟨bb,oo,none⟩) m c
abbrev fv (f:FuncId)(us:List Value):Value:=.func (.func f) #[] us.toArray
theorem bcs (bs:List UInt8)(i:Nat)(x:UInt8):(bc bs).set i (.int .u8 (x.toNat:Int))=bc (bs.set i x):=by rw[bc,bc,List.map_set]
theorem wu {n:Nat}(h:n≤9223372036854775807):IntKind.u64.wrap (n:Int)=n:=by rw[wrap_u64];omega
section
variable {W w:World}{L:List SP}{bb oo m c lo up f n k:Nat}{us:List Value}{xs:List UInt8}
theorem insertion (hs:St W w (sbS bb oo m c xs::L))(hF:CmpS W L f us)(hx:xs.length=m)(hb:up≤m)(hm:m≤1000)(ha0:lo≤m) :
   Calls Tryz.prog 340 #[sv bb oo m c,.int .i64 lo,.int .i64 up,fv f us] w λe w'=>∃ ys:List UInt8,e=.returned (.tuple #[])∧ys.length=m∧St W w' (sbS bb oo m c ys::L):=by
 refine EN Tryz.func340 Tryz.ntmps340 rfl rfl λa ha=>?_
 refine RN 4 ha hs λa ha=>?_
 refine wp_loop_ghost (λμ a w=>∃ (i:Nat) (ys:List UInt8),(μ=up-i∧lo<i∧ys.length=m)∧Fr a 53 [(0,sv bb oo m c),(1,.int .i64 lo),(2,.int .i64 up),(3,fv f us),(8,.int .i64 i)]∧St W w (sbS bb oo m c ys::L)) (up-(lo+1)) (⟨lo+1,xs,⟨rfl,by omega,hx⟩,ha.keep [0,1,2,3,8],hs⟩) ?_
 clear ha hs
 rintro μ a w ⟨i,ys,⟨rfl,hi,hy⟩,ha,hs⟩
 refine IF 5 ha hs (λhc0 a ha=>?_) λhc0 a ha=>?_
 ·
  have him:i<m:=by omega
  refine RN 4 ha hs λa ha=>?_
  refine wp_loop_ghost (λμ a w=>∃ (j:Nat) (zs:List UInt8),(μ=j∧j≤i∧zs.length=m)∧Fr a 53 [(0,sv bb oo m c),(1,.int .i64 lo),(2,.int .i64 up),(3,fv f us),(8,.int .i64 i),(9,.int .i64 j)]∧St W w (sbS bb oo m c zs::L)) (i) (⟨i,ys,⟨rfl,Nat.le_refl _,hy⟩,ha.keep [0,1,2,3,8,9],hs⟩) ?_
  clear ha hs
  rintro μ a w ⟨j,zs,⟨hμ,hj,hz⟩,ha,hs⟩
  have hjz:j<zs.length:=by omega
  have hjz1:j-1<zs.length:=by omega
  refine DWO 2 [13] [0,1,2,3,4,5,6,7,9,10,11,12,3008,1013,1014,15,16] ha hs λa w ha hs hH hC=>?_
  have hr:Rd w bb oo (bc zs):=hs.slRdAt bb oo (by omega)
  refine RH 4 ha hs hH hC λa ha=>?_
  refine ha.by (s:=21) (λhg3 ha=>?_) (λhg3 ha=>?_)
  ·
   refine RH 7 ha hs hH hC λa ha=>?_
   rw[show (j:Int)-1=((j-1:Nat):Int) from by omega]at ha
   refine RH 1 ha hs hH hC λa ha=>?_
   refine QH ha (λw hc=>ld1 ha (hc.cell (hr j _ (bc_at hjz)))) hC λa ha=>?_
   refine RH 0 ha hs hH hC λa ha=>?_
   refine st_set ha (wgT ha rfl (s:=21)) (ld1 ha (hr (j-1) _ (bc_at hjz1))) rfl λa ha=>?_
   refine RH 0 ha hs hH hC λa ha=>?_
   refine CL1 0 ha hs (hF.h hs λh=>h.tail) (hf:=hF.c) λz a w ha hs=>?_
   refine RN 2 ha hs λa ha=>?_
   refine IF 0 ha hs (λhc1 a ha=>?_) λhc1 a ha=>?_
   ·
    refine DWO 1 [13] [0,1,2,3,4,5,6,7,8,10,11,12,3009,1013,14,1015,16,1017] ha hs λa w ha hs hH hC=>?_
    have hr:Rd w bb oo (bc zs):=hs.slRdAt bb oo (by omega)
    refine RH 5 ha hs hH hC λa ha=>?_
    rw[show (j:Int)-1=((j-1:Nat):Int) from by omega]at ha
    refine RH 3 ha hs hH hC λa ha=>?_
    rw[show (j:Int)-1=((j-1:Nat):Int) from by omega]at ha
    refine RH 4 ha hs hH hC λa ha=>?_
    refine QH ha (λw hc=>ld1 ha (hc.cell (hr (j-1) _ (bc_at hjz1)))) hC λa ha=>?_
    refine RH 0 ha hs hH hC λa ha=>?_
    refine SS ha (ld1 ha (hr j _ (bc_at hjz))) λa ha=>?_
    refine RH 1 ha hs hH hC λa ha=>?_
    refine st_storeS (off:=oo) (k:=j) ha rfl hs Ty.t5 rfl (by omega) (by rw[bc_len];omega) λa w ha hs=>?_
    rw[bcs]at hs
    refine RN 1 ha hs λa ha=>?_
    refine st_storeS (off:=oo) (k:=j-1) ha rfl hs Ty.t5 rfl (by omega) (by rw[bc_len,List.length_set];omega) λa w ha hs=>?_
    rw[bcs]at hs
    refine RN 2 ha hs λa ha=>?_
    rw[show (j:Int)-1=((j-1:Nat):Int) from by omega]at ha
    refine RN 1 ha hs λa ha=>?_
    exact⟨j-1,by omega,j-1,_,⟨rfl,by omega,by simp[hz]⟩,ha.keep [0,1,2,3,8,9],hs⟩
   refine RN 3 ha hs λa ha=>?_
   exact⟨up-(i+1),by omega,i+1,zs,⟨rfl,by omega,hz⟩,ha.keep [0,1,2,3,8],hs⟩
  refine RH 13 ha hs hH hC λa ha=>?_
  refine RN 4 ha hs λa ha=>?_
  exact⟨up-(i+1),by omega,i+1,zs,⟨rfl,by omega,hz⟩,ha.keep [0,1,2,3,8],hs⟩
 refine RT 0 ha hs ?_
 exact⟨ys,rfl,hy,hs⟩
theorem swapRange (hs:St W w (sbS bb oo m c xs::L))(hx:xs.length=m)(h1:lo+n≤m)(h2:up+n≤m)(hm:m≤1000) :
   Calls Tryz.prog 344 #[sv bb oo m c,.int .i64 lo,.int .i64 up,.int .i64 n,fv f us] w λe w'=>∃ ys:List UInt8,e=.returned (.tuple #[])∧ys.length=m∧St W w' (sbS bb oo m c ys::L):=by
 refine EN Tryz.func344 Tryz.ntmps344 rfl rfl λa ha=>?_
 refine RN 2 ha hs λa ha=>?_
 refine wp_loop_ghost (λμ a w=>∃ (i:Nat) (zs:List UInt8),(μ=n-i∧i≤n∧zs.length=m)∧Fr a 38 [(0,sv bb oo m c),(1,.int .i64 lo),(2,.int .i64 up),(3,.int .i64 n),(10,.int .i64 i)]∧St W w (sbS bb oo m c zs::L)) (n) (⟨0,xs,⟨rfl,Nat.zero_le _,hx⟩,ha.keep [0,1,2,3,10],hs⟩) ?_
 clear ha hs
 rintro μ a w ⟨i,zs,⟨rfl,hi,hz⟩,ha,hs⟩
 refine IF 5 ha hs (λhc0 a ha=>?_) λhc0 a ha=>?_
 ·
  have hl1:lo+i<zs.length:=by omega
  have hl2:up+i<zs.length:=by omega
  refine DWO 1 [19] [0,1,2,3,4,5,6,7,8,9,10,11,12,14,15,16,17,18,3013,1019,20,1021,22,1023] ha hs λa w ha hs hH hC=>?_
  have hr:Rd w bb oo (bc zs):=hs.slRdAt bb oo (by omega)
  refine RH 18 ha hs hH hC λa ha=>?_
  refine QH ha (λw hc=>ld1 ha (hc.cell (hr (up+i) _ (bc_at hl2)))) hC λa ha=>?_
  refine RH 0 ha hs hH hC λa ha=>?_
  refine SS ha (ld1 ha (hr (lo+i) _ (bc_at hl1))) λa ha=>?_
  refine RH 1 ha hs hH hC λa ha=>?_
  refine st_storeS (off:=oo) (k:=lo+i) ha rfl hs Ty.t5 rfl (by omega) (by rw[bc_len];omega) λa w ha hs=>?_
  rw[bcs]at hs
  refine RN 1 ha hs λa ha=>?_
  refine st_storeS (off:=oo) (k:=up+i) ha rfl hs Ty.t5 rfl (by omega) (by rw[bc_len,List.length_set];omega) λa w ha hs=>?_
  rw[bcs]at hs
  refine RN 3 ha hs λa ha=>?_
  exact⟨n-(i+1),by omega,i+1,_,⟨rfl,by omega,by simp[hz]⟩,ha.keep [0,1,2,3,10],hs⟩
 refine RT 0 ha hs ?_
 exact⟨zs,rfl,hz,hs⟩
theorem rotate (hs:St W w (sbS bb oo m c xs::L))(hx:xs.length=m)(h1:lo<k)(h2:k<up)(h3:up≤m)(hm:m≤1000) :
   Calls Tryz.prog 343 #[sv bb oo m c,.int .i64 lo,.int .i64 k,.int .i64 up,fv f us] w λe w'=>∃ ys:List UInt8,e=.returned (.tuple #[])∧ys.length=m∧St W w' (sbS bb oo m c ys::L):=by
 refine EN Tryz.func343 Tryz.ntmps343 rfl rfl λa ha=>?_
 refine RN 4 ha hs λa ha=>?_
 rw[show (k:Int)-(lo:Int)=((k-lo:Nat):Int) from by omega]at ha
 refine RN 5 ha hs λa ha=>?_
 rw[show (up:Int)-(k:Int)=((up-k:Nat):Int) from by omega]at ha
 refine RN 2 ha hs λa ha=>?_
 refine wp_loop_ghost (λμ a w=>∃ (i j:Nat) (zs:List UInt8),(μ=i+j∧(1≤i∧1≤j)∧(i≤k∧k+j≤m)∧zs.length=m)∧Fr a 58 [(0,sv bb oo m c),(2,.int .i64 k),(4,fv f us),(10,.int .i64 i),(11,.int .i64 j)]∧St W w (sbS bb oo m c zs::L)) (k-lo+(up-k)) (⟨k-lo,up-k,xs,⟨rfl,⟨by omega,by omega⟩,⟨by omega,by omega⟩,hx⟩,ha.keep [0,2,4,10,11],hs⟩) ?_
 clear ha hs
 rintro μ a w ⟨i,j,zs,⟨rfl,⟨hi,hj⟩,⟨hik,hjm⟩,hz⟩,ha,hs⟩
 refine IF 5 ha hs (λhc0 a ha=>?_) λhc0 a ha=>?_
 ·
  refine IF 4 ha hs (λhc1 a ha=>?_) λhc1 a ha=>?_
  ·
   refine RN 5 ha hs λa ha=>?_
   rw[show (k:Int)-(i:Int)=((k-i:Nat):Int) from by omega]at ha
   refine CL1 3 ha hs (swapRange hs hz (by omega) (by omega) hm) λys a w ha ⟨hy,hs⟩=>?_
   refine RN 3 ha hs λa ha=>?_
   rw[show (i:Int)-(j:Int)=((i-j:Nat):Int) from by omega]at ha
   refine RN 1 ha hs λa ha=>?_
   exact⟨i-j+j,by omega,i-j,j,ys,⟨rfl,⟨by omega,by omega⟩,⟨by omega,by omega⟩,hy⟩,ha.keep [0,2,4,10,11],hs⟩
  refine RN 5 ha hs λa ha=>?_
  rw[show (k:Int)-(i:Int)=((k-i:Nat):Int) from by omega]at ha
  refine RN 5 ha hs λa ha=>?_
  rw[show (k:Int)+(j:Int)-(i:Int)=((k+j-i:Nat):Int) from by omega]at ha
  refine CL1 2 ha hs (swapRange hs hz (by omega) (by omega) hm) λys a w ha ⟨hy,hs⟩=>?_
  refine RN 3 ha hs λa ha=>?_
  rw[show (j:Int)-(i:Int)=((j-i:Nat):Int) from by omega]at ha
  refine RN 1 ha hs λa ha=>?_
  exact⟨i+(j-i),by omega,i,j-i,ys,⟨rfl,⟨by omega,by omega⟩,⟨by omega,by omega⟩,hy⟩,ha.keep [0,2,4,10,11],hs⟩
 refine RN 4 ha hs λa ha=>?_
 rw[show (k:Int)-(i:Int)=((k-i:Nat):Int) from by omega]at ha
 refine CL1 3 ha hs (swapRange hs hz (by omega) (by omega) hm) λys a w ha ⟨hy,hs⟩=>?_
 refine RT 0 ha hs ?_
 exact⟨ys,rfl,hy,hs⟩
theorem symMerge (hF:CmpS W L f us)(hm:m≤1000):∀ (d:Nat) {w:World} {xs:List UInt8} {lo k up:Nat},up-lo≤d→xs.length=m→lo<k→k<up→up≤m→St W w (sbS bb oo m c xs::L) →
   Calls Tryz.prog 341 #[sv bb oo m c,.int .i64 lo,.int .i64 k,.int .i64 up,fv f us] w λe w'=>∃ ys:List UInt8,e=.returned (.tuple #[])∧ys.length=m∧St W w' (sbS bb oo m c ys::L):=by
 intro d
 induction d with
 | zero=>intro w xs lo k up hd hx h1 h2 h3 hs;omega
 | succ d ih =>
   intro w xs lo k up hd hx h1 h2 h3 hs
   refine EN Tryz.func341 Tryz.ntmps341 rfl rfl λa ha=>?_
   refine RN 5 ha hs λa ha=>?_
   rw[show (k:Int)-(lo:Int)=((k-lo:Nat):Int) from by omega]at ha
   refine IF 1 ha hs (λhc0 a ha=>?_) λhc0 a ha=>?_
   ·
    refine RN 7 ha hs λa ha=>?_
    refine wp_loop_ghost (λμ a w=>∃ (i j:Nat),(μ=j-i∧(k≤i∧i≤j)∧j≤up)∧Fr a 220 [(0,sv bb oo m c),(1,.int .i64 lo),(2,.int .i64 k),(4,fv f us),(10,.int .i64 i),(11,.int .i64 j)]∧St W w (sbS bb oo m c xs::L)) (up-k) (⟨k,up,⟨rfl,⟨Nat.le_refl _,by omega⟩,Nat.le_refl _⟩,ha.keep [0,1,2,4,10,11],hs⟩) ?_
    clear ha hs
    rintro μ a w ⟨i,j,⟨rfl,⟨hi,hij⟩,hj⟩,ha,hs⟩
    refine IF 5 ha hs (λhc1 a ha=>?_) λhc1 a ha=>?_
    ·
     have hq1:(i+j)/2<xs.length:=by omega
     have hq2:lo<xs.length:=by omega
     refine RN 4 ha hs λa ha=>?_
     rw[show (i:Int)+(j:Int)=((i+j:Nat):Int) from rfl]at ha
     refine SX 0 ha hs (wu (by omega)) λa ha=>?_
     refine RN 1 ha hs λa ha=>?_
     rw[show (((i+j:Nat):Int).fdiv (2 ^ 1))=(((i+j)/2:Nat):Int) from fdivN (i+j) 2]at ha
     refine SX 0 ha hs (wrap_in (by omega) (by omega)) λa ha=>?_
     refine DWO 2 [8] [0,1,2,3,5,6,7,3004,1008,1009,10] ha hs λa w ha hs hH hC=>?_
     have hr:Rd w bb oo (bc xs):=hs.slRdAt bb oo (by omega)
     refine RH 7 ha hs hH hC λa ha=>?_
     refine QH ha (λw hc=>ld1 ha (hc.cell (hr ((i+j)/2) _ (bc_at hq1)))) hC λa ha=>?_
     refine RH 0 ha hs hH hC λa ha=>?_
     refine SS ha (ld1 ha (hr lo _ (bc_at hq2))) λa ha=>?_
     refine RH 0 ha hs hH hC λa ha=>?_
     refine CL1 0 ha hs (hF.h hs λh=>h.tail) (hf:=hF.c) λz a w ha hs=>?_
     refine RN 1 ha hs λa ha=>?_
     refine IF 0 ha hs (λhc2 a ha=>?_) λhc2 a ha=>?_
     ·
      refine RN 3 ha hs λa ha=>?_
      exact⟨j-((i+j)/2+1),by omega,(i+j)/2+1,j,⟨rfl,⟨by omega,by omega⟩,hj⟩,ha.keep [0,1,2,4,10,11],hs⟩
     refine RN 2 ha hs λa ha=>?_
     exact⟨(i+j)/2-i,by omega,i,(i+j)/2,⟨rfl,⟨hi,by omega⟩,by omega⟩,ha.keep [0,1,2,4,10,11],hs⟩
    refine RN 4 ha hs λa ha=>?_
    refine wp_loop_ghost (λμ a w=>∃ (q:Nat) (zs:List UInt8),(μ=i-q∧lo≤q∧zs.length=m)∧Fr a 220 [(0,sv bb oo m c),(10,.int .i64 i),(13,.int .i64 q)]∧St W w (sbS bb oo m c zs::L)) (i-lo) (⟨lo,xs,⟨rfl,Nat.le_refl _,hx⟩,ha.keep [0,10,13],hs⟩) ?_
    clear ha hs
    rintro μ a w ⟨q,zs,⟨rfl,hq,hz⟩,ha,hs⟩
    refine RN 5 ha hs λa ha=>?_
    rw[show (i:Int)-1=((i-1:Nat):Int) from by omega]at ha
    refine IF 1 ha hs (λhc3 a ha=>?_) λhc3 a ha=>?_
    ·
     have hz1:q<zs.length:=by omega
     have hz2:q+1<zs.length:=by omega
     refine DWO 1 [13] [0,1,2,3,4,5,6,7,8,10,11,12,3009,1013,14,1015,16,1017] ha hs λa w ha hs hH hC=>?_
     have hr:Rd w bb oo (bc zs):=hs.slRdAt bb oo (by omega)
     refine RH 12 ha hs hH hC λa ha=>?_
     refine QH ha (λw hc=>ld1 ha (hc.cell (hr (q+1) _ (bc_at hz2)))) hC λa ha=>?_
     refine RH 0 ha hs hH hC λa ha=>?_
     refine SS ha (ld1 ha (hr q _ (bc_at hz1))) λa ha=>?_
     refine RH 1 ha hs hH hC λa ha=>?_
     refine st_storeS (off:=oo) (k:=q) ha rfl hs Ty.t5 rfl (by omega) (by rw[bc_len];omega) λa w ha hs=>?_
     rw[bcs]at hs
     refine RN 1 ha hs λa ha=>?_
     refine st_storeS (off:=oo) (k:=q+1) ha rfl hs Ty.t5 rfl (by omega) (by rw[bc_len,List.length_set];omega) λa w ha hs=>?_
     rw[bcs]at hs
     refine RN 3 ha hs λa ha=>?_
     exact⟨i-(q+1),by omega,q+1,_,⟨rfl,by omega,by simp[hz]⟩,ha.keep [0,10,13],hs⟩
    refine RT 0 ha hs ?_
    exact⟨zs,rfl,hz,hs⟩
   refine RN 5 ha hs λa ha=>?_
   rw[show (up:Int)-(k:Int)=((up-k:Nat):Int) from by omega]at ha
   refine IF 1 ha hs (λhc4 a ha=>?_) λhc4 a ha=>?_
   ·
    refine RN 7 ha hs λa ha=>?_
    refine wp_loop_ghost (λμ a w=>∃ (i j:Nat),(μ=j-i∧(lo≤i∧i≤j)∧j≤k)∧Fr a 220 [(0,sv bb oo m c),(2,.int .i64 k),(4,fv f us),(14,.int .i64 i),(15,.int .i64 j)]∧St W w (sbS bb oo m c xs::L)) (k-lo) (⟨lo,k,⟨rfl,⟨Nat.le_refl _,by omega⟩,Nat.le_refl _⟩,ha.keep [0,2,4,14,15],hs⟩) ?_
    clear ha hs
    rintro μ a w ⟨i,j,⟨rfl,⟨hi,hij⟩,hj⟩,ha,hs⟩
    refine IF 5 ha hs (λhc5 a ha=>?_) λhc5 a ha=>?_
    ·
     have hq1:(i+j)/2<xs.length:=by omega
     have hq2:k<xs.length:=by omega
     refine RN 4 ha hs λa ha=>?_
     rw[show (i:Int)+(j:Int)=((i+j:Nat):Int) from rfl]at ha
     refine SX 0 ha hs (wu (by omega)) λa ha=>?_
     refine RN 1 ha hs λa ha=>?_
     rw[show (((i+j:Nat):Int).fdiv (2 ^ 1))=(((i+j)/2:Nat):Int) from fdivN (i+j) 2]at ha
     refine SX 0 ha hs (wrap_in (by omega) (by omega)) λa ha=>?_
     refine DWO 2 [8] [0,1,2,3,5,6,7,3004,1008,1009,10,11] ha hs λa w ha hs hH hC=>?_
     have hr:Rd w bb oo (bc xs):=hs.slRdAt bb oo (by omega)
     refine RH 7 ha hs hH hC λa ha=>?_
     refine QH ha (λw hc=>ld1 ha (hc.cell (hr k _ (bc_at hq2)))) hC λa ha=>?_
     refine RH 0 ha hs hH hC λa ha=>?_
     refine SS ha (ld1 ha (hr ((i+j)/2) _ (bc_at hq1))) λa ha=>?_
     refine RH 0 ha hs hH hC λa ha=>?_
     refine CL1 0 ha hs (hF.h hs λh=>h.tail) (hf:=hF.c) λz a w ha hs=>?_
     refine RN 2 ha hs λa ha=>?_
     refine IF 0 ha hs (λhc6 a ha=>?_) λhc6 a ha=>?_
     ·
      refine RN 3 ha hs λa ha=>?_
      exact⟨j-((i+j)/2+1),by omega,(i+j)/2+1,j,⟨rfl,⟨by omega,by omega⟩,hj⟩,ha.keep [0,2,4,14,15],hs⟩
     refine RN 2 ha hs λa ha=>?_
     exact⟨(i+j)/2-i,by omega,i,(i+j)/2,⟨rfl,⟨hi,by omega⟩,by omega⟩,ha.keep [0,2,4,14,15],hs⟩
    refine RN 4 ha hs λa ha=>?_
    refine wp_loop_ghost (λμ a w=>∃ (q:Nat) (zs:List UInt8),(μ=q∧q≤k∧zs.length=m)∧Fr a 220 [(0,sv bb oo m c),(14,.int .i64 i),(17,.int .i64 q)]∧St W w (sbS bb oo m c zs::L)) (k) (⟨k,xs,⟨rfl,Nat.le_refl _,hx⟩,ha.keep [0,14,17],hs⟩) ?_
    clear ha hs
    rintro μ a w ⟨q,zs,⟨hμ,hq,hz⟩,ha,hs⟩
    refine IF 5 ha hs (λhc7 a ha=>?_) λhc7 a ha=>?_
    ·
     have hz1:q<zs.length:=by omega
     have hz2:q-1<zs.length:=by omega
     refine DWO 1 [13] [0,1,2,3,4,5,6,7,8,10,11,12,3009,1013,14,1015,16,1017] ha hs λa w ha hs hH hC=>?_
     have hr:Rd w bb oo (bc zs):=hs.slRdAt bb oo (by omega)
     refine RH 5 ha hs hH hC λa ha=>?_
     rw[show (q:Int)-1=((q-1:Nat):Int) from by omega]at ha
     refine RH 3 ha hs hH hC λa ha=>?_
     rw[show (q:Int)-1=((q-1:Nat):Int) from by omega]at ha
     refine RH 4 ha hs hH hC λa ha=>?_
     refine QH ha (λw hc=>ld1 ha (hc.cell (hr (q-1) _ (bc_at hz2)))) hC λa ha=>?_
     refine RH 0 ha hs hH hC λa ha=>?_
     refine SS ha (ld1 ha (hr q _ (bc_at hz1))) λa ha=>?_
     refine RH 1 ha hs hH hC λa ha=>?_
     refine st_storeS (off:=oo) (k:=q) ha rfl hs Ty.t5 rfl (by omega) (by rw[bc_len];omega) λa w ha hs=>?_
     rw[bcs]at hs
     refine RN 1 ha hs λa ha=>?_
     refine st_storeS (off:=oo) (k:=q-1) ha rfl hs Ty.t5 rfl (by omega) (by rw[bc_len,List.length_set];omega) λa w ha hs=>?_
     rw[bcs]at hs
     refine RN 2 ha hs λa ha=>?_
     rw[show (q:Int)-1=((q-1:Nat):Int) from by omega]at ha
     refine RN 1 ha hs λa ha=>?_
     exact⟨q-1,by omega,q-1,_,⟨rfl,by omega,by simp[hz]⟩,ha.keep [0,14,17],hs⟩
    refine RT 0 ha hs ?_
    exact⟨zs,rfl,hz,hs⟩
   refine RN 4 ha hs λa ha=>?_
   rw[show (lo:Int)+(up:Int)=((lo+up:Nat):Int) from rfl]at ha
   refine SX 0 ha hs (wu (by omega)) λa ha=>?_
   refine RN 1 ha hs λa ha=>?_
   rw[show (((lo+up:Nat):Int).fdiv (2 ^ 1))=(((lo+up)/2:Nat):Int) from fdivN (lo+up) 2]at ha
   refine SX 0 ha hs (wrap_in (by omega) (by omega)) λa ha=>?_
   refine RN 1 ha hs λa ha=>?_
   obtain⟨mid,hmid⟩:∃ mid,mid=(lo+up)/2:=⟨_,rfl⟩
   rw[← hmid]at ha
   refine RN 8 ha hs λa ha=>?_
   refine wp_seq_cut (M:=λa w=>∃ s r:Nat,((lo≤s∧mid+k≤s+up)∧s≤r∧r≤mid∧r≤k)∧Fr a 220 [(0,sv bb oo m c),(1,.int .i64 lo),(2,.int .i64 k),(3,.int .i64 up),(4,fv f us),(18,.int .i64 mid),(19,.int .i64 ((mid:Int)+k)),(20,.int .i64 s),(21,.int .i64 r)]∧St W w (sbS bb oo m c xs::L)) ?_ ?_
   ·
    refine IF 4 ha hs (λhc8 a ha=>?_) λhc8 a ha=>?_
    ·
     refine RN 4 ha hs λa ha=>?_
     rw[show (mid:Int)+(k:Int)-(up:Int)=((mid+k-up:Nat):Int) from by omega]at ha
     refine RN 3 ha hs λa ha=>?_
     exact⟨mid+k-up,mid,⟨⟨by omega,by omega⟩,by omega,by omega,by omega⟩,ha.keep [0,1,2,3,4,18,19,20,21],hs⟩
    refine RN 5 ha hs λa ha=>?_
    exact⟨lo,k,⟨⟨by omega,by omega⟩,by omega,by omega,by omega⟩,ha.keep [0,1,2,3,4,18,19,20,21],hs⟩
   clear ha;(try clear hs)
   rintro a w ⟨s0,r0,⟨⟨hs1,hs2⟩,hs3,hs4,hs5⟩,ha,hs⟩
   refine RN 3 ha hs λa ha=>?_
   rw[show (mid:Int)+(k:Int)-1=((mid+k-1:Nat):Int) from by omega]at ha
   refine RN 2 ha hs λa ha=>?_
   refine wp_loop_ghost (λμ a w=>∃ (s r:Nat),(μ=r-s∧(lo≤s∧mid+k≤s+up)∧s≤r∧r≤mid∧r≤k)∧Fr a 220 [(0,sv bb oo m c),(1,.int .i64 lo),(2,.int .i64 k),(3,.int .i64 up),(4,fv f us),(18,.int .i64 mid),(19,.int .i64 ((mid:Int)+k)),(20,.int .i64 s),(21,.int .i64 r),(22,.int .i64 ((mid+k-1:Nat):Int))]∧St W w (sbS bb oo m c xs::L)) (r0-s0) (⟨s0,r0,⟨rfl,⟨hs1,hs2⟩,hs3,hs4,hs5⟩,ha.keep [0,1,2,3,4,18,19,20,21,22],hs⟩) ?_
   clear ha hs
   rintro μ a w ⟨s,r,⟨rfl,⟨g1,g2⟩,g3,g4,g5⟩,ha,hs⟩
   refine IF 5 ha hs (λhc9 a ha=>?_) λhc9 a ha=>?_
   ·
    have hq1:(s+r)/2<xs.length:=by omega
    have hq2:mid+k-1-(s+r)/2<xs.length:=by omega
    refine RN 4 ha hs λa ha=>?_
    rw[show (s:Int)+(r:Int)=((s+r:Nat):Int) from rfl]at ha
    refine SX 0 ha hs (wu (by omega)) λa ha=>?_
    refine RN 1 ha hs λa ha=>?_
    rw[show (((s+r:Nat):Int).fdiv (2 ^ 1))=(((s+r)/2:Nat):Int) from fdivN (s+r) 2]at ha
    refine SX 0 ha hs (wrap_in (by omega) (by omega)) λa ha=>?_
    refine DWO 2 [10] [0,1,2,3,4,5,7,8,9,3006,1010,1011,12,13] ha hs λa w ha hs hH hC=>?_
    have hr:Rd w bb oo (bc xs):=hs.slRdAt bb oo (by omega)
    refine RH 5 ha hs hH hC λa ha=>?_
    rw[show ((mid+k-1:Nat):Int)-(((s+r)/2:Nat):Int)=((mid+k-1-(s+r)/2:Nat):Int) from by omega]at ha
    refine RH 4 ha hs hH hC λa ha=>?_
    refine QH ha (λw hc=>ld1 ha (hc.cell (hr (mid+k-1-(s+r)/2) _ (bc_at hq2)))) hC λa ha=>?_
    refine RH 0 ha hs hH hC λa ha=>?_
    refine SS ha (ld1 ha (hr ((s+r)/2) _ (bc_at hq1))) λa ha=>?_
    refine RH 0 ha hs hH hC λa ha=>?_
    refine CL1 0 ha hs (hF.h hs λh=>h.tail) (hf:=hF.c) λz a w ha hs=>?_
    refine RN 2 ha hs λa ha=>?_
    refine IF 0 ha hs (λhc10 a ha=>?_) λhc10 a ha=>?_
    ·
     refine RN 3 ha hs λa ha=>?_
     exact⟨r-((s+r)/2+1),by omega,(s+r)/2+1,r,⟨rfl,⟨by omega,by omega⟩,by omega,g4,g5⟩,ha.keep [0,1,2,3,4,18,19,20,21,22],hs⟩
    refine RN 2 ha hs λa ha=>?_
    exact⟨(s+r)/2-s,by omega,s,(s+r)/2,⟨rfl,⟨g1,g2⟩,by omega,by omega,by omega⟩,ha.keep [0,1,2,3,4,18,19,20,21,22],hs⟩
   refine RN 4 ha hs λa ha=>?_
   rw[show (mid:Int)+(k:Int)-(s:Int)=((mid+k-s:Nat):Int) from by omega]at ha
   refine RN 1 ha hs λa ha=>?_
   refine wp_seq_cut (M:=λa w=>∃ zs:List UInt8,zs.length=m∧Fr a 220 [(0,sv bb oo m c),(1,.int .i64 lo),(3,.int .i64 up),(4,fv f us),(18,.int .i64 mid),(20,.int .i64 s),(24,.int .i64 ((mid+k-s:Nat):Int))]∧St W w (sbS bb oo m c zs::L)) ?_ ?_
   ·
    refine BY 5 ha hs (λhg3 a ha=>?_) λhg3 a ha=>?_
    ·
     refine IF 4 ha hs (λhc11 a ha=>?_) λhc11 a ha=>?_
     ·
      refine CL1 5 ha hs (rotate hs hx (by omega) (by omega) (by omega) hm) λys a w ha ⟨hy,hs⟩=>?_
      refine RN 0 ha hs λa ha=>?_
      exact⟨ys,hy,ha.keep [0,1,3,4,18,20,24],hs⟩
     refine RN 0 ha hs λa ha=>?_
     exact⟨xs,hx,ha.keep [0,1,3,4,18,20,24],hs⟩
    refine RN 5 ha hs λa ha=>?_
    exact⟨xs,hx,ha.keep [0,1,3,4,18,20,24],hs⟩
   clear ha;(try clear hs)
   rintro a w ⟨zs,hz,ha,hs⟩
   refine wp_seq_cut (M:=λa w=>∃ zs:List UInt8,zs.length=m∧Fr a 220 [(0,sv bb oo m c),(3,.int .i64 up),(4,fv f us),(18,.int .i64 mid),(24,.int .i64 ((mid+k-s:Nat):Int))]∧St W w (sbS bb oo m c zs::L)) ?_ ?_
   ·
    refine BY 5 ha hs (λhg3 a ha=>?_) λhg3 a ha=>?_
    ·
     refine IF 4 ha hs (λhc12 a ha=>?_) λhc12 a ha=>?_
     ·
      refine CL1 5 ha hs (ih (by omega) hz (by omega) (by omega) (by omega) hs) λys a w ha ⟨hy,hs⟩=>?_
      refine RN 0 ha hs λa ha=>?_
      exact⟨ys,hy,ha.keep [0,3,4,18,24],hs⟩
     refine RN 0 ha hs λa ha=>?_
     exact⟨zs,hz,ha.keep [0,3,4,18,24],hs⟩
    refine RN 5 ha hs λa ha=>?_
    exact⟨zs,hz,ha.keep [0,3,4,18,24],hs⟩
   clear ha;(try clear hs)
   rintro a w ⟨zs,hz,ha,hs⟩
   refine BY 5 ha hs (λhg3 a ha=>?_) λhg3 a ha=>?_
   ·
    refine IF 4 ha hs (λhc13 a ha=>?_) λhc13 a ha=>?_
    ·
     refine CL1 5 ha hs (ih (by omega) hz (by omega) (by omega) (by omega) hs) λys a w ha ⟨hy,hs⟩=>?_
     refine RT 0 ha hs ?_
     exact⟨ys,rfl,hy,hs⟩
    refine RT 0 ha hs ?_
    exact⟨zs,rfl,hz,hs⟩
   refine RT 5 ha hs ?_
   exact⟨zs,rfl,hz,hs⟩
theorem stableS (hs:St W w (sbS bb oo m c xs::L))(hF:CmpS W L f us)(hx:xs.length=m)(hm:m≤1000) :
   Calls Tryz.prog 335 #[sv bb oo m c,.int .i64 m,fv f us] w λe w'=>∃ ys:List UInt8,e=.returned (.tuple #[])∧ys.length=m∧St W w' (sbS bb oo m c ys::L):=by
 refine EN Tryz.func335 Tryz.ntmps335 rfl rfl λa ha=>?_
 refine RN 7 ha hs λa ha=>?_
 refine wp_loop_ghost (λμ a w=>∃ (q:Nat) (ys:List UInt8),(μ=m-q∧q≤m∧ys.length=m)∧Fr a 63 [(0,sv bb oo m c),(1,.int .i64 m),(2,fv f us),(6,.int .i64 20),(7,.int .i64 q),(8,.int .i64 ((q+20:Nat):Int))]∧St W w (sbS bb oo m c ys::L)) (m) (⟨0,xs,⟨rfl,Nat.zero_le _,hx⟩,ha.keep [0,1,2,6,7,8],hs⟩) ?_
 clear ha hs
 rintro μ a w ⟨q,ys,⟨rfl,hq,hy⟩,ha,hs⟩
 refine IF 5 ha hs (λhc0 a ha=>?_) λhc0 a ha=>?_
 ·
  refine CL1 5 ha hs (insertion hs hF hy (by omega) hm hq) λzs a w ha ⟨hz,hs⟩=>?_
  refine RN 7 ha hs λa ha=>?_
  exact⟨m-(q+20),by omega,q+20,zs,⟨rfl,by omega,hz⟩,ha.keep [0,1,2,6,7,8],hs⟩
 refine CL1 5 ha hs (insertion hs hF hy (Nat.le_refl _) hm hq) λzs a w ha ⟨hz,hs⟩=>?_
 refine RN 0 ha hs λa ha=>?_
 refine wp_loop_ghost (λμ a w=>∃ (s:Nat) (ys:List UInt8),(μ=m-s∧(1≤s∧s≤2000)∧ys.length=m)∧Fr a 63 [(0,sv bb oo m c),(1,.int .i64 m),(2,fv f us),(6,.int .i64 s)]∧St W w (sbS bb oo m c ys::L)) (m-20) (⟨20,zs,⟨rfl,⟨by decide,by decide⟩,hz⟩,ha.keep [0,1,2,6],hs⟩) ?_
 clear ha hs
 rintro μ a w ⟨s,ys,⟨rfl,⟨hs1,hs2⟩,hy⟩,ha,hs⟩
 refine IF 5 ha hs (λhc1 a ha=>?_) λhc1 a ha=>?_
 ·
  refine RN 3 ha hs λa ha=>?_
  rw[show (2:Int)*(s:Int)=((2*s:Nat):Int) from by omega]at ha
  refine RN 3 ha hs λa ha=>?_
  refine wp_loop_ghost (λμ a w=>∃ (q:Nat) (ys:List UInt8),(μ=m-q∧q≤m∧ys.length=m)∧Fr a 63 [(0,sv bb oo m c),(1,.int .i64 m),(2,fv f us),(6,.int .i64 s),(7,.int .i64 q),(8,.int .i64 ((q+2*s:Nat):Int))]∧St W w (sbS bb oo m c ys::L)) (m) (⟨0,ys,⟨rfl,Nat.zero_le _,hy⟩,(by rw[Nat.zero_add];exact ha.keep [0,1,2,6,7,8]),hs⟩) ?_
  clear ha hs
  rintro μ a w ⟨q,ys,⟨rfl,hq,hy⟩,ha,hs⟩
  refine IF 5 ha hs (λhc2 a ha=>?_) λhc2 a ha=>?_
  ·
   refine RN 6 ha hs λa ha=>?_
   rw[show (q:Int)+(s:Int)=((q+s:Nat):Int) from rfl]at ha
   refine CL1 2 ha hs (symMerge hF hm _ (Nat.le_refl _) hy (by omega) (by omega) (by omega) hs) λzs a w ha ⟨hz,hs⟩=>?_
   refine RN 7 ha hs λa ha=>?_
   rw[show ((q+2*s:Nat):Int)+2*(s:Int)=((q+2*s+2*s:Nat):Int) from by omega]at ha
   refine RN 1 ha hs λa ha=>?_
   exact⟨m-(q+2*s),by omega,q+2*s,zs,⟨rfl,by omega,hz⟩,ha.keep [0,1,2,6,7,8],hs⟩
  refine RN 5 ha hs λa ha=>?_
  rw[show (q:Int)+(s:Int)=((q+s:Nat):Int) from rfl]at ha
  refine IF 5 ha hs (λhc3 a ha=>?_) λhc3 a ha=>?_
  ·
   refine CL1 5 ha hs (symMerge hF hm _ (Nat.le_refl _) hy (by omega) (by omega) (Nat.le_refl _) hs) λzs a w ha ⟨hz,hs⟩=>?_
   refine RN 2 ha hs λa ha=>?_
   rw[show (s:Int)*2=((s*2:Nat):Int) from by omega]at ha
   refine RN 1 ha hs λa ha=>?_
   exact⟨m-s*2,by omega,s*2,zs,⟨rfl,⟨by omega,by omega⟩,hz⟩,ha.keep [0,1,2,6],hs⟩
  refine RN 2 ha hs λa ha=>?_
  rw[show (s:Int)*2=((s*2:Nat):Int) from by omega]at ha
  refine RN 1 ha hs λa ha=>?_
  exact⟨m-s*2,by omega,s*2,ys,⟨rfl,⟨by omega,by omega⟩,hy⟩,ha.keep [0,1,2,6],hs⟩
 refine RT 0 ha hs ?_
 exact⟨ys,rfl,hy,hs⟩
theorem sortStable (hs:St W w (sbS bb oo m c xs::L))(hF:CmpS W L f us)(hx:xs.length=m)(hm:m≤1000) :
   Calls Tryz.prog 327 #[sv bb oo m c,fv f us] w λe w'=>∃ ys:List UInt8,e=.returned (.tuple #[])∧ys.length=m∧St W w' (sbS bb oo m c ys::L):=by
 refine EN Tryz.func327 Tryz.ntmps327 rfl rfl λa ha=>?_
 refine CL1 4 ha hs (stableS hs hF hx hm) λys a w ha ⟨hy,hs⟩=>?_
 refine RT 0 ha hs ?_
 exact⟨ys,rfl,hy,hs⟩
theorem rankCmp {b:Gs}{adT:Option Addr}{cT b3 b7 b8 b9:Nat}{d u:UInt8}{g:Nat→Int}:CmpS W (blk b8 5 [.int .u8 (d.toNat:Nat)]::blk b9 5 [.int .u8 (u.toNat:Nat)]::blk b3 186 (gsC b adT cT)::blk b7 320 (ints .i64 256 g)::L)
   328 [pt b8,pt b9,pt b3,pt b7]:=by
 refine⟨by kernel_rfl,?_⟩
 intro w M x y hs hM
 have hx:=x.toNat_lt
 have hy:=y.toNat_lt
 refine EN Tryz.func328 Tryz.ntmps328 rfl rfl λa ha=>?_
 refine RN 4 ha hs λa ha=>?_
 refine SS ha (ld1 ha ((hM hs).rd1 (b:=b8) rfl)) λa ha=>?_
 refine RN 0 ha hs λa ha=>?_
 refine SS ha (ld1 ha ((hM hs).rd1 (b:=b9) rfl)) λa ha=>?_
 refine RN 0 ha hs λa ha=>?_
 refine SS ha (ex_buildA ha Tryz.underlying423 Ty.t423 Ty.t5 rfl rfl) λa ha=>?_
 refine RN 1 ha hs λa ha=>?_
 refine wp_loop_ghost (λμ a w=>∃ (i:Nat),(μ=2-i∧i≤2)∧Fr a 47 [(0,.int .u8 (x.toNat:Nat)),(1,.int .u8 (y.toNat:Nat)),(4,pt b3),(5,pt b7),(13,.agg #[.int .u8 (d.toNat:Nat),.int .u8 (u.toNat:Nat)]),(14,.int .i64 i)]∧St W w M) (2) (⟨0,⟨rfl,by decide⟩,ha.keep [0,1,4,5,13,14],hs⟩) ?_
 clear ha hs
 rintro μ a w ⟨i,⟨rfl,hi⟩,ha,hs⟩
 refine IF 3 ha hs (λhc0 a ha=>?_) λhc0 a ha=>?_
 ·
  obtain⟨q,hq⟩:∃ q:UInt8,[Value.int .u8 (d.toNat:Nat),Value.int .u8 (u.toNat:Nat)][i]?=some (.int .u8 (q.toNat:Nat)):=by
    have:i=0∨i=1:=by omega
    rcases this with rfl | rfl
    · exact⟨d,rfl⟩
    · exact⟨u,rfl⟩
  refine RN 2 ha hs λa ha=>?_
  refine SS ha (ex_index1 ha Tryz.underlying423 Tryz.underlying5 rfl Ty.t5 (by omega) hq) λa ha=>?_
  refine DWO 3 [9] [0,1001,2,3,4,5,7,8,3006,1009,10,11] ha hs λa w ha hs hH hC=>?_
  refine RH 1 ha hs hH hC λa ha=>?_
  refine SS ha (ld1 ha ((hM hs).rd1 (b:=b3) rfl)) λa ha=>?_
  refine RH 2 ha hs hH hC λa ha=>?_
  refine ha.by (s:=20) (λhg3 ha=>?_) (λhg3 ha=>?_)
  ·
   refine RH 4 ha hs hH hC λa ha=>?_
   refine QH ha (λw hc=>ld1 ha (hc.cell ((hM hs).rd1 (b:=b7) (ints_get g hx)))) hC λa ha=>?_
   refine RH 0 ha hs hH hC λa ha=>?_
   refine st_set ha (wgT ha rfl (s:=20)) (ld1 ha ((hM hs).rd1 (b:=b7) (ints_get g hy))) rfl λa ha=>?_
   refine RH 2 ha hs hH hC λa ha=>?_
   refine IF 0 ha hs (λhc1 a ha=>?_) λhc1 a ha=>?_
   ·
    refine DWO 1 [5] [0,1,3,4,3002,1005,6,7] ha hs λa w ha hs hH hC=>?_
    refine RH 4 ha hs hH hC λa ha=>?_
    refine QH ha (λw hc=>ld1 ha (hc.cell ((hM hs).rd1 (b:=b7) (ints_get g hy)))) hC λa ha=>?_
    refine RH 0 ha hs hH hC λa ha=>?_
    refine SS ha (ld1 ha ((hM hs).rd1 (b:=b7) (ints_get g hx))) λa ha=>?_
    refine RH 0 ha hs hH hC λa ha=>?_
    refine QP ha (λw=>ex_sub ha) λa ha=>?_
    refine RH 1 ha hs hH hC λa ha=>?_
    refine RT 0 ha hs ?_
    exact⟨_,rfl,hs⟩
   refine IF 8 ha hs (λhc2 a ha=>?_) λhc2 a ha=>?_
   ·
    refine IF 5 ha hs (λhc3 a ha=>?_) λhc3 a ha=>?_
    ·
     refine RT 2 ha hs ?_
     exact⟨_,rfl,hs⟩
    refine RT 2 ha hs ?_
    exact⟨_,rfl,hs⟩
   refine RN 2 ha hs λa ha=>?_
   exact⟨2-(i+1),by omega,i+1,⟨rfl,by omega⟩,ha.keep [0,1,4,5,13,14],hs⟩
  refine RH 8 ha hs hH hC λa ha=>?_
  refine IF 9 ha hs (λhc2 a ha=>?_) λhc2 a ha=>?_
  ·
   refine IF 5 ha hs (λhc3 a ha=>?_) λhc3 a ha=>?_
   ·
    refine RT 2 ha hs ?_
    exact⟨_,rfl,hs⟩
   refine RT 2 ha hs ?_
   exact⟨_,rfl,hs⟩
  refine RN 2 ha hs λa ha=>?_
  exact⟨2-(i+1),by omega,i+1,⟨rfl,by omega⟩,ha.keep [0,1,4,5,13,14],hs⟩
 refine RT 2 ha hs ?_
 exact⟨_,rfl,hs⟩
end
theorem rankS:RankS:=by
 refine⟨?_⟩
 intro W w L c k cT ad adT past b hs hb hk hpl hpc hp ht
 refine EN Tryz.func310 Tryz.ntmps310 rfl rfl λa ha=>?_
 refine BX 1 ha hs λb3 a w ha hs=>?_
 change St W w (blk b3 186 (gsC b adT cT)::_) at hs
 refine CL1 4 ha hs (pred_may hs) λr a w ha ⟨hr,hs⟩=>?_
 obtain rfl:=hr.2 hb
 refine RN 1 ha hs λa ha=>?_
 replace ha:=ha.isF 14
 refine CL 4 ha hs (pred_weights hs hb (by omega) hpc (λw' h=>hp _ h.tail)) λa w ha hs=>?_
 refine AL 0 ha hs λb7 a w ha hs=>?_
 rw[rep_ints]at hs
 refine SA 0 ha hs λa w ha hs=>?_
 refine CL 3 ha hs (pred_first hs hb (by omega) hpc (λw' h=>hp _ h.tail.tail) (λw' h=>ht _ h.tail.tail)) λa w ha hs=>?_
 refine CL 1 ha hs (pred_last hs (by omega) (λw' h=>hp _ h.tail.tail)) λa w ha hs=>?_
 refine AL 0 ha hs λb8 a w ha hs=>?_
 refine AL 0 ha hs λb9 a w ha hs=>?_
 refine ST 0 ha hs (λa w ha hs=>?_)
 refine ST 0 ha hs (λa w ha hs=>?_)
 refine RN 5 ha hs λa ha=>?_
 replace hs:St W w (Sl 5 1 none 0 0 (bc [])::_):=hs.sl0 5 1 none
 refine wp_loop_ghost (λμ a w=>∃ (i:Nat) (adl:Option Addr) (cl:Nat) (ys:List UInt8),(μ=256-i∧i≤256∧ys.length=i)∧Fr a 40 [(2,.int .i64 k),(3,pt b3),(7,pt b7),(8,pt b8),(9,pt b9),(10,.slice adl i cl),(23,.int .i64 i)]∧St W w (Sl 5 1 adl i cl (bc ys)::blk b8 5 [.int .u8 ((firstB b past).toNat:Nat)]::blk b9 5 [.int .u8 ((lastB past).toNat:Nat)]::blk b3 186 (gsC b adT cT)::blk b7 320 (ints .i64 256 (wtL b past))::L)) (256) (⟨0,none,0,[],⟨rfl,by decide,rfl⟩,ha.keep [2,3,7,8,9,10,23],hs.sub⟩) ?_
 clear ha hs
 rintro μ a w ⟨i,adl,cl,ys,⟨rfl,hi,hy⟩,ha,hs⟩
 refine IF 3 ha hs (λhc1 a ha=>?_) λhc1 a ha=>?_
 ·
  refine RN 6 ha hs λa ha=>?_
  refine SS ha (ex_convII ha Tryz.underlying3 Tryz.underlying5) λa ha=>?_
  rw[wrap_u8,show (i:Int)%256=(((UInt8.ofNat i).toNat:Nat):Int) from by rw[UInt8.toNat_ofNat'];omega]at ha
  refine RN 0 ha hs λa ha=>?_
  refine st_buildSlice ha rfl hs Tryz.underlying22 Ty.t5 rfl rfl rfl rfl (by decide) (by decide) λb29 a w ha hs ho=>?_
  clear ho
  refine RN 0 ha hs λa ha=>?_
  refine st_append ha rfl hs Tryz.underlying22 Ty.t5 rfl rfl hs.rdAll rfl (bc_one [UInt8.ofNat i]) (by decide) (by decide) (by omega) λad30 c30 a w ha hs=>?_
  rw[show bc ys++_=bc (ys++[UInt8.ofNat i]) from (bc_app _ [_]).symm]at hs
  refine RN 3 ha hs λa ha=>?_
  exact⟨256-(i+1),by omega,i+1,ad30,c30,ys++[UInt8.ofNat i],⟨rfl,by omega,by simp[hy]⟩,ha.keep [2,3,7,8,9,10,23],hs.sub⟩
 refine RN 1 ha hs λa ha=>?_
 obtain rfl:i=256:=by omega
 have hA:=ha
 have hS:=hs
 obtain⟨bb,oo,rfl,_⟩:=hs.slRd adl (by omega)
 have ha:=hA
 have hs:=hS
 have hcl:=(hs.sl (some ⟨bb,oo,none⟩)).2
 refine CL1 2 ha hs (sortStable hs rankCmp hy (by decide)) λzs a w ha ⟨hz,hs⟩=>?_
 refine RN 5 ha hs λa ha=>?_
 rw[show min (max (k:Int) 0) 256=(k:Int) from by omega]at ha
 refine RT 2 ha hs ?_
 have h1:=hs.cutSl (some ⟨bb,oo,none⟩) 0 k (Nat.zero_le _) (by omega)
 rw[Nat.sub_zero,Nat.sub_zero,Nat.mul_one,Nat.zero_mul,List.drop_zero,show (bc zs).take k=bc (zs.take k) from by rw[bc,bc,List.map_take]]at h1
 have hl:(zs.take k).length=k:=by rw[List.length_take];omega
 exact⟨_,_,zs.take k,by rw[hl,Nat.sub_zero,Nat.sub_zero],hl,by rw[hl];exact h1.sub⟩
end
section
instance Cee.fvB {P l x f ws args vs}[ex:Ev l (.tmp x) (.func (.func f) (List.toArray ws) #[])][ev:EvL l args vs]:Cee P l (.value (.tmp x)) args f (ws++vs):=⟨λhb a n w ha _ _ _ _ _ _=>by
 simp[execOp,resolve,ex.ev a n ha,Deferred.ofValue,invoke,ev.ev a n ha,run_callFunc hb]⟩
structure MuB where
 mb:Nat
 B:PlB
 sq:Nat
 r:Nat
 tq:Nat
 jq:Nat
 adw:Option Addr
 cw:Nat
 adO:Option Addr
 cO:Nat
structure Mu where
 s:Pl
 A:Sn
 T:Tr
 J:Js
 ks:List Kx
 base:Nat
 front:Nat
abbrev muC (p:Pr)(M:MuB)(nk base front:Nat):List Value:=[pt M.B.pb,.string p.title,.slice M.adO p.ops.length M.cO,pt M.sq,pt M.tq,pt M.jq,.slice M.adw nk M.cw,.int .i64 base,.int .i64 front]
abbrev MuL (W:World)(M:MuB)(p:Pr)(m:Mu):List SP:=[blk M.mb 177 (muC p M m.ks.length m.base m.front),PlainS W M.B p m.s,RoP W p M.adO M.cO,Sl 179 1 M.adw m.ks.length M.cw (ptrs m.ks),All (ownK p M.adO M.cO M.tq M.jq M.sq) m.ks,Tree M.tq M.sq m.T,Store M.sq M.r m.A,Jobs M.jq m.J]
def MuS (W:World)(M:MuB)(p:Pr)(m:Mu):SP:=λh=>sepL (MuL W M p m) h
section
variable {W w:World}{L R:List SP}{M:MuB}{B:PlB}{p:Pr}{s:Pl}{m:Mu}
theorem MuS.open (hs:St W w (MuS W M p m::L)):St W w (blk M.mb 177 (muC p M m.ks.length m.base m.front)::PlainS W M.B p m.s::RoP W p M.adO M.cO::Sl 179 1 M.adw m.ks.length M.cw (ptrs m.ks)::All (ownK p M.adO M.cO M.tq M.jq M.sq) m.ks::Tree M.tq M.sq m.T::Store M.sq M.r m.A::Jobs M.jq m.J::L):=hs.open (M:=MuL W M p m) λ_ h=>h
theorem MuS.close (hs:St W w (MuL W M p m++L)):St W w (MuS W M p m::L):=St.shut (M:=MuL W M p m) hs λ_ h=>h
theorem MuS.fold (hs:St W w L)(M:MuB)(p:Pr)(m:Mu)[kk:Arr L (blk M.mb 177 (muC p M m.ks.length m.base m.front)::PlainS W M.B p m.s::RoP W p M.adO M.cO::Sl 179 1 M.adw m.ks.length M.cw (ptrs m.ks)::All (ownK p M.adO M.cO M.tq M.jq M.sq) m.ks::Tree M.tq M.sq m.T::Store M.sq M.r m.A::Jobs M.jq m.J::[]) R]:St W w (MuS W M p m::R):=MuS.close (hs.perm kk.perm)
theorem plain_game (hs:St W w (PlainS W B p s::L)):Calls Tryz.prog 94 #[pt B.pb] w λe w'=>e=.returned (.agg (ints .i32 32 s.g).toArray)∧St W w' (PlainS W B p s::L):=by
 replace hs:=PlainS.open hs
 refine EN Tryz.func94 Tryz.ntmps94 rfl rfl λa ha=>?_
 refine AL 1 ha hs λb2 a w ha hs=>?_
 change St W w (blk b2 183 (ints .i32 32 (λ_=>0))::_) at hs
 refine RN 4 ha hs λa ha=>?_
 refine SS ha (ex_loadN ha Tryz.underlying183 rfl Ty.t183 (plC_st (hs.rdAll (b:=B.pb)))) λa ha=>?_
 refine SA 0 ha hs λa w ha hs=>?_
 refine RT 0 ha hs ?_
 exact⟨rfl,(PlainS.fold hs B p s).sub⟩
theorem plain_by (hs:St W w (PlainS W B p s::L)):Calls Tryz.prog 278 #[pt B.pb] w λe w'=>e=.returned (.agg (gsC B.gs B.adT B.cT).toArray)∧St W w' (PlainS W B p s::L):=by
 replace hs:=PlainS.open hs
 refine EN Tryz.func278 Tryz.ntmps278 rfl rfl λa ha=>?_
 refine AL 1 ha hs λb2 a w ha hs=>?_
 refine RN 4 ha hs λa ha=>?_
 refine SS ha (ex_loadN ha Tryz.underlying186 rfl Ty.t186 (plC_by (hs.rdAll (b:=B.pb)))) λa ha=>?_
 refine SA 0 ha hs λa w ha hs=>?_
 refine RT 0 ha hs ?_
 exact⟨rfl,(PlainS.fold hs B p s).sub⟩
theorem mu_plain (hs:St W w (MuS W M p m::L)):Calls Tryz.prog 140 #[pt M.mb] w λe w'=>e=.returned (pt M.B.pb)∧St W w' (MuS W M p m::L):=by
 replace hs:=MuS.open hs
 refine EN Tryz.func140 Tryz.ntmps140 rfl rfl λa ha=>?_
 refine RN 6 ha hs λa ha=>?_
 replace ha:=ha.isF 4
 refine RT 7 ha hs ?_
 exact⟨rfl,MuS.fold hs M p m⟩
theorem mu_core (hs:St W w (MuS W M p m::L)):Calls Tryz.prog 272 #[pt M.mb] w λe w'=>e=.returned (pt M.B.core.cb)∧St W w' (MuS W M p m::L):=by
 refine EN Tryz.func272 Tryz.ntmps272 rfl rfl λa ha=>?_
 refine CL 4 ha hs (mu_plain hs) λa w ha hs=>?_
 replace hs:=MuS.open hs
 refine CL 0 ha hs (plain_core (hs.pick (PlainS W M.B p m.s))) λa w ha hs=>?_
 refine RT 1 ha hs ?_
 exact⟨rfl,MuS.fold hs M p m⟩
theorem mu_closed (hs:St W w (MuS W M p m::L)):Calls Tryz.prog 101 #[pt M.mb] w λe w'=>e=.returned (.bool m.s.k.cl)∧St W w' (MuS W M p m::L):=by
 refine EN Tryz.func101 Tryz.ntmps101 rfl rfl λa ha=>?_
 refine CL 4 ha hs (mu_plain hs) λa w ha hs=>?_
 replace hs:=MuS.open hs
 refine CL 0 ha hs (plain_closed (hs.pick (PlainS W M.B p m.s))) λa w ha hs=>?_
 refine RT 1 ha hs ?_
 exact⟨rfl,MuS.fold hs M p m⟩
end
end
section
section
variable {p:Pr}{F F':Int}{g g0:Nat→Int}{t t':Nat→Nat}{base i:Nat}{A:Sn}{T:Tr}{ws:List Wk}{k:Wk}{P:List (List UInt8)}
theorem Inv.moved (h:Inv p F g0 t base A T ws)(hA:WF A)(hn:A.n+1<1099511627776)(hT:T.l=[])(hg:gOk g) :
   Inv p F' g t' (A.last+1) ((A.add g t').dropId base) T ws:=by
 have hA2:WF (A.add g t'):=hA.add hn g t'
 have hr:∀ x∈(A.add g t').pics,x.refs=1:=by
   intro x hx
   rcases List.mem_append.1 hx with hx | hx
   · exact (h.pics x hx).1
   · rw[List.mem_singleton.1 hx]
 have hnew:∀ z∈A.pics,z.id≠A.last+1:=λz hz e=>by have:=(hA.pic z hz).2.1;omega
 rw[dropId_pics hA2 hr]
 refine⟨?_,λx hx=>?_,λx hx he=>?_,λy hy=>?_,λk hk=>⟨(h.wks k hk).1,λ_ y hy=>?_⟩⟩
 · simp only
   rw[map_filter_id]
   have h1:((A.add g t').pics.map (·.id)).Perm (base::(A.last+1)::(T.l.map (·.snap)++heldW ws)):=by
     simp only[Sn.add,List.map_append,List.map_cons,List.map_nil]
     exact ((List.perm_append_singleton _ _).trans (h.perm.cons _)).trans (List.Perm.swap _ _ _)
   exact perm_drop (List.Perm.refl _) h1 hA2.nd
 · have hx:=memF hx
   rcases List.mem_append.1 hx with hx | hx
   · exact h.pics x hx
   · rw[List.mem_singleton.1 hx];exact⟨rfl,hg⟩
 · have hx:=memF hx
   rcases List.mem_append.1 hx with hx | hx
   · exact absurd he (hnew x hx)
   · rw[List.mem_singleton.1 hx];exact⟨rfl,rfl⟩
 · rw[hT]at hy;cases hy
 · rw[hT]at hy;cases hy
theorem heldW_none (h:∀ k∈ws,k.busy=false):heldW ws=[]:=by
 rw[heldW,List.filter_eq_nil_iff.2 (λk hk=>by rw[h k hk];decide)];rfl
theorem dropAll_room:∀ (l:List Br) (A:Sn),(A.dropAll l).room=A.room∧(A.dropAll l).n=A.n∧(A.dropAll l).last=A.last
 | [],_=>⟨rfl,rfl,rfl⟩
 | y::l,A=>by
   have h1:=dropAll_room l (A.dropId y.snap)
   have h2:=dropId_same A y.snap
   show ((A.dropId y.snap).dropAll l).room=_∧((A.dropId y.snap).dropAll l).n=_∧((A.dropId y.snap).dropAll l).last=_
   exact⟨h1.1.trans h2.1,h1.2.1.trans h2.2.1,h1.2.2.trans h2.2.2⟩
def knB (ls:List (List UInt8))(f:Nat)(j:List UInt8):Bool:=(List.range j.length).all λq=>!(decide (f<(ls.getD q []).length)&&(ls.getD q []).getD f 0 != j.getD q 0)
def knP (ls:List (List UInt8))(f:Nat)(P:List (List UInt8)):Bool:=(List.range P.length).all λi=>knB ls (f+i) (P.getD i [])
theorem knB_no {ls:List (List UInt8)}{f q:Nat}{j:List UInt8}(hq:q<j.length)(h1:f<(ls.getD q []).length)(h2:(ls.getD q []).getD f 0≠j.getD q 0):knB ls f j=false:=by
 rw[knB,List.all_eq_false]
 exact⟨q,List.mem_range.2 hq,by rw[decide_eq_true h1,Bool.true_and,bne_iff_ne.2 h2];decide⟩
theorem knB_yes {ls:List (List UInt8)}{f:Nat}{j:List UInt8}(h:∀ q,q<j.length→f<(ls.getD q []).length→(ls.getD q []).getD f 0=j.getD q 0):knB ls f j=true:=by
 rw[knB,List.all_eq_true]
 intro q hq
 have:=h q (List.mem_range.1 hq)
 by_cases h1:f<(ls.getD q []).length
 · rw[decide_eq_true h1,Bool.true_and,this h1,bne_self_eq_false];rfl
 · rw[decide_eq_false h1,Bool.false_and];rfl
theorem knP_no {ls:List (List UInt8)}{f i:Nat}{P:List (List UInt8)}(hi:i<P.length)(h:knB ls (f+i) (P.getD i [])=false):knP ls f P=false:=by
 rw[knP,List.all_eq_false]
 exact⟨i,List.mem_range.2 hi,by rw[h];decide⟩
theorem knP_yes {ls:List (List UInt8)}{f:Nat}{P:List (List UInt8)}(h:∀ i,i<P.length→knB ls (f+i) (P.getD i [])=true):knP ls f P=true:=by
 rw[knP,List.all_eq_true]
 intro i hi
 exact h i (List.mem_range.1 hi)
end
end
section
section
variable {W w:World}{L:List SP}{q r:Nat}{A:Sn}
theorem distinct_le (l:List Nat):distinct l≤l.length:=by
 induction l with
 | nil=>exact Nat.le_refl _
 | cons x l ih=>rw[distinct,List.length_cons];split <;> omega
theorem pages_len (l:List Pic):(pagesOf l).length=4*l.length:=by
 induction l with
 | nil=>rfl
 | cons x l ih=>show (_++pagesOf l).length=_;rw[List.length_append,ih,List.length_cons];simp;omega
theorem Store.used_le (hs:St W w (Store q r A::L)):A.used≤4*A.pics.length:=by
 rw[Store.used hs];have:=distinct_le (pagesOf A.pics);rw[pages_len]at this;exact this
end
end
section
theorem Tl.rest {N L:List SP}{A:SP}(t:Tl N (A::L)):Tl N L:=⟨let ⟨K,h⟩:=t.h;⟨K++[A],by simpa using h⟩⟩
section
variable {W w:World}{L:List SP}{n i tq sq r:Nat}{M:MuB}{B:PlB}{x:UInt8}{p:Pr}{s:Pl}{m:Mu}{A:Sn}{T:Tr}{F:Int}{g0:Nat→Int}{t:Nat→Nat}{px:Pic}
theorem tree_keep {kp:Br→Bool}{g:Nat}{ws:List Value}(hs:St W w (Tree tq sq T::Store sq r A::L))(he:T.epoch+1<1099511627776)(hcl:callable Tryz.prog g=true)
   (hg:∀ (N:List SP) (w':World) (x:Br) (ad':Option Addr) (c':Nat),x∈T.l→St W w' N→Tl N L→RdZ W N ad' x.press→x.press.length≤c'→OkP x.press →
     Calls Tryz.prog g (ws++[Value.agg (brC x ad' c').toArray]).toArray w' λe w''=>e=.returned (.bool (kp x))∧St W w'' N) :
   Calls Tryz.prog 287 #[pt tq,.func (.func g) ws.toArray #[]] w λe w'=>(∃ v:Int,e=.returned (.int .i64 v)) ∧
     St W w' (Tree tq sq (T.cut λx=>!kp x)::Store sq r (A.dropAll (T.l.filter λx=>!kp x))::L):=by
 have hF : ∀ (b3 : Nat) (N : List SP) (w' : World) (x : Br) (ad' : Option Addr) (c' : Nat), x ∈ T.l → St W w' N → Tl N (blk b3 343 [.func (.func g) ws.toArray #[]] :: L) → RdZ W N ad' x.press → x.press.length ≤ c' → OkP x.press →
     Calls Tryz.prog 304 (List.toArray [.agg (brC x ad' c').toArray,pt b3]) w' λe w''=>e=.returned (.bool (!kp x))∧St W w'' N:=by
   intro b3 N w x ad' c' hxt hs hM hx hxc hox
   refine EN Tryz.func304 Tryz.ntmps304 rfl rfl λa ha=>?_
   refine BX 1 ha hs λb2 a w ha hs=>?_
   refine RN 2 ha hs λa ha=>?_
   have hs5:=hs.tail.tl hM
   refine SS ha (ld1 ha (hs5.rd1 rfl)) λa ha=>?_
   refine CL 1 ha hs (hg (blk b2 238 (brC x ad' c')::N) _ x ad' c' hxt hs (@Tl.cons _ _ _ hM.rest) (hx.imp λzs h=>⟨h.1,λw'' h2=>h.2 _ h2.tail⟩) hxc hox) (hf:=hcl) λa w ha hs=>?_
   refine RT 2 ha hs ?_
   exact⟨rfl,hs.tail⟩
 refine EN Tryz.func287 Tryz.ntmps287 rfl rfl λa ha=>?_
 refine BX 1 ha hs λb3 a w ha hs=>?_
 refine CL 4 ha hs (tree_drop (tq:=tq) (sq:=sq) (r:=r) (A:=A) (T:=T) (wh:=λx=>!kp x) (us:=[pt b3]) (L:=blk b3 343 [.func (.func g) ws.toArray #[]]::L) hs.sub he (by kernel_rfl) (hF b3)) λa w ha hs=>?_
 refine RT 1 ha hs ?_
 exact⟨⟨_,rfl⟩,hs.sub⟩
theorem mu_rest (hs:St W w (MuS W M p m::L))(hI:Inv p F g0 t m.base m.A m.T (m.ks.map (·.1)))(he:m.T.epoch+1<1099511627776)(h4:m.ks.length≤4) :
   Calls Tryz.prog 302 #[pt M.mb] w λe w'=>∃ (A':Sn) (ks':List Kx),e=.returned (.tuple #[]) ∧
     (Inv p F g0 t m.base A' (m.T.cut λ_=>true) (ks'.map (·.1))∧ks'.length=m.ks.length∧(∀ k∈ks',k.1.busy=false)∧A'.room=m.A.room∧A'.n=m.A.n) ∧
     St W w' (MuS W M p { m with A:=A',ks:=ks',T:=m.T.cut λ_=>true }::L):=by
 obtain⟨mb,B,sq,r,tq,jq,adw,cw,adO,cO⟩:=M
 obtain⟨s,A,T,J,ks,base,front⟩:=m
 replace hs:=MuS.open hs
 simp only at hI he h4
 refine EN Tryz.func302 Tryz.ntmps302 rfl rfl λa ha=>?_
 refine RN 8 ha hs λa ha=>?_
 refine wp_loop_ghost (λμ a w=>∃ (i:Nat) (A1:Sn) (ks1:List Kx),(μ=ks.length-i∧i≤ks.length∧ks1.length=ks.length∧(∀ (j:Nat) (k:Kx),j<i→ks1[j]?=some k→k.1.busy=false)∧Inv p F g0 t base A1 T (ks1.map (·.1))∧A1.room=A.room∧A1.n=A.n)∧Fr a 21 [(0,pt mb),(7,.slice adw ks.length cw),(8,.int .i64 ks.length),(9,.int .i64 i)]∧St W w (blk mb 177 (muC p ⟨mb,B,sq,r,tq,jq,adw,cw,adO,cO⟩ ks.length base front)::PlainS W B p s::RoP W p adO cO::Sl 179 1 adw ks.length cw (ptrs ks1)::All (ownK p adO cO tq jq sq) ks1::Tree tq sq T::Store sq r A1::Jobs jq J::L)) (ks.length) (⟨0,A,ks,⟨rfl,by omega,rfl,λj k h=>absurd h (by omega),hI,rfl,rfl⟩,ha.keep [0,7,8,9],hs.sub⟩) ?_
 clear ha hs
 rintro μ a w ⟨i,A1,ks1,⟨rfl,hi,hkl,hidle,hI1,hrm,hnn⟩,ha,hs⟩
 refine IF 3 ha hs (λhc0 a ha=>?_) λhc0 a ha=>?_
 ·
  have hik:i<ks1.length:=by omega
  obtain⟨⟨k,wb⟩,hk⟩:∃ y,ks1[i]?=some y:=⟨_,List.getElem?_eq_getElem hik⟩
  obtain⟨b',off',rfl,hrd⟩:=hs.slRd adw (by omega)
  refine RN 3 ha hs λa ha=>?_
  refine SS ha (ld1 ha (hrd i _ (ptrs_at hk))) λa ha=>?_
  refine CL2 2 ha hs (shop_rest ((hs.store sq).pick (All (ownK p adO cO tq jq sq) ks1)) hk hI1) λA2 k2 a w ha ⟨⟨hk2,hI2,hr2,hn2⟩,hs⟩=>?_
  rw[← ptrs_set (k':=k2) hk]at hs
  refine RN 2 ha hs λa ha=>?_
  refine⟨ks.length-(i+1),by omega,i+1,A2,ks1.set i (k2,wb),⟨rfl,by omega,by rw[List.length_set];exact hkl,λj z hj hz=>?_,hI2,hr2.trans hrm,hn2.trans hnn⟩,ha.keep [0,7,8,9],hs.sub⟩
  rw[List.getElem?_set]at hz
  split at hz
  · cases hz;exact hk2
  · exact hidle j z (by omega) hz
 refine RN 0 ha hs λa ha=>?_
 have hs0:=hs
 refine CL 4 ha hs (tree_clear ((hs.store sq).tree tq) he) λa w ha hs=>?_
 refine RT 0 ha hs ?_
 obtain rfl:i=ks.length:=by omega
 have hA1:=hI1.cut (Store.facts (hs0.store sq)).1 (λ_=>true)
 rw[show T.l.filter (λ_=>true)=T.l from by simp]at hA1
 have hd:=dropAll_room T.l A1
 refine⟨A1.dropAll T.l,ks1,rfl,⟨hA1,hkl,λk hk=>?_,hd.1.trans hrm,hd.2.1.trans hnn⟩,?_⟩
 · obtain⟨j,hj⟩:=List.mem_iff_getElem?.1 hk
   exact hidle j k (by have:=(List.getElem?_eq_some_iff.1 hj).1;omega) hj
 · rw[← hkl]at hs
   exact MuS.fold hs ⟨mb,B,sq,r,tq,jq,adw,cw,adO,cO⟩ p ⟨s,A1.dropAll T.l,T.cut λ_=>true,J,ks1,base,front⟩
theorem mu_picture {id:Nat}(hs:St W w (MuS W M p m::L))(hx:m.A.pics[i]?=some px)(hid:px.id=id) :
   Calls Tryz.prog 274 #[pt M.mb,.int .i64 id] w λe w'=>e=.returned (.agg (ints .i32 32 px.g).toArray)∧St W w' (MuS W M p m::L):=by
 replace hs:=MuS.open hs
 refine EN Tryz.func274 Tryz.ntmps274 rfl rfl λa ha=>?_
 refine AL 1 ha hs λb4 a w ha hs=>?_
 change St W w (blk b4 183 (ints .i32 32 (λ_=>0))::_) at hs
 refine CL 6 ha hs (snap_state_id (hs.store M.sq) hx hid) λa w ha hs=>?_
 refine AL 3 ha hs λb5 a w ha hs=>?_
 change St W w (blk b5 183 (ints .i32 32 (λ_=>0))::_) at hs
 refine SA 0 ha hs λa w ha hs=>?_
 refine SA 3 ha hs λa w ha hs=>?_
 refine RT 0 ha hs ?_
 exact⟨rfl,(MuS.fold hs M p m).sub⟩
structure Moved (p:Pr)(M:MuB)(m m':Mu)(t':Nat→Nat):Prop where
 inv:Inv p (frontK m.s.k:Int) m.s.g t' m'.base m'.A m'.T (m'.ks.map (·.1))
 s:m'.s=m.s
 J:m'.J=m.J
 front:m'.front=frontK m.s.k
 room:m'.A.room=m.A.room
 n:m'.A.n≤m.A.n+1
 last:m'.T.last=m.T.last
 most:m'.T.most=m.T.most
 ep:m'.T.epoch≤m.T.epoch+2
 ks:m'.ks.length=m.ks.length
 tr:(m'.T=m.T∧m'.A=m.A∧m'.ks=m.ks)∨m'.T.l=[]
 same:m.front=frontK m.s.k→m'.T=m.T∧m'.A=m.A∧m'.ks=m.ks
theorem mu_move (hs:St W w (MuS W M p m::L))(hw:WF' p m.s)(hg:gOk m.s.g)(hI:Inv p (m.front:Int) g0 t m.base m.A m.T (m.ks.map (·.1)))(hfr:m.front=frontK m.s.k→g0=m.s.g)
   (he:m.T.epoch+2<1099511627776) (hn:m.A.n+1<1099511627776) (h4:m.ks.length≤4) (hR:12≤m.A.room) :
   Calls Tryz.prog 286 #[pt M.mb] w λe w'=>∃ (m':Mu) (t':Nat→Nat),e=.returned (.tuple #[])∧Moved p M m m' t'∧St W w' (MuS W M p m'::L):=by
 have hne:=hw.wc.lne
 have hl8:m.s.k.ls.length≤8:=by rw[hw.wc.ls];exact hw.wc.n.2
 obtain⟨mb,B,sq,r,tq,jq,adw,cw,adO,cO⟩:=M
 obtain⟨s,A,T,J,ks,base,front⟩:=m
 obtain⟨i,px,hpx,hpid⟩:=hI.pic (List.mem_cons_self ..)
 have hF : ∀ (N : List SP) (w' : World) (x : Br) (ad' : Option Addr) (c' : Nat), St W w' N →
     Calls Tryz.prog 301 ([]++[Value.agg (brC x ad' c').toArray]).toArray w' λe w''=>e=.returned (.bool false)∧St W w'' N:=by
   intro N w x ad' c' hs
   refine EN Tryz.func301 Tryz.ntmps301 rfl rfl λa ha=>?_
   refine BX 1 ha hs λb1 a w ha hs=>?_
   refine RT 3 ha hs ?_
   exact⟨rfl,hs.tail⟩
 simp only at hw hg hI hfr he hn h4 hR hne hl8 hpx hpid
 subst hpid
 replace hs:=MuS.open hs
 dsimp only at hs
 refine EN Tryz.func286 Tryz.ntmps286 rfl rfl λa ha=>?_
 refine CL 5 ha hs (plain_core (hs.pick (PlainS W B p s))) λa w ha hs=>?_
 replace hs:=PlainS.open hs
 refine CL 0 ha hs (core_queue (hs.pick (CoreS B.core s.k))) λa w ha hs=>?_
 obtain⟨D,hs,hD⟩:=CoreS.qu hs
 refine CL 0 ha hs (queue_front hs hne hl8) λa w ha hs=>?_
 refine RN 1 ha hs λa ha=>?_
 replace hs:=(PlainS.fold (hD _ _ hs) B p s)
 refine IF 8 ha hs (λhc0 a ha=>?_) λhc0 a ha=>?_
 ·
  have hff:front=frontK s.k:=by rw[frontK];omega
  refine RT 0 ha hs ?_
  exact⟨⟨s,A,T,J,ks,px.id,front⟩,t,rfl,⟨by rw[← hff,← hfr hff];exact hI,rfl,rfl,hff,rfl,by simp only;omega,rfl,rfl,by simp only;omega,rfl,.inl ⟨rfl,rfl,rfl⟩,λ_=>⟨rfl,rfl,rfl⟩⟩,MuS.fold hs ⟨mb,B,sq,r,tq,jq,adw,cw,adO,cO⟩ p ⟨s,A,T,J,ks,px.id,front⟩⟩
 refine RN 5 ha hs λa ha=>?_
 have hIc:=hI.cut (Store.facts (hs.store sq)).1 (λ_=>true)
 have hdr:=dropAll_room (T.l.filter λ_=>true) A
 have hTl:(T.cut λ_=>true).l=[]:=by simp[Tr.cut]
 have hTe:(T.cut λ_=>true).epoch≤T.epoch+1:=by simp only[Tr.cut];split <;> omega
 refine CLX 0 ha hs (tree_keep (kp:=λ_=>false) (ws:=[]) ((hs.store sq).tree tq) (by omega) (by kernel_rfl) (λN w' x ad' c' _ h1 _ _ _ _=>hF N w' x ad' c' h1)) ?_
 clear ha hs
 rintro e w ⟨⟨_,rfl⟩,hs⟩
 refine⟨_,rfl,λa ha=>?_⟩
 replace hs:St W w (Tree tq sq (T.cut λ_=>true)::Store sq r (A.dropAll (T.l.filter λ_=>true))::_):=hs
 generalize A.dropAll (T.l.filter λ_=>true)=A1 at hs hIc hdr
 have hT1:(T.cut λ_=>true).last=T.last∧(T.cut λ_=>true).most=T.most:=⟨rfl,rfl⟩
 generalize (T.cut λ_=>true)=T1 at hs hIc hTl hTe hT1
 obtain⟨i1,px1,hpx1,hpid1⟩:=hIc.pic (List.mem_cons_self ..)
 rw[← hpid1]at hs hIc
 refine RN 0 ha hs λa ha=>?_
 refine wp_seq_cut (M:=λa w=>∃ (A2:Sn) (T2:Tr) (ks2:List Kx),(A2.used+4≤A2.room∧Inv p (front:Int) g0 t px1.id A2 T2 (ks2.map (·.1))∧T2.l=[]∧T2.epoch≤T.epoch+2∧T2.last=T.last∧T2.most=T.most∧ks2.length=ks.length∧A2.room=A.room∧A2.n=A.n)∧Fr a 73 [(0,pt mb),(2,.int .i64 (frontL s.k.ls))]∧St W w (MuS W ⟨mb,B,sq,r,tq,jq,adw,cw,adO,cO⟩ p ⟨s,A2,T2,J,ks2,px1.id,front⟩::L)) ?_ ?_
 ·
  refine DWC 1 (λw0 w'=>Rd w' mb 0 (muC p ⟨mb,B,sq,r,tq,jq,adw,cw,adO,cO⟩ ks.length px1.id front)) [7,11,12,13] [0,1,2,4,5,6,8,9,10,3003,3007,1011,1012,1013,1014,15] ha hs λa w ha hs hH=>?_
  have hC:=hH.at w (hs.rdAll (b:=mb))
  refine RH 9 ha hs hH hC λa ha=>?_
  refine QH ha (λw hc=>ld1 ha (hc 3 _ rfl)) hC λa ha=>?_
  refine QH ha (λw hc=>ld1 ha (hc 3 _ rfl)) hC λa ha=>?_
  refine RH 0 ha hs hH hC λa ha=>?_
  refine SS ha (ld1 ha (hC 7 _ rfl)) λa ha=>?_
  refine RH 0 ha hs hH hC λa ha=>?_
  refine CL2 0 ha hs (snap_pages (hs.store sq) hpx1) λadp cp a w ha hs=>?_
  replace hC:=hH.at w (hs.rdAll (b:=mb))
  refine RH 1 ha hs hH hC λa ha=>?_
  refine CL 0 ha hs (snap_has (hs.store sq)) λa w ha hs=>?_
  refine RN 1 ha hs λa ha=>?_
  refine IF 0 ha hs (λhc1 a ha=>?_) λhc1 a ha=>?_
  ·
   replace hs:=MuS.fold hs ⟨mb,B,sq,r,tq,jq,adw,cw,adO,cO⟩ p ⟨s,A1,T1,J,ks,px1.id,front⟩
   refine CL2 1 ha hs (mu_rest hs hIc (by dsimp only;omega) h4) λA2 ks2 a w ha ⟨⟨hI2,hk2,hid2,hr2,hn2⟩,hs⟩=>?_
   refine RN 0 ha hs λa ha=>?_
   have hcl:(T1.cut λ_=>true).l=[]:=by simp[Tr.cut]
   have hce:(T1.cut λ_=>true).epoch≤T1.epoch+1:=by simp only[Tr.cut];split <;> omega
   have hu:=Store.used_le ((MuS.open hs).store sq)
   have hln:=hI2.len
   rw[heldW_none (λk hk=>by obtain⟨y,hy,rfl⟩:=List.mem_map.1 hk;exact hid2 y hy)]at hln
   simp only[hcl,List.length_nil]at hln hr2 hn2 hk2 hu
   exact⟨A2,T1.cut λ_=>true,ks2,⟨by rw[hr2,hdr.1];omega,hI2,hcl,by omega,hT1.1,hT1.2,hk2,by rw[hr2,hdr.1],by rw[hn2,hdr.2.1]⟩,ha.keep [0,2],hs.sub⟩
  refine RN 0 ha hs λa ha=>?_
  exact⟨A1,T1,ks,⟨by omega,hIc,hTl,by omega,hT1.1,hT1.2,rfl,hdr.1,hdr.2.1⟩,ha.keep [0,2],(MuS.fold hs ⟨mb,B,sq,r,tq,jq,adw,cw,adO,cO⟩ p ⟨s,A1,T1,J,ks,px1.id,front⟩).sub⟩
 clear ha;(try clear hs)
 rintro a w ⟨A2,T2,ks2,⟨hus,hI2,hT2,hE2,hL2,hM2,hk2,hr2,hn2⟩,ha,hs⟩
 refine RN 1 ha hs λa ha=>?_
 replace hs:=MuS.open hs
 dsimp only at hs
 refine DWC 0 (λw0 w'=>Rd w' mb 0 (muC p ⟨mb,B,sq,r,tq,jq,adw,cw,adO,cO⟩ ks2.length px1.id front)) [7,8] [0,1,2,4,5,6,3003,1007,1008,1009,10,11,12,13,14] ha hs λa w ha hs hH=>?_
 have hC:=hH.at w (hs.rdAll (b:=mb))
 refine RH 6 ha hs hH hC λa ha=>?_
 refine QH ha (λw hc=>ld1 ha (hc 3 _ rfl)) hC λa ha=>?_
 refine RH 0 ha hs hH hC λa ha=>?_
 refine SS ha (ld1 ha (hC 0 _ rfl)) λa ha=>?_
 refine RH 0 ha hs hH hC λa ha=>?_
 refine CL 0 ha hs (plain_game (hs.pick (PlainS W B p s))) λa w ha hs=>?_
 replace hC:=hH.at w (hs.rdAll (b:=mb))
 have hA2:=(Store.facts (hs.store sq)).1
 refine RH 0 ha hs hH hC λa ha=>?_
 refine CL1 0 ha hs (snap_make (g:=s.g) (hs.store sq) hus (by omega)) λt' a w ha ⟨⟨ht1,ht2⟩,hs⟩=>?_
 refine RN 5 ha hs λa ha=>?_
 refine RN 4 ha hs λa ha=>?_
 replace ha:=ha.isF 55
 refine DWC 2 (λw0 w'=>Rd w' mb 0 (muC p ⟨mb,B,sq,r,tq,jq,adw,cw,adO,cO⟩ ks2.length px1.id front)) [7] [0,1,2,4,5,6,3003,1007,1008] ha hs λa w ha hs hH=>?_
 have hC:=hH.at w (hs.rdAll (b:=mb))
 refine RH 6 ha hs hH hC λa ha=>?_
 refine QH ha (λw hc=>ld1 ha (hc 3 _ rfl)) hC λa ha=>?_
 refine RH 0 ha hs hH hC λa ha=>?_
 refine SS ha (ld1 ha (hC 7 _ rfl)) λa ha=>?_
 refine RH 0 ha hs hH hC λa ha=>?_
 refine CL1 0 ha hs (snap_dropId (hs.store sq)) λ_ a w ha hs=>?_
 refine ST 6 ha hs (λa w ha hs=>?_)
 refine ST 2 ha hs (λa w ha hs=>?_)
 refine RT 0 ha hs ?_
 have hm:=hI2.moved (F':=(frontK s.k:Int)) (g:=s.g) (t':=t') hA2 (by omega) hT2 hg
 have hd:=dropId_same (A2.add s.g t') px1.id
 exact⟨⟨s,(A2.add s.g t').dropId px1.id,T2,J,ks2,A2.last+1,frontL s.k.ls⟩,t',rfl,⟨hm,rfl,rfl,rfl,hd.1.trans hr2,by rw[hd.2.1];show A2.n+1≤A.n+1;omega,hL2,hM2,hE2,hk2,.inr hT2,λe=>(by have e2:front=frontL s.k.ls:=e;exfalso;omega)⟩,MuS.fold hs ⟨mb,B,sq,r,tq,jq,adw,cw,adO,cO⟩ p ⟨s,(A2.add s.g t').dropId px1.id,T2,J,ks2,A2.last+1,frontL s.k.ls⟩⟩
end
end
section
theorem RdX.at {w:World}{ad:Option Addr}{xs:List BBx}(h:RdX w ad xs){i:Nat}(hi:i<xs.length):∃ b off x,ad=some ⟨b,off,none⟩∧xs[i]?=some x∧w.cell? ⟨b,off+i,none⟩=some (bbv x)∧RdB w x.1 x.2.2.length x.2.2:=by
 obtain⟨b,off,hb,hr⟩:=h.1 (by omega)
 have hx:xs[i]?=some xs[i]:=List.getElem?_eq_getElem hi
 exact⟨b,off,xs[i],hb,hx,hr i _ (by rw[List.getElem?_map,hx];rfl),h.2 _ (List.mem_of_getElem? hx)⟩
end
end Go.Proofs.YteoldcfapaiobaaGreat
