/- The document's guesses: quintainref12.MayBy, weights, ahead, Rank, Chain. -/
import Derived.Test.YteoldcfapaiobaaGreatI10Core
import Derived.Test.YteoldcfapaiobaaGreatI08Pkt3
import Derived.Test.YteoldcfapaiobaaGreatI09CoQ
import Derived.Test.YteoldcfapaiobaaGreatI01Row
namespace Go.Proofs.YteoldcfapaiobaaGreat
open Tryz
open List (drop_zero nil_append drop_eq_nil_of_le ext_getElem getElem_map append_nil map_take range_succ map_singleton getLastD_eq_getLast?)
open Go.RowKit
set_option linter.unusedVariables false
set_option linter.unusedSimpArgs false
set_option maxRecDepth 10000
set_option synthInstance.maxSize 4000
set_option synthInstance.maxHeartbeats 400000
section
def qt (w:Nat→Int)(last drawn:Int)(v u:Nat):Bool:=if (v:Int)=drawn∨(u:Int)=drawn then decide ((v:Int)=drawn) else if w v≠w u then decide (w u<w v) else decide ((v:Int)=last)
def im (w:Nat→Int)(last drawn:Int):Nat→Nat
 | 0=>0
 | i+1=>if qt w last drawn (i+1) (im w last drawn i)=true then i+1 else im w last drawn i
theorem HS (w:Nat→Int)(last drawn:Int):∀ i,im w last drawn i≤i
 | 0=>a7 _
 | i+1=>by
  rw[im];split
  ·exact a7 _
  ·exact Nat.le_succ_of_le (HS w last drawn i)
theorem N0 {w:Nat→Int}{last:Int}{d:Nat}:∀ {i},d≤i→im w last d i=d
 | 0,h=>by rw[im];omega
 | i+1,h=>by
  rw[im];by_cases hd:d=i+1
  ·rw[aj]
   ·exact hd.symm
   ·rw[qt,aj (.inl (by omega))];exact dr (by omega)
  ·rw[N0 (i:=i) (by omega),ag];rw[qt,aj (.inr rfl),cu];omega
theorem N1 {w:Nat→Int}{last:Nat}:∀ i,(∀ v,v≤i→w v≤w (im w last (-1) i))∧(im w last (-1) i=last∨((last≤i→w last<w (im w last (-1) i))∧∀ v,v<im w last (-1) i→w v<w (im w last (-1) i)))
 | 0=>by
  refine⟨λv hv=>by rw[im,show v=0 from by omega];exact Int.le_refl _,?_⟩;by_cases h:last=0
  ·exact .inl h.symm
  ·exact .inr ⟨λhl=>by omega,λv hv=>by rw[im]at hv;omega⟩
 | i+1=>by
  obtain⟨h1,h2⟩:=N1 (w:=w) (last:=last) i;have hle:=HS w last (-1) i;have h0:¬ (((i+1:Nat):Int) = -1∨((im w last (-1) i:Nat):Int) = -1):=by omega
  rw[im];generalize im w last (-1) i=r at *;rw[qt,ag h0];by_cases hw:w (i+1)=w r
  ·rw[ag (show ¬ w (i+1)≠w r from λh=>h hw)];by_cases hl:i+1=last
   ·rw[aj (dr (by omega))];refine⟨λv hv=>?_,.inl hl⟩;by_cases sN:v=i+1
    ·subst sN;exact Int.le_refl _
    ·rw[hw];exact h1 v (by omega)
   ·rw[ag (by rw[cu];omega)];refine⟨λv hv=>?_,?_⟩
    ·by_cases sN:v=i+1
     ·subst sN;omega
     ·exact h1 v (by omega)
    ·rcases h2 with h2 | ⟨h2,h3⟩
     ·exact .inl h2
     ·exact .inr ⟨λhh=>h2 (by omega),h3⟩
  ·rw[aj hw];by_cases hl:w r<w (i+1)
   ·rw[aj (dr hl)];have iv:∀ v,v<i+1→w v<w (i+1):=λv hv=>by have:=h1 v (by omega);omega
    refine⟨λv hv=>?_,?_⟩
    ·by_cases sN:v=i+1
     ·subst sN;exact Int.le_refl _
     ·have:=iv v (by omega);omega
    ·by_cases wJ:last=i+1
     ·exact .inl wJ.symm
     ·exact .inr ⟨λhh=>iv last (by omega),iv⟩
   ·rw[ag (by rw[cu];exact hl)];refine⟨λv hv=>?_,?_⟩
    ·by_cases sN:v=i+1
     ·subst sN;omega
     ·exact h1 v (by omega)
    ·rcases h2 with h2 | ⟨h2,h3⟩
     ·exact .inl h2
     ·refine .inr ⟨λhh=>?_,h3⟩;by_cases wJ:last=i+1
      ·subst wJ;omega
      ·exact h2 (by omega)
def uv (b:Gs)(past:List UInt8):Int:=if b.kind=3 then ((b.table.getD (past.length%b.table.length) 0).toNat:Int) else -1
theorem abd {b:Gs}{past:List UInt8}(hb:c0 b):im (gR b past) ((iG past).toNat:Nat) (uv b past) 255=(nM b past).toNat:=by
 have HQ:=mA (iG past);unfold uv nM;split
 ·have:=mA (b.table.getD (past.length%b.table.length) 0);exact N0 (by omega)
 ·rw[UInt8.toNat_ofNat'];obtain⟨h1,h2⟩:=N1 (w:=gR b past) (last:=(iG past).toNat) 255;have hle:=HS (gR b past) ((iG past).toNat:Nat) (-1) 255;generalize im (gR b past) ((iG past).toNat:Nat) (-1) 255=r at *;rcases h2 with h2 | ⟨h2,h3⟩
  ·rw[M6 λv hv=>by rw[← h2];exact h1 v (by omega),h2];omega
  ·have h4:=(M7 (last:=(iG past).toNat) (h2 (by omega)) h3 (i:=256) λv hv=>h1 v (by omega)).2 (by omega);rw[h4];omega
def uw (t:Nat→Bool):List Value:=fn 256 λi=>.bool (t i)
theorem abe (t:Nat→Bool):(uw t).length=256:=Kh _ _
theorem abf {t:Nat→Bool}{i:Nat}(h:i<256):(uw t)[i]?=some (.bool (t i)):=Ki _ h
theorem abg {t:Nat→Bool}{i:Nat}:(uw t).set i (.bool true)=uw λj=>if j=i then true else t j:=by
 rw[uw,Kj];exact Ez λj _=>by by_cases h:j=i <;> simp[h]
theorem abh (m:Nat)(v:Value):List.replicate m v=fn m λ_=>v:=by
 apply ext_getElem (by simp[fn]);intro i h1 h2;simp[fn]
theorem abi:List.replicate 256 (Value.bool false)=uw λ_=>false:=abh 256 _
def rp (t:Nat→Bool):Nat→Nat
 | 0=>0
 | i+1=>rp t i+if t i=true then 1 else 0
theorem N2 {t:Nat→Bool}:∀ {i},(∀ v,v<i→t v=true)→rp t i=i
 | 0,_=>rfl
 | i+1,h=>by rw[rp,N2 (i:=i) λv hv=>h v (by omega),aj (h i (by omega))]
theorem N3 {t:Nat→Bool}{u:Nat}(hu:t u=false):∀ {i},rp (λj=>if j=u then true else t j) i=rp t i+if u<i then 1 else 0
 | 0=>by simp[rp]
 | i+1=>by
  rw[rp,rp,N3 hu (i:=i)];by_cases h:i=u
  ·subst h;simp[hu]
  ·by_cases h2:u<i
   ·simp[h,h2,show u<i+1 from by omega];omega
   ·simp[h,h2,show ¬ u<i+1 from by omega]
def ky (w:Nat→Int)(last drawn:Int)(t:Nat→Bool)(first:Bool)(i:Nat)(fQ:Int):Prop :=
 (fQ = -1∧∀ v,v<i→t v=true)∨∃ u:Nat,fQ=(u:Int)∧u<i∧t u=false∧(first=true→u=im w last drawn (i-1))
section
variable {w:Nat→Int}{last drawn:Int}{t:Nat→Bool}{f:Bool}{i u:Nat}{fQ:Int}
theorem ky.take (h:ky w last drawn t f i fQ)(h0:fQ<0)(hi:t i=false)(hf:f=true→∀ v,t v=false):ky w last drawn t f (i+1) i:=by
 refine .inr ⟨i,rfl,by omega,hi,λj1=>?_⟩;rcases h with ⟨_,h⟩ | ⟨u,h,_⟩
 ·have : i = 0 := by
   rcases k8 i with h1 | h1
   ·exact h1
   ·have h2:=h 0 h1;rw[hf j1 0]at h2;cases h2
  subst this;rfl
 ·omega
theorem ky.nat (h:ky w last drawn t f i fQ)(h0:0≤fQ):∃ u:Nat,fQ=(u:Int)∧u<i∧t u=false∧(f=true→u=im w last drawn (i-1)):=by
 rcases h with ⟨h,_⟩ | h
 ·omega
 ·exact h
theorem ky.up (hu:u<i∧t u=false∧(f=true→u=im w last drawn (i-1)))(E:qt w last drawn i u=true)(hi:t i=false):ky w last drawn t f (i+1) i:=by
 refine .inr ⟨i,rfl,by omega,hi,λhf=>?_⟩;have h1:=hu.2.2 hf;obtain⟨j,rfl⟩:∃ j,i=j+1:=⟨i-1,by omega⟩;rw[zo]at h1 ⊢;rw[im,← h1,aj E]
theorem ky.ab (hu:u<i∧t u=false∧(f=true→u=im w last drawn (i-1)))(E:qt w last drawn i u=false):ky w last drawn t f (i+1) u:=by
 refine .inr ⟨u,rfl,by omega,hu.2.1,λhf=>?_⟩;have h1:=hu.2.2 hf;obtain⟨j,rfl⟩:∃ j,i=j+1:=⟨i-1,by omega⟩;rw[zo]at h1 ⊢;rw[im,← h1,E,ag (by decide)]
theorem ky.skip (h:ky w last drawn t f i fQ)(hi:t i=true)(hf:f=true→∀ v,t v=false):ky w last drawn t f (i+1) fQ:=by
 have pg:f=true→False:=λh=>by rw[hf h i]at hi;cases hi
 rcases h with ⟨h1,h⟩ | ⟨u,h1,h2,h3,_⟩
 ·refine .inl ⟨h1,λv hv=>?_⟩;by_cases hvi:v=i
  ·subst hvi;exact hi
  ·exact h v (by omega)
 ·exact .inr ⟨u,h1,by omega,h3,λh=>(pg h).elim⟩
theorem ky.HT (h:ky w last drawn t f 256 fQ)(hc:rp t 256<256):∃ u:Nat,fQ=(u:Int)∧u<256∧t u=false∧(f=true→u=im w last drawn 255):=by
 rcases h with ⟨_,h⟩ | h
 ·rw[N2 h]at hc;omega
 ·exact h
theorem ky.start:ky w last drawn t f 0 (-1):=.inl ⟨rfl,λv hv=>by omega⟩
end
section
variable {W w:World}{L:List SP}{n c m cT:Nat}{ad adT:Option Addr}{past:List UInt8}{b:Gs}{g:Nat→Int}
theorem HU (I:U W w L):Calls prog 49 #[.agg (dq b adT cT).toArray] w λe w'=>∃ r:Bool,e=.returned (.bool r)∧(r=true↔c0 b)∧U W w' L:=by
 refine EN func49 ntmps49 rfl rfl λa E=>?_;refine BX 1 E I λb1 a w E I=>?_;change U W w (aa b1 47 (dq b adT cT)::_) at I;refine BY 7 E I (λbW a E=>?_) λbW a E=>?_
 ·
  refine RT 27 E I ?_;exact⟨_,rfl,⟨λh=>(by cases h),λh=>by rw[c0]at h;exfalso;omega⟩,I.sub⟩
 refine BY 5 E I (λfm a E=>?_) λfm a E=>?_
 ·
  refine RT 22 E I ?_;exact⟨_,rfl,⟨λh=>(by cases h),λh=>by rw[c0]at h;exfalso;omega⟩,I.sub⟩
 refine BY 5 E I (λnJ a E=>?_) λnJ a E=>?_
 ·
  refine RT 17 E I ?_;exact⟨_,rfl,⟨λh=>(by cases h),λh=>by rw[c0]at h;exfalso;omega⟩,I.sub⟩
 refine BY 5 E I (λvg a E=>?_) λvg a E=>?_
 ·
  refine RT 12 E I ?_;exact⟨_,rfl,⟨λh=>(by cases h),λh=>by rw[c0]at h;exfalso;omega⟩,I.sub⟩
 refine BY 4 E I (λqi a E=>?_) λqi a E=>?_
 ·
  refine IF 5 E I (λak a E=>?_) λak a E=>?_
  ·
   refine RT 2 E I ?_;exact⟨_,rfl,⟨λh=>(by cases h),λh=>by rw[c0]at h;exfalso;omega⟩,I.sub⟩
  refine IF 5 E I (λao a E=>?_) λao a E=>?_
  ·
   refine BY 6 E I (λdt a E=>?_) λdt a E=>?_
   ·
    refine RT 6 E I ?_;exact⟨_,rfl,(by rw[cu,c0];omega),I.sub⟩
   refine RT 6 E I ?_;exact⟨_,rfl,⟨λh=>(by cases h),λh=>by rw[c0]at h;exfalso;omega⟩,I.sub⟩
  refine RT 6 E I ?_;exact⟨_,rfl,(by rw[cu,c0];omega),I.sub⟩
 refine IF 11 E I (λao a E=>?_) λao a E=>?_
 ·
  refine BY 6 E I (λdt a E=>?_) λdt a E=>?_
  ·
   refine RT 6 E I ?_;exact⟨_,rfl,(by rw[cu,c0];omega),I.sub⟩
  refine RT 6 E I ?_;exact⟨_,rfl,⟨λh=>(by cases h),λh=>by rw[c0]at h;exfalso;omega⟩,I.sub⟩
 refine RT 6 E I ?_;exact⟨_,rfl,(by rw[cu,c0];omega),I.sub⟩
theorem abj (I:U W w L)(hb:c0 b)(eI:past.length≤4000)(kf:past.length≤c)(hp:∀ w',U W w' L→aX w' ad past.length past) :
   Calls prog 192 #[.agg (dq b adT cT).toArray,.slice ad past.length c] w λe w'=>e=.returned (.agg (ints .i64 256 (gR b past)).toArray)∧U W w' L:=by
 simp only[c0]at hb;refine EN func192 ntmps192 rfl rfl λa E=>?_;refine BX 1 E I λb2 a w E I=>?_;change U W w (aa b2 47 (dq b adT cT)::_) at I;refine AL 0 E I λb4 a w E I=>?_;rw[rl]at I;refine AL 1 E I λb5 a w E I=>?_;rw[rl]at I;refine BY 6 E I (λbW a E=>?_) λbW a E=>?_
 ·
  refine SA 9 E I λa w E I=>?_;refine RT 0 E I ?_;exact⟨by rw[gR,ag (by omega)],I.sub⟩
 refine IF 6 E I (λak a E=>?_) λak a E=>?_
 ·
  refine SA 2 E I λa w E I=>?_;refine RT 0 E I ?_;exact⟨by rw[gR,aj (by omega),zL (by omega)],I.sub⟩
 refine RN 1 E I λa E=>?_;have ch:b.kind=2:=by omega
 obtain⟨o,ho⟩:∃ o:Nat,b.order=(o:Int):=⟨b.order.toNat,by omega⟩;rw[dq,ho]at I;have eb:o≤past.length:=by omega
 have ly:gR b past=hS o past past.length:=by rw[gR,aj ch,ho,c9]
 refine RN 6 E I λa E=>?_;rw[show ((past.length:Nat):Int)-(o:Int)=((past.length-o:Nat):Int) from by omega]at E;refine RN 1 E I λa E=>?_;refine SS E (lQ E bj dF gB ((show aX w (fw ad (past.length-o) c 1) (past.length-(past.length-o)) (past.drop (past.length-o)) from by have h1:=(hp _ I.tail.tail.tail).vu (lo:=past.length-o) (by omega) kf;rw[c8]at h1;exact h1))) λa E=>?_;refine RN 6 E I λa E=>?_;have ho3:o≤3:=by omega
 refine aL (λμ a w=>∃ (i:Nat),(μ=past.length-i∧o≤i∧i≤past.length)∧Fr a 54 [(1,.slice ad past.length c),(2,pt b2),(4,pt b4),(5,pt b5),(6,.string ⟨(past.drop (past.length-o)).toArray⟩),(7,.int .i64 i)]∧U W w (aa b5 320 (ints .i64 256 (hS o past i))::aa b4 320 (ints .i64 256 (λ_=>0))::aa b2 47 [.int .i64 b.kind,.int .i64 o,.slice adT b.table.length cT]::L)) (past.length-o) (⟨o,⟨rfl,a7 _,eb⟩,E.ab [1,2,4,5,6,7],by rw[zL (a7 _)];exact I.sub⟩) ?_;clear E I;rintro μ a w ⟨i,⟨rfl,HO,hi⟩,E,I⟩;refine IF 6 E I (λao a E=>?_) λao a E=>?_
 ·
  have aG:i<past.length:=by omega
  have nZ:=CB o past i past[i].toNat;have rf:=mA past[i];refine RN 7 E I λa E=>?_;rw[show ((i:Nat):Int)-(o:Int)=((i-o:Nat):Int) from by omega]at E;refine RN 2 E I λa E=>?_;rw[show i-(i-o)=o from by omega]at E;refine SS E (lQ E bj dF gB ((hp _ I.tail.tail.tail).zM (lo:=i-o) (n:=o) (by omega) kf)) λa E=>?_;refine RN 1 E I λa E=>?_;refine SS E (td E) λa E=>?_;rw[qS]at E;refine IF 0 E I (λay a E=>?_) λay a E=>?_
  ·
   obtain⟨bb,oo,rfl,hr⟩:=(hp _ I.tail.tail.tail).get (by omega);refine RN 3 E I λa E=>?_;refine SS E (ae E (hr i _ (dV aG))) λa E=>?_;refine RN 1 E I λa E=>?_;refine SS E (ae E (I.bC (ga _ rf))) λa E=>?_;refine ST 2 E I (λa w E I=>?_) (hlt:=(by rw[dk];omega));rw[ints_set]at I;refine RN 3 E I λa E=>?_;exact⟨past.length-(i+1),by omega,i+1,⟨rfl,by omega,by omega⟩,E.ab [1,2,4,5,6,7],by
    rw[show hS o past (i+1)=λj=>if j=past[i].toNat then hS o past i past[i].toNat+1 else hS o past i j from by
     rw[hS,aj ⟨HO,by rw[zK,← ay]⟩,br,aD aG];rfl]
    exact I.sub⟩
  refine RN 3 E I λa E=>?_;exact⟨past.length-(i+1),by omega,i+1,⟨rfl,by omega,by omega⟩,E.ab [1,2,4,5,6,7],by
   rw[show hS o past (i+1)=hS o past i from by
    rw[hS,ag (λh=>by
     have h2:=h.2;rw[zK]at h2;rw[h2]at ay;cases ay)]]
   exact I.sub⟩
 obtain rfl:i=past.length:=by omega
 refine SA 2 E I λa w E I=>?_;refine RT 0 E I ?_;exact⟨by rw[ly],I.sub⟩
theorem abk {v u:Nat}{last drawn:Int}(I:U W w L)(hv:v<256)(hu:u<256):Calls prog 193 #[.int .i64 v,.int .i64 u,.agg (ints .i64 256 g).toArray,.int .i64 last,.int .i64 drawn] w λe w'=>e=.returned (.bool (qt g last drawn v u))∧U W w' L:=by
 refine EN func193 ntmps193 rfl rfl λa E=>?_;refine BX 1 E I λdv a w E I=>?_;refine BY 7 E I (λbW a E=>?_) λbW a E=>?_
 ·
  refine RT 10 E I ?_;exact⟨by rw[qt,aj (.inl bW)],I.sub⟩
 refine IF 4 E I (λak a E=>?_) λak a E=>?_
 ·
  refine RT 5 E I ?_;exact⟨by rw[qt,aj (.inr ak)],I.sub⟩
 refine RN 2 E I λa E=>?_;have h0:¬ ((v:Int)=drawn∨(u:Int)=drawn):=by omega
 refine bM 0 [5] [0,1,3,4,3002,1005,6] E I λa w E I hH hC=>?_;refine RH 4 E I hH hC λa E=>?_;refine QH E (λw hc=>ae E (hc.cell (I.bC (ga _ hv)))) hC λa E=>?_;refine RH 0 E I hH hC λa E=>?_;refine SS E (ae E (I.bC (ga _ hu))) λa E=>?_;refine RH 1 E I hH hC λa E=>?_;refine IF 0 E I (λao a E=>?_) λao a E=>?_
 ·
  refine bM 1 [5] [0,1,3,4,3002,1005,6,7] E I λa w E I hH hC=>?_;refine RH 4 E I hH hC λa E=>?_;refine QH E (λw hc=>ae E (hc.cell (I.bC (ga _ hv)))) hC λa E=>?_;refine RH 0 E I hH hC λa E=>?_;refine SS E (ae E (I.bC (ga _ hu))) λa E=>?_;refine RH 2 E I hH hC λa E=>?_;refine RT 0 E I ?_;exact⟨by rw[qt,ag h0,aj ao],I.sub⟩
 refine RT 5 E I ?_;exact⟨by rw[qt,ag h0,ag (λh=>h ao)],I.sub⟩
set_option maxHeartbeats 1000000 in
theorem N4 {k:Nat}(I:U W w L)(hb:c0 b)(hk:1≤k∧k≤100000)(eI:past.length≤4000)(kf:past.length≤c)(hp:∀ w',U W w' L→aX w' ad past.length past)(ht:∀ w',U W w' L→aX w' adT b.table.length b.table) :
   Calls prog 160 #[.agg (dq b adT cT).toArray,.slice ad past.length c,.int .i64 k] w λe w'=>∃ (av:Option Addr) (c':Nat) (out:List UInt8),e=.returned (.slice av out.length c')∧(out.length=min k 256∧out[0]?=some (nM b past))∧U W w' (Sl 5 1 av out.length c' (bc out)::L):=by
 have lP:=hb;simp only[c0]at lP;refine EN func160 ntmps160 rfl rfl λa E=>?_;refine BX 1 E I λb3 a w E I=>?_;change U W w (aa b3 47 (dq b adT cT)::_) at I;refine bg 4 E I (HU I) λr a w E ⟨hr,I⟩=>?_;rw[hr.2 hb]at E;refine RN 2 E I λa E=>?_;replace E:=E.aQ 17;refine RN 3 E I λa E=>?_;rw[bu (by omega)]at E;refine CL 4 E I (abj I hb eI kf (λw' hw=>hp w' hw.tail)) λa w E I=>?_;refine AL 0 E I λdv a w E I=>?_;rw[rl]at I;refine SA 0 E I λa w E I=>?_;refine RN 3 E I λa E=>?_;have vd:(if 0<past.length then ((past.getD (past.length-1) 0).toNat:Int) else 0)=((iG past).toNat:Nat):=by
  split
  ·rw[iG,getLastD_eq_getLast?,List.getLast?_eq_getElem?,br]
  ·rw[iG,hs (l:=past) (by omega)];rfl
 refine b6 (M:=λa w=>Fr a 86 [(1,.slice ad past.length c),(2,.int .i64 k),(3,pt b3),(7,pt dv),(8,.int .i64 ((iG past).toNat:Nat)),(9,.int .i64 (-1))]∧U W w (aa dv 320 (ints .i64 256 (gR b past))::aa b3 47 (dq b adT cT)::L)) ?_ ?_
 ·
  refine IF 4 E I (λao a E=>?_) λao a E=>?_
  ·
   obtain⟨bb,oo,rfl,eO⟩:=(hp _ I.tail.tail).get (by omega);rw[aj (by omega)]at vd;refine RN 4 E I λa E=>?_;rw[show ((past.length:Nat):Int)-1=((past.length-1:Nat):Int) from by omega]at E;refine RN 1 E I λa E=>?_;refine SS E (ae E (eO (past.length-1) _ (lA (by omega)))) λa E=>?_;refine SX 0 E I (uf _) λa E=>?_;refine RN 1 E I λa E=>?_;rw[vd]at E;exact⟨E.ab [1,2,3,7,8,9],I⟩
  rw[ag (by omega)]at vd;refine RN 1 E I λa E=>?_;rw[show (0:Int)=((iG past).toNat:Nat) from vd]at E;exact⟨E.ab [1,2,3,7,8,9],I⟩
 clear E;(try clear I);rintro a w ⟨E,I⟩;refine b6 (M:=λa w=>Fr a 86 [(2,.int .i64 k),(3,pt b3),(7,pt dv),(8,.int .i64 ((iG past).toNat:Nat)),(9,.int .i64 (uv b past))]∧U W w (aa dv 320 (ints .i64 256 (gR b past))::aa b3 47 (dq b adT cT)::L)) ?_ ?_
 ·
  refine IF 4 E I (λay a E=>?_) λay a E=>?_
  ·
   refine bM 0 [5,6,7] [0,2,3,4,3001,1005,1006,1007,8,1009,10,11] E I λa w E I hH hC=>?_;have hA:=E;obtain⟨aa9,aba,rfl,p7⟩:=(ht _ I.tail.tail).get (by omega);have E:=hA;have HP:past.length%b.table.length<b.table.length:=Nat.mod_lt _ (by omega);refine RH 8 E I hH hC λa E=>?_;rw[oO]at E;refine RH 1 E I hH hC λa E=>?_;refine SS E (ae E (p7 (past.length%b.table.length) _ (lA HP))) λa E=>?_;refine RH 0 E I hH hC λa E=>?_;refine QP E (λw=>pO E dF fk (uf _)) λa E=>?_;refine RH 1 E I hH hC λa E=>?_;rw[uv,aj (by omega)];exact⟨E.ab [2,3,7,8,9],I⟩
  refine RN 0 E I λa E=>?_;rw[uv,ag (by omega)];exact⟨E.ab [2,3,7,8,9],I⟩
 clear E;(try clear I);rintro a w ⟨E,I⟩;refine AL 1 E I λkO a w E I=>?_;rw[abi]at I;refine RN 3 E I λa E=>?_;refine aL (λμ a w=>∃ (j:Nat) (out:List UInt8) (t:Nat→Bool) (ad2:Option Addr) (c2:Nat),(μ=min k 256-j∧j≤min k 256∧out.length=j∧rp t 256=j∧(j=0→∀ v,t v=false)∧(1≤j→out[0]?=some (nM b past)))∧Fr a 86 [(2,.int .i64 k),(3,pt b3),(7,pt dv),(8,.int .i64 ((iG past).toNat:Nat)),(9,.int .i64 (uv b past)),(10,pt kO),(11,.slice ad2 out.length c2)]∧U W w (Sl 5 1 ad2 out.length c2 (bc out)::aa kO 322 (uw t)::aa dv 320 (ints .i64 256 (gR b past))::aa b3 47 (dq b adT cT)::L)) (min k 256) (⟨0,[],λ_=>false,none,0,⟨rfl,by omega,rfl,by decide,λ_ _=>rfl,λh=>by omega⟩,E.ab [2,3,7,8,9,10,11],I.bQ 5 1 none⟩) ?_;clear E I;rintro μ a w ⟨j,out,t,ad2,c2,⟨rfl,hj,eb,N5,hj0,zZ⟩,E,I⟩;refine BY 7 E I (λdt a E=>?_) λdt a E=>?_
 ·
  refine IF 4 E I (λbl a E=>?_) λbl a E=>?_
  ·
   refine RN 5 E I λa E=>?_;refine aL (λμ a w=>∃ (i:Nat) (fQ:Int),(μ=256-i∧i≤256∧ky (gR b past) ((iG past).toNat:Nat) (uv b past) t (decide (j=0)) i fQ)∧Fr a 86 [(2,.int .i64 k),(3,pt b3),(7,pt dv),(8,.int .i64 ((iG past).toNat:Nat)),(9,.int .i64 (uv b past)),(10,pt kO),(11,.slice ad2 out.length c2),(12,.int .i64 fQ),(13,.int .i64 i)]∧U W w (Sl 5 1 ad2 out.length c2 (bc out)::aa kO 322 (uw t)::aa dv 320 (ints .i64 256 (gR b past))::aa b3 47 (dq b adT cT)::L)) (256) (⟨0, -1,⟨rfl,by omega,ky.start⟩,E.ab [2,3,7,8,9,10,11,12,13],I⟩) ?_;clear E I;rintro μ a w ⟨i,fQ,⟨rfl,hi,vN⟩,E,I⟩;refine IF 4 E I (λbO a E=>?_) λbO a E=>?_
   ·
    have CS:i<256:=by omega
    have pg:decide (j=0)=true→∀ v,t v=false:=λh=>hj0 (by simpa using h);refine RN 4 E I λa E=>?_;refine SS E (ae E (I.bC (abf CS))) λa E=>?_;refine BY 2 E I (λdt a E=>?_) λdt a E=>?_
    ·
     refine BY 3 E I (λjY a E=>?_) λjY a E=>?_
     ·
      refine RN 14 E I λa E=>?_;exact⟨256-(i+1),by omega,i+1,i,⟨rfl,by omega,vN.take jY dt pg⟩,E.ab [2,3,7,8,9,10,11,12,13],I⟩
     obtain⟨u,rfl,hu⟩:=vN.nat (by omega);refine CL 5 E I (abk I CS (by omega)) λa w E I=>?_;refine IF 2 E I (λeL a E=>?_) λeL a E=>?_
     ·
      refine RN 5 E I λa E=>?_;exact⟨256-(i+1),by omega,i+1,i,⟨rfl,by omega,ky.up hu eL dt⟩,E.ab [2,3,7,8,9,10,11,12,13],I⟩
     refine RN 3 E I λa E=>?_;exact⟨256-(i+1),by omega,i+1,u,⟨rfl,by omega,ky.ab hu eL⟩,E.ab [2,3,7,8,9,10,11,12,13],I⟩
    refine RN 15 E I λa E=>?_;exact⟨256-(i+1),by omega,i+1,fQ,⟨rfl,by omega,vN.skip dt pg⟩,E.ab [2,3,7,8,9,10,11,12,13],I⟩
   obtain rfl:i=256:=by omega
   obtain⟨u,rfl,hu6,htu,HV⟩:=vN.HT (by omega);refine ST 3 E I (λa w E I=>?_) (hlt:=(by rw[abe];omega));rw[abg]at I;refine SX 2 E I (by rw[wrap_u8];omega) λa E=>?_;rw[show ((u:Nat):Int)=((UInt8.ofNat u).toNat:Int) from by rw[UInt8.toNat_ofNat'];omega]at E;refine RN 0 E I λa E=>?_;refine ct E rfl I bj Ty.t5 rfl rfl rfl rfl (by decide) (by decide) λb83 a w E I ho=>?_;clear ho;refine RN 0 E I λa E=>?_;refine cR E rfl I bj Ty.t5 rfl rfl I.ai rfl (ez [UInt8.ofNat u]) (by decide) (by decide) (by omega) λabl c84 a w E I=>?_;rw[show bc out++_=bc (out++[UInt8.ofNat u]) from (fS _ [_]).symm,show out.length+1=(out++[UInt8.ofNat u]).length from by simp]at I;rw[show out.length+1=(out++[UInt8.ofNat u]).length from by simp]at E;refine RN 1 E I λa E=>?_;exact⟨min k 256-(j+1),by omega,j+1,out++[UInt8.ofNat u],_,abl,c84,⟨rfl,by omega,by rw[aM,eb];rfl,by rw[N3 htu,N5,aj hu6],λh=>by omega,λ_=>by
    rcases k8 j with h0 | h0
    ·rw[hs (l:=out) (by omega),HV (dr h0),abd hb];simp
    ·rw[mM (by omega)];exact zZ (by omega)⟩,E.ab [2,3,7,8,9,10,11],I.sub⟩
  refine RT 3 E I ?_;exact⟨ad2,c2,out,rfl,⟨by omega,zZ (by omega)⟩,I.sub⟩
 refine RT 8 E I ?_;exact⟨ad2,c2,out,rfl,⟨by omega,zZ (by omega)⟩,I.sub⟩
theorem abm (I:U W w L)(hb:c0 b)(eI:past.length≤1001)(kf:past.length≤c)(hn:m≤1000)(hp:∀ w',U W w' L→aX w' ad past.length past)(ht:∀ w',U W w' L→aX w' adT b.table.length b.table) :
   Calls prog 161 #[.agg (dq b adT cT).toArray,.slice ad past.length c,.int .i64 m] w λe w'=>∃ av c',e=.returned (.slice av m c')∧U W w' (Sl 5 1 av m c' (bc (kr b past m))::L):=by
 refine EN func161 ntmps161 rfl rfl λa E=>?_;refine BX 1 E I λb3 a w E I=>?_;change U W w (aa b3 47 (dq b adT cT)::_) at I;refine bg 4 E I (HU I) λr a w E ⟨hr,I⟩=>?_;rw[hr.2 hb]at E;refine RN 1 E I λa E=>?_;replace E:=E.aQ 13;refine RN 2 E I λa E=>?_;replace I:=I.bQ 5 1 none;refine RN 1 E I λa E=>?_;refine hO E rfl I bj Ty.t5 rfl rfl (by decide) (λh0=>(hp _ I.tail.tail).get h0) (by rw[dA];omega) (ez _) (by omega) λM0 M1 a w E I=>?_;rw[nil_append,ei]at I;rw[ei]at E;refine RN 6 E I λa E=>?_;refine aL (λμ a w=>∃ (i:Nat) (ad2:Option Addr) (c2:Nat) (fx:Option Addr) (c3:Nat),(μ=m-i∧i≤m)∧Fr a 41 [(2,.int .i64 m),(3,pt b3),(7,.slice ad2 (eo b past i).length c2),(8,.slice fx i c3),(9,.int .i64 i)]∧U W w (Sl 5 1 fx i c3 (bc (kr b past i))::Sl 5 1 ad2 (eo b past i).length c2 (bc (eo b past i))::aa b3 47 (dq b adT cT)::L)) (m) (⟨0,M0,M1,none,0,⟨rfl,by omega⟩,E.ab [2,3,7,8,9],by
  have h1:kr b past 0=[]:=hs (Hg b past 0);rw[h1];exact I.bQ 5 1 none⟩) ?_
 clear E I;rintro μ a w ⟨i,ad2,c2,fx,c3,⟨rfl,hi⟩,E,I⟩;refine BY 6 E I (λbW a E=>?_) λbW a E=>?_
 ·
  refine RN 3 E I λa E=>?_;rw[dr (by omega)]at E;refine RN 3 E I λa E=>?_;have cr:=iH b past i;have HR:=(I.sl ad2).2;have him:i<m:=by omega
  refine j9 2 E I (N4 (past:=eo b past i) (k:=1) I hb (by decide) (by omega) HR (λw' hw=>hw.cw ad2 (eo b past i) rfl rfl) (λw' hw=>ht w' hw.tail.tail.tail)) λsy pf out a w E ⟨⟨eb,ho0⟩,I⟩=>?_;refine RN 1 E I λa E=>?_;obtain⟨x,rfl⟩:∃ x,out=[x]:=by
   match out,eb with
   | [x],_=>exact⟨x,rfl⟩
  obtain rfl:x=nM b (eo b past i):=by simpa using ho0
  obtain⟨gE,or',rfl,jX⟩:=I.bU sy (by simp);refine SX 3 E I (by simp) λa E=>?_;refine RN 0 E I λa E=>?_;refine SS E (ae E (jX 0 _ rfl)) λa E=>?_;refine RN 0 E I λa E=>?_;refine ct E rfl I bj Ty.t5 rfl rfl rfl rfl (by decide) (by decide) λgS a w E I ho=>?_;clear ho;refine RN 0 E I λa E=>?_;refine cR E rfl I bj Ty.t5 rfl rfl I.ai rfl (ez [nM b (eo b past i)]) (by decide) (by decide) (by omega) λHW HX a w E I=>?_;rw[show bc (eo b past i)++_=bc (eo b past (i+1)) from (fS _ [_]).symm,show (eo b past i).length+1=(eo b past (i+1)).length from by rw[iH,iH];omega]at I;rw[show (eo b past i).length+1=(eo b past (i+1)).length from by rw[iH,iH];omega]at E;refine RN 1 E I λa E=>?_;replace jX:=I.cQ gE or' (by simp);refine SX 2 E I (by simp) λa E=>?_;refine RN 0 E I λa E=>?_;refine SS E (ae E (jX 0 _ rfl)) λa E=>?_;refine RN 0 E I λa E=>?_;refine ct E rfl I bj Ty.t5 rfl rfl rfl rfl (by decide) (by decide) λb38 a w E I ho=>?_;clear ho;refine RN 0 E I λa E=>?_;refine cR E rfl I bj Ty.t5 rfl rfl I.ai rfl (ez [nM b (eo b past i)]) (by decide) (by decide) (by omega) λabn c39 a w E I=>?_;rw[show bc (kr b past i)++_=bc (kr b past (i+1)) from by rw[aas,vD];exact (fS _ [_]).symm]at I;refine RN 4 E I λa E=>?_;exact⟨m-(i+1),by omega,i+1,HW,HX,abn,c39,⟨rfl,by omega⟩,E.ab [2,3,7,8,9],I.sub⟩
 refine RT 7 E I ?_;obtain rfl:i=m:=by omega
 exact⟨_,_,rfl,I.sub⟩
end
end
section
def xX (to:Nat)(l x:List UInt8):Prop:=(∃ t,x=l++t)∧to≤x.length∧x.length≤1001
def nQ (X:List (List UInt8))(front to:Nat):List (List UInt8):=(List.range (to-front)).map λi=>bK X (front+i)
theorem xY (b:Gs)(ls:List (List UInt8))(to:Nat):nQ (js b ls to) (aU ls) to=dx b ls to:=rfl
theorem CT (X:List (List UInt8))(front to:Nat):(nQ X front to).length=to-front:=by simp[nQ]
structure z6 (to:Nat)(ls X:List (List UInt8)):Prop where
 len:X.length=ls.length
 fit:∀ (j:Nat) (l x:List UInt8),ls[j]?=some l→X[j]?=some x→xX to l x
theorem abo {b:Gs}{l:List UInt8}{to:Nat}(h:l.length≤1000)(h2:to≤1000):xX to l (om b l to):=by
 refine⟨⟨kr b l (to-l.length),?_⟩,aat b l to,?_⟩
 ·rw[om,vD]
 ·rw[om,iH];omega
theorem N6 {b:Gs}{l:List UInt8}{to:Nat}(h:to≤l.length):om b l to=l:=by rw[om,show to-l.length=0 from by omega];rfl
structure xZ:Prop where
 abp:∀ {W w:World} {L:List SP} {c k cT:Nat} {ad adT:Option Addr} {past:List UInt8} {b:Gs},U W w L→c0 b→(1≤k∧k≤256)→past.length≤1000→past.length≤c→(∀ w',U W w' L→aX w' ad past.length past)→(∀ w',U W w' L→aX w' adT b.table.length b.table) →
 Calls prog 310 #[.agg (dq b adT cT).toArray,.slice ad past.length c,.int .i64 k] w λe w'=>∃ (av:Option Addr) (c':Nat) (out:List UInt8),e=.returned (.slice av out.length c')∧out.length=k∧U W w' (Sl 5 1 av out.length c' (bc out)::L)
section
variable {W w:World}{L:List SP}{c m cT to r:Nat}{ad adT:Option Addr}{past:List UInt8}{b:Gs}
set_option maxHeartbeats 1000000 in
theorem abq (ma:r=0∨xZ)(hr:r≤100000)(I:U W w (Sl 5 1 ad past.length c (bc past)::L))(hb:c0 b)(eI:past.length≤1000)(uq:to≤1000)(ht:∀ w',U W w' L→aX w' adT b.table.length b.table) :
   Calls prog 294 #[.slice ad past.length c,.agg (dq b adT cT).toArray,.int .i64 r,.int .i64 to] w λe w'=>∃ (av:Option Addr) (c':Nat) (x:List UInt8),e=.returned (.slice av x.length c')∧(xX to past x∧(r=0→x=om b past to)) ∧
    U W w' (Sl 5 1 av x.length c' (bc x)::L):=by
 have kf:=(I.sl ad).2;refine EN func294 ntmps294 rfl rfl λa E=>?_;refine BX 1 E I λb5 a w E I=>?_;change U W w (aa b5 186 (dq b adT cT)::_) at I;refine IF 7 E I (λak a E=>?_) λak a E=>?_
 ·
  refine RT 3 E I ?_;exact⟨ad,c,past,rfl,⟨⟨⟨[],by simp⟩,by omega,by omega⟩,λ_=>(N6 (by omega)).symm⟩,I.tail⟩
 refine RN 0 E I λa E=>?_;refine b6 (M:=λa w=>∃ (ad2:Option Addr) (c2:Nat) (y:List UInt8),((∃ t,y=past++t)∧y.length≤past.length+1∧past.length<to∧(r=0→y=past))∧Fr a 48 [(0,.slice ad2 y.length c2),(3,.int .i64 to),(5,pt b5)]∧U W w (Sl 5 1 ad2 y.length c2 (bc y)::aa b5 186 (dq b adT cT)::L)) ?_ ?_
 ·
  refine SX 2 E I (by decide) λa E=>?_;rw[show ((r:Nat):Int).tmod 256=((r%256:Nat):Int) from oO _ 256]at E;refine RN 1 E I λa E=>?_;have zF:r%256<256:=Nat.mod_lt _ (by decide);generalize my:r%256=r6 at E zF;refine IF 3 E I (λao a E=>?_) λao a E=>?_
  ·
   have hRk:=ma.resolve_left (λh=>by rw[h]at my;omega);have hp0:=I.drew.tail.tail;refine bM 0 [] [0,1,2,3,4,5,7,8,9,11,1006,1010,12,1013,1014,1015,16] E I λa w E I hH hC=>?_;refine RH 5 E I hH hC λa E=>?_;refine QP E (λw=>EI E bj Ty.t5 (a7 _) (by omega)) λa E=>?_;rw[rZ]at E;refine RH 3 E I hH hC λa E=>?_;rw[show ((r6:Nat):Int)+1=((r6+1:Nat):Int) from by omega]at E;refine RH 2 E I hH hC λa E=>?_;refine j9 0 E I (hRk.abp I hb (by omega) eI kf (λw' hw=>hw.tail.cw ad past rfl rfl) (λw' hw=>ht w' hw.tail.tail)) λsy pf out a w E ⟨eb,I⟩=>?_;obtain⟨gE,or',rfl,jX⟩:=I.bU sy (by omega);refine RN 1 E I λa E=>?_;refine SS E (ae E (jX r6 _ (dV (by omega)))) λa E=>?_;refine RN 0 E I λa E=>?_;refine ct E rfl I bj Ty.t5 rfl rfl rfl rfl (by decide) (by decide) λgS a w E I ho=>?_;clear ho;replace I:=I.Ko ad past.length (a7 _);rw[rZ,fB,gl (by rw[dA];exact a7 _)]at I;refine RN 0 E I λa E=>?_;refine cR E rfl I bj Ty.t5 rfl rfl I.ai rfl (ez [out[r6]]) (by decide) (by decide) (by omega) λHW HX a w E I=>?_;rw[show bc past++_=bc (past++[out[r6]]) from (fS _ [_]).symm,show past.length+1=(past++[out[r6]]).length from by simp]at I;rw[show past.length+1=(past++[out[r6]]).length from by simp]at E;refine RN 1 E I λa E=>?_;exact⟨HW,HX,past++[out[r6]],⟨⟨_,rfl⟩,by simp,by omega,λh=>by rw[h]at my;omega⟩,E.ab [0,3,5],I.sub⟩
  have agR:r6=0:=by omega
  refine RN 0 E I λa E=>?_;exact⟨ad,c,past,⟨⟨[],by simp⟩,by omega,by omega,λ_=>rfl⟩,E.ab [0,3,5],I.sub⟩
 clear E;(try clear I);rintro a w ⟨ad2,c2,y,⟨hG,iR,N7,mH⟩,E,I⟩;refine RN 1 E I λa E=>?_;have ju:y.length≤to:=by omega
 have pw:=(I.sl ad2).2;refine bM 0 [] [0,1,2,3,4,5,7,8,9,10,11,1006,1012,1013,14] E I λa w E I hH hC=>?_;refine RH 5 E I hH hC λa E=>?_;refine QP E (λw=>EI E bj Ty.t5 (a7 _) (by omega)) λa E=>?_;rw[rZ]at E;refine RH 5 E I hH hC λa E=>?_;rw[show ((to:Nat):Int)-((y.length:Nat):Int)=((to-y.length:Nat):Int) from by omega]at E;refine RH 1 E I hH hC λa E=>?_;refine aY 0 E I (abc (to:=0) (past:=y) (m:=to-y.length) I hb (by omega) pw (by omega) (λw' hw=>hw.cw ad2 y rfl rfl) (λw' hw=>ht w' hw.tail.tail)) λadc HY a w E I=>?_;replace I:=I.Ko ad2 y.length (a7 _);rw[rZ,fB,gl (by rw[dA];exact a7 _)]at I;have HZ:=Hg b y (to-y.length);refine RN 0 E I λa E=>?_;refine hO E rfl I bj Ty.t5 rfl rfl (by decide) (λh0=>(I.tail.cw adc (kr b y (to-y.length)) rfl HZ).get h0) (by rw[dA];omega) (ez _) (by omega) λql sD a w E I=>?_;rw[← fS,vD,show y.length+(to-y.length)=(eo b y (to-y.length)).length from by rw[iH]]at I;rw[show y.length+(to-y.length)=(eo b y (to-y.length)).length from by rw[iH]]at E;refine RN 1 E I λa E=>?_;refine RT 0 E I ?_;obtain⟨t,H0⟩:=hG;refine⟨ql,sD,_,rfl,⟨⟨⟨t++kr b y (to-y.length),?_⟩,by rw[iH];omega,by rw[iH];omega⟩,λh=>?_⟩,I.sub⟩
 ·rw[← vD,H0,dz]
 ·rw[mH h,om]
set_option maxHeartbeats 1000000 in
theorem H2 {qb:Nat}{aB:List Nat}{ls:List (List UInt8)}(ma:r=0∨xZ)(hr:r≤100000)(I:U W w (Qu qb aB ls::L))(hb:c0 b)(h0:ls≠[])(h8:ls.length≤8)(hl:∀ l∈ls,l.length≤1000)(uq:to≤1000)(ht:∀ w',U W w' L→aX w' adT b.table.length b.table) :
   Calls prog 277 #[pt qb,.agg (dq b adT cT).toArray,.int .i64 r,.int .i64 to] w λe w'=>∃ (av:Option Addr) (c':Nat) (X:List (List UInt8)),e=.returned (.slice av (to-aU ls) c')∧(z6 to ls X∧(r=0→X=js b ls to)) ∧
    U W w' (cj av (to-aU ls) c' (nQ X (aU ls) to)::Qu qb aB ls::L):=by
 refine EN func277 ntmps277 rfl rfl λa E=>?_;refine BX 1 E I λb5 a w E I=>?_;change U W w (aa b5 186 (dq b adT cT)::_) at I;refine RN 6 E I λa E=>?_;replace E:=E.aQ 21;refine bg 1 E I (zY I) λsO a w E ⟨jX,I⟩=>?_;rw[jX.2 hb]at E;refine RN 3 E I λa E=>?_;replace E:=E.aQ 26;refine RN 4 E I λa E=>?_;rw[bu (by omega)]at E;refine RN 3 E I λa E=>?_;rw[bu (by omega)]at E;refine CL 3 E I (sH (I.pick (Qu qb aB ls)) h0 h8) λa w E I=>?_;refine CL 6 E I (Hh I) λa w E I=>?_;refine RN 1 E I λa E=>?_;replace I:=I.bQ 22 1 none;replace I:=U.ji (f:=ba) I;refine aL (λμ a w=>∃ (i:Nat) (sO:Nat) (xs:List ee) (ou:Option Addr) (de:Nat),(μ=ls.length-i∧i≤ls.length∧xs.length=i∧(sO=0∨xZ)∧sO≤100000∧(r=0→sO=0)∧(∀ (j:Nat) (l:List UInt8) (x:ee),ls[j]?=some l→xs[j]?=some x→xX to l x.2.2)∧(r=0→xs.map (·.2.2)=(js b ls to).take i))∧Fr a 84 [(0,pt qb),(2,.int .i64 sO),(3,.int .i64 to),(5,pt b5),(9,.int .i64 (aU ls)),(10,.slice ou i de),(37,.int .i64 ls.length),(38,.int .i64 i)]∧U W w (Sl 22 1 ou i de (xs.map aK)::ah ba xs::Qu qb aB ls::aa b5 186 (dq b adT cT)::L)) (ls.length) (⟨0,r,[],none,0,⟨rfl,by omega,rfl,ma,hr,λh=>h,λj l x _ h=>by simp at h,λ_=>rfl⟩,E.ab [0,2,3,5,9,10,37,38],(I.sub:U W w (Sl 22 1 none 0 0 []::ah ba []::Qu qb aB ls::aa b5 186 (dq b adT cT)::L))⟩) ?_;clear E I;rintro μ a w ⟨i,sO,xs,ou,de,⟨rfl,hi,b7,N8,N9,Oa,nX,vO⟩,E,I⟩;refine IF 3 E I (λao a E=>?_) λao a E=>?_
 ·
  have aG:i<ls.length:=by omega
  have hlt:=hl _ (vF aG);refine CL 7 E I (uj (I.pick (Qu qb aB ls)) aG) λa w E I=>?_;refine aY 0 E I (aaC I aG hlt) λc4 dU a w E I=>?_;refine RN 3 E I λa E=>?_;refine b6 (M:=λa w=>∃ k x4:Nat,((k=0∨xZ)∧k≤100000∧(x4=0∨xZ)∧x4≤100000∧(r=0→k=0∧x4=0))∧Fr a 84 [(0,pt qb),(2,.int .i64 x4),(3,.int .i64 to),(5,pt b5),(9,.int .i64 (aU ls)),(10,.slice ou i de),(12,.slice c4 (ls.getD i []).length dU),(13,.int .i64 k),(37,.int .i64 ls.length),(38,.int .i64 i)]∧U W w (Sl 5 1 c4 (ls.getD i []).length dU (bc (ls.getD i []))::Sl 22 1 ou i de (xs.map aK)::ah ba xs::Qu qb aB ls::aa b5 186 (dq b adT cT)::L)) ?_ ?_
  ·
   refine IF 5 E I (λay a E=>?_) λay a E=>?_
   ·
    refine RN 3 E I λa E=>?_;exact⟨sO,0,⟨N8,N9,.inl rfl,by omega,λh=>⟨Oa h,rfl⟩⟩,E.ab [0,2,3,5,9,10,12,13,37,38],I.sub⟩
   refine RN 0 E I λa E=>?_;exact⟨0,sO,⟨.inl rfl,by omega,N8,N9,λh=>⟨rfl,Oa h⟩⟩,E.ab [0,2,3,5,9,10,12,13,37,38],I.sub⟩
  clear E;(try clear I);rintro a w ⟨k,x4,⟨hL,ch,mR,pc,Ob⟩,E,I⟩;refine j9 5 E I (abq hL ch I hb hlt uq (λw' hw=>ht w' hw.tail.tail.tail.tail)) λhU cl x a w E ⟨⟨hfx,HV⟩,I⟩=>?_;refine RN 0 E I λa E=>?_;refine ct E rfl I pT Ty.t22 rfl rfl rfl rfl (by decide) (by decide) λZ4 a w E I ho=>?_;clear ho;refine RN 0 E I λa E=>?_;refine cR E rfl I pT Ty.t22 rfl rfl I.ai rfl (by simp[Value.oneCell']) (by decide) (by decide) (by omega) λG4 G5 a w E I=>?_;rw[show List.map aK xs++_=List.map aK (xs++[(hU,cl,x)]) from by rw[cY];rfl]at I;refine RN 3 E I λa E=>?_;have dB:=U.j7 (f:=ba) (x:=(hU,cl,x)) (I.sub (M:=Sl 5 1 hU x.length cl (bc x)::ah ba xs::Sl 22 1 G4 (i+1) G5 ((xs++[(hU,cl,x)]).map aK)::Qu qb aB ls::aa b5 186 (dq b adT cT)::L));refine⟨ls.length-(i+1),by omega,i+1,x4,xs++[(hU,cl,x)],G4,G5,⟨rfl,by omega,by rw[aM,b7];rfl,mR,pc,λh=>(Ob h).2,λj l y hj hy=>?_,λh=>?_⟩,E.ab [0,2,3,5,9,10,37,38],dB.sub⟩
  ·by_cases gZ:j<i
   ·rw[mM (by omega)]at hy;exact nX j l y hj hy
   ·have dO:=(a2.1 hy).1;rw[aM,jJ]at dO;obtain rfl:j=i:=by omega
    rw[pJ (by omega),b7,Nat.sub_self]at hy;obtain rfl:(hU,cl,x)=y:=by simpa using hy
    rw[show l=ls.getD j [] from by rw[br,hj];rfl];exact hfx
  ·rw[cY,vO h,jD (by rw[js,a8];exact aG)]
   congr 1
   rw[map_singleton,HV (Ob h).1];simp[js,br,aG]
 obtain rfl:i=ls.length:=by omega
 have iF:z6 to ls (xs.map (·.2.2)):=⟨by rw[a8];exact b7,λj l x hj hx=>by
  rw[bd]at hx;obtain⟨y,hy,rfl⟩:=r0.1 hx;exact nX j l y hj hy⟩
 have m9:r=0→xs.map (·.2.2)=js b ls to:=λh=>by rw[vO h,gl (by rw[js,a8];exact a7 _)]
 clear nX vO;have fe:aU ls≤1000:=by
  obtain⟨l,ll,mm⟩:=Cy h0;rw[mm];exact hl l ll
 refine RN 6 E I λa E=>?_;replace I:=I.bQ 22 1 none;replace I:=U.ji (f:=ba) I;refine aL (λμ a w=>∃ (d:Nat) (zs:List ee) (na:Option Addr) (nc:Nat),(μ=to-aU ls-d∧d≤to-aU ls∧zs.map (·.2.2)=(List.range d).map λi=>bK (xs.map (·.2.2)) (aU ls+i))∧Fr a 84 [(3,.int .i64 to),(10,.slice ou ls.length de),(14,.slice na d nc),(15,.int .i64 (aU ls+d:Nat))]∧U W w (Sl 22 1 na d nc (zs.map aK)::ah ba zs::Sl 22 1 ou ls.length de (xs.map aK)::ah ba xs::Qu qb aB ls::L)) (to-aU ls) (⟨0,[],none,0,⟨rfl,by omega,rfl⟩,by rw[Nat.add_zero];exact E.ab [3,10,14,15],(I.sub:U W w (Sl 22 1 none 0 0 []::ah ba []::Sl 22 1 ou ls.length de (xs.map aK)::ah ba xs::Qu qb aB ls::L))⟩) ?_;clear E I;rintro μ a w ⟨d,zs,na,nc,⟨rfl,hd,ux⟩,E,I⟩;refine IF 5 E I (λbl a E=>?_) λbl a E=>?_
 ·
  refine RN 3 E I λa E=>?_;replace I:=I.bQ 5 1 none;refine RN 5 E I λa E=>?_;refine aL (λμ a w=>∃ (i:Nat) (iZ:Option Addr) (jv:Nat),(μ=ls.length-i∧i≤ls.length)∧Fr a 84 [(3,.int .i64 to),(10,.slice ou ls.length de),(14,.slice na d nc),(15,.int .i64 (aU ls+d:Nat)),(16,.slice iZ i jv),(65,.slice ou ls.length de),(66,.int .i64 ls.length),(67,.int .i64 i)]∧U W w (Sl 5 1 iZ i jv (bc (fD (xs.map (·.2.2)) (aU ls+d) i))::Sl 22 1 na d nc (zs.map aK)::ah ba zs::Sl 22 1 ou ls.length de (xs.map aK)::ah ba xs::Qu qb aB ls::L)) (ls.length) (⟨0,none,0,⟨rfl,by omega⟩,E.ab [3,10,14,15,16,65,66,67],I⟩) ?_;clear E I;rintro μ a w ⟨i,iZ,jv,⟨rfl,hi⟩,E,I⟩;refine IF 3 E I (λbO a E=>?_) λbO a E=>?_
  ·
   have aG:i<ls.length:=by omega
   obtain⟨x,hx⟩:∃ x,xs[i]?=some x:=⟨_,aD (by omega)⟩;have CU:=U.mQ (xs:=xs) (I.sub (M:=Sl 22 1 ou ls.length de (xs.map aK)::ah ba xs::[]));obtain⟨m2,o5,rfl,fP⟩:=CU.1 (by omega);have z7:=iF.fit i _ x.2.2 (aD aG) (by rw[bd,hx];rfl);obtain⟨nn,ol,hE,gD⟩:=(CU.2 x (bI hx)).get (by have:=z7.2.1;omega);refine RN 3 E I λa E=>?_;refine SS E (ae E (fP i (aK x) (by rw[bd,hx];rfl))) λa E=>?_;refine RN 4 E I λa E=>?_;rw[aK,hE]at E;refine SX 0 E I (by have:=z7.2.1;omega) λa E=>?_;refine RN 0 E I λa E=>?_;refine SS E (ae E (gD (aU ls+d) _ (lA (by have:=z7.2.1;omega)))) λa E=>?_;refine RN 0 E I λa E=>?_;refine ct E rfl I bj Ty.t5 rfl rfl rfl rfl (by decide) (by decide) λb76 a w E I ho=>?_;clear ho;refine RN 0 E I λa E=>?_;refine cR E rfl I bj Ty.t5 rfl rfl I.ai rfl (ez [x.2.2.getD (aU ls+d) 0]) (by decide) (by decide) (by omega) λabr c77 a w E I=>?_;rw[show bc (fD (xs.map (·.2.2)) (aU ls+d) i)++_=bc (fD (xs.map (·.2.2)) (aU ls+d) (i+1)) from by rw[CA (by rw[a8];omega),getElem_map,fS,(a2.1 hx).2]]at I;refine RN 3 E I λa E=>?_;exact⟨ls.length-(i+1),by omega,i+1,abr,c77,⟨rfl,by omega⟩,E.ab [3,10,14,15,16,65,66,67],I.sub⟩
  obtain rfl:i=ls.length:=by omega
  have dO:fD (xs.map (·.2.2)) (aU ls+d) ls.length=bK (xs.map (·.2.2)) (aU ls+d):=by
   conv=>lhs;rw[← iF.len]
   exact Cz _ _
  rw[dO]at I;have qR:(bK (xs.map (·.2.2)) (aU ls+d)).length=ls.length:=by rw[nL];exact iF.len
  refine RN 2 E I λa E=>?_;refine ct E rfl I pT Ty.t22 rfl rfl rfl rfl (by decide) (by decide) λb81 a w E I ho=>?_;clear ho;refine RN 0 E I λa E=>?_;refine cR E rfl I pT Ty.t22 rfl rfl I.ai rfl (by simp[Value.oneCell']) (by decide) (by decide) (by omega) λOc Od a w E I=>?_;rw[show List.map aK zs++_=List.map aK (zs++[(iZ,jv,bK (xs.map (·.2.2)) (aU ls+d))]) from by rw[cY,map_singleton,aK,qR];rfl]at I;refine RN 4 E I λa E=>?_;have dB:=U.j7 (f:=ba) (x:=(iZ,jv,bK (xs.map (·.2.2)) (aU ls+d))) (by
   rw[ba,qR];exact I.sub (M:=Sl 5 1 iZ ls.length jv (bc (bK (xs.map (·.2.2)) (aU ls+d)))::ah ba zs::Sl 22 1 Oc (d+1) Od ((zs++[(iZ,jv,bK (xs.map (·.2.2)) (aU ls+d))]).map aK)::Sl 22 1 ou ls.length de (xs.map aK)::ah ba xs::Qu qb aB ls::L))
  exact⟨to-aU ls-(d+1),by omega,d+1,zs++[(iZ,jv,bK (xs.map (·.2.2)) (aU ls+d))],Oc,Od,⟨rfl,by omega,by rw[cY,ux,range_succ,cY];rfl⟩,by rw[show ((aU ls+(d+1):Nat):Int)=((aU ls+d:Nat):Int)+1 from by omega];exact E.ab [3,10,14,15],dB.sub⟩
 obtain rfl:d=to-aU ls:=by omega
 refine RT 3 E I ?_;exact⟨na,nc,xs.map (·.2.2),rfl,⟨iF,m9⟩,cj.close (xs:=zs) (I.sub (M:=Sl 22 1 na (to-aU ls) nc (zs.map aK)::ah ba zs::Qu qb aB ls::L)) ux (CT _ _ _)⟩
end
end
section
structure jw where
 pb:Nat
 core:qo
 aq:Option Addr
 cO:Nat
 adT:Option Addr
 cT:Nat
 gs:Gs
abbrev gJ (p:Pr)(B:jw)(g:Nat→Int):List Value:=[pt B.core.cb,.string p.title,.slice B.aq p.ops.length B.cO,.int .i64 B.gs.kind,.int .i64 B.gs.order,.slice B.adT B.gs.table.length B.cT]++ints .i32 32 g
theorem Oe {w:World}{b:Nat}{p:Pr}{B:jw}{g:Nat→Int}(h:Rd w b 0 (gJ p B g)):Rd w b 1 (bR p B.aq B.cO):=h.part 1 2
theorem Of {w:World}{b:Nat}{p:Pr}{B:jw}{g:Nat→Int}(h:Rd w b 0 (gJ p B g)):Rd w b 3 (dq B.gs B.adT B.cT):=h.part 3 3
theorem z8 {w:World}{b:Nat}{p:Pr}{B:jw}{g:Nat→Int}(h:Rd w b 0 (gJ p B g)):Rd w b 6 (ints .i32 32 g):=by
 have h1:=h.part 6 32
 rwa [show ((gJ p B g).drop 6).take 32=ints .i32 32 g from by
  show (ints .i32 32 g).take 32=_;exact gl (by rw[dk];exact a7 _)]at h1
theorem Og (p:Pr)(B:jw)(g:Nat→Int):(gJ p B g).length=38:=by rw[gJ,aM,dk];rfl
theorem abt (p:Pr)(B:jw)(g g':Nat→Int):cH (gJ p B g) 6 (ints .i32 32 g')=gJ p B g':=by
 rw[cH,dk,drop_eq_nil_of_le (by rw[Og];exact a7 _),append_nil,gJ,gJ]
 congr 1
def aP (W:World)(B:jw)(p:Pr)(s:Pl):SP:=λh=>cp [aa B.pb 192 (gJ p B s.g),az B.core s.k,aA W p B.aq B.cO,Sl 5 1 B.adT B.gs.table.length B.cT (bc B.gs.table)] h
def fG (p:Pr)(gs:Gs)(s:Pl):List UInt8×Nat:=if aH s.k≤aw s.k then l7 s else (gF (foldI p (aw s.k) s.g (dx gs s.k.ls (aH s.k))),aH s.k)
section
variable {W w:World}{L R:List SP}{n c i:Nat}{ad:Option Addr}{B:jw}{x:UInt8}{p:Pr}{s:Pl}{bs:List UInt8}
theorem aP.open (I:U W w (aP W B p s::L)):U W w (aa B.pb 192 (gJ p B s.g)::az B.core s.k::aA W p B.aq B.cO::Sl 5 1 B.adT B.gs.table.length B.cT (bc B.gs.table)::L) :=
 I.open (M:=[_,_,_,_]) λ_ h=>h
theorem aP.close (I:U W w (aa B.pb 192 (gJ p B s.g)::az B.core s.k::aA W p B.aq B.cO::Sl 5 1 B.adT B.gs.table.length B.cT (bc B.gs.table)::L)):U W w (aP W B p s::L) :=
 U.shut (M:=[_,_,_,_]) I λ_ h=>h
theorem aP.fold (I:U W w L)(B:jw)(p:Pr)(s:Pl)[kk:fM L [aa B.pb 192 (gJ p B s.g),az B.core s.k,aA W p B.aq B.cO,Sl 5 1 B.adT B.gs.table.length B.cT (bc B.gs.table)] R]:U W w (aP W B p s::R):=aP.close (I.perm kk.perm)
theorem ov (I:U W w (aP W B p s::L)):Calls prog 178 #[pt B.pb] w λr w'=>r=.returned (pt B.core.cb)∧U W w' (aP W B p s::L):=by
 replace I:=aP.open I;refine EN func178 ntmps178 rfl rfl λa E=>?_;refine RN 6 E I λa E=>?_;replace E:=E.aQ 4;refine RT 7 E I ?_;exact⟨rfl,aP.close I⟩
theorem H3 (I:U W w (aP W B p s::L))(hw:WP p s)(a6:dp p)(aF:p.title.size≤1000000000):Calls prog 99 #[pt B.pb] w λr w'=>r=.returned (.tuple #[])∧U W w' (aP W B p (eD p s)::L):=by
 refine EN func99 ntmps99 rfl rfl λa E=>?_;refine RN 0 E I λa E=>?_;refine aL (λμ a w=>∃ (i:Nat),(μ=aw s.k-s.k.mr.length-i∧i≤aw s.k-s.k.mr.length)∧Fr a 56 [(0,pt B.pb)]∧U W w (aP W B p (iK p i s)::L)) (aw s.k-s.k.mr.length) (⟨0,⟨rfl,by omega⟩,E.ab [0],I⟩) ?_;clear E I;rintro μ a w ⟨i,⟨rfl,hi⟩,E,I⟩;obtain⟨kz,fc,mi⟩:=hw.rk i hi;have fj:iK p (i+1) s=oq p (iK p i s):=Hl p i s;have E7:=hw.low;have w8:aw (iK p i s).k=aw s.k:=by rw[aw,fc];rfl
 generalize H4:iK p i s=si at I kz fc mi fj w8;replace I:=aP.open I;have bq:=kz.wc.lE;have iX:si.k.ls.length≤8:=by rw[kz.wc.ls];exact kz.wc.n.2
 have abu:aw si.k≤1000:=eS kz.wc.nO kz.wc.l5;refine aV 2 (λw0 w'=>w'.cell? ⟨B.pb,0,none⟩=some (pt B.core.cb)) [4,8] [0,1,2,5,6,7,3003,3008,1004,1009,1010,11] E I λa w E I hH=>?_;have hC:=hH.at w (I.bC (b:=B.pb) rfl);refine RH 6 E I hH hC λa E=>?_;refine QH E (λw hc=>ae E (hc)) hC λa E=>?_;refine QH E (λw hc=>ae E (hc)) hC λa E=>?_;refine RH 0 E I hH hC λa E=>?_;refine CL 0 E I (NA (I.pick (az B.core si.k))) λa w E I=>?_;replace hC:=hH.at w (I.bC (b:=B.pb) rfl);refine RH 0 E I hH hC λa E=>?_;refine CL 0 E I (pv (I.pick (az B.core si.k))) λa w E I=>?_;obtain⟨D,I,hD⟩:=az.qu I;refine CL 0 E I (sH I bq iX) λa w E I=>?_;refine RN 1 E I λa E=>?_;replace I:=hD _ _ I;replace I:=I.sub (M:=aa B.pb 192 (gJ p B si.g)::az B.core si.k::aA W p B.aq B.cO::Sl 5 1 B.adT B.gs.table.length B.cT (bc B.gs.table)::L);refine IF 0 E I (λak a E=>?_) λak a E=>?_
 ·
  have qX:si.k.mr.length<aU si.k.ls:=by omega
  have abv:si.k.mr.length<aw si.k:=qX;refine CL 5 E I (NA (I.pick (az B.core si.k))) λa w E I=>?_;refine CL 6 E I (pv (I.pick (az B.core si.k))) λa w E I=>?_;refine RN 1 E I λa E=>?_;obtain⟨D,I,hD⟩:=az.qu I;refine aY 0 E I (aaD I bq qX iX) λiZ jv a w E I=>?_;refine RN 5 E I λa E=>?_;replace I:=hD _ _ (I.sub (M:=Qu B.core.qb B.core.aB si.k.ls::D::Sl 5 1 iZ (bK si.k.ls si.k.mr.length).length jv (bc (bK si.k.ls si.k.mr.length))::aa B.pb 192 (gJ p B si.g)::aA W p B.aq B.cO::Sl 5 1 B.adT B.gs.table.length B.cT (bc B.gs.table)::L));have dO:=nL si.k.ls si.k.mr.length;refine aV 1 (λw0 w'=>Rd w' B.pb 0 (gJ p B si.g)) [8] [0,1,2,3,5,6,7,9,10,3004,1008,1011,12,13,1014] E I λa w E I hH=>?_;have hC:=hH.at w (I.ai (b:=B.pb));refine RH 9 E I hH hC λa E=>?_;refine QH E (λw hc=>bT E n2 rfl Ty.t45 (Oe hc)) hC λa E=>?_;refine RH 0 E I hH hC λa E=>?_;refine SS E (bT E rX rfl Ty.t183 (z8 hC)) λa E=>?_;refine RH 0 E I hH hC λa E=>?_;refine CL 0 E I (NV (b:=bK si.k.ls si.k.mr.length) (fr:=si.k.mr.length) (I.pick (aA W p B.aq B.cO)) a6 aF (kz.qn a6) (by omega) (λw' hw=>(hw.pick (Sl 5 1 iZ (bK si.k.ls si.k.mr.length).length jv (bc (bK si.k.ls si.k.mr.length)))).cw iZ _ rfl rfl)) λa w E I=>?_;refine RN 2 E I λa E=>?_;refine rI E rfl I Ty.t183 u0 (by rw[dk,Og];decide) λa w E I=>?_;rw[abt]at I;refine aV 0 (λw0 w'=>Rd w' B.pb 0 (gJ p B (fa p si.k.mr.length (bK si.k.ls si.k.mr.length) si.g))) [7,8] [0,1,2,4,5,6,3003,1007,1008,1009] E I λa w E I hH=>?_;have hC:=hH.at w (I.ai (b:=B.pb));refine RH 6 E I hH hC λa E=>?_;refine QH E (λw hc=>ae E (hc 0 _ rfl)) hC λa E=>?_;refine RH 0 E I hH hC λa E=>?_;refine SS E (bT E rX rfl Ty.t183 (z8 hC)) λa E=>?_;refine RH 0 E I hH hC λa E=>?_;refine CL 0 E I (aap I) λa w E I=>?_;replace hC:=hH.at w (I.ai (b:=B.pb));refine RH 0 E I hH hC λa E=>?_;refine CL 0 E I (aaV (I.pick (az B.core si.k)) kz.wc (by omega) (Gq _)) λa w E I=>?_;refine RN 0 E I λa E=>?_;exact⟨aw s.k-s.k.mr.length-(i+1),by omega,i+1,⟨rfl,by omega⟩,E.ab [0],by
   rw[fj];show U W w (aP W B p ⟨l4 si.k (jI (gF (fa p si.k.mr.length (bK si.k.ls si.k.mr.length) si.g))),fa p si.k.mr.length (bK si.k.ls si.k.mr.length) si.g⟩::L);exact (aP.fold I B p ⟨l4 si.k (jI (gF (fa p si.k.mr.length (bK si.k.ls si.k.mr.length) si.g))),fa p si.k.mr.length (bK si.k.ls si.k.mr.length) si.g⟩).sub⟩
 refine RT 0 E I ?_;obtain rfl:i=aw s.k-s.k.mr.length:=by
  have:aU si.k.ls=aw si.k:=rfl;omega
 refine⟨rfl,?_⟩;rw[eD,H4];exact aP.close I
theorem Oh (I:U W w (aP W B p s::L))(hw:cy p s)(a6:dp p)(aF:p.title.size≤1000000000):Calls prog 282 #[pt B.pb,.int .u8 (x.toNat:Nat)] w λr w'=>r=.returned (.int .i64 (dM p x s).1)∧U W w' (aP W B p (dM p x s).2::L):=by
 have h1:=vI x s.k;have lV:=hw.toWP.more (hw.wc.al x) (hw.held.al x) h1.1 h1.2;refine EN func282 ntmps282 rfl rfl λa E=>?_;refine CL 4 E I (ov I) λa w E I=>?_;refine RN 1 E I λa E=>?_;replace I:=aP.open I;refine CL 0 E I (aaX (x:=x) (I.pick (az B.core s.k)) hw.wc) λa w E I=>?_;replace I:=(aP.fold I B p ⟨(c5 x s.k).2,s.g⟩);refine RN 1 E I λa E=>?_;refine b6 (M:=λa w=>Fr a 15 [(5,.int .i64 (dM p x s).1)]∧U W w (aP W B p (dM p x s).2::L)) ?_ ?_
 ·
  refine IF 3 E I (λak a E=>?_) λak a E=>?_
  ·
   refine CL 1 E I (H3 I lV a6 aF) λa w E I=>?_;refine RN 0 E I λa E=>?_;exact⟨E.ab [5],I⟩
  refine RN 0 E I λa E=>?_;have he:(dM p x s).2=⟨(c5 x s.k).2,s.g⟩:=by
   show eD p _=_;rw[vH ak];exact hw.eD
  rw[he];exact⟨E.ab [5],I⟩
 clear E;(try clear I);rintro a w ⟨E,I⟩;refine RT 3 E I ?_;exact⟨rfl,I⟩
theorem Oi (I:U W w (aP W B p s::L))(hw:cy p s)(a6:dp p)(aF:p.title.size≤1000000000)(hb:bs.length≤65536)(hc:bs.length≤c)(hp:∀ w',U W w' L→aX w' ad bs.length bs) :
   Calls prog 284 #[pt B.pb,.slice ad bs.length c] w λr w'=>r=.returned (.int .i64 (dN p bs s).1)∧U W w' (aP W B p (dN p bs s).2::L):=by
 have h1:=sK bs s.k;have lV:=hw.toWP.more (hw.wc.recv bs).1 ((hw.wc.recv bs).2 hw.held) h1.1 h1.2;refine EN func284 ntmps284 rfl rfl λa E=>?_;refine CL 4 E I (ov I) λa w E I=>?_;refine RN 1 E I λa E=>?_;replace I:=aP.open I;refine CL 0 E I (aa4 (bs:=bs) (ad:=ad) (c:=c) (I.pick (az B.core s.k)) hw.wc hb hc (λw' dj=>hp w' dj.tail.tail.tail)) λa w E I=>?_;replace I:=(aP.fold I B p ⟨(dD bs s.k).2,s.g⟩);refine RN 1 E I λa E=>?_;refine b6 (M:=λa w=>Fr a 15 [(5,.int .i64 (dN p bs s).1)]∧U W w (aP W B p (dN p bs s).2::L)) ?_ ?_
 ·
  refine IF 3 E I (λak a E=>?_) λak a E=>?_
  ·
   refine CL 1 E I (H3 I lV a6 aF) λa w E I=>?_;refine RN 0 E I λa E=>?_;exact⟨E.ab [5],I⟩
  refine RN 0 E I λa E=>?_;have he:(dN p bs s).2=⟨(dD bs s.k).2,s.g⟩:=by
   show eD p _=_;rw[xO ak];exact hw.eD
  rw[he];exact⟨E.ab [5],I⟩
 clear E;(try clear I);rintro a w ⟨E,I⟩;refine RT 3 E I ?_;exact⟨rfl,I⟩
theorem Oj (I:U W w (aP W B p s::L))(hw:cy p s)(pM:s.k.now≤1000000):Calls prog 285 #[pt B.pb] w λr w'=>∃ ad c,r=.returned (.slice ad (bw s.k).1.length c)∧U W w' (cg 124 ad (bw s.k).1.length c (bw s.k).1::aP W B p ⟨(bw s.k).2,s.g⟩::L):=by
 refine EN func285 ntmps285 rfl rfl λa E=>?_;refine CL 4 E I (ov I) λa w E I=>?_;replace I:=aP.open I;refine aY 0 E I (aa2 (I.pick (az B.core s.k)) hw.wc pM) λad c a w E I=>?_;refine RT 1 E I ?_;exact⟨ad,c,rfl,(aP.fold I B p ⟨(bw s.k).2,s.g⟩).sub⟩
theorem Ol (I:U W w (aP W B p s::L))(hw:cy p s):Calls prog 283 #[pt B.pb] w λr w'=>∃ ad c,r=.returned (.slice ad (cA s.k).1.length c)∧U W w' (cg 124 ad (cA s.k).1.length c (cA s.k).1::aP W B p ⟨(cA s.k).2,s.g⟩::L):=by
 refine EN func283 ntmps283 rfl rfl λa E=>?_;refine CL 4 E I (ov I) λa w E I=>?_;replace I:=aP.open I;refine aY 0 E I (aa1 (I.pick (az B.core s.k)) hw.wc) λad c a w E I=>?_;refine RT 1 E I ?_;exact⟨ad,c,rfl,(aP.fold I B p ⟨(cA s.k).2,s.g⟩).sub⟩
theorem Om (I:U W w (aP W B p s::L)):Calls prog 281 #[pt B.pb] w λr w'=>∃ ad c,r=.returned (.slice ad s.k.ev.length c)∧U W w' (Sl 135 1 ad s.k.ev.length c (s.k.ev.map cC)::aP W B p ⟨{ s.k with ev:=[] },s.g⟩::L):=by
 refine EN func281 ntmps281 rfl rfl λa E=>?_;refine CL 4 E I (ov I) λa w E I=>?_;replace I:=aP.open I;refine aY 0 E I (aaW (I.pick (az B.core s.k))) λad c a w E I=>?_;refine RT 1 E I ?_;exact⟨ad,c,rfl,(aP.fold I B p ⟨{ s.k with ev:=[] },s.g⟩).sub⟩
theorem On (I:U W w (aP W B p s::L)):Calls prog 141 #[pt B.pb] w λr w'=>r=.returned (.bool s.k.cl)∧U W w' (aP W B p s::L):=by
 refine EN func141 ntmps141 rfl rfl λa E=>?_;refine CL 4 E I (ov I) λa w E I=>?_;replace I:=aP.open I;refine CL 0 E I (zR (I.pick (az B.core s.k))) λa w E I=>?_;refine RT 1 E I ?_;exact⟨rfl,(aP.fold I B p s).sub⟩
theorem Oo (I:U W w (aP W B p s::L))(hw:cy p s):Calls prog 273 #[pt B.pb] w λr w'=>∃ ad c,r=.returned (.tuple #[.slice ad 128 c,.int .i64 (l7 s).2])∧U W w' (Sl 5 1 ad 128 c (bc (l7 s).1)::aP W B p s::L):=by
 replace I:=aP.open I;have bq:=hw.wc.lE;have iX:s.k.ls.length≤8:=by rw[hw.wc.ls];exact hw.wc.n.2
 refine EN func273 ntmps273 rfl rfl λa E=>?_;refine RN 7 E I λa E=>?_;replace E:=E.aQ 5;refine aV 2 (λw0 w'=>Rd w' B.pb 0 (gJ p B s.g)) [4,8] [0,1,2,5,6,7,3003,3008,1004,1009,1010,11,12] E I λa w E I hH=>?_;have hC:=hH.at w (I.ai (b:=B.pb));refine RH 6 E I hH hC λa E=>?_;refine QH E (λw hc=>bT E rX rfl Ty.t183 (z8 hc)) hC λa E=>?_;refine QH E (λw hc=>ae E (hc 0 _ rfl)) hC λa E=>?_;refine RH 0 E I hH hC λa E=>?_;refine aY 0 E I (zI I) λad c a w E I=>?_;replace hC:=hH.at w (I.ai (b:=B.pb));refine RH 0 E I hH hC λa E=>?_;refine CL 0 E I (pv (I.pick (az B.core s.k))) λa w E I=>?_;obtain⟨D,I,hD⟩:=az.qu I;refine CL 0 E I (sH I bq iX) λa w E I=>?_;refine RN 2 E I λa E=>?_;replace I:=hD _ _ I;refine RT 0 E I ?_;exact⟨ad,c,rfl,(aP.fold I B p s).sub (M:=Sl 5 1 ad 128 c (bc (gF s.g))::aP W B p s::L)⟩
theorem Oq (I:U W w (aP W B p s::L))(hw:cy p s)(a6:dp p)(aF:p.title.size≤1000000000)(fH:c0 B.gs):Calls prog 276 #[pt B.pb] w λr w'=>∃ ad c,r=.returned (.tuple #[.slice ad 128 c,.int .i64 (fG p B.gs s).2])∧U W w' (Sl 5 1 ad 128 c (bc (fG p B.gs s).1)::aP W B p s::L):=by
 have bq:=hw.wc.lE;have iX:s.k.ls.length≤8:=by rw[hw.wc.ls];exact hw.wc.n.2
 have g4:=hw.wc.l5;have fe:aU s.k.ls≤aH s.k:=hw.wc.nO;refine EN func276 ntmps276 rfl rfl λa E=>?_;refine CL 5 E I (ov I) λa w E I=>?_;replace I:=aP.open I;refine CL 0 E I (pv (I.pick (az B.core s.k))) λa w E I=>?_;obtain⟨D,I,hD⟩:=az.qu I;refine CL 0 E I (sH I bq iX) λa w E I=>?_;refine RN 1 E I λa E=>?_;replace I:=(aP.fold (hD _ _ I) B p s);refine RN 5 E I λa E=>?_;replace E:=E.aQ 11;refine RN 3 E I λa E=>?_;replace I:=aP.open I;refine CL 1 E I (um (I.pick (az B.core s.k)) hw.wc) λa w E I=>?_;replace I:=(aP.fold I B p s);refine IF 3 E I (λak a E=>?_) λak a E=>?_
 ·
  refine aY 2 E I (Oo I hw) λad c a w E I=>?_;refine RT 4 E I ?_;refine⟨ad,c,?_,?_⟩
  ·rw[fG,aj (by rw[aw];omega)]
  ·rw[fG,aj (by rw[aw];omega)];exact I
 refine RN 1 E I λa E=>?_;replace I:=aP.open I;refine aV 0 (λw0 w'=>Rd w' B.pb 0 (gJ p B s.g)) [7,12,13,17,21,22,23,24,25,29] [0,1,2,4,5,6,8,9,10,11,14,15,16,18,19,20,26,27,28,3003,3007,3012,3017,3021,3029,1013,1022,1023,1024,1025,1030,31,32] E I λa w E I hH=>?_;have hC:=hH.at w (I.ai (b:=B.pb));refine RH 19 E I hH hC λa E=>?_;refine QH E (λw hc=>bT E n2 rfl Ty.t45 (Oe hc)) hC λa E=>?_;refine QH E (λw hc=>bT E rX rfl Ty.t183 (z8 hc)) hC λa E=>?_;refine QH E (λw hc=>ae E (hc 0 _ rfl)) hC λa E=>?_;refine QH E (λw hc=>bT E Bf rfl Ty.t186 (Of hc)) hC λa E=>?_;refine QH E (λw hc=>ae E (hc 0 _ rfl)) hC λa E=>?_;refine QH E (λw hc=>ae E (hc 0 _ rfl)) hC λa E=>?_;refine RH 0 E I hH hC λa E=>?_;refine CL 0 E I (pv (I.pick (az B.core s.k))) λa w E I=>?_;replace hC:=hH.at w (I.ai (b:=B.pb));refine RH 0 E I hH hC λa E=>?_;refine CL 0 E I (um (I.pick (az B.core s.k)) hw.wc) λa w E I=>?_;replace hC:=hH.at w (I.ai (b:=B.pb));obtain⟨D,I,hD⟩:=az.qu I;refine RH 0 E I hH hC λa E=>?_;refine j9 0 E I (H2 (r:=0) (to:=aH s.k) (.inl rfl) (by decide) I fH bq iX hw.wc.nN g4 (λw' dj=>(dj.pick (Sl 5 1 B.adT B.gs.table.length B.cT (bc B.gs.table))).cw B.adT _ rfl rfl)) λgg gq X a w E ⟨⟨uy,iF⟩,I⟩=>?_;replace hC:=hH.at w (I.ai (b:=B.pb));have m9:=iF rfl;subst m9;rw[xY]at I;have iv:(dx B.gs s.k.ls (aH s.k)).length=aH s.k-aU s.k.ls:=xK _ _ _;have nd:∀ b∈dx B.gs s.k.ls (aH s.k),b.length≤1099511627776:=λb hb=>by
  rw[dx,cX]at hb;obtain⟨i,_,rfl⟩:=hb;rw[nL,js,a8];omega
 obtain⟨zs,cW,eU,I⟩:=cj.open I;rw[← iv]at E I;refine RH 0 E I hH hC λa E=>?_;refine CL 0 E I (NW (P:=dx B.gs s.k.ls (aH s.k)) (zs:=zs) (fr:=aU s.k.ls) (L:=Sl 22 1 gg (dx B.gs s.k.ls (aH s.k)).length gq (zs.map aK)::ah ba zs::Qu B.core.qb B.core.aB s.k.ls::D::aa B.pb 192 (gJ p B s.g)::Sl 5 1 B.adT B.gs.table.length B.cT (bc B.gs.table)::L) (I.sub (M:=aA W p B.aq B.cO::Sl 22 1 gg (dx B.gs s.k.ls (aH s.k)).length gq (zs.map aK)::ah ba zs::Qu B.core.qb B.core.aB s.k.ls::D::aa B.pb 192 (gJ p B s.g)::Sl 5 1 B.adT B.gs.table.length B.cT (bc B.gs.table)::L)) a6 aF (hw.qn a6) ⟨by omega,nd⟩ (by omega) cW (λw' dj=>U.mQ (dj.sub (M:=Sl 22 1 gg (dx B.gs s.k.ls (aH s.k)).length gq (zs.map aK)::ah ba zs::[])))) λa w E I=>?_;replace hC:=hH.at w (I.ai (b:=B.pb));refine RH 0 E I hH hC λa E=>?_;refine aY 0 E I (zI I) λad2 c2 a w E I=>?_;replace hC:=hH.at w (I.ai (b:=B.pb));replace I:=hD _ _ (I.sub (M:=Qu B.core.qb B.core.aB s.k.ls::D::Sl 5 1 ad2 128 c2 (bc (gF (foldI p (aU s.k.ls) s.g (dx B.gs s.k.ls (aH s.k)))))::aa B.pb 192 (gJ p B s.g)::aA W p B.aq B.cO::Sl 5 1 B.adT B.gs.table.length B.cT (bc B.gs.table)::L));refine RH 0 E I hH hC λa E=>?_;refine CL 0 E I (um I hw.wc) λa w E I=>?_;refine RN 2 E I λa E=>?_;refine RT 0 E I ?_;refine⟨ad2,c2,?_,?_⟩
 ·rw[fG,ag (by rw[aw];omega)]
 ·rw[fG,ag (by rw[aw];omega)];exact (aP.fold I B p s).sub (M:=Sl 5 1 ad2 128 c2 (bc (gF (foldI p (aU s.k.ls) s.g (dx B.gs s.k.ls (aH s.k)))))::aP W B p s::L)
end
theorem Ot {cf:Cf}(h:eY cf):∃ (n me aJ bt:Nat),cf=⟨n,me,cf.id,aJ,bt,cf.bh,cf.order,cf.cx,cf.workers,cf.room⟩:=by
 obtain⟨⟨h1,h2,h3⟩,⟨h4,h5,h6,h7⟩,h8,h9,fO,nz⟩:=h;simp only[fE] at *;refine⟨cf.n.toNat,cf.me.toNat,cf.aJ.toNat,cf.bt.toNat,?_⟩;rw[Int.toNat_of_nonneg (by omega),Int.toNat_of_nonneg (by omega),Int.toNat_of_nonneg (by omega),Int.toNat_of_nonneg (by omega)]
section
variable {W w:World}{L:List SP}{cP cT n me aJ bt:Nat}{adP adT:Option Addr}{p:Pr}{tb:List UInt8}{cf:Cf}{id bh order cx workers room:Int}
theorem abw (I:U W w (aA W p adP cP::L))(h:¬ eY cf)(eQ:tb.length≤1099511627776)(hT:∀ w',U W w' (aA W p adP cP::L)→aX w' adT tb.length tb) :
   Calls prog 60 #[.agg (bS cf).toArray,.agg (bR p adP cP).toArray,.slice adT tb.length cT] w λr w'=>r=.returned (.tuple #[.pointer none,.int .i64 1])∧U W w' (aA W p adP cP::L):=by
 refine EN func60 ntmps60 rfl rfl λa E=>?_;refine BX 1 E I λb3 a w E I=>?_;change U W w (aa b3 28 (bS cf)::_) at I;refine BX 0 E I λb4 a w E I=>?_;change U W w (aa b4 45 (bR p adP cP)::_) at I;refine RN 2 E I λa E=>?_;refine b6 (M:=λa w=>∃ (b8:Nat) (eh:Option Addr) (dL:Nat),Fr a 48 [(3,pt b3),(4,pt b4),(8,pt b8)]∧U W w (aa b8 186 (dq ⟨cf.bh,cf.order,tb⟩ eh dL)::Sl 5 1 eh tb.length dL (bc tb)::aa b3 28 (bS cf)::aa b4 45 (bR p adP cP)::aA W p adP cP::L)) ?_ ?_
 ·
  refine aV 0 (λw0 w'=>Rd w' b3 0 (bS cf)) [3,5,7] [0,2,4,3001,3003,2005,6,1007,1008] E I λa w E I hH=>?_;have hC:=hH.at w (I.ai (b:=b3));refine RH 3 E I hH hC λa E=>?_;refine QH E (λw hc=>ae E (hc 5 _ rfl)) hC λa E=>?_;refine QH E (λw hc=>ae E (hc 6 _ rfl)) hC λa E=>?_;refine RH 0 E I hH hC λa E=>?_;refine DN [(5,[6,1007,1008]),(7,[1005,6,1008])] (by kernel_rfl) rfl ⟨⟨_,rfl,?_⟩,⟨_,rfl,?_⟩,trivial⟩
  ·
   refine RH 0 E I hH hC λa E=>?_;refine aY 0 E I (ts (bs:=tb) I (λw' hw=>hT w' hw.sub) eQ) λeh dL a w E I=>?_;replace hC:=hH.at w (I.ai (b:=b3));refine RH 1 E I hH hC λa E=>?_;refine e5 E rfl I Ty.t186 rfl λb8 a w E I ho=>?_;clear ho;replace hC:=hH.at w (I.ai (b:=b3));refine RH 0 E I hH hC λa E=>?_;refine SA 0 E I λa w E I=>?_;refine RN 0 E I λa E=>?_;exact⟨_,eh,dL,E.ab [3,4,8],I.sub (M:=aa b8 186 [.int .i64 cf.bh,.int .i64 cf.order,.slice eh tb.length dL]::Sl 5 1 eh tb.length dL (bc tb)::aa b3 28 (bS cf)::aa b4 45 (bR p adP cP)::aA W p adP cP::L)⟩
  refine RH 0 E I hH hC λa E=>?_;refine e5 E rfl I Ty.t186 rfl λb8 a w E I ho=>?_;clear ho;replace hC:=hH.at w (I.ai (b:=b3));refine RH 0 E I hH hC λa E=>?_;refine aY 0 E I (ts (bs:=tb) I (λw' hw=>hT w' hw.sub) eQ) λeh dL a w E I=>?_;replace hC:=hH.at w (I.ai (b:=b3));refine RH 1 E I hH hC λa E=>?_;refine SA 0 E I λa w E I=>?_;refine RN 0 E I λa E=>?_;exact⟨_,eh,dL,E.ab [3,4,8],I.sub (M:=aa b8 186 [.int .i64 cf.bh,.int .i64 cf.order,.slice eh tb.length dL]::Sl 5 1 eh tb.length dL (bc tb)::aa b3 28 (bS cf)::aa b4 45 (bR p adP cP)::aA W p adP cP::L)⟩
 clear E;(try clear I);rintro a w ⟨b8,eh,dL,E,I⟩;refine CL 2 E I (aaT I h) λa w E I=>?_;refine RN 9 E I λa E=>?_;rw[show decide ((1:Int)≠0)=true from rfl]at E;refine RN 1 E I λa E=>?_;replace E:=E.ek 26;refine RT 13 E I ?_;exact⟨rfl,I.sub⟩
theorem abx (I:U W w (aA W p adP cP::L))(hm:eY ⟨n,me,id,aJ,bt,bh,order,cx,workers,room⟩)(h:¬ (dp p∧c0 ⟨bh,order,tb⟩))(aF:p.title.size≤1000000000)(eb:p.ops.length≤1000000000)(eQ:tb.length≤1099511627776)(hT:∀ w',U W w' (aA W p adP cP::L)→aX w' adT tb.length tb) :
   Calls prog 60 #[.agg (bS ⟨n,me,id,aJ,bt,bh,order,cx,workers,room⟩).toArray,.agg (bR p adP cP).toArray,.slice adT tb.length cT] w λr w'=>r=.returned (.tuple #[.pointer none,.int .i64 1])∧U W w' (aA W p adP cP::L):=by
 obtain⟨cf,df⟩:∃ cf:Cf,cf=⟨n,me,id,aJ,bt,bh,order,cx,workers,room⟩:=⟨_,rfl⟩;rw[← df];have hg:cf.bh=bh∧cf.order=order:=by rw[df];exact⟨rfl,rfl⟩
 refine EN func60 ntmps60 rfl rfl λa E=>?_;refine BX 1 E I λb3 a w E I=>?_;change U W w (aa b3 28 (bS cf)::_) at I;refine BX 0 E I λb4 a w E I=>?_;change U W w (aa b4 45 (bR p adP cP)::_) at I;refine RN 2 E I λa E=>?_;refine b6 (M:=λa w=>∃ (b8:Nat) (eh:Option Addr) (dL:Nat),Fr a 48 [(3,pt b3),(4,pt b4),(8,pt b8)]∧U W w (aa b8 186 (dq ⟨cf.bh,cf.order,tb⟩ eh dL)::Sl 5 1 eh tb.length dL (bc tb)::aa b3 28 (bS cf)::aa b4 45 (bR p adP cP)::aA W p adP cP::L)) ?_ ?_
 ·
  refine aV 0 (λw0 w'=>Rd w' b3 0 (bS cf)) [3,5,7] [0,2,4,3001,3003,2005,6,1007,1008] E I λa w E I hH=>?_;have hC:=hH.at w (I.ai (b:=b3));refine RH 3 E I hH hC λa E=>?_;refine QH E (λw hc=>ae E (hc 5 _ rfl)) hC λa E=>?_;refine QH E (λw hc=>ae E (hc 6 _ rfl)) hC λa E=>?_;refine RH 0 E I hH hC λa E=>?_;refine DN [(5,[6,1007,1008]),(7,[1005,6,1008])] (by kernel_rfl) rfl ⟨⟨_,rfl,?_⟩,⟨_,rfl,?_⟩,trivial⟩
  ·
   refine RH 0 E I hH hC λa E=>?_;refine aY 0 E I (ts (bs:=tb) I (λw' hw=>hT w' hw.sub) eQ) λeh dL a w E I=>?_;replace hC:=hH.at w (I.ai (b:=b3));refine RH 1 E I hH hC λa E=>?_;refine e5 E rfl I Ty.t186 rfl λb8 a w E I ho=>?_;clear ho;replace hC:=hH.at w (I.ai (b:=b3));refine RH 0 E I hH hC λa E=>?_;refine SA 0 E I λa w E I=>?_;refine RN 0 E I λa E=>?_;exact⟨_,eh,dL,E.ab [3,4,8],I.sub (M:=aa b8 186 [.int .i64 cf.bh,.int .i64 cf.order,.slice eh tb.length dL]::Sl 5 1 eh tb.length dL (bc tb)::aa b3 28 (bS cf)::aa b4 45 (bR p adP cP)::aA W p adP cP::L)⟩
  refine RH 0 E I hH hC λa E=>?_;refine e5 E rfl I Ty.t186 rfl λb8 a w E I ho=>?_;clear ho;replace hC:=hH.at w (I.ai (b:=b3));refine RH 0 E I hH hC λa E=>?_;refine aY 0 E I (ts (bs:=tb) I (λw' hw=>hT w' hw.sub) eQ) λeh dL a w E I=>?_;replace hC:=hH.at w (I.ai (b:=b3));refine RH 1 E I hH hC λa E=>?_;refine SA 0 E I λa w E I=>?_;refine RN 0 E I λa E=>?_;exact⟨_,eh,dL,E.ab [3,4,8],I.sub (M:=aa b8 186 [.int .i64 cf.bh,.int .i64 cf.order,.slice eh tb.length dL]::Sl 5 1 eh tb.length dL (bc tb)::aa b3 28 (bS cf)::aa b4 45 (bR p adP cP)::aA W p adP cP::L)⟩
 clear E;(try clear I);rintro a w ⟨b8,eh,dL,E,I⟩;refine RN 2 E I λa E=>?_;rw[df]at E;refine bg 0 E I (Nw I hm) λBc a w E I=>?_;refine RN 9 E I λa E=>?_;rw[show decide ((0:Int)≠0)=false from rfl]at E;refine RN 1 E I λa E=>?_;replace E:=E.aQ 26;refine bg 1 E I (FZ (I.pick (aA W p adP cP)) aF eb) λrc a w E ⟨j0,I⟩=>?_;refine BY 3 E I (λjY a E=>?_) λjY a E=>?_
 ·
  refine RT 8 E I ?_;exact⟨rfl,I.sub⟩
 refine bg 1 E I (zY I) λaby a w E ⟨fo,I⟩=>?_;refine IF 2 E I (λak a E=>?_) λak a E=>?_
 ·
  refine RT 3 E I ?_;exact⟨rfl,I.sub⟩
 exact absurd ⟨j0.1 jY,by have:=fo.1 ak;rw[hg.1,hg.2]at this;exact this⟩ h
theorem Ou (I:U W w (aA W p adP cP::L))(hm:eY ⟨n,me,id,aJ,bt,bh,order,cx,workers,room⟩)(a6:dp p)(fH:c0 ⟨bh,order,tb⟩)(aF:p.title.size≤1000000000)(eb:p.ops.length≤1000000000)(eQ:tb.length≤1099511627776)(hT:∀ w',U W w' (aA W p adP cP::L)→aX w' adT tb.length tb) :
   Calls prog 60 #[.agg (bS ⟨n,me,id,aJ,bt,bh,order,cx,workers,room⟩).toArray,.agg (bR p adP cP).toArray,.slice adT tb.length cT] w λr w'=>∃ B:jw,r=.returned (.tuple #[pt B.pb,.int .i64 0])∧B.gs=⟨bh,order,tb⟩ ∧
    U W w' (aP W B p (eE p ⟨n,me,id,aJ,bt,bh,order,cx,workers,room⟩)::aA W p adP cP::L):=by
 obtain⟨cf,df⟩:∃ cf:Cf,cf=⟨n,me,id,aJ,bt,bh,order,cx,workers,room⟩:=⟨_,rfl⟩;rw[← df];have hg:cf.bh=bh∧cf.order=order:=by rw[df];exact⟨rfl,rfl⟩
 have agS:1≤p.ops.length∧p.ops.length≤64:=⟨a6.1.2.1,a6.1.2.2.1⟩;refine EN func60 ntmps60 rfl rfl λa E=>?_;refine BX 1 E I λb3 a w E I=>?_;change U W w (aa b3 28 (bS cf)::_) at I;refine BX 0 E I λb4 a w E I=>?_;change U W w (aa b4 45 (bR p adP cP)::_) at I;refine RN 2 E I λa E=>?_;refine b6 (M:=λa w=>∃ (b8:Nat) (eh:Option Addr) (dL:Nat),Fr a 48 [(3,pt b3),(4,pt b4),(8,pt b8)]∧U W w (aa b8 186 (dq ⟨cf.bh,cf.order,tb⟩ eh dL)::Sl 5 1 eh tb.length dL (bc tb)::aa b3 28 (bS cf)::aa b4 45 (bR p adP cP)::aA W p adP cP::L)) ?_ ?_
 ·
  refine aV 0 (λw0 w'=>Rd w' b3 0 (bS cf)) [3,5,7] [0,2,4,3001,3003,2005,6,1007,1008] E I λa w E I hH=>?_;have hC:=hH.at w (I.ai (b:=b3));refine RH 3 E I hH hC λa E=>?_;refine QH E (λw hc=>ae E (hc 5 _ rfl)) hC λa E=>?_;refine QH E (λw hc=>ae E (hc 6 _ rfl)) hC λa E=>?_;refine RH 0 E I hH hC λa E=>?_;refine DN [(5,[6,1007,1008]),(7,[1005,6,1008])] (by kernel_rfl) rfl ⟨⟨_,rfl,?_⟩,⟨_,rfl,?_⟩,trivial⟩
  ·
   refine RH 0 E I hH hC λa E=>?_;refine aY 0 E I (ts (bs:=tb) I (λw' hw=>hT w' hw.sub) eQ) λeh dL a w E I=>?_;replace hC:=hH.at w (I.ai (b:=b3));refine RH 1 E I hH hC λa E=>?_;refine e5 E rfl I Ty.t186 rfl λb8 a w E I ho=>?_;clear ho;replace hC:=hH.at w (I.ai (b:=b3));refine RH 0 E I hH hC λa E=>?_;refine SA 0 E I λa w E I=>?_;refine RN 0 E I λa E=>?_;exact⟨_,eh,dL,E.ab [3,4,8],I.sub (M:=aa b8 186 [.int .i64 cf.bh,.int .i64 cf.order,.slice eh tb.length dL]::Sl 5 1 eh tb.length dL (bc tb)::aa b3 28 (bS cf)::aa b4 45 (bR p adP cP)::aA W p adP cP::L)⟩
  refine RH 0 E I hH hC λa E=>?_;refine e5 E rfl I Ty.t186 rfl λb8 a w E I ho=>?_;clear ho;replace hC:=hH.at w (I.ai (b:=b3));refine RH 0 E I hH hC λa E=>?_;refine aY 0 E I (ts (bs:=tb) I (λw' hw=>hT w' hw.sub) eQ) λeh dL a w E I=>?_;replace hC:=hH.at w (I.ai (b:=b3));refine RH 1 E I hH hC λa E=>?_;refine SA 0 E I λa w E I=>?_;refine RN 0 E I λa E=>?_;exact⟨_,eh,dL,E.ab [3,4,8],I.sub (M:=aa b8 186 [.int .i64 cf.bh,.int .i64 cf.order,.slice eh tb.length dL]::Sl 5 1 eh tb.length dL (bc tb)::aa b3 28 (bS cf)::aa b4 45 (bR p adP cP)::aA W p adP cP::L)⟩
 clear E;(try clear I);rintro a w ⟨b8,eh,dL,E,I⟩;refine RN 2 E I λa E=>?_;rw[df]at E;refine bg 0 E I (Nw I hm) λBc a w E I=>?_;rw[← df]at I;refine RN 9 E I λa E=>?_;rw[show decide ((0:Int)≠0)=false from rfl]at E;refine RN 1 E I λa E=>?_;replace E:=E.aQ 26;refine bg 1 E I (FZ (I.pick (aA W p adP cP)) aF eb) λrc a w E ⟨j0,I⟩=>?_;rw[j0.2 a6]at E;refine RN 1 E I λa E=>?_;rw[show (!true)=false from rfl]at E;refine RN 2 E I λa E=>?_;replace E:=E.aQ 31;refine bg 1 E I (zY I) λaby a w E ⟨fo,I⟩=>?_;rw[fo.2 (by rw[hg.1,hg.2];exact fH)]at E;refine RN 2 E I λa E=>?_;replace E:=E.aQ 35;refine RN 2 E I λa E=>?_;replace I:=I.bQ 114 4 none;rw[bR]at I;refine RN 2 E I λa E=>?_;refine hO E rfl I Bh Ty.t114 rfl rfl (by decide) (λh0=>(I.pick (aA W p adP cP)).sg adP h0) (by rw[jC FA]) (A5 Lp _) (by omega) λoY oZ a w E I=>?_;rw[nil_append,ei]at I;rw[ei]at E;refine ST 1 E I (λa w E I=>?_);refine RN 0 E I λa E=>?_;replace I:U W w (aa b4 45 [.string p.title,.slice oY p.ops.length oZ]::Sl 114 4 oY p.ops.length oZ (rows dS p.ops)::_):=I;refine RN 4 E I λa E=>?_;simp only[dq]at E;refine BX 1 E I λvP a w E I=>?_;refine RN 1 E I λa E=>?_;replace I:=(I.pick (Sl 114 4 oY p.ops.length oZ (rows dS p.ops))).FC;replace I:U W w (aa vP 192 (gJ p ⟨vP,Bc,oY,oZ,eh,dL,⟨cf.bh,cf.order,tb⟩⟩ pn)::az Bc (ft cf)::aA W p oY oZ::Sl 5 1 eh tb.length dL (bc tb)::aA W p adP cP::L):=by
  have dB:U W w (aA W p oY oZ::_):=I;have u7:=dB.j5 vP;exact U.sub (M:=_::az Bc (ft cf)::aA W p oY oZ::Sl 5 1 eh tb.length dL (bc tb)::aA W p adP cP::L) (show U W w (aa vP 192 (gJ p ⟨vP,Bc,oY,oZ,eh,dL,⟨cf.bh,cf.order,tb⟩⟩ pn)::_) from u7)
 replace I:=aP.fold I ⟨vP,Bc,oY,oZ,eh,dL,⟨cf.bh,cf.order,tb⟩⟩ p ⟨ft cf,pn⟩;refine CL 2 E I (H3 I (xR (by rw[df];exact hm)) a6 aF) λa w E I=>?_;refine RT 4 E I ?_;exact⟨⟨vP,Bc,oY,oZ,eh,dL,⟨cf.bh,cf.order,tb⟩⟩,rfl,by rw[hg.1,hg.2],I⟩
end
end
section
structure Aa (W:World)(L:List SP)(f:FuncId)(us:List Value):Prop where
 c:hZ prog f=true
 h:∀ {w:World} {M:List SP} {x y:UInt8},U W w M→(∀ {w'},U W w' M→U W w' L)→Calls prog f (List.toArray (.int .u8 (x.toNat:Nat)::.int .u8 (y.toNat:Nat)::us)) w λe w'=>∃ z:Int,e=.returned (.int .i64 z)∧U W w' M
abbrev hX (bb oo m c:Nat)(xs:List UInt8):SP:=Sl 5 1 (some ⟨bb,oo,none⟩) m c (bc xs)
abbrev sv (bb oo m c:Nat):Value:=.slice (some ⟨bb,oo,none⟩) m c
abbrev kM (f:FuncId)(us:List Value):Value:=.func (.func f) #[] us.toArray
theorem uz (bs:List UInt8)(i:Nat)(x:UInt8):(bc bs).set i (.int .u8 (x.toNat:Int))=bc (bs.set i x):=by rw[bc,bc,jF]
theorem CV {n:Nat}(h:n≤9223372036854775807):IntKind.u64.wrap (n:Int)=n:=by rw[wrap_u64];omega
section
variable {W w:World}{L:List SP}{bb oo m c lo up f n k:Nat}{us:List Value}{xs:List UInt8}
theorem Ov (I:U W w (hX bb oo m c xs::L))(hF:Aa W L f us)(hx:xs.length=m)(hb:up≤m)(hm:m≤1000)(ha0:lo≤m) :
   Calls prog 340 #[sv bb oo m c,.int .i64 lo,.int .i64 up,kM f us] w λe w'=>∃ ys:List UInt8,e=.returned (.tuple #[])∧ys.length=m∧U W w' (hX bb oo m c ys::L):=by
 refine EN func340 ntmps340 rfl rfl λa E=>?_;refine RN 4 E I λa E=>?_;refine aL (λμ a w=>∃ (i:Nat) (ys:List UInt8),(μ=up-i∧lo<i∧ys.length=m)∧Fr a 53 [(0,sv bb oo m c),(1,.int .i64 lo),(2,.int .i64 up),(3,kM f us),(8,.int .i64 i)]∧U W w (hX bb oo m c ys::L)) (up-(lo+1)) (⟨lo+1,xs,⟨rfl,by omega,hx⟩,E.ab [0,1,2,3,8],I⟩) ?_;clear E I;rintro μ a w ⟨i,ys,⟨rfl,hi,hy⟩,E,I⟩;refine IF 5 E I (λak a E=>?_) λak a E=>?_
 ·
  have him:i<m:=by omega
  refine RN 4 E I λa E=>?_;refine aL (λμ a w=>∃ (j:Nat) (zs:List UInt8),(μ=j∧j≤i∧zs.length=m)∧Fr a 53 [(0,sv bb oo m c),(1,.int .i64 lo),(2,.int .i64 up),(3,kM f us),(8,.int .i64 i),(9,.int .i64 j)]∧U W w (hX bb oo m c zs::L)) (i) (⟨i,ys,⟨rfl,a7 _,hy⟩,E.ab [0,1,2,3,8,9],I⟩) ?_;clear E I;rintro μ a w ⟨j,zs,⟨ze,hj,hz⟩,E,I⟩;have Ow:j<zs.length:=by omega
  have Ox:j-1<zs.length:=by omega
  refine bM 2 [13] [0,1,2,3,4,5,6,7,9,10,11,12,3008,1013,1014,15,16] E I λa w E I hH hC=>?_;have hr:Rd w bb oo (bc zs):=I.cQ bb oo (by omega);refine RH 4 E I hH hC λa E=>?_;refine E.by (s:=21) (λbW E=>?_) (λbW E=>?_)
  ·
   refine RH 7 E I hH hC λa E=>?_;rw[show (j:Int)-1=((j-1:Nat):Int) from by omega]at E;refine RH 1 E I hH hC λa E=>?_;refine QH E (λw hc=>ae E (hc.cell (hr j _ (dV Ow)))) hC λa E=>?_;refine RH 0 E I hH hC λa E=>?_;refine bA E (cv E rfl (s:=21)) (ae E (hr (j-1) _ (dV Ox))) rfl λa E=>?_;refine RH 0 E I hH hC λa E=>?_;refine bg 0 E I (hF.h I λh=>h.tail) (hf:=hF.c) λz a w E I=>?_;refine RN 2 E I λa E=>?_;refine IF 0 E I (λao a E=>?_) λao a E=>?_
   ·
    refine bM 1 [13] [0,1,2,3,4,5,6,7,8,10,11,12,3009,1013,14,1015,16,1017] E I λa w E I hH hC=>?_;have hr:Rd w bb oo (bc zs):=I.cQ bb oo (by omega);refine RH 5 E I hH hC λa E=>?_;rw[show (j:Int)-1=((j-1:Nat):Int) from by omega]at E;refine RH 3 E I hH hC λa E=>?_;rw[show (j:Int)-1=((j-1:Nat):Int) from by omega]at E;refine RH 4 E I hH hC λa E=>?_;refine QH E (λw hc=>ae E (hc.cell (hr (j-1) _ (dV Ox)))) hC λa E=>?_;refine RH 0 E I hH hC λa E=>?_;refine SS E (ae E (hr j _ (dV Ow))) λa E=>?_;refine RH 1 E I hH hC λa E=>?_;refine mN (off:=oo) (k:=j) E rfl I Ty.t5 rfl (by omega) (by rw[dA];omega) λa w E I=>?_;rw[uz]at I;refine RN 1 E I λa E=>?_;refine mN (off:=oo) (k:=j-1) E rfl I Ty.t5 rfl (by omega) (by rw[dA,bz];omega) λa w E I=>?_;rw[uz]at I;refine RN 2 E I λa E=>?_;rw[show (j:Int)-1=((j-1:Nat):Int) from by omega]at E;refine RN 1 E I λa E=>?_;exact⟨j-1,by omega,j-1,_,⟨rfl,by omega,by simp[hz]⟩,E.ab [0,1,2,3,8,9],I⟩
   refine RN 3 E I λa E=>?_;exact⟨up-(i+1),by omega,i+1,zs,⟨rfl,by omega,hz⟩,E.ab [0,1,2,3,8],I⟩
  refine RH 13 E I hH hC λa E=>?_;refine RN 4 E I λa E=>?_;exact⟨up-(i+1),by omega,i+1,zs,⟨rfl,by omega,hz⟩,E.ab [0,1,2,3,8],I⟩
 refine RT 0 E I ?_;exact⟨ys,rfl,hy,I⟩
theorem H5 (I:U W w (hX bb oo m c xs::L))(hx:xs.length=m)(h1:lo+n≤m)(h2:up+n≤m)(hm:m≤1000) :
   Calls prog 344 #[sv bb oo m c,.int .i64 lo,.int .i64 up,.int .i64 n,kM f us] w λe w'=>∃ ys:List UInt8,e=.returned (.tuple #[])∧ys.length=m∧U W w' (hX bb oo m c ys::L):=by
 refine EN func344 ntmps344 rfl rfl λa E=>?_;refine RN 2 E I λa E=>?_;refine aL (λμ a w=>∃ (i:Nat) (zs:List UInt8),(μ=n-i∧i≤n∧zs.length=m)∧Fr a 38 [(0,sv bb oo m c),(1,.int .i64 lo),(2,.int .i64 up),(3,.int .i64 n),(10,.int .i64 i)]∧U W w (hX bb oo m c zs::L)) (n) (⟨0,xs,⟨rfl,Nat.zero_le _,hx⟩,E.ab [0,1,2,3,10],I⟩) ?_;clear E I;rintro μ a w ⟨i,zs,⟨rfl,hi,hz⟩,E,I⟩;refine IF 5 E I (λak a E=>?_) λak a E=>?_
 ·
  have ll:lo+i<zs.length:=by omega
  have mm:up+i<zs.length:=by omega
  refine bM 1 [19] [0,1,2,3,4,5,6,7,8,9,10,11,12,14,15,16,17,18,3013,1019,20,1021,22,1023] E I λa w E I hH hC=>?_;have hr:Rd w bb oo (bc zs):=I.cQ bb oo (by omega);refine RH 18 E I hH hC λa E=>?_;refine QH E (λw hc=>ae E (hc.cell (hr (up+i) _ (dV mm)))) hC λa E=>?_;refine RH 0 E I hH hC λa E=>?_;refine SS E (ae E (hr (lo+i) _ (dV ll))) λa E=>?_;refine RH 1 E I hH hC λa E=>?_;refine mN (off:=oo) (k:=lo+i) E rfl I Ty.t5 rfl (by omega) (by rw[dA];omega) λa w E I=>?_;rw[uz]at I;refine RN 1 E I λa E=>?_;refine mN (off:=oo) (k:=up+i) E rfl I Ty.t5 rfl (by omega) (by rw[dA,bz];omega) λa w E I=>?_;rw[uz]at I;refine RN 3 E I λa E=>?_;exact⟨n-(i+1),by omega,i+1,_,⟨rfl,by omega,by simp[hz]⟩,E.ab [0,1,2,3,10],I⟩
 refine RT 0 E I ?_;exact⟨zs,rfl,hz,I⟩
theorem rotate (I:U W w (hX bb oo m c xs::L))(hx:xs.length=m)(h1:lo<k)(h2:k<up)(h3:up≤m)(hm:m≤1000) :
   Calls prog 343 #[sv bb oo m c,.int .i64 lo,.int .i64 k,.int .i64 up,kM f us] w λe w'=>∃ ys:List UInt8,e=.returned (.tuple #[])∧ys.length=m∧U W w' (hX bb oo m c ys::L):=by
 refine EN func343 ntmps343 rfl rfl λa E=>?_;refine RN 4 E I λa E=>?_;rw[show (k:Int)-(lo:Int)=((k-lo:Nat):Int) from by omega]at E;refine RN 5 E I λa E=>?_;rw[show (up:Int)-(k:Int)=((up-k:Nat):Int) from by omega]at E;refine RN 2 E I λa E=>?_;refine aL (λμ a w=>∃ (i j:Nat) (zs:List UInt8),(μ=i+j∧(1≤i∧1≤j)∧(i≤k∧k+j≤m)∧zs.length=m)∧Fr a 58 [(0,sv bb oo m c),(2,.int .i64 k),(4,kM f us),(10,.int .i64 i),(11,.int .i64 j)]∧U W w (hX bb oo m c zs::L)) (k-lo+(up-k)) (⟨k-lo,up-k,xs,⟨rfl,⟨by omega,by omega⟩,⟨by omega,by omega⟩,hx⟩,E.ab [0,2,4,10,11],I⟩) ?_;clear E I;rintro μ a w ⟨i,j,zs,⟨rfl,⟨hi,hj⟩,⟨p6,vQ⟩,hz⟩,E,I⟩;refine IF 5 E I (λak a E=>?_) λak a E=>?_
 ·
  refine IF 4 E I (λao a E=>?_) λao a E=>?_
  ·
   refine RN 5 E I λa E=>?_;rw[show (k:Int)-(i:Int)=((k-i:Nat):Int) from by omega]at E;refine bg 3 E I (H5 I hz (by omega) (by omega) hm) λys a w E ⟨hy,I⟩=>?_;refine RN 3 E I λa E=>?_;rw[show (i:Int)-(j:Int)=((i-j:Nat):Int) from by omega]at E;refine RN 1 E I λa E=>?_;exact⟨i-j+j,by omega,i-j,j,ys,⟨rfl,⟨by omega,by omega⟩,⟨by omega,by omega⟩,hy⟩,E.ab [0,2,4,10,11],I⟩
  refine RN 5 E I λa E=>?_;rw[show (k:Int)-(i:Int)=((k-i:Nat):Int) from by omega]at E;refine RN 5 E I λa E=>?_;rw[show (k:Int)+(j:Int)-(i:Int)=((k+j-i:Nat):Int) from by omega]at E;refine bg 2 E I (H5 I hz (by omega) (by omega) hm) λys a w E ⟨hy,I⟩=>?_;refine RN 3 E I λa E=>?_;rw[show (j:Int)-(i:Int)=((j-i:Nat):Int) from by omega]at E;refine RN 1 E I λa E=>?_;exact⟨i+(j-i),by omega,i,j-i,ys,⟨rfl,⟨by omega,by omega⟩,⟨by omega,by omega⟩,hy⟩,E.ab [0,2,4,10,11],I⟩
 refine RN 4 E I λa E=>?_;rw[show (k:Int)-(i:Int)=((k-i:Nat):Int) from by omega]at E;refine bg 3 E I (H5 I hz (by omega) (by omega) hm) λys a w E ⟨hy,I⟩=>?_;refine RT 0 E I ?_;exact⟨ys,rfl,hy,I⟩
theorem Oy (hF:Aa W L f us)(hm:m≤1000):∀ (d:Nat) {w:World} {xs:List UInt8} {lo k up:Nat},up-lo≤d→xs.length=m→lo<k→k<up→up≤m→U W w (hX bb oo m c xs::L) →
   Calls prog 341 #[sv bb oo m c,.int .i64 lo,.int .i64 k,.int .i64 up,kM f us] w λe w'=>∃ ys:List UInt8,e=.returned (.tuple #[])∧ys.length=m∧U W w' (hX bb oo m c ys::L):=by
 intro d
 induction d with
 | zero=>intro w xs lo k up hd hx h1 h2 h3 I;omega
 | succ d ih =>
  intro w xs lo k up hd hx h1 h2 h3 I;refine EN func341 ntmps341 rfl rfl λa E=>?_;refine RN 5 E I λa E=>?_;rw[show (k:Int)-(lo:Int)=((k-lo:Nat):Int) from by omega]at E;refine IF 1 E I (λak a E=>?_) λak a E=>?_
  ·
   refine RN 7 E I λa E=>?_;refine aL (λμ a w=>∃ (i j:Nat),(μ=j-i∧(k≤i∧i≤j)∧j≤up)∧Fr a 220 [(0,sv bb oo m c),(1,.int .i64 lo),(2,.int .i64 k),(4,kM f us),(10,.int .i64 i),(11,.int .i64 j)]∧U W w (hX bb oo m c xs::L)) (up-k) (⟨k,up,⟨rfl,⟨a7 _,by omega⟩,a7 _⟩,E.ab [0,1,2,4,10,11],I⟩) ?_;clear E I;rintro μ a w ⟨i,j,⟨rfl,⟨hi,oT⟩,hj⟩,E,I⟩;refine IF 5 E I (λao a E=>?_) λao a E=>?_
   ·
    have mz:(i+j)/2<xs.length:=by omega
    have iC:lo<xs.length:=by omega
    refine RN 4 E I λa E=>?_;rw[show (i:Int)+(j:Int)=((i+j:Nat):Int) from rfl]at E;refine SX 0 E I (CV (by omega)) λa E=>?_;refine RN 1 E I λa E=>?_;rw[show (((i+j:Nat):Int).fdiv (2 ^ 1))=(((i+j)/2:Nat):Int) from lu (i+j) 2]at E;refine SX 0 E I (gy (by omega) (by omega)) λa E=>?_;refine bM 2 [8] [0,1,2,3,5,6,7,3004,1008,1009,10] E I λa w E I hH hC=>?_;have hr:Rd w bb oo (bc xs):=I.cQ bb oo (by omega);refine RH 7 E I hH hC λa E=>?_;refine QH E (λw hc=>ae E (hc.cell (hr ((i+j)/2) _ (dV mz)))) hC λa E=>?_;refine RH 0 E I hH hC λa E=>?_;refine SS E (ae E (hr lo _ (dV iC))) λa E=>?_;refine RH 0 E I hH hC λa E=>?_;refine bg 0 E I (hF.h I λh=>h.tail) (hf:=hF.c) λz a w E I=>?_;refine RN 1 E I λa E=>?_;refine IF 0 E I (λay a E=>?_) λay a E=>?_
    ·
     refine RN 3 E I λa E=>?_;exact⟨j-((i+j)/2+1),by omega,(i+j)/2+1,j,⟨rfl,⟨by omega,by omega⟩,hj⟩,E.ab [0,1,2,4,10,11],I⟩
    refine RN 2 E I λa E=>?_;exact⟨(i+j)/2-i,by omega,i,(i+j)/2,⟨rfl,⟨hi,by omega⟩,by omega⟩,E.ab [0,1,2,4,10,11],I⟩
   refine RN 4 E I λa E=>?_;refine aL (λμ a w=>∃ (q:Nat) (zs:List UInt8),(μ=i-q∧lo≤q∧zs.length=m)∧Fr a 220 [(0,sv bb oo m c),(10,.int .i64 i),(13,.int .i64 q)]∧U W w (hX bb oo m c zs::L)) (i-lo) (⟨lo,xs,⟨rfl,a7 _,hx⟩,E.ab [0,10,13],I⟩) ?_;clear E I;rintro μ a w ⟨q,zs,⟨rfl,hq,hz⟩,E,I⟩;refine RN 5 E I λa E=>?_;rw[show (i:Int)-1=((i-1:Nat):Int) from by omega]at E;refine IF 1 E I (λbl a E=>?_) λbl a E=>?_
   ·
    have cW:q<zs.length:=by omega
    have eU:q+1<zs.length:=by omega
    refine bM 1 [13] [0,1,2,3,4,5,6,7,8,10,11,12,3009,1013,14,1015,16,1017] E I λa w E I hH hC=>?_;have hr:Rd w bb oo (bc zs):=I.cQ bb oo (by omega);refine RH 12 E I hH hC λa E=>?_;refine QH E (λw hc=>ae E (hc.cell (hr (q+1) _ (dV eU)))) hC λa E=>?_;refine RH 0 E I hH hC λa E=>?_;refine SS E (ae E (hr q _ (dV cW))) λa E=>?_;refine RH 1 E I hH hC λa E=>?_;refine mN (off:=oo) (k:=q) E rfl I Ty.t5 rfl (by omega) (by rw[dA];omega) λa w E I=>?_;rw[uz]at I;refine RN 1 E I λa E=>?_;refine mN (off:=oo) (k:=q+1) E rfl I Ty.t5 rfl (by omega) (by rw[dA,bz];omega) λa w E I=>?_;rw[uz]at I;refine RN 3 E I λa E=>?_;exact⟨i-(q+1),by omega,q+1,_,⟨rfl,by omega,by simp[hz]⟩,E.ab [0,10,13],I⟩
   refine RT 0 E I ?_;exact⟨zs,rfl,hz,I⟩
  refine RN 5 E I λa E=>?_;rw[show (up:Int)-(k:Int)=((up-k:Nat):Int) from by omega]at E;refine IF 1 E I (λbO a E=>?_) λbO a E=>?_
  ·
   refine RN 7 E I λa E=>?_;refine aL (λμ a w=>∃ (i j:Nat),(μ=j-i∧(lo≤i∧i≤j)∧j≤k)∧Fr a 220 [(0,sv bb oo m c),(2,.int .i64 k),(4,kM f us),(14,.int .i64 i),(15,.int .i64 j)]∧U W w (hX bb oo m c xs::L)) (k-lo) (⟨lo,k,⟨rfl,⟨a7 _,by omega⟩,a7 _⟩,E.ab [0,2,4,14,15],I⟩) ?_;clear E I;rintro μ a w ⟨i,j,⟨rfl,⟨hi,oT⟩,hj⟩,E,I⟩;refine IF 5 E I (λeL a E=>?_) λeL a E=>?_
   ·
    have mz:(i+j)/2<xs.length:=by omega
    have iC:k<xs.length:=by omega
    refine RN 4 E I λa E=>?_;rw[show (i:Int)+(j:Int)=((i+j:Nat):Int) from rfl]at E;refine SX 0 E I (CV (by omega)) λa E=>?_;refine RN 1 E I λa E=>?_;rw[show (((i+j:Nat):Int).fdiv (2 ^ 1))=(((i+j)/2:Nat):Int) from lu (i+j) 2]at E;refine SX 0 E I (gy (by omega) (by omega)) λa E=>?_;refine bM 2 [8] [0,1,2,3,5,6,7,3004,1008,1009,10,11] E I λa w E I hH hC=>?_;have hr:Rd w bb oo (bc xs):=I.cQ bb oo (by omega);refine RH 7 E I hH hC λa E=>?_;refine QH E (λw hc=>ae E (hc.cell (hr k _ (dV iC)))) hC λa E=>?_;refine RH 0 E I hH hC λa E=>?_;refine SS E (ae E (hr ((i+j)/2) _ (dV mz))) λa E=>?_;refine RH 0 E I hH hC λa E=>?_;refine bg 0 E I (hF.h I λh=>h.tail) (hf:=hF.c) λz a w E I=>?_;refine RN 2 E I λa E=>?_;refine IF 0 E I (λmq a E=>?_) λmq a E=>?_
    ·
     refine RN 3 E I λa E=>?_;exact⟨j-((i+j)/2+1),by omega,(i+j)/2+1,j,⟨rfl,⟨by omega,by omega⟩,hj⟩,E.ab [0,2,4,14,15],I⟩
    refine RN 2 E I λa E=>?_;exact⟨(i+j)/2-i,by omega,i,(i+j)/2,⟨rfl,⟨hi,by omega⟩,by omega⟩,E.ab [0,2,4,14,15],I⟩
   refine RN 4 E I λa E=>?_;refine aL (λμ a w=>∃ (q:Nat) (zs:List UInt8),(μ=q∧q≤k∧zs.length=m)∧Fr a 220 [(0,sv bb oo m c),(14,.int .i64 i),(17,.int .i64 q)]∧U W w (hX bb oo m c zs::L)) (k) (⟨k,xs,⟨rfl,a7 _,hx⟩,E.ab [0,14,17],I⟩) ?_;clear E I;rintro μ a w ⟨q,zs,⟨ze,hq,hz⟩,E,I⟩;refine IF 5 E I (λlX a E=>?_) λlX a E=>?_
   ·
    have cW:q<zs.length:=by omega
    have eU:q-1<zs.length:=by omega
    refine bM 1 [13] [0,1,2,3,4,5,6,7,8,10,11,12,3009,1013,14,1015,16,1017] E I λa w E I hH hC=>?_;have hr:Rd w bb oo (bc zs):=I.cQ bb oo (by omega);refine RH 5 E I hH hC λa E=>?_;rw[show (q:Int)-1=((q-1:Nat):Int) from by omega]at E;refine RH 3 E I hH hC λa E=>?_;rw[show (q:Int)-1=((q-1:Nat):Int) from by omega]at E;refine RH 4 E I hH hC λa E=>?_;refine QH E (λw hc=>ae E (hc.cell (hr (q-1) _ (dV eU)))) hC λa E=>?_;refine RH 0 E I hH hC λa E=>?_;refine SS E (ae E (hr q _ (dV cW))) λa E=>?_;refine RH 1 E I hH hC λa E=>?_;refine mN (off:=oo) (k:=q) E rfl I Ty.t5 rfl (by omega) (by rw[dA];omega) λa w E I=>?_;rw[uz]at I;refine RN 1 E I λa E=>?_;refine mN (off:=oo) (k:=q-1) E rfl I Ty.t5 rfl (by omega) (by rw[dA,bz];omega) λa w E I=>?_;rw[uz]at I;refine RN 2 E I λa E=>?_;rw[show (q:Int)-1=((q-1:Nat):Int) from by omega]at E;refine RN 1 E I λa E=>?_;exact⟨q-1,by omega,q-1,_,⟨rfl,by omega,by simp[hz]⟩,E.ab [0,14,17],I⟩
   refine RT 0 E I ?_;exact⟨zs,rfl,hz,I⟩
  refine RN 4 E I λa E=>?_;rw[show (lo:Int)+(up:Int)=((lo+up:Nat):Int) from rfl]at E;refine SX 0 E I (CV (by omega)) λa E=>?_;refine RN 1 E I λa E=>?_;rw[show (((lo+up:Nat):Int).fdiv (2 ^ 1))=(((lo+up)/2:Nat):Int) from lu (lo+up) 2]at E;refine SX 0 E I (gy (by omega) (by omega)) λa E=>?_;refine RN 1 E I λa E=>?_;obtain⟨hY,FK⟩:∃ hY,hY=(lo+up)/2:=⟨_,rfl⟩;rw[← FK]at E;refine RN 8 E I λa E=>?_;refine b6 (M:=λa w=>∃ s r:Nat,((lo≤s∧hY+k≤s+up)∧s≤r∧r≤hY∧r≤k)∧Fr a 220 [(0,sv bb oo m c),(1,.int .i64 lo),(2,.int .i64 k),(3,.int .i64 up),(4,kM f us),(18,.int .i64 hY),(19,.int .i64 ((hY:Int)+k)),(20,.int .i64 s),(21,.int .i64 r)]∧U W w (hX bb oo m c xs::L)) ?_ ?_
  ·
   refine IF 4 E I (λm0 a E=>?_) λm0 a E=>?_
   ·
    refine RN 4 E I λa E=>?_;rw[show (hY:Int)+(k:Int)-(up:Int)=((hY+k-up:Nat):Int) from by omega]at E;refine RN 3 E I λa E=>?_;exact⟨hY+k-up,hY,⟨⟨by omega,by omega⟩,by omega,by omega,by omega⟩,E.ab [0,1,2,3,4,18,19,20,21],I⟩
   refine RN 5 E I λa E=>?_;exact⟨lo,k,⟨⟨by omega,by omega⟩,by omega,by omega,by omega⟩,E.ab [0,1,2,3,4,18,19,20,21],I⟩
  clear E;(try clear I);rintro a w ⟨x5,CW,⟨⟨oL,dB⟩,u7,hs4,qc⟩,E,I⟩;refine RN 3 E I λa E=>?_;rw[show (hY:Int)+(k:Int)-1=((hY+k-1:Nat):Int) from by omega]at E;refine RN 2 E I λa E=>?_;refine aL (λμ a w=>∃ (s r:Nat),(μ=r-s∧(lo≤s∧hY+k≤s+up)∧s≤r∧r≤hY∧r≤k)∧Fr a 220 [(0,sv bb oo m c),(1,.int .i64 lo),(2,.int .i64 k),(3,.int .i64 up),(4,kM f us),(18,.int .i64 hY),(19,.int .i64 ((hY:Int)+k)),(20,.int .i64 s),(21,.int .i64 r),(22,.int .i64 ((hY+k-1:Nat):Int))]∧U W w (hX bb oo m c xs::L)) (CW-x5) (⟨x5,CW,⟨rfl,⟨oL,dB⟩,u7,hs4,qc⟩,E.ab [0,1,2,3,4,18,19,20,21,22],I⟩) ?_;clear E I;rintro μ a w ⟨s,r,⟨rfl,⟨g1,nr⟩,rN,ti,xD⟩,E,I⟩;refine IF 5 E I (λkj a E=>?_) λkj a E=>?_
  ·
   have mz:(s+r)/2<xs.length:=by omega
   have iC:hY+k-1-(s+r)/2<xs.length:=by omega
   refine RN 4 E I λa E=>?_;rw[show (s:Int)+(r:Int)=((s+r:Nat):Int) from rfl]at E;refine SX 0 E I (CV (by omega)) λa E=>?_;refine RN 1 E I λa E=>?_;rw[show (((s+r:Nat):Int).fdiv (2 ^ 1))=(((s+r)/2:Nat):Int) from lu (s+r) 2]at E;refine SX 0 E I (gy (by omega) (by omega)) λa E=>?_;refine bM 2 [10] [0,1,2,3,4,5,7,8,9,3006,1010,1011,12,13] E I λa w E I hH hC=>?_;have hr:Rd w bb oo (bc xs):=I.cQ bb oo (by omega);refine RH 5 E I hH hC λa E=>?_;rw[show ((hY+k-1:Nat):Int)-(((s+r)/2:Nat):Int)=((hY+k-1-(s+r)/2:Nat):Int) from by omega]at E;refine RH 4 E I hH hC λa E=>?_;refine QH E (λw hc=>ae E (hc.cell (hr (hY+k-1-(s+r)/2) _ (dV iC)))) hC λa E=>?_;refine RH 0 E I hH hC λa E=>?_;refine SS E (ae E (hr ((s+r)/2) _ (dV mz))) λa E=>?_;refine RH 0 E I hH hC λa E=>?_;refine bg 0 E I (hF.h I λh=>h.tail) (hf:=hF.c) λz a w E I=>?_;refine RN 2 E I λa E=>?_;refine IF 0 E I (λxp a E=>?_) λxp a E=>?_
   ·
    refine RN 3 E I λa E=>?_;exact⟨r-((s+r)/2+1),by omega,(s+r)/2+1,r,⟨rfl,⟨by omega,by omega⟩,by omega,ti,xD⟩,E.ab [0,1,2,3,4,18,19,20,21,22],I⟩
   refine RN 2 E I λa E=>?_;exact⟨(s+r)/2-s,by omega,s,(s+r)/2,⟨rfl,⟨g1,nr⟩,by omega,by omega,by omega⟩,E.ab [0,1,2,3,4,18,19,20,21,22],I⟩
  refine RN 4 E I λa E=>?_;rw[show (hY:Int)+(k:Int)-(s:Int)=((hY+k-s:Nat):Int) from by omega]at E;refine RN 1 E I λa E=>?_;refine b6 (M:=λa w=>∃ zs:List UInt8,zs.length=m∧Fr a 220 [(0,sv bb oo m c),(1,.int .i64 lo),(3,.int .i64 up),(4,kM f us),(18,.int .i64 hY),(20,.int .i64 s),(24,.int .i64 ((hY+k-s:Nat):Int))]∧U W w (hX bb oo m c zs::L)) ?_ ?_
  ·
   refine BY 5 E I (λbW a E=>?_) λbW a E=>?_
   ·
    refine IF 4 E I (λtN a E=>?_) λtN a E=>?_
    ·
     refine bg 5 E I (rotate I hx (by omega) (by omega) (by omega) hm) λys a w E ⟨hy,I⟩=>?_;refine RN 0 E I λa E=>?_;exact⟨ys,hy,E.ab [0,1,3,4,18,20,24],I⟩
    refine RN 0 E I λa E=>?_;exact⟨xs,hx,E.ab [0,1,3,4,18,20,24],I⟩
   refine RN 5 E I λa E=>?_;exact⟨xs,hx,E.ab [0,1,3,4,18,20,24],I⟩
  clear E;(try clear I);rintro a w ⟨zs,hz,E,I⟩;refine b6 (M:=λa w=>∃ zs:List UInt8,zs.length=m∧Fr a 220 [(0,sv bb oo m c),(3,.int .i64 up),(4,kM f us),(18,.int .i64 hY),(24,.int .i64 ((hY+k-s:Nat):Int))]∧U W w (hX bb oo m c zs::L)) ?_ ?_
  ·
   refine BY 5 E I (λbW a E=>?_) λbW a E=>?_
   ·
    refine IF 4 E I (λzh a E=>?_) λzh a E=>?_
    ·
     refine bg 5 E I (ih (by omega) hz (by omega) (by omega) (by omega) I) λys a w E ⟨hy,I⟩=>?_;refine RN 0 E I λa E=>?_;exact⟨ys,hy,E.ab [0,3,4,18,24],I⟩
    refine RN 0 E I λa E=>?_;exact⟨zs,hz,E.ab [0,3,4,18,24],I⟩
   refine RN 5 E I λa E=>?_;exact⟨zs,hz,E.ab [0,3,4,18,24],I⟩
  clear E;(try clear I);rintro a w ⟨zs,hz,E,I⟩;refine BY 5 E I (λbW a E=>?_) λbW a E=>?_
  ·
   refine IF 4 E I (λxq a E=>?_) λxq a E=>?_
   ·
    refine bg 5 E I (ih (by omega) hz (by omega) (by omega) (by omega) I) λys a w E ⟨hy,I⟩=>?_;refine RT 0 E I ?_;exact⟨ys,rfl,hy,I⟩
   refine RT 0 E I ?_;exact⟨zs,rfl,hz,I⟩
  refine RT 5 E I ?_;exact⟨zs,rfl,hz,I⟩
theorem abz (I:U W w (hX bb oo m c xs::L))(hF:Aa W L f us)(hx:xs.length=m)(hm:m≤1000) :
   Calls prog 335 #[sv bb oo m c,.int .i64 m,kM f us] w λe w'=>∃ ys:List UInt8,e=.returned (.tuple #[])∧ys.length=m∧U W w' (hX bb oo m c ys::L):=by
 refine EN func335 ntmps335 rfl rfl λa E=>?_;refine RN 7 E I λa E=>?_;refine aL (λμ a w=>∃ (q:Nat) (ys:List UInt8),(μ=m-q∧q≤m∧ys.length=m)∧Fr a 63 [(0,sv bb oo m c),(1,.int .i64 m),(2,kM f us),(6,.int .i64 20),(7,.int .i64 q),(8,.int .i64 ((q+20:Nat):Int))]∧U W w (hX bb oo m c ys::L)) (m) (⟨0,xs,⟨rfl,Nat.zero_le _,hx⟩,E.ab [0,1,2,6,7,8],I⟩) ?_;clear E I;rintro μ a w ⟨q,ys,⟨rfl,hq,hy⟩,E,I⟩;refine IF 5 E I (λak a E=>?_) λak a E=>?_
 ·
  refine bg 5 E I (Ov I hF hy (by omega) hm hq) λzs a w E ⟨hz,I⟩=>?_;refine RN 7 E I λa E=>?_;exact⟨m-(q+20),by omega,q+20,zs,⟨rfl,by omega,hz⟩,E.ab [0,1,2,6,7,8],I⟩
 refine bg 5 E I (Ov I hF hy (a7 _) hm hq) λzs a w E ⟨hz,I⟩=>?_;refine RN 0 E I λa E=>?_;refine aL (λμ a w=>∃ (s:Nat) (ys:List UInt8),(μ=m-s∧(1≤s∧s≤2000)∧ys.length=m)∧Fr a 63 [(0,sv bb oo m c),(1,.int .i64 m),(2,kM f us),(6,.int .i64 s)]∧U W w (hX bb oo m c ys::L)) (m-20) (⟨20,zs,⟨rfl,⟨by decide,by decide⟩,hz⟩,E.ab [0,1,2,6],I⟩) ?_;clear E I;rintro μ a w ⟨s,ys,⟨rfl,⟨oL,dB⟩,hy⟩,E,I⟩;refine IF 5 E I (λao a E=>?_) λao a E=>?_
 ·
  refine RN 3 E I λa E=>?_;rw[show (2:Int)*(s:Int)=((2*s:Nat):Int) from by omega]at E;refine RN 3 E I λa E=>?_;refine aL (λμ a w=>∃ (q:Nat) (ys:List UInt8),(μ=m-q∧q≤m∧ys.length=m)∧Fr a 63 [(0,sv bb oo m c),(1,.int .i64 m),(2,kM f us),(6,.int .i64 s),(7,.int .i64 q),(8,.int .i64 ((q+2*s:Nat):Int))]∧U W w (hX bb oo m c ys::L)) (m) (⟨0,ys,⟨rfl,Nat.zero_le _,hy⟩,(by rw[ei];exact E.ab [0,1,2,6,7,8]),I⟩) ?_;clear E I;rintro μ a w ⟨q,ys,⟨rfl,hq,hy⟩,E,I⟩;refine IF 5 E I (λay a E=>?_) λay a E=>?_
  ·
   refine RN 6 E I λa E=>?_;rw[show (q:Int)+(s:Int)=((q+s:Nat):Int) from rfl]at E;refine bg 2 E I (Oy hF hm _ (a7 _) hy (by omega) (by omega) (by omega) I) λzs a w E ⟨hz,I⟩=>?_;refine RN 7 E I λa E=>?_;rw[show ((q+2*s:Nat):Int)+2*(s:Int)=((q+2*s+2*s:Nat):Int) from by omega]at E;refine RN 1 E I λa E=>?_;exact⟨m-(q+2*s),by omega,q+2*s,zs,⟨rfl,by omega,hz⟩,E.ab [0,1,2,6,7,8],I⟩
  refine RN 5 E I λa E=>?_;rw[show (q:Int)+(s:Int)=((q+s:Nat):Int) from rfl]at E;refine IF 5 E I (λbl a E=>?_) λbl a E=>?_
  ·
   refine bg 5 E I (Oy hF hm _ (a7 _) hy (by omega) (by omega) (a7 _) I) λzs a w E ⟨hz,I⟩=>?_;refine RN 2 E I λa E=>?_;rw[show (s:Int)*2=((s*2:Nat):Int) from by omega]at E;refine RN 1 E I λa E=>?_;exact⟨m-s*2,by omega,s*2,zs,⟨rfl,⟨by omega,by omega⟩,hz⟩,E.ab [0,1,2,6],I⟩
  refine RN 2 E I λa E=>?_;rw[show (s:Int)*2=((s*2:Nat):Int) from by omega]at E;refine RN 1 E I λa E=>?_;exact⟨m-s*2,by omega,s*2,ys,⟨rfl,⟨by omega,by omega⟩,hy⟩,E.ab [0,1,2,6],I⟩
 refine RT 0 E I ?_;exact⟨ys,rfl,hy,I⟩
theorem abA (I:U W w (hX bb oo m c xs::L))(hF:Aa W L f us)(hx:xs.length=m)(hm:m≤1000) :
   Calls prog 327 #[sv bb oo m c,kM f us] w λe w'=>∃ ys:List UInt8,e=.returned (.tuple #[])∧ys.length=m∧U W w' (hX bb oo m c ys::L):=by
 refine EN func327 ntmps327 rfl rfl λa E=>?_;refine bg 4 E I (abz I hF hx hm) λys a w E ⟨hy,I⟩=>?_;refine RT 0 E I ?_;exact⟨ys,rfl,hy,I⟩
theorem abB {b:Gs}{adT:Option Addr}{cT b3 dv b8 rq:Nat}{d u:UInt8}{g:Nat→Int}:Aa W (aa b8 5 [.int .u8 (d.toNat:Nat)]::aa rq 5 [.int .u8 (u.toNat:Nat)]::aa b3 186 (dq b adT cT)::aa dv 320 (ints .i64 256 g)::L)
   328 [pt b8,pt rq,pt b3,pt dv]:=by
 refine⟨by kernel_rfl,?_⟩;intro w M x y I hM;have hx:=x.toNat_lt;have hy:=y.toNat_lt;refine EN func328 ntmps328 rfl rfl λa E=>?_;refine RN 4 E I λa E=>?_;refine SS E (ae E ((hM I).bC (b:=b8) rfl)) λa E=>?_;refine RN 0 E I λa E=>?_;refine SS E (ae E ((hM I).bC (b:=rq) rfl)) λa E=>?_;refine RN 0 E I λa E=>?_;refine SS E (EB E E2 Ty.t423 Ty.t5 rfl rfl) λa E=>?_;refine RN 1 E I λa E=>?_;refine aL (λμ a w=>∃ (i:Nat),(μ=2-i∧i≤2)∧Fr a 47 [(0,.int .u8 (x.toNat:Nat)),(1,.int .u8 (y.toNat:Nat)),(4,pt b3),(5,pt dv),(13,.agg #[.int .u8 (d.toNat:Nat),.int .u8 (u.toNat:Nat)]),(14,.int .i64 i)]∧U W w M) (2) (⟨0,⟨rfl,by decide⟩,E.ab [0,1,4,5,13,14],I⟩) ?_;clear E I;rintro μ a w ⟨i,⟨rfl,hi⟩,E,I⟩;refine IF 3 E I (λak a E=>?_) λak a E=>?_
 ·
  obtain⟨q,hq⟩:∃ q:UInt8,[Value.int .u8 (d.toNat:Nat),Value.int .u8 (u.toNat:Nat)][i]?=some (.int .u8 (q.toNat:Nat)):=by
   have:i=0∨i=1:=by omega
   rcases this with rfl | rfl
   ·exact⟨d,rfl⟩
   ·exact⟨u,rfl⟩
  refine RN 2 E I λa E=>?_;refine SS E (te E E2 dF rfl Ty.t5 (by omega) hq) λa E=>?_;refine bM 3 [9] [0,1001,2,3,4,5,7,8,3006,1009,10,11] E I λa w E I hH hC=>?_;refine RH 1 E I hH hC λa E=>?_;refine SS E (ae E ((hM I).bC (b:=b3) rfl)) λa E=>?_;refine RH 2 E I hH hC λa E=>?_;refine E.by (s:=20) (λbW E=>?_) (λbW E=>?_)
  ·
   refine RH 4 E I hH hC λa E=>?_;refine QH E (λw hc=>ae E (hc.cell ((hM I).bC (b:=dv) (ga g hx)))) hC λa E=>?_;refine RH 0 E I hH hC λa E=>?_;refine bA E (cv E rfl (s:=20)) (ae E ((hM I).bC (b:=dv) (ga g hy))) rfl λa E=>?_;refine RH 2 E I hH hC λa E=>?_;refine IF 0 E I (λao a E=>?_) λao a E=>?_
   ·
    refine bM 1 [5] [0,1,3,4,3002,1005,6,7] E I λa w E I hH hC=>?_;refine RH 4 E I hH hC λa E=>?_;refine QH E (λw hc=>ae E (hc.cell ((hM I).bC (b:=dv) (ga g hy)))) hC λa E=>?_;refine RH 0 E I hH hC λa E=>?_;refine SS E (ae E ((hM I).bC (b:=dv) (ga g hx))) λa E=>?_;refine RH 0 E I hH hC λa E=>?_;refine QP E (λw=>AV E) λa E=>?_;refine RH 1 E I hH hC λa E=>?_;refine RT 0 E I ?_;exact⟨_,rfl,I⟩
   refine IF 8 E I (λay a E=>?_) λay a E=>?_
   ·
    refine IF 5 E I (λbl a E=>?_) λbl a E=>?_
    ·
     refine RT 2 E I ?_;exact⟨_,rfl,I⟩
    refine RT 2 E I ?_;exact⟨_,rfl,I⟩
   refine RN 2 E I λa E=>?_;exact⟨2-(i+1),by omega,i+1,⟨rfl,by omega⟩,E.ab [0,1,4,5,13,14],I⟩
  refine RH 8 E I hH hC λa E=>?_;refine IF 9 E I (λay a E=>?_) λay a E=>?_
  ·
   refine IF 5 E I (λbl a E=>?_) λbl a E=>?_
   ·
    refine RT 2 E I ?_;exact⟨_,rfl,I⟩
   refine RT 2 E I ?_;exact⟨_,rfl,I⟩
  refine RN 2 E I λa E=>?_;exact⟨2-(i+1),by omega,i+1,⟨rfl,by omega⟩,E.ab [0,1,4,5,13,14],I⟩
 refine RT 2 E I ?_;exact⟨_,rfl,I⟩
end
theorem abC:xZ:=by
 refine⟨?_⟩;intro W w L c k cT ad adT past b I hb hk eI kf hp ht;refine EN func310 ntmps310 rfl rfl λa E=>?_;refine BX 1 E I λb3 a w E I=>?_;change U W w (aa b3 186 (dq b adT cT)::_) at I;refine bg 4 E I (zY I) λr a w E ⟨hr,I⟩=>?_;obtain rfl:=hr.2 hb;refine RN 1 E I λa E=>?_;replace E:=E.aQ 14;refine CL 4 E I (NX I hb (by omega) kf (λw' h=>hp _ h.tail)) λa w E I=>?_;refine AL 0 E I λdv a w E I=>?_;rw[rl]at I;refine SA 0 E I λa w E I=>?_;refine CL 3 E I (NZ I hb (by omega) kf (λw' h=>hp _ h.tail.tail) (λw' h=>ht _ h.tail.tail)) λa w E I=>?_;refine CL 1 E I (NY I (by omega) (λw' h=>hp _ h.tail.tail)) λa w E I=>?_;refine AL 0 E I λb8 a w E I=>?_;refine AL 0 E I λrq a w E I=>?_;refine ST 0 E I (λa w E I=>?_);refine ST 0 E I (λa w E I=>?_);refine RN 5 E I λa E=>?_;replace I:U W w (Sl 5 1 none 0 0 (bc [])::_):=I.bQ 5 1 none;refine aL (λμ a w=>∃ (i:Nat) (hU:Option Addr) (cl:Nat) (ys:List UInt8),(μ=256-i∧i≤256∧ys.length=i)∧Fr a 40 [(2,.int .i64 k),(3,pt b3),(7,pt dv),(8,pt b8),(9,pt rq),(10,.slice hU i cl),(23,.int .i64 i)]∧U W w (Sl 5 1 hU i cl (bc ys)::aa b8 5 [.int .u8 ((nM b past).toNat:Nat)]::aa rq 5 [.int .u8 ((iG past).toNat:Nat)]::aa b3 186 (dq b adT cT)::aa dv 320 (ints .i64 256 (gR b past))::L)) (256) (⟨0,none,0,[],⟨rfl,by decide,rfl⟩,E.ab [2,3,7,8,9,10,23],I.sub⟩) ?_;clear E I;rintro μ a w ⟨i,hU,cl,ys,⟨rfl,hi,hy⟩,E,I⟩;refine IF 3 E I (λao a E=>?_) λao a E=>?_
 ·
  refine RN 6 E I λa E=>?_;refine SS E (gA E fk dF) λa E=>?_;rw[wrap_u8,show (i:Int)%256=(((UInt8.ofNat i).toNat:Nat):Int) from by rw[UInt8.toNat_ofNat'];omega]at E;refine RN 0 E I λa E=>?_;refine ct E rfl I bj Ty.t5 rfl rfl rfl rfl (by decide) (by decide) λXB a w E I ho=>?_;clear ho;refine RN 0 E I λa E=>?_;refine cR E rfl I bj Ty.t5 rfl rfl I.ai rfl (ez [UInt8.ofNat i]) (by decide) (by decide) (by omega) λLu Lw a w E I=>?_;rw[show bc ys++_=bc (ys++[UInt8.ofNat i]) from (fS _ [_]).symm]at I;refine RN 3 E I λa E=>?_;exact⟨256-(i+1),by omega,i+1,Lu,Lw,ys++[UInt8.ofNat i],⟨rfl,by omega,by simp[hy]⟩,E.ab [2,3,7,8,9,10,23],I.sub⟩
 refine RN 1 E I λa E=>?_;obtain rfl:i=256:=by omega
 have hA:=E;have Ab:=I;obtain⟨bb,oo,rfl,_⟩:=I.bU hU (by omega);have E:=hA;have I:=Ab;have cr:=(I.sl (some ⟨bb,oo,none⟩)).2;refine bg 2 E I (abA I abB hy (by decide)) λzs a w E ⟨hz,I⟩=>?_;refine RN 5 E I λa E=>?_;rw[show min (max (k:Int) 0) 256=(k:Int) from by omega]at E;refine RT 2 E I ?_;have h1:=I.Ei (some ⟨bb,oo,none⟩) 0 k (Nat.zero_le _) (by omega);rw[Nat.sub_zero,Nat.sub_zero,fB,Nat.zero_mul,drop_zero,show (bc zs).take k=bc (zs.take k) from by rw[bc,bc,map_take]]at h1;have hl:(zs.take k).length=k:=by rw[eA];omega
 exact⟨_,_,zs.take k,by rw[hl,Nat.sub_zero,Nat.sub_zero],hl,by rw[hl];exact h1.sub⟩
end
end Go.Proofs.YteoldcfapaiobaaGreat
