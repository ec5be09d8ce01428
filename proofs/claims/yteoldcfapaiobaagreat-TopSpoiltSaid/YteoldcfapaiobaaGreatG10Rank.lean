/- The document's guesses: quintainref12.MayBy, weights, ahead, Rank, Chain. -/
import Derived.Test.YteoldcfapaiobaaGreatG09Core
import Derived.Test.YteoldcfapaiobaaGreatG08Pkt4
import Derived.Test.YteoldcfapaiobaaGreatG01Row
namespace Go.Proofs.YteoldcfapaiobaaGreat
open Tryz
open List (drop_zero nil_append drop_eq_nil_of_le ext_getElem getElem_map append_nil map_take range_succ map_singleton getLastD_eq_getLast?)
open Go.RowKit
set_option linter.unusedVariables false
set_option linter.unusedSimpArgs false
set_option maxRecDepth 10000
set_option synthInstance.maxSize 4000
set_option synthInstance.maxHeartbeats 400000
section
def qk (w:Nat→Int)(last drawn:Int)(v u:Nat):Bool:=if (v:Int)=drawn∨(u:Int)=drawn then decide ((v:Int)=drawn) else if w v≠w u then decide (w u<w v) else decide ((v:Int)=last)
def ij (w:Nat→Int)(last drawn:Int):Nat→Nat
 | 0=>0
 | i+1=>if qk w last drawn (i+1) (ij w last drawn i)=true then i+1 else ij w last drawn i
theorem Gw (w:Nat→Int)(last drawn:Int):∀ i,ij w last drawn i≤i
 | 0=>a7 _
 | i+1=>by
  rw[ij];split
  ·exact a7 _
  ·exact Nat.le_succ_of_le (Gw w last drawn i)
theorem MN {w:Nat→Int}{last:Int}{d:Nat}:∀ {i},d≤i→ij w last d i=d
 | 0,h=>by rw[ij];omega
 | i+1,h=>by
  rw[ij];by_cases hd:d=i+1
  ·rw[ak]
   ·exact hd.symm
   ·rw[qk,ak (.inl (by omega))];exact dk (by omega)
  ·rw[MN (i:=i) (by omega),ag];rw[qk,ak (.inr rfl),cr];omega
theorem MO {w:Nat→Int}{last:Nat}:∀ i,(∀ v,v≤i→w v≤w (ij w last (-1) i))∧(ij w last (-1) i=last∨((last≤i→w last<w (ij w last (-1) i))∧∀ v,v<ij w last (-1) i→w v<w (ij w last (-1) i)))
 | 0=>by
  refine⟨λv hv=>by rw[ij,show v=0 from by omega];exact Int.le_refl _,?_⟩;by_cases h:last=0
  ·exact .inl h.symm
  ·exact .inr ⟨λhl=>by omega,λv hv=>by rw[ij]at hv;omega⟩
 | i+1=>by
  obtain⟨h1,h2⟩:=MO (w:=w) (last:=last) i;have hle:=Gw w last (-1) i;have h0:¬ (((i+1:Nat):Int) = -1∨((ij w last (-1) i:Nat):Int) = -1):=by omega
  rw[ij];generalize ij w last (-1) i=r at *;rw[qk,ag h0];by_cases hw:w (i+1)=w r
  ·rw[ag (show ¬ w (i+1)≠w r from λh=>h hw)];by_cases hl:i+1=last
   ·rw[ak (dk (by omega))];refine⟨λv hv=>?_,.inl hl⟩;by_cases sw:v=i+1
    ·subst sw;exact Int.le_refl _
    ·rw[hw];exact h1 v (by omega)
   ·rw[ag (by rw[cr];omega)];refine⟨λv hv=>?_,?_⟩
    ·by_cases sw:v=i+1
     ·subst sw;omega
     ·exact h1 v (by omega)
    ·rcases h2 with h2 | ⟨h2,h3⟩
     ·exact .inl h2
     ·exact .inr ⟨λhh=>h2 (by omega),h3⟩
  ·rw[ak hw];by_cases hl:w r<w (i+1)
   ·rw[ak (dk hl)];have ik:∀ v,v<i+1→w v<w (i+1):=λv hv=>by have:=h1 v (by omega);omega
    refine⟨λv hv=>?_,?_⟩
    ·by_cases sw:v=i+1
     ·subst sw;exact Int.le_refl _
     ·have:=ik v (by omega);omega
    ·by_cases vZ:last=i+1
     ·exact .inl vZ.symm
     ·exact .inr ⟨λhh=>ik last (by omega),ik⟩
   ·rw[ag (by rw[cr];exact hl)];refine⟨λv hv=>?_,?_⟩
    ·by_cases sw:v=i+1
     ·subst sw;omega
     ·exact h1 v (by omega)
    ·rcases h2 with h2 | ⟨h2,h3⟩
     ·exact .inl h2
     ·refine .inr ⟨λhh=>?_,h3⟩;by_cases vZ:last=i+1
      ·subst vZ;omega
      ·exact h2 (by omega)
def tS (b:Gs)(past:List UInt8):Int:=if b.kind=3 then ((b.table.getD (past.length%b.table.length) 0).toNat:Int) else -1
theorem aab {b:Gs}{past:List UInt8}(hb:cY b):ij (gM b past) ((iB past).toNat:Nat) (tS b past) 255=(nE b past).toNat:=by
 have Gu:=lk (iB past);unfold tS nE;split
 ·have:=lk (b.table.getD (past.length%b.table.length) 0);exact MN (by omega)
 ·rw[UInt8.toNat_ofNat'];obtain⟨h1,h2⟩:=MO (w:=gM b past) (last:=(iB past).toNat) 255;have hle:=Gw (gM b past) ((iB past).toNat:Nat) (-1) 255;generalize ij (gM b past) ((iB past).toNat:Nat) (-1) 255=r at *;rcases h2 with h2 | ⟨h2,h3⟩
  ·rw[LP λv hv=>by rw[← h2];exact h1 v (by omega),h2];omega
  ·have h4:=(LQ (last:=(iB past).toNat) (h2 (by omega)) h3 (i:=256) λv hv=>h1 v (by omega)).2 (by omega);rw[h4];omega
def tT (t:Nat→Bool):List Value:=fn 256 λi=>.bool (t i)
theorem aac (t:Nat→Bool):(tT t).length=256:=I4 _ _
theorem aad {t:Nat→Bool}{i:Nat}(h:i<256):(tT t)[i]?=some (.bool (t i)):=I5 _ h
theorem aae {t:Nat→Bool}{i:Nat}:(tT t).set i (.bool true)=tT λj=>if j=i then true else t j:=by
 rw[tT,I6];exact Dx λj _=>by by_cases h:j=i <;> simp[h]
theorem aaf (m:Nat)(v:Value):List.replicate m v=fn m λ_=>v:=by
 apply ext_getElem (by simp[fn]);intro i h1 h2;simp[fn]
theorem aag:List.replicate 256 (Value.bool false)=tT λ_=>false:=aaf 256 _
def q7 (t:Nat→Bool):Nat→Nat
 | 0=>0
 | i+1=>q7 t i+if t i=true then 1 else 0
theorem MP {t:Nat→Bool}:∀ {i},(∀ v,v<i→t v=true)→q7 t i=i
 | 0,_=>rfl
 | i+1,h=>by rw[q7,MP (i:=i) λv hv=>h v (by omega),ak (h i (by omega))]
theorem MQ {t:Nat→Bool}{u:Nat}(hu:t u=false):∀ {i},q7 (λj=>if j=u then true else t j) i=q7 t i+if u<i then 1 else 0
 | 0=>by simp[q7]
 | i+1=>by
  rw[q7,q7,MQ hu (i:=i)];by_cases h:i=u
  ·subst h;simp[hu]
  ·by_cases h2:u<i
   ·simp[h,h2,show u<i+1 from by omega];omega
   ·simp[h,h2,show ¬ u<i+1 from by omega]
def kr (w:Nat→Int)(last drawn:Int)(t:Nat→Bool)(first:Bool)(i:Nat)(fK:Int):Prop :=
 (fK = -1∧∀ v,v<i→t v=true)∨∃ u:Nat,fK=(u:Int)∧u<i∧t u=false∧(first=true→u=ij w last drawn (i-1))
section
variable {w:Nat→Int}{last drawn:Int}{t:Nat→Bool}{f:Bool}{i u:Nat}{fK:Int}
theorem kr.take (h:kr w last drawn t f i fK)(h0:fK<0)(hi:t i=false)(hf:f=true→∀ v,t v=false):kr w last drawn t f (i+1) i:=by
 refine .inr ⟨i,rfl,by omega,hi,λjW=>?_⟩;rcases h with ⟨_,h⟩ | ⟨u,h,_⟩
 ·have : i = 0 := by
   rcases lI i with h1 | h1
   ·exact h1
   ·have h2:=h 0 h1;rw[hf jW 0]at h2;cases h2
  subst this;rfl
 ·omega
theorem kr.nat (h:kr w last drawn t f i fK)(h0:0≤fK):∃ u:Nat,fK=(u:Int)∧u<i∧t u=false∧(f=true→u=ij w last drawn (i-1)):=by
 rcases h with ⟨h,_⟩ | h
 ·omega
 ·exact h
theorem kr.up (hu:u<i∧t u=false∧(f=true→u=ij w last drawn (i-1)))(E:qk w last drawn i u=true)(hi:t i=false):kr w last drawn t f (i+1) i:=by
 refine .inr ⟨i,rfl,by omega,hi,λhf=>?_⟩;have h1:=hu.2.2 hf;obtain⟨j,rfl⟩:∃ j,i=j+1:=⟨i-1,by omega⟩;rw[yM]at h1 ⊢;rw[ij,← h1,ak E]
theorem kr.ab (hu:u<i∧t u=false∧(f=true→u=ij w last drawn (i-1)))(E:qk w last drawn i u=false):kr w last drawn t f (i+1) u:=by
 refine .inr ⟨u,rfl,by omega,hu.2.1,λhf=>?_⟩;have h1:=hu.2.2 hf;obtain⟨j,rfl⟩:∃ j,i=j+1:=⟨i-1,by omega⟩;rw[yM]at h1 ⊢;rw[ij,← h1,E,ag (by decide)]
theorem kr.skip (h:kr w last drawn t f i fK)(hi:t i=true)(hf:f=true→∀ v,t v=false):kr w last drawn t f (i+1) fK:=by
 have o5:f=true→False:=λh=>by rw[hf h i]at hi;cases hi
 rcases h with ⟨h1,h⟩ | ⟨u,h1,h2,h3,_⟩
 ·refine .inl ⟨h1,λv hv=>?_⟩;by_cases hvi:v=i
  ·subst hvi;exact hi
  ·exact h v (by omega)
 ·exact .inr ⟨u,h1,by omega,h3,λh=>(o5 h).elim⟩
theorem kr.Gx (h:kr w last drawn t f 256 fK)(hc:q7 t 256<256):∃ u:Nat,fK=(u:Int)∧u<256∧t u=false∧(f=true→u=ij w last drawn 255):=by
 rcases h with ⟨_,h⟩ | h
 ·rw[MP h]at hc;omega
 ·exact h
theorem kr.start:kr w last drawn t f 0 (-1):=.inl ⟨rfl,λv hv=>by omega⟩
end
section
variable {W w:World}{L:List SP}{n c m cT:Nat}{ad adT:Option Addr}{past:List UInt8}{b:Gs}{g:Nat→Int}
theorem Gy (I:U W w L):Calls prog 49 #[.agg (dq b adT cT).toArray] w λe w'=>∃ r:Bool,e=.returned (.bool r)∧(r=true↔cY b)∧U W w' L:=by
 refine EN func49 ntmps49 rfl rfl λa E=>?_;refine BX 1 E I λb1 a w E I=>?_;change U W w (aa b1 47 (dq b adT cT)::_) at I;refine BY 7 E I (λbX a E=>?_) λbX a E=>?_
 ·
  refine RT 27 E I ?_;exact⟨_,rfl,⟨λh=>(by cases h),λh=>by rw[cY]at h;exfalso;omega⟩,I.sub⟩
 refine BY 5 E I (λfh a E=>?_) λfh a E=>?_
 ·
  refine RT 22 E I ?_;exact⟨_,rfl,⟨λh=>(by cases h),λh=>by rw[cY]at h;exfalso;omega⟩,I.sub⟩
 refine BY 5 E I (λnB a E=>?_) λnB a E=>?_
 ·
  refine RT 17 E I ?_;exact⟨_,rfl,⟨λh=>(by cases h),λh=>by rw[cY]at h;exfalso;omega⟩,I.sub⟩
 refine BY 5 E I (λuQ a E=>?_) λuQ a E=>?_
 ·
  refine RT 12 E I ?_;exact⟨_,rfl,⟨λh=>(by cases h),λh=>by rw[cY]at h;exfalso;omega⟩,I.sub⟩
 refine BY 4 E I (λp9 a E=>?_) λp9 a E=>?_
 ·
  refine IF 5 E I (λaj a E=>?_) λaj a E=>?_
  ·
   refine RT 2 E I ?_;exact⟨_,rfl,⟨λh=>(by cases h),λh=>by rw[cY]at h;exfalso;omega⟩,I.sub⟩
  refine IF 5 E I (λao a E=>?_) λao a E=>?_
  ·
   refine BY 6 E I (λdE a E=>?_) λdE a E=>?_
   ·
    refine RT 6 E I ?_;exact⟨_,rfl,(by rw[cr,cY];omega),I.sub⟩
   refine RT 6 E I ?_;exact⟨_,rfl,⟨λh=>(by cases h),λh=>by rw[cY]at h;exfalso;omega⟩,I.sub⟩
  refine RT 6 E I ?_;exact⟨_,rfl,(by rw[cr,cY];omega),I.sub⟩
 refine IF 11 E I (λao a E=>?_) λao a E=>?_
 ·
  refine BY 6 E I (λdE a E=>?_) λdE a E=>?_
  ·
   refine RT 6 E I ?_;exact⟨_,rfl,(by rw[cr,cY];omega),I.sub⟩
  refine RT 6 E I ?_;exact⟨_,rfl,⟨λh=>(by cases h),λh=>by rw[cY]at h;exfalso;omega⟩,I.sub⟩
 refine RT 6 E I ?_;exact⟨_,rfl,(by rw[cr,cY];omega),I.sub⟩
theorem aah (I:U W w L)(hb:cY b)(eo:past.length≤4000)(j9:past.length≤c)(hp:∀ w',U W w' L→aX w' ad past.length past) :
   Calls prog 192 #[.agg (dq b adT cT).toArray,.slice ad past.length c] w λe w'=>e=.returned (.agg (ints .i64 256 (gM b past)).toArray)∧U W w' L:=by
 simp only[cY]at hb;refine EN func192 ntmps192 rfl rfl λa E=>?_;refine BX 1 E I λb2 a w E I=>?_;change U W w (aa b2 47 (dq b adT cT)::_) at I;refine AL 0 E I λb4 a w E I=>?_;rw[q6]at I;refine AL 1 E I λb5 a w E I=>?_;rw[q6]at I;refine BY 6 E I (λbX a E=>?_) λbX a E=>?_
 ·
  refine SA 9 E I λa w E I=>?_;refine RT 0 E I ?_;exact⟨by rw[gM,ag (by omega)],I.sub⟩
 refine IF 6 E I (λaj a E=>?_) λaj a E=>?_
 ·
  refine SA 2 E I λa w E I=>?_;refine RT 0 E I ?_;exact⟨by rw[gM,ak (by omega),y5 (by omega)],I.sub⟩
 refine RN 1 E I λa E=>?_;have b0:b.kind=2:=by omega
 obtain⟨o,ho⟩:∃ o:Nat,b.order=(o:Int):=⟨b.order.toNat,by omega⟩;rw[dq,ho]at I;have ea:o≤past.length:=by omega
 have lj:gM b past=hs o past past.length:=by rw[gM,ak b0,ho,c8]
 refine RN 6 E I λa E=>?_;rw[show ((past.length:Nat):Int)-(o:Int)=((past.length-o:Nat):Int) from by omega]at E;refine RN 1 E I λa E=>?_;refine SS E (lL E underlying22 underlying5 underlying9 ((show aX w (ft ad (past.length-o) c 1) (past.length-(past.length-o)) (past.drop (past.length-o)) from by have h1:=(hp _ I.tail.tail.tail).u3 (lo:=past.length-o) (by omega) j9;rw[c7]at h1;exact h1))) λa E=>?_;refine RN 6 E I λa E=>?_;have Z6:o≤3:=by omega
 refine aN (λμ a w=>∃ (i:Nat),(μ=past.length-i∧o≤i∧i≤past.length)∧Fr a 54 [(1,.slice ad past.length c),(2,pt b2),(4,pt b4),(5,pt b5),(6,.string ⟨(past.drop (past.length-o)).toArray⟩),(7,.int .i64 i)]∧U W w (aa b5 320 (ints .i64 256 (hs o past i))::aa b4 320 (ints .i64 256 (λ_=>0))::aa b2 47 [.int .i64 b.kind,.int .i64 o,.slice adT b.table.length cT]::L)) (past.length-o) (⟨o,⟨rfl,a7 _,ea⟩,E.ab [1,2,4,5,6,7],by rw[y5 (a7 _)];exact I.sub⟩) ?_;clear E I;rintro μ a w ⟨i,⟨rfl,Gr,hi⟩,E,I⟩;refine IF 6 E I (λao a E=>?_) λao a E=>?_
 ·
  have aI:i<past.length:=by omega
  have nS:=BG o past i past[i].toNat;have qY:=lk past[i];refine RN 7 E I λa E=>?_;rw[show ((i:Nat):Int)-(o:Int)=((i-o:Nat):Int) from by omega]at E;refine RN 2 E I λa E=>?_;rw[show i-(i-o)=o from by omega]at E;refine SS E (lL E underlying22 underlying5 underlying9 ((hp _ I.tail.tail.tail).y6 (lo:=i-o) (n:=o) (by omega) j9)) λa E=>?_;refine RN 1 E I λa E=>?_;refine SS E (sW E) λa E=>?_;rw[qI]at E;refine IF 0 E I (λay a E=>?_) λay a E=>?_
  ·
   obtain⟨bb,oo,rfl,hr⟩:=(hp _ I.tail.tail.tail).get (by omega);refine RN 3 E I λa E=>?_;refine SS E (ae E (hr i _ (dU aI))) λa E=>?_;refine RN 1 E I λa E=>?_;refine SS E (ae E (I.bz (fV _ qY))) λa E=>?_;refine ST 2 E I (λa w E I=>?_) (hlt:=(by rw[dj];omega));rw[ints_set]at I;refine RN 3 E I λa E=>?_;exact⟨past.length-(i+1),by omega,i+1,⟨rfl,by omega,by omega⟩,E.ab [1,2,4,5,6,7],by
    rw[show hs o past (i+1)=λj=>if j=past[i].toNat then hs o past i past[i].toNat+1 else hs o past i j from by
     rw[hs,ak ⟨Gr,by rw[y4,← ay]⟩,bm,aD aI];rfl]
    exact I.sub⟩
  refine RN 3 E I λa E=>?_;exact⟨past.length-(i+1),by omega,i+1,⟨rfl,by omega,by omega⟩,E.ab [1,2,4,5,6,7],by
   rw[show hs o past (i+1)=hs o past i from by
    rw[hs,ag (λh=>by
     have h2:=h.2;rw[y4]at h2;rw[h2]at ay;cases ay)]]
   exact I.sub⟩
 obtain rfl:i=past.length:=by omega
 refine SA 2 E I λa w E I=>?_;refine RT 0 E I ?_;exact⟨by rw[lj],I.sub⟩
theorem aai {v u:Nat}{last drawn:Int}(I:U W w L)(hv:v<256)(hu:u<256):Calls prog 193 #[.int .i64 v,.int .i64 u,.agg (ints .i64 256 g).toArray,.int .i64 last,.int .i64 drawn] w λe w'=>e=.returned (.bool (qk g last drawn v u))∧U W w' L:=by
 refine EN func193 ntmps193 rfl rfl λa E=>?_;refine BX 1 E I λdt a w E I=>?_;refine BY 7 E I (λbX a E=>?_) λbX a E=>?_
 ·
  refine RT 10 E I ?_;exact⟨by rw[qk,ak (.inl bX)],I.sub⟩
 refine IF 4 E I (λaj a E=>?_) λaj a E=>?_
 ·
  refine RT 5 E I ?_;exact⟨by rw[qk,ak (.inr aj)],I.sub⟩
 refine RN 2 E I λa E=>?_;have h0:¬ ((v:Int)=drawn∨(u:Int)=drawn):=by omega
 refine bR 0 [5] [0,1,3,4,3002,1005,6] E I λa w E I hH hC=>?_;refine RH 4 E I hH hC λa E=>?_;refine QH E (λw hc=>ae E (hc.cell (I.bz (fV _ hv)))) hC λa E=>?_;refine RH 0 E I hH hC λa E=>?_;refine SS E (ae E (I.bz (fV _ hu))) λa E=>?_;refine RH 1 E I hH hC λa E=>?_;refine IF 0 E I (λao a E=>?_) λao a E=>?_
 ·
  refine bR 1 [5] [0,1,3,4,3002,1005,6,7] E I λa w E I hH hC=>?_;refine RH 4 E I hH hC λa E=>?_;refine QH E (λw hc=>ae E (hc.cell (I.bz (fV _ hv)))) hC λa E=>?_;refine RH 0 E I hH hC λa E=>?_;refine SS E (ae E (I.bz (fV _ hu))) λa E=>?_;refine RH 2 E I hH hC λa E=>?_;refine RT 0 E I ?_;exact⟨by rw[qk,ag h0,ak ao],I.sub⟩
 refine RT 5 E I ?_;exact⟨by rw[qk,ag h0,ag (λh=>h ao)],I.sub⟩
set_option maxHeartbeats 1000000 in
theorem MR {k:Nat}(I:U W w L)(hb:cY b)(hk:1≤k∧k≤100000)(eo:past.length≤4000)(j9:past.length≤c)(hp:∀ w',U W w' L→aX w' ad past.length past)(ht:∀ w',U W w' L→aX w' adT b.table.length b.table) :
   Calls prog 160 #[.agg (dq b adT cT).toArray,.slice ad past.length c,.int .i64 k] w λe w'=>∃ (av:Option Addr) (c':Nat) (out:List UInt8),e=.returned (.slice av out.length c')∧(out.length=min k 256∧out[0]?=some (nE b past))∧U W w' (Sl 5 1 av out.length c' (bc out)::L):=by
 have lK:=hb;simp only[cY]at lK;refine EN func160 ntmps160 rfl rfl λa E=>?_;refine BX 1 E I λb3 a w E I=>?_;change U W w (aa b3 47 (dq b adT cT)::_) at I;refine bh 4 E I (Gy I) λr a w E ⟨hr,I⟩=>?_;rw[hr.2 hb]at E;refine RN 2 E I λa E=>?_;replace E:=E.aP 17;refine RN 3 E I λa E=>?_;rw[bo (by omega)]at E;refine CL 4 E I (aah I hb eo j9 (λw' hw=>hp w' hw.tail)) λa w E I=>?_;refine AL 0 E I λdt a w E I=>?_;rw[q6]at I;refine SA 0 E I λa w E I=>?_;refine RN 3 E I λa E=>?_;have uN:(if 0<past.length then ((past.getD (past.length-1) 0).toNat:Int) else 0)=((iB past).toNat:Nat):=by
  split
  ·rw[iB,getLastD_eq_getLast?,List.getLast?_eq_getElem?,bm]
  ·rw[iB,gG (l:=past) (by omega)];rfl
 refine cc (M:=λa w=>Fr a 86 [(1,.slice ad past.length c),(2,.int .i64 k),(3,pt b3),(7,pt dt),(8,.int .i64 ((iB past).toNat:Nat)),(9,.int .i64 (-1))]∧U W w (aa dt 320 (ints .i64 256 (gM b past))::aa b3 47 (dq b adT cT)::L)) ?_ ?_
 ·
  refine IF 4 E I (λao a E=>?_) λao a E=>?_
  ·
   obtain⟨bb,oo,rfl,e4⟩:=(hp _ I.tail.tail).get (by omega);rw[ak (by omega)]at uN;refine RN 4 E I λa E=>?_;rw[show ((past.length:Nat):Int)-1=((past.length-1:Nat):Int) from by omega]at E;refine RN 1 E I λa E=>?_;refine SS E (ae E (e4 (past.length-1) _ (ln (by omega)))) λa E=>?_;refine SX 0 E I (tH _) λa E=>?_;refine RN 1 E I λa E=>?_;rw[uN]at E;exact⟨E.ab [1,2,3,7,8,9],I⟩
  rw[ag (by omega)]at uN;refine RN 1 E I λa E=>?_;rw[show (0:Int)=((iB past).toNat:Nat) from uN]at E;exact⟨E.ab [1,2,3,7,8,9],I⟩
 clear E;(try clear I);rintro a w ⟨E,I⟩;refine cc (M:=λa w=>Fr a 86 [(2,.int .i64 k),(3,pt b3),(7,pt dt),(8,.int .i64 ((iB past).toNat:Nat)),(9,.int .i64 (tS b past))]∧U W w (aa dt 320 (ints .i64 256 (gM b past))::aa b3 47 (dq b adT cT)::L)) ?_ ?_
 ·
  refine IF 4 E I (λay a E=>?_) λay a E=>?_
  ·
   refine bR 0 [5,6,7] [0,2,3,4,3001,1005,1006,1007,8,1009,10,11] E I λa w E I hH hC=>?_;have hA:=E;obtain⟨Z7,Z8,rfl,pX⟩:=(ht _ I.tail.tail).get (by omega);have E:=hA;have Gt:past.length%b.table.length<b.table.length:=Nat.mod_lt _ (by omega);refine RH 8 E I hH hC λa E=>?_;rw[oG]at E;refine RH 1 E I hH hC λa E=>?_;refine SS E (ae E (pX (past.length%b.table.length) _ (ln Gt))) λa E=>?_;refine RH 0 E I hH hC λa E=>?_;refine QP E (λw=>pH E underlying5 underlying3 (tH _)) λa E=>?_;refine RH 1 E I hH hC λa E=>?_;rw[tS,ak (by omega)];exact⟨E.ab [2,3,7,8,9],I⟩
  refine RN 0 E I λa E=>?_;rw[tS,ag (by omega)];exact⟨E.ab [2,3,7,8,9],I⟩
 clear E;(try clear I);rintro a w ⟨E,I⟩;refine AL 1 E I λkK a w E I=>?_;rw[aag]at I;refine RN 3 E I λa E=>?_;refine aN (λμ a w=>∃ (j:Nat) (out:List UInt8) (t:Nat→Bool) (ad2:Option Addr) (c2:Nat),(μ=min k 256-j∧j≤min k 256∧out.length=j∧q7 t 256=j∧(j=0→∀ v,t v=false)∧(1≤j→out[0]?=some (nE b past)))∧Fr a 86 [(2,.int .i64 k),(3,pt b3),(7,pt dt),(8,.int .i64 ((iB past).toNat:Nat)),(9,.int .i64 (tS b past)),(10,pt kK),(11,.slice ad2 out.length c2)]∧U W w (Sl 5 1 ad2 out.length c2 (bc out)::aa kK 322 (tT t)::aa dt 320 (ints .i64 256 (gM b past))::aa b3 47 (dq b adT cT)::L)) (min k 256) (⟨0,[],λ_=>false,none,0,⟨rfl,by omega,rfl,by decide,λ_ _=>rfl,λh=>by omega⟩,E.ab [2,3,7,8,9,10,11],I.bM 5 1 none⟩) ?_;clear E I;rintro μ a w ⟨j,out,t,ad2,c2,⟨rfl,hj,ea,MS,hj0,vm⟩,E,I⟩;refine BY 7 E I (λdE a E=>?_) λdE a E=>?_
 ·
  refine IF 4 E I (λbk a E=>?_) λbk a E=>?_
  ·
   refine RN 5 E I λa E=>?_;refine aN (λμ a w=>∃ (i:Nat) (fK:Int),(μ=256-i∧i≤256∧kr (gM b past) ((iB past).toNat:Nat) (tS b past) t (decide (j=0)) i fK)∧Fr a 86 [(2,.int .i64 k),(3,pt b3),(7,pt dt),(8,.int .i64 ((iB past).toNat:Nat)),(9,.int .i64 (tS b past)),(10,pt kK),(11,.slice ad2 out.length c2),(12,.int .i64 fK),(13,.int .i64 i)]∧U W w (Sl 5 1 ad2 out.length c2 (bc out)::aa kK 322 (tT t)::aa dt 320 (ints .i64 256 (gM b past))::aa b3 47 (dq b adT cT)::L)) (256) (⟨0, -1,⟨rfl,by omega,kr.start⟩,E.ab [2,3,7,8,9,10,11,12,13],I⟩) ?_;clear E I;rintro μ a w ⟨i,fK,⟨rfl,hi,vn⟩,E,I⟩;refine IF 4 E I (λbN a E=>?_) λbN a E=>?_
   ·
    have BW:i<256:=by omega
    have o5:decide (j=0)=true→∀ v,t v=false:=λh=>hj0 (by simpa using h);refine RN 4 E I λa E=>?_;refine SS E (ae E (I.bz (aad BW))) λa E=>?_;refine BY 2 E I (λdE a E=>?_) λdE a E=>?_
    ·
     refine BY 3 E I (λjU a E=>?_) λjU a E=>?_
     ·
      refine RN 14 E I λa E=>?_;exact⟨256-(i+1),by omega,i+1,i,⟨rfl,by omega,vn.take jU dE o5⟩,E.ab [2,3,7,8,9,10,11,12,13],I⟩
     obtain⟨u,rfl,hu⟩:=vn.nat (by omega);refine CL 5 E I (aai I BW (by omega)) λa w E I=>?_;refine IF 2 E I (λeN a E=>?_) λeN a E=>?_
     ·
      refine RN 5 E I λa E=>?_;exact⟨256-(i+1),by omega,i+1,i,⟨rfl,by omega,kr.up hu eN dE⟩,E.ab [2,3,7,8,9,10,11,12,13],I⟩
     refine RN 3 E I λa E=>?_;exact⟨256-(i+1),by omega,i+1,u,⟨rfl,by omega,kr.ab hu eN⟩,E.ab [2,3,7,8,9,10,11,12,13],I⟩
    refine RN 15 E I λa E=>?_;exact⟨256-(i+1),by omega,i+1,fK,⟨rfl,by omega,vn.skip dE o5⟩,E.ab [2,3,7,8,9,10,11,12,13],I⟩
   obtain rfl:i=256:=by omega
   obtain⟨u,rfl,hu6,htu,Gz⟩:=vn.Gx (by omega);refine ST 3 E I (λa w E I=>?_) (hlt:=(by rw[aac];omega));rw[aae]at I;refine SX 2 E I (by rw[wrap_u8];omega) λa E=>?_;rw[show ((u:Nat):Int)=((UInt8.ofNat u).toNat:Int) from by rw[UInt8.toNat_ofNat'];omega]at E;refine RN 0 E I λa E=>?_;refine cp E rfl I underlying22 Ty.t5 rfl rfl rfl rfl (by decide) (by decide) λb83 a w E I ho=>?_;clear ho;refine RN 0 E I λa E=>?_;refine cQ E rfl I underlying22 Ty.t5 rfl rfl I.ai rfl (ez [UInt8.ofNat u]) (by decide) (by decide) (by omega) λaaj c84 a w E I=>?_;rw[show bc out++_=bc (out++[UInt8.ofNat u]) from (fM _ [_]).symm,show out.length+1=(out++[UInt8.ofNat u]).length from by simp]at I;rw[show out.length+1=(out++[UInt8.ofNat u]).length from by simp]at E;refine RN 1 E I λa E=>?_;exact⟨min k 256-(j+1),by omega,j+1,out++[UInt8.ofNat u],_,aaj,c84,⟨rfl,by omega,by rw[aJ,ea];rfl,by rw[MQ htu,MS,ak hu6],λh=>by omega,λ_=>by
    rcases lI j with h0 | h0
    ·rw[gG (l:=out) (by omega),Gz (dk h0),aab hb];simp
    ·rw[mF (by omega)];exact vm (by omega)⟩,E.ab [2,3,7,8,9,10,11],I.sub⟩
  refine RT 3 E I ?_;exact⟨ad2,c2,out,rfl,⟨by omega,vm (by omega)⟩,I.sub⟩
 refine RT 8 E I ?_;exact⟨ad2,c2,out,rfl,⟨by omega,vm (by omega)⟩,I.sub⟩
theorem aak (I:U W w L)(hb:cY b)(eo:past.length≤1001)(j9:past.length≤c)(hn:m≤1000)(hp:∀ w',U W w' L→aX w' ad past.length past)(ht:∀ w',U W w' L→aX w' adT b.table.length b.table) :
   Calls prog 161 #[.agg (dq b adT cT).toArray,.slice ad past.length c,.int .i64 m] w λe w'=>∃ av c',e=.returned (.slice av m c')∧U W w' (Sl 5 1 av m c' (bc (kl b past m))::L):=by
 refine EN func161 ntmps161 rfl rfl λa E=>?_;refine BX 1 E I λb3 a w E I=>?_;change U W w (aa b3 47 (dq b adT cT)::_) at I;refine bh 4 E I (Gy I) λr a w E ⟨hr,I⟩=>?_;rw[hr.2 hb]at E;refine RN 1 E I λa E=>?_;replace E:=E.aP 13;refine RN 2 E I λa E=>?_;replace I:=I.bM 5 1 none;refine RN 1 E I λa E=>?_;refine g8 E rfl I underlying22 Ty.t5 rfl rfl (by decide) (λh0=>(hp _ I.tail.tail).get h0) (by rw[dy];omega) (ez _) (by omega) λLK LL a w E I=>?_;rw[nil_append,eG]at I;rw[eG]at E;refine RN 6 E I λa E=>?_;refine aN (λμ a w=>∃ (i:Nat) (ad2:Option Addr) (c2:Nat) (fu:Option Addr) (dJ:Nat),(μ=m-i∧i≤m)∧Fr a 41 [(2,.int .i64 m),(3,pt b3),(7,.slice ad2 (en b past i).length c2),(8,.slice fu i dJ),(9,.int .i64 i)]∧U W w (Sl 5 1 fu i dJ (bc (kl b past i))::Sl 5 1 ad2 (en b past i).length c2 (bc (en b past i))::aa b3 47 (dq b adT cT)::L)) (m) (⟨0,LK,LL,none,0,⟨rfl,by omega⟩,E.ab [2,3,7,8,9],by
  have h1:kl b past 0=[]:=gG (FQ b past 0);rw[h1];exact I.bM 5 1 none⟩) ?_
 clear E I;rintro μ a w ⟨i,ad2,c2,fu,dJ,⟨rfl,hi⟩,E,I⟩;refine BY 6 E I (λbX a E=>?_) λbX a E=>?_
 ·
  refine RN 3 E I λa E=>?_;rw[dk (by omega)]at E;refine RN 3 E I λa E=>?_;have cn:=iC b past i;have Gv:=(I.sl ad2).2;have him:i<m:=by omega
  refine j3 2 E I (MR (past:=en b past i) (k:=1) I hb (by decide) (by omega) Gv (λw' hw=>hw.cu ad2 (en b past i) rfl rfl) (λw' hw=>ht w' hw.tail.tail.tail)) λr9 o4 out a w E ⟨⟨ea,ho0⟩,I⟩=>?_;refine RN 1 E I λa E=>?_;obtain⟨x,rfl⟩:∃ x,out=[x]:=by
   match out,ea with
   | [x],_=>exact⟨x,rfl⟩
  obtain rfl:x=nE b (en b past i):=by simpa using ho0
  obtain⟨gw,or',rfl,jT⟩:=I.bU r9 (by simp);refine SX 3 E I (by simp) λa E=>?_;refine RN 0 E I λa E=>?_;refine SS E (ae E (jT 0 _ rfl)) λa E=>?_;refine RN 0 E I λa E=>?_;refine cp E rfl I underlying22 Ty.t5 rfl rfl rfl rfl (by decide) (by decide) λgN a w E I ho=>?_;clear ho;refine RN 0 E I λa E=>?_;refine cQ E rfl I underlying22 Ty.t5 rfl rfl I.ai rfl (ez [nE b (en b past i)]) (by decide) (by decide) (by omega) λGA GC a w E I=>?_;rw[show bc (en b past i)++_=bc (en b past (i+1)) from (fM _ [_]).symm,show (en b past i).length+1=(en b past (i+1)).length from by rw[iC,iC];omega]at I;rw[show (en b past i).length+1=(en b past (i+1)).length from by rw[iC,iC];omega]at E;refine RN 1 E I λa E=>?_;replace jT:=I.cK gw or' (by simp);refine SX 2 E I (by simp) λa E=>?_;refine RN 0 E I λa E=>?_;refine SS E (ae E (jT 0 _ rfl)) λa E=>?_;refine RN 0 E I λa E=>?_;refine cp E rfl I underlying22 Ty.t5 rfl rfl rfl rfl (by decide) (by decide) λb38 a w E I ho=>?_;clear ho;refine RN 0 E I λa E=>?_;refine cQ E rfl I underlying22 Ty.t5 rfl rfl I.ai rfl (ez [nE b (en b past i)]) (by decide) (by decide) (by omega) λaal c39 a w E I=>?_;rw[show bc (kl b past i)++_=bc (kl b past (i+1)) from by rw[Zk,vc];exact (fM _ [_]).symm]at I;refine RN 4 E I λa E=>?_;exact⟨m-(i+1),by omega,i+1,GA,GC,aal,c39,⟨rfl,by omega⟩,E.ab [2,3,7,8,9],I.sub⟩
 refine RT 7 E I ?_;obtain rfl:i=m:=by omega
 exact⟨_,_,rfl,I.sub⟩
end
end
section
def xu (to:Nat)(l x:List UInt8):Prop:=(∃ t,x=l++t)∧to≤x.length∧x.length≤1001
def nI (X:List (List UInt8))(front to:Nat):List (List UInt8):=(List.range (to-front)).map λi=>bJ X (front+i)
theorem xv (b:Gs)(ls:List (List UInt8))(to:Nat):nI (jk b ls to) (aU ls) to=dv b ls to:=rfl
theorem BZ (X:List (List UInt8))(front to:Nat):(nI X front to).length=to-front:=by simp[nI]
structure zj (to:Nat)(ls X:List (List UInt8)):Prop where
 len:X.length=ls.length
 fit:∀ (j:Nat) (l x:List UInt8),ls[j]?=some l→X[j]?=some x→xu to l x
theorem aam {b:Gs}{l:List UInt8}{to:Nat}(h:l.length≤1000)(h2:to≤1000):xu to l (oa b l to):=by
 refine⟨⟨kl b l (to-l.length),?_⟩,Zl b l to,?_⟩
 ·rw[oa,vc]
 ·rw[oa,iC];omega
theorem MT {b:Gs}{l:List UInt8}{to:Nat}(h:to≤l.length):oa b l to=l:=by rw[oa,show to-l.length=0 from by omega];rfl
structure xw:Prop where
 aan:∀ {W w:World} {L:List SP} {c k cT:Nat} {ad adT:Option Addr} {past:List UInt8} {b:Gs},U W w L→cY b→(1≤k∧k≤256)→past.length≤1000→past.length≤c→(∀ w',U W w' L→aX w' ad past.length past)→(∀ w',U W w' L→aX w' adT b.table.length b.table) →
 Calls prog 310 #[.agg (dq b adT cT).toArray,.slice ad past.length c,.int .i64 k] w λe w'=>∃ (av:Option Addr) (c':Nat) (out:List UInt8),e=.returned (.slice av out.length c')∧out.length=k∧U W w' (Sl 5 1 av out.length c' (bc out)::L)
section
variable {W w:World}{L:List SP}{c m cT to r:Nat}{ad adT:Option Addr}{past:List UInt8}{b:Gs}
set_option maxHeartbeats 1000000 in
theorem aao (ql:r=0∨xw)(hr:r≤100000)(I:U W w (Sl 5 1 ad past.length c (bc past)::L))(hb:cY b)(eo:past.length≤1000)(tQ:to≤1000)(ht:∀ w',U W w' L→aX w' adT b.table.length b.table) :
   Calls prog 294 #[.slice ad past.length c,.agg (dq b adT cT).toArray,.int .i64 r,.int .i64 to] w λe w'=>∃ (av:Option Addr) (c':Nat) (x:List UInt8),e=.returned (.slice av x.length c')∧(xu to past x∧(r=0→x=oa b past to)) ∧
    U W w' (Sl 5 1 av x.length c' (bc x)::L):=by
 have j9:=(I.sl ad).2;refine EN func294 ntmps294 rfl rfl λa E=>?_;refine BX 1 E I λb5 a w E I=>?_;change U W w (aa b5 186 (dq b adT cT)::_) at I;refine IF 7 E I (λaj a E=>?_) λaj a E=>?_
 ·
  refine RT 3 E I ?_;exact⟨ad,c,past,rfl,⟨⟨⟨[],by simp⟩,by omega,by omega⟩,λ_=>(MT (by omega)).symm⟩,I.tail⟩
 refine RN 0 E I λa E=>?_;refine cc (M:=λa w=>∃ (ad2:Option Addr) (c2:Nat) (y:List UInt8),((∃ t,y=past++t)∧y.length≤past.length+1∧past.length<to∧(r=0→y=past))∧Fr a 48 [(0,.slice ad2 y.length c2),(3,.int .i64 to),(5,pt b5)]∧U W w (Sl 5 1 ad2 y.length c2 (bc y)::aa b5 186 (dq b adT cT)::L)) ?_ ?_
 ·
  refine SX 2 E I (by decide) λa E=>?_;rw[show ((r:Nat):Int).tmod 256=((r%256:Nat):Int) from oG _ 256]at E;refine RN 1 E I λa E=>?_;have y0:r%256<256:=Nat.mod_lt _ (by decide);generalize mm:r%256=r6 at E y0;refine IF 3 E I (λao a E=>?_) λao a E=>?_
  ·
   have hRk:=ql.resolve_left (λh=>by rw[h]at mm;omega);have hp0:=I.drew.tail.tail;refine bR 0 [] [0,1,2,3,4,5,7,8,9,11,1006,1010,12,1013,1014,1015,16] E I λa w E I hH hC=>?_;refine RH 5 E I hH hC λa E=>?_;refine QP E (λw=>DH E underlying22 Ty.t5 (a7 _) (by omega)) λa E=>?_;rw[rH]at E;refine RH 3 E I hH hC λa E=>?_;rw[show ((r6:Nat):Int)+1=((r6+1:Nat):Int) from by omega]at E;refine RH 2 E I hH hC λa E=>?_;refine j3 0 E I (hRk.aan I hb (by omega) eo j9 (λw' hw=>hw.tail.cu ad past rfl rfl) (λw' hw=>ht w' hw.tail.tail)) λr9 o4 out a w E ⟨ea,I⟩=>?_;obtain⟨gw,or',rfl,jT⟩:=I.bU r9 (by omega);refine RN 1 E I λa E=>?_;refine SS E (ae E (jT r6 _ (dU (by omega)))) λa E=>?_;refine RN 0 E I λa E=>?_;refine cp E rfl I underlying22 Ty.t5 rfl rfl rfl rfl (by decide) (by decide) λgN a w E I ho=>?_;clear ho;replace I:=I.Jb ad past.length (a7 _);rw[rH,fW,gi (by rw[dy];exact a7 _)]at I;refine RN 0 E I λa E=>?_;refine cQ E rfl I underlying22 Ty.t5 rfl rfl I.ai rfl (ez [out[r6]]) (by decide) (by decide) (by omega) λGA GC a w E I=>?_;rw[show bc past++_=bc (past++[out[r6]]) from (fM _ [_]).symm,show past.length+1=(past++[out[r6]]).length from by simp]at I;rw[show past.length+1=(past++[out[r6]]).length from by simp]at E;refine RN 1 E I λa E=>?_;exact⟨GA,GC,past++[out[r6]],⟨⟨_,rfl⟩,by simp,by omega,λh=>by rw[h]at mm;omega⟩,E.ab [0,3,5],I.sub⟩
  have af9:r6=0:=by omega
  refine RN 0 E I λa E=>?_;exact⟨ad,c,past,⟨⟨[],by simp⟩,by omega,by omega,λ_=>rfl⟩,E.ab [0,3,5],I.sub⟩
 clear E;(try clear I);rintro a w ⟨ad2,c2,y,⟨g5,jh,hy4,mA⟩,E,I⟩;refine RN 1 E I λa E=>?_;have jm:y.length≤to:=by omega
 have pd:=(I.sl ad2).2;refine bR 0 [] [0,1,2,3,4,5,7,8,9,10,11,1006,1012,1013,14] E I λa w E I hH hC=>?_;refine RH 5 E I hH hC λa E=>?_;refine QP E (λw=>DH E underlying22 Ty.t5 (a7 _) (by omega)) λa E=>?_;rw[rH]at E;refine RH 5 E I hH hC λa E=>?_;rw[show ((to:Nat):Int)-((y.length:Nat):Int)=((to-y.length:Nat):Int) from by omega]at E;refine RH 1 E I hH hC λa E=>?_;refine aZ 0 E I (aaa (to:=0) (past:=y) (m:=to-y.length) I hb (by omega) pd (by omega) (λw' hw=>hw.cu ad2 y rfl rfl) (λw' hw=>ht w' hw.tail.tail)) λadc zk a w E I=>?_;replace I:=I.Jb ad2 y.length (a7 _);rw[rH,fW,gi (by rw[dy];exact a7 _)]at I;have GD:=FQ b y (to-y.length);refine RN 0 E I λa E=>?_;refine g8 E rfl I underlying22 Ty.t5 rfl rfl (by decide) (λh0=>(I.tail.cu adc (kl b y (to-y.length)) rfl GD).get h0) (by rw[dy];omega) (ez _) (by omega) λqd se a w E I=>?_;rw[← fM,vc,show y.length+(to-y.length)=(en b y (to-y.length)).length from by rw[iC]]at I;rw[show y.length+(to-y.length)=(en b y (to-y.length)).length from by rw[iC]]at E;refine RN 1 E I λa E=>?_;refine RT 0 E I ?_;obtain⟨t,GF⟩:=g5;refine⟨qd,se,_,rfl,⟨⟨⟨t++kl b y (to-y.length),?_⟩,by rw[iC];omega,by rw[iC];omega⟩,λh=>?_⟩,I.sub⟩
 ·rw[← vc,GF,dx]
 ·rw[mA h,oa]
set_option maxHeartbeats 1000000 in
theorem GG {qb:Nat}{aB:List Nat}{ls:List (List UInt8)}(ql:r=0∨xw)(hr:r≤100000)(I:U W w (Qu qb aB ls::L))(hb:cY b)(h0:ls≠[])(h8:ls.length≤8)(hl:∀ l∈ls,l.length≤1000)(tQ:to≤1000)(ht:∀ w',U W w' L→aX w' adT b.table.length b.table) :
   Calls prog 277 #[pt qb,.agg (dq b adT cT).toArray,.int .i64 r,.int .i64 to] w λe w'=>∃ (av:Option Addr) (c':Nat) (X:List (List UInt8)),e=.returned (.slice av (to-aU ls) c')∧(zj to ls X∧(r=0→X=jk b ls to)) ∧
    U W w' (cg av (to-aU ls) c' (nI X (aU ls) to)::Qu qb aB ls::L):=by
 refine EN func277 ntmps277 rfl rfl λa E=>?_;refine BX 1 E I λb5 a w E I=>?_;change U W w (aa b5 186 (dq b adT cT)::_) at I;refine RN 6 E I λa E=>?_;replace E:=E.aP 21;refine bh 1 E I (zi I) λsx a w E ⟨jT,I⟩=>?_;rw[jT.2 hb]at E;refine RN 3 E I λa E=>?_;replace E:=E.aP 26;refine RN 4 E I λa E=>?_;rw[bo (by omega)]at E;refine RN 3 E I λa E=>?_;rw[bo (by omega)]at E;refine CL 3 E I (sj (I.pick (Qu qb aB ls)) h0 h8) λa w E I=>?_;refine CL 6 E I (FR I) λa w E I=>?_;refine RN 1 E I λa E=>?_;replace I:=I.bM 22 1 none;replace I:=U.ja (f:=ba) I;refine aN (λμ a w=>∃ (i:Nat) (sx:Nat) (xs:List ee) (og:Option Addr) (de:Nat),(μ=ls.length-i∧i≤ls.length∧xs.length=i∧(sx=0∨xw)∧sx≤100000∧(r=0→sx=0)∧(∀ (j:Nat) (l:List UInt8) (x:ee),ls[j]?=some l→xs[j]?=some x→xu to l x.2.2)∧(r=0→xs.map (·.2.2)=(jk b ls to).take i))∧Fr a 84 [(0,pt qb),(2,.int .i64 sx),(3,.int .i64 to),(5,pt b5),(9,.int .i64 (aU ls)),(10,.slice og i de),(37,.int .i64 ls.length),(38,.int .i64 i)]∧U W w (Sl 22 1 og i de (xs.map aM)::ah ba xs::Qu qb aB ls::aa b5 186 (dq b adT cT)::L)) (ls.length) (⟨0,r,[],none,0,⟨rfl,by omega,rfl,ql,hr,λh=>h,λj l x _ h=>by simp at h,λ_=>rfl⟩,E.ab [0,2,3,5,9,10,37,38],(I.sub:U W w (Sl 22 1 none 0 0 []::ah ba []::Qu qb aB ls::aa b5 186 (dq b adT cT)::L))⟩) ?_;clear E I;rintro μ a w ⟨i,sx,xs,og,de,⟨rfl,hi,b9,MU,MV,MW,nQ,vo⟩,E,I⟩;refine IF 3 E I (λao a E=>?_) λao a E=>?_
 ·
  have aI:i<ls.length:=by omega
  have hlt:=hl _ (ve aI);refine CL 7 E I (tL (I.pick (Qu qb aB ls)) aI) λa w E I=>?_;refine aZ 0 E I (Zw I aI hlt) λc1 dT a w E I=>?_;refine RN 3 E I λa E=>?_;refine cc (M:=λa w=>∃ k xx:Nat,((k=0∨xw)∧k≤100000∧(xx=0∨xw)∧xx≤100000∧(r=0→k=0∧xx=0))∧Fr a 84 [(0,pt qb),(2,.int .i64 xx),(3,.int .i64 to),(5,pt b5),(9,.int .i64 (aU ls)),(10,.slice og i de),(12,.slice c1 (ls.getD i []).length dT),(13,.int .i64 k),(37,.int .i64 ls.length),(38,.int .i64 i)]∧U W w (Sl 5 1 c1 (ls.getD i []).length dT (bc (ls.getD i []))::Sl 22 1 og i de (xs.map aM)::ah ba xs::Qu qb aB ls::aa b5 186 (dq b adT cT)::L)) ?_ ?_
  ·
   refine IF 5 E I (λay a E=>?_) λay a E=>?_
   ·
    refine RN 3 E I λa E=>?_;exact⟨sx,0,⟨MU,MV,.inl rfl,by omega,λh=>⟨MW h,rfl⟩⟩,E.ab [0,2,3,5,9,10,12,13,37,38],I.sub⟩
   refine RN 0 E I λa E=>?_;exact⟨0,sx,⟨.inl rfl,by omega,MU,MV,λh=>⟨rfl,MW h⟩⟩,E.ab [0,2,3,5,9,10,12,13,37,38],I.sub⟩
  clear E;(try clear I);rintro a w ⟨k,xx,⟨g7,b0,mK,mX,zl⟩,E,I⟩;refine j3 5 E I (aao g7 b0 I hb hlt tQ (λw' hw=>ht w' hw.tail.tail.tail.tail)) λhE cl x a w E ⟨⟨hfx,Gz⟩,I⟩=>?_;refine RN 0 E I λa E=>?_;refine cp E rfl I underlying207 Ty.t22 rfl rfl rfl rfl (by decide) (by decide) λYN a w E I ho=>?_;clear ho;refine RN 0 E I λa E=>?_;refine cQ E rfl I underlying207 Ty.t22 rfl rfl I.ai rfl (by simp[Value.oneCell']) (by decide) (by decide) (by omega) λFF FG a w E I=>?_;rw[show List.map aM xs++_=List.map aM (xs++[(hE,cl,x)]) from by rw[cW];rfl]at I;refine RN 3 E I λa E=>?_;have dz:=U.j1 (f:=ba) (x:=(hE,cl,x)) (I.sub (M:=Sl 5 1 hE x.length cl (bc x)::ah ba xs::Sl 22 1 FF (i+1) FG ((xs++[(hE,cl,x)]).map aM)::Qu qb aB ls::aa b5 186 (dq b adT cT)::L));refine⟨ls.length-(i+1),by omega,i+1,xx,xs++[(hE,cl,x)],FF,FG,⟨rfl,by omega,by rw[aJ,b9];rfl,mK,mX,λh=>(zl h).2,λj l y hj hy=>?_,λh=>?_⟩,E.ab [0,2,3,5,9,10,37,38],dz.sub⟩
  ·by_cases gU:j<i
   ·rw[mF (by omega)]at hy;exact nQ j l y hj hy
   ·have dQ:=(aY.1 hy).1;rw[aJ,jF]at dQ;obtain rfl:j=i:=by omega
    rw[pD (by omega),b9,Nat.sub_self]at hy;obtain rfl:(hE,cl,x)=y:=by simpa using hy
    rw[show l=ls.getD j [] from by rw[bm,hj];rfl];exact hfx
  ·rw[cW,vo h,jx (by rw[jk,a8];exact aI)]
   congr 1
   rw[map_singleton,Gz (zl h).1];simp[jk,bm,aI]
 obtain rfl:i=ls.length:=by omega
 have iA:zj to ls (xs.map (·.2.2)):=⟨by rw[a8];exact b9,λj l x hj hx=>by
  rw[bl]at hx;obtain⟨y,hy,rfl⟩:=rI.1 hx;exact nQ j l y hj hy⟩
 have m2:r=0→xs.map (·.2.2)=jk b ls to:=λh=>by rw[vo h,gi (by rw[jk,a8];exact a7 _)]
 clear nQ vo;have fw:aU ls≤1000:=by
  obtain⟨l,jA,j8⟩:=BD h0;rw[j8];exact hl l jA
 refine RN 6 E I λa E=>?_;replace I:=I.bM 22 1 none;replace I:=U.ja (f:=ba) I;refine aN (λμ a w=>∃ (d:Nat) (zs:List ee) (m3:Option Addr) (m4:Nat),(μ=to-aU ls-d∧d≤to-aU ls∧zs.map (·.2.2)=(List.range d).map λi=>bJ (xs.map (·.2.2)) (aU ls+i))∧Fr a 84 [(3,.int .i64 to),(10,.slice og ls.length de),(14,.slice m3 d m4),(15,.int .i64 (aU ls+d:Nat))]∧U W w (Sl 22 1 m3 d m4 (zs.map aM)::ah ba zs::Sl 22 1 og ls.length de (xs.map aM)::ah ba xs::Qu qb aB ls::L)) (to-aU ls) (⟨0,[],none,0,⟨rfl,by omega,rfl⟩,by rw[Nat.add_zero];exact E.ab [3,10,14,15],(I.sub:U W w (Sl 22 1 none 0 0 []::ah ba []::Sl 22 1 og ls.length de (xs.map aM)::ah ba xs::Qu qb aB ls::L))⟩) ?_;clear E I;rintro μ a w ⟨d,zs,m3,m4,⟨rfl,hd,tU⟩,E,I⟩;refine IF 5 E I (λbk a E=>?_) λbk a E=>?_
 ·
  refine RN 3 E I λa E=>?_;replace I:=I.bM 5 1 none;refine RN 5 E I λa E=>?_;refine aN (λμ a w=>∃ (i:Nat) (iT:Option Addr) (jo:Nat),(μ=ls.length-i∧i≤ls.length)∧Fr a 84 [(3,.int .i64 to),(10,.slice og ls.length de),(14,.slice m3 d m4),(15,.int .i64 (aU ls+d:Nat)),(16,.slice iT i jo),(65,.slice og ls.length de),(66,.int .i64 ls.length),(67,.int .i64 i)]∧U W w (Sl 5 1 iT i jo (bc (fA (xs.map (·.2.2)) (aU ls+d) i))::Sl 22 1 m3 d m4 (zs.map aM)::ah ba zs::Sl 22 1 og ls.length de (xs.map aM)::ah ba xs::Qu qb aB ls::L)) (ls.length) (⟨0,none,0,⟨rfl,by omega⟩,E.ab [3,10,14,15,16,65,66,67],I⟩) ?_;clear E I;rintro μ a w ⟨i,iT,jo,⟨rfl,hi⟩,E,I⟩;refine IF 3 E I (λbN a E=>?_) λbN a E=>?_
  ·
   have aI:i<ls.length:=by omega
   obtain⟨x,hx⟩:∃ x,xs[i]?=some x:=⟨_,aD (by omega)⟩;have B0:=U.mJ (xs:=xs) (I.sub (M:=Sl 22 1 og ls.length de (xs.map aM)::ah ba xs::[]));obtain⟨mW,oU,rfl,fJ⟩:=B0.1 (by omega);have zm:=iA.fit i _ x.2.2 (aD aI) (by rw[bl,hx];rfl);obtain⟨na,ol,g4,gv⟩:=(B0.2 x (bF hx)).get (by have:=zm.2.1;omega);refine RN 3 E I λa E=>?_;refine SS E (ae E (fJ i (aM x) (by rw[bl,hx];rfl))) λa E=>?_;refine RN 4 E I λa E=>?_;rw[aM,g4]at E;refine SX 0 E I (by have:=zm.2.1;omega) λa E=>?_;refine RN 0 E I λa E=>?_;refine SS E (ae E (gv (aU ls+d) _ (ln (by have:=zm.2.1;omega)))) λa E=>?_;refine RN 0 E I λa E=>?_;refine cp E rfl I underlying22 Ty.t5 rfl rfl rfl rfl (by decide) (by decide) λb76 a w E I ho=>?_;clear ho;refine RN 0 E I λa E=>?_;refine cQ E rfl I underlying22 Ty.t5 rfl rfl I.ai rfl (ez [x.2.2.getD (aU ls+d) 0]) (by decide) (by decide) (by omega) λaap c77 a w E I=>?_;rw[show bc (fA (xs.map (·.2.2)) (aU ls+d) i)++_=bc (fA (xs.map (·.2.2)) (aU ls+d) (i+1)) from by rw[BF (by rw[a8];omega),getElem_map,fM,(aY.1 hx).2]]at I;refine RN 3 E I λa E=>?_;exact⟨ls.length-(i+1),by omega,i+1,aap,c77,⟨rfl,by omega⟩,E.ab [3,10,14,15,16,65,66,67],I.sub⟩
  obtain rfl:i=ls.length:=by omega
  have dQ:fA (xs.map (·.2.2)) (aU ls+d) ls.length=bJ (xs.map (·.2.2)) (aU ls+d):=by
   conv=>lhs;rw[← iA.len]
   exact BE _ _
  rw[dQ]at I;have qH:(bJ (xs.map (·.2.2)) (aU ls+d)).length=ls.length:=by rw[nD];exact iA.len
  refine RN 2 E I λa E=>?_;refine cp E rfl I underlying207 Ty.t22 rfl rfl rfl rfl (by decide) (by decide) λb81 a w E I ho=>?_;clear ho;refine RN 0 E I λa E=>?_;refine cQ E rfl I underlying207 Ty.t22 rfl rfl I.ai rfl (by simp[Value.oneCell']) (by decide) (by decide) (by omega) λMX MY a w E I=>?_;rw[show List.map aM zs++_=List.map aM (zs++[(iT,jo,bJ (xs.map (·.2.2)) (aU ls+d))]) from by rw[cW,map_singleton,aM,qH];rfl]at I;refine RN 4 E I λa E=>?_;have dz:=U.j1 (f:=ba) (x:=(iT,jo,bJ (xs.map (·.2.2)) (aU ls+d))) (by
   rw[ba,qH];exact I.sub (M:=Sl 5 1 iT ls.length jo (bc (bJ (xs.map (·.2.2)) (aU ls+d)))::ah ba zs::Sl 22 1 MX (d+1) MY ((zs++[(iT,jo,bJ (xs.map (·.2.2)) (aU ls+d))]).map aM)::Sl 22 1 og ls.length de (xs.map aM)::ah ba xs::Qu qb aB ls::L))
  exact⟨to-aU ls-(d+1),by omega,d+1,zs++[(iT,jo,bJ (xs.map (·.2.2)) (aU ls+d))],MX,MY,⟨rfl,by omega,by rw[cW,tU,range_succ,cW];rfl⟩,by rw[show ((aU ls+(d+1):Nat):Int)=((aU ls+d:Nat):Int)+1 from by omega];exact E.ab [3,10,14,15],dz.sub⟩
 obtain rfl:d=to-aU ls:=by omega
 refine RT 3 E I ?_;exact⟨m3,m4,xs.map (·.2.2),rfl,⟨iA,m2⟩,cg.close (xs:=zs) (I.sub (M:=Sl 22 1 m3 (to-aU ls) m4 (zs.map aM)::ah ba zs::Qu qb aB ls::L)) tU (BZ _ _ _)⟩
end
end
section
structure jr where
 pb:Nat
 core:qg
 aq:Option Addr
 cO:Nat
 adT:Option Addr
 cT:Nat
 gs:Gs
abbrev gB (p:Pr)(B:jr)(g:Nat→Int):List Value:=[pt B.core.cb,.string p.title,.slice B.aq p.ops.length B.cO,.int .i64 B.gs.kind,.int .i64 B.gs.order,.slice B.adT B.gs.table.length B.cT]++ints .i32 32 g
theorem MZ {w:World}{b:Nat}{p:Pr}{B:jr}{g:Nat→Int}(h:Rd w b 0 (gB p B g)):Rd w b 1 (bO p B.aq B.cO):=h.part 1 2
theorem M0 {w:World}{b:Nat}{p:Pr}{B:jr}{g:Nat→Int}(h:Rd w b 0 (gB p B g)):Rd w b 3 (dq B.gs B.adT B.cT):=h.part 3 3
theorem zn {w:World}{b:Nat}{p:Pr}{B:jr}{g:Nat→Int}(h:Rd w b 0 (gB p B g)):Rd w b 6 (ints .i32 32 g):=by
 have h1:=h.part 6 32
 rwa [show ((gB p B g).drop 6).take 32=ints .i32 32 g from by
  show (ints .i32 32 g).take 32=_;exact gi (by rw[dj];exact a7 _)]at h1
theorem M1 (p:Pr)(B:jr)(g:Nat→Int):(gB p B g).length=38:=by rw[gB,aJ,dj];rfl
theorem aaq (p:Pr)(B:jr)(g g':Nat→Int):cG (gB p B g) 6 (ints .i32 32 g')=gB p B g':=by
 rw[cG,dj,drop_eq_nil_of_le (by rw[M1];exact a7 _),append_nil,gB,gB]
 congr 1
def aR (W:World)(B:jr)(p:Pr)(s:Pl):SP:=λh=>cm [aa B.pb 192 (gB p B s.g),az B.core s.k,aA W p B.aq B.cO,Sl 5 1 B.adT B.gs.table.length B.cT (bc B.gs.table)] h
def fD (p:Pr)(gs:Gs)(s:Pl):List UInt8×Nat:=if aG s.k≤aw s.k then l4 s else (gx (foldI p (aw s.k) s.g (dv gs s.k.ls (aG s.k))),aG s.k)
section
variable {W w:World}{L R:List SP}{n c i:Nat}{ad:Option Addr}{B:jr}{x:UInt8}{p:Pr}{s:Pl}{bs:List UInt8}
theorem aR.open (I:U W w (aR W B p s::L)):U W w (aa B.pb 192 (gB p B s.g)::az B.core s.k::aA W p B.aq B.cO::Sl 5 1 B.adT B.gs.table.length B.cT (bc B.gs.table)::L) :=
 I.open (M:=[_,_,_,_]) λ_ h=>h
theorem aR.close (I:U W w (aa B.pb 192 (gB p B s.g)::az B.core s.k::aA W p B.aq B.cO::Sl 5 1 B.adT B.gs.table.length B.cT (bc B.gs.table)::L)):U W w (aR W B p s::L) :=
 U.shut (M:=[_,_,_,_]) I λ_ h=>h
theorem aR.fold (I:U W w L)(B:jr)(p:Pr)(s:Pl)[kk:fI L [aa B.pb 192 (gB p B s.g),az B.core s.k,aA W p B.aq B.cO,Sl 5 1 B.adT B.gs.table.length B.cT (bc B.gs.table)] R]:U W w (aR W B p s::R):=aR.close (I.perm kk.perm)
theorem oh (I:U W w (aR W B p s::L)):Calls prog 178 #[pt B.pb] w λr w'=>r=.returned (pt B.core.cb)∧U W w' (aR W B p s::L):=by
 replace I:=aR.open I;refine EN func178 ntmps178 rfl rfl λa E=>?_;refine RN 6 E I λa E=>?_;replace E:=E.aP 4;refine RT 7 E I ?_;exact⟨rfl,aR.close I⟩
theorem GH (I:U W w (aR W B p s::L))(hw:WP p s)(a6:dm p)(aH:p.title.size≤1000000000):Calls prog 99 #[pt B.pb] w λr w'=>r=.returned (.tuple #[])∧U W w' (aR W B p (eC p s)::L):=by
 refine EN func99 ntmps99 rfl rfl λa E=>?_;refine RN 0 E I λa E=>?_;refine aN (λμ a w=>∃ (i:Nat),(μ=aw s.k-s.k.mr.length-i∧i≤aw s.k-s.k.mr.length)∧Fr a 56 [(0,pt B.pb)]∧U W w (aR W B p (iF p i s)::L)) (aw s.k-s.k.mr.length) (⟨0,⟨rfl,by omega⟩,E.ab [0],I⟩) ?_;clear E I;rintro μ a w ⟨i,⟨rfl,hi⟩,E,I⟩;obtain⟨ku,fa,lM⟩:=hw.q5 i hi;have eR:iF p (i+1) s=ob p (iF p i s):=FW p i s;have DR:=hw.low;have wB:aw (iF p i s).k=aw s.k:=by rw[aw,fa];rfl
 generalize GI:iF p i s=si at I ku fa lM eR wB;replace I:=aR.open I;have bD:=ku.wc.lu;have ie:si.k.ls.length≤8:=by rw[ku.wc.ls];exact ku.wc.n.2
 have aar:aw si.k≤1000:=fG ku.wc.nG ku.wc.lZ;refine aV 2 (λw0 w'=>w'.cell? ⟨B.pb,0,none⟩=some (pt B.core.cb)) [4,8] [0,1,2,5,6,7,3003,3008,1004,1009,1010,11] E I λa w E I hH=>?_;have hC:=hH.at w (I.bz (b:=B.pb) rfl);refine RH 6 E I hH hC λa E=>?_;refine QH E (λw hc=>ae E (hc)) hC λa E=>?_;refine QH E (λw hc=>ae E (hc)) hC λa E=>?_;refine RH 0 E I hH hC λa E=>?_;refine CL 0 E I (Mm (I.pick (az B.core si.k))) λa w E I=>?_;replace hC:=hH.at w (I.bz (b:=B.pb) rfl);refine RH 0 E I hH hC λa E=>?_;refine CL 0 E I (pc (I.pick (az B.core si.k))) λa w E I=>?_;obtain⟨D,I,hD⟩:=az.qu I;refine CL 0 E I (sj I bD ie) λa w E I=>?_;refine RN 1 E I λa E=>?_;replace I:=hD _ _ I;replace I:=I.sub (M:=aa B.pb 192 (gB p B si.g)::az B.core si.k::aA W p B.aq B.cO::Sl 5 1 B.adT B.gs.table.length B.cT (bc B.gs.table)::L);refine IF 0 E I (λaj a E=>?_) λaj a E=>?_
 ·
  have qO:si.k.mr.length<aU si.k.ls:=by omega
  have aas:si.k.mr.length<aw si.k:=qO;refine CL 5 E I (Mm (I.pick (az B.core si.k))) λa w E I=>?_;refine CL 6 E I (pc (I.pick (az B.core si.k))) λa w E I=>?_;refine RN 1 E I λa E=>?_;obtain⟨D,I,hD⟩:=az.qu I;refine aZ 0 E I (Zx I bD qO ie) λiT jo a w E I=>?_;refine RN 5 E I λa E=>?_;replace I:=hD _ _ (I.sub (M:=Qu B.core.qb B.core.aB si.k.ls::D::Sl 5 1 iT (bJ si.k.ls si.k.mr.length).length jo (bc (bJ si.k.ls si.k.mr.length))::aa B.pb 192 (gB p B si.g)::aA W p B.aq B.cO::Sl 5 1 B.adT B.gs.table.length B.cT (bc B.gs.table)::L));have dQ:=nD si.k.ls si.k.mr.length;refine aV 1 (λw0 w'=>Rd w' B.pb 0 (gB p B si.g)) [8] [0,1,2,3,5,6,7,9,10,3004,1008,1011,12,13,1014] E I λa w E I hH=>?_;have hC:=hH.at w (I.ai (b:=B.pb));refine RH 9 E I hH hC λa E=>?_;refine QH E (λw hc=>bT E underlying45 rfl Ty.t45 (MZ hc)) hC λa E=>?_;refine RH 0 E I hH hC λa E=>?_;refine SS E (bT E underlying183 rfl Ty.t183 (zn hC)) λa E=>?_;refine RH 0 E I hH hC λa E=>?_;refine CL 0 E I (MH (b:=bJ si.k.ls si.k.mr.length) (fr:=si.k.mr.length) (I.pick (aA W p B.aq B.cO)) a6 aH (ku.qf a6) (by omega) (λw' hw=>(hw.pick (Sl 5 1 iT (bJ si.k.ls si.k.mr.length).length jo (bc (bJ si.k.ls si.k.mr.length)))).cu iT _ rfl rfl)) λa w E I=>?_;refine RN 2 E I λa E=>?_;refine ru E rfl I Ty.t183 uD (by rw[dj,M1];decide) λa w E I=>?_;rw[aaq]at I;refine aV 0 (λw0 w'=>Rd w' B.pb 0 (gB p B (e7 p si.k.mr.length (bJ si.k.ls si.k.mr.length) si.g))) [7,8] [0,1,2,4,5,6,3003,1007,1008,1009] E I λa w E I hH=>?_;have hC:=hH.at w (I.ai (b:=B.pb));refine RH 6 E I hH hC λa E=>?_;refine QH E (λw hc=>ae E (hc 0 _ rfl)) hC λa E=>?_;refine RH 0 E I hH hC λa E=>?_;refine SS E (bT E underlying183 rfl Ty.t183 (zn hC)) λa E=>?_;refine RH 0 E I hH hC λa E=>?_;refine CL 0 E I (Zh I) λa w E I=>?_;replace hC:=hH.at w (I.ai (b:=B.pb));refine RH 0 E I hH hC λa E=>?_;refine CL 0 E I (ZQ (I.pick (az B.core si.k)) ku.wc (by omega) (yQ _)) λa w E I=>?_;refine RN 0 E I λa E=>?_;exact⟨aw s.k-s.k.mr.length-(i+1),by omega,i+1,⟨rfl,by omega⟩,E.ab [0],by
   rw[eR];show U W w (aR W B p ⟨lY si.k (gL (gx (e7 p si.k.mr.length (bJ si.k.ls si.k.mr.length) si.g))),e7 p si.k.mr.length (bJ si.k.ls si.k.mr.length) si.g⟩::L);exact (aR.fold I B p ⟨lY si.k (gL (gx (e7 p si.k.mr.length (bJ si.k.ls si.k.mr.length) si.g))),e7 p si.k.mr.length (bJ si.k.ls si.k.mr.length) si.g⟩).sub⟩
 refine RT 0 E I ?_;obtain rfl:i=aw s.k-s.k.mr.length:=by
  have:aU si.k.ls=aw si.k:=rfl;omega
 refine⟨rfl,?_⟩;rw[eC,GI];exact aR.close I
theorem M3 (I:U W w (aR W B p s::L))(hw:ct p s)(a6:dm p)(aH:p.title.size≤1000000000):Calls prog 282 #[pt B.pb,.int .u8 (x.toNat:Nat)] w λr w'=>r=.returned (.int .i64 (dK p x s).1)∧U W w' (aR W B p (dK p x s).2::L):=by
 have h1:=vh x s.k;have lQ:=hw.toWP.more (hw.wc.al x) (hw.held.al x) h1.1 h1.2;refine EN func282 ntmps282 rfl rfl λa E=>?_;refine CL 4 E I (oh I) λa w E I=>?_;refine RN 1 E I λa E=>?_;replace I:=aR.open I;refine CL 0 E I (ZS (x:=x) (I.pick (az B.core s.k)) hw.wc) λa w E I=>?_;replace I:=(aR.fold I B p ⟨(c3 x s.k).2,s.g⟩);refine RN 1 E I λa E=>?_;refine cc (M:=λa w=>Fr a 15 [(5,.int .i64 (dK p x s).1)]∧U W w (aR W B p (dK p x s).2::L)) ?_ ?_
 ·
  refine IF 3 E I (λaj a E=>?_) λaj a E=>?_
  ·
   refine CL 1 E I (GH I lQ a6 aH) λa w E I=>?_;refine RN 0 E I λa E=>?_;exact⟨E.ab [5],I⟩
  refine RN 0 E I λa E=>?_;have he:(dK p x s).2=⟨(c3 x s.k).2,s.g⟩:=by
   show eC p _=_;rw[vg aj];exact hw.eC
  rw[he];exact⟨E.ab [5],I⟩
 clear E;(try clear I);rintro a w ⟨E,I⟩;refine RT 3 E I ?_;exact⟨rfl,I⟩
theorem M4 (I:U W w (aR W B p s::L))(hw:ct p s)(a6:dm p)(aH:p.title.size≤1000000000)(hb:bs.length≤65536)(hc:bs.length≤c)(hp:∀ w',U W w' L→aX w' ad bs.length bs) :
   Calls prog 284 #[pt B.pb,.slice ad bs.length c] w λr w'=>r=.returned (.int .i64 (dB p bs s).1)∧U W w' (aR W B p (dB p bs s).2::L):=by
 have h1:=so bs s.k;have lQ:=hw.toWP.more (hw.wc.recv bs).1 ((hw.wc.recv bs).2 hw.held) h1.1 h1.2;refine EN func284 ntmps284 rfl rfl λa E=>?_;refine CL 4 E I (oh I) λa w E I=>?_;refine RN 1 E I λa E=>?_;replace I:=aR.open I;refine CL 0 E I (Z0 (bs:=bs) (ad:=ad) (c:=c) (I.pick (az B.core s.k)) hw.wc hb hc (λw' di=>hp w' di.tail.tail.tail)) λa w E I=>?_;replace I:=(aR.fold I B p ⟨(dp bs s.k).2,s.g⟩);refine RN 1 E I λa E=>?_;refine cc (M:=λa w=>Fr a 15 [(5,.int .i64 (dB p bs s).1)]∧U W w (aR W B p (dB p bs s).2::L)) ?_ ?_
 ·
  refine IF 3 E I (λaj a E=>?_) λaj a E=>?_
  ·
   refine CL 1 E I (GH I lQ a6 aH) λa w E I=>?_;refine RN 0 E I λa E=>?_;exact⟨E.ab [5],I⟩
  refine RN 0 E I λa E=>?_;have he:(dB p bs s).2=⟨(dp bs s.k).2,s.g⟩:=by
   show eC p _=_;rw[xj aj];exact hw.eC
  rw[he];exact⟨E.ab [5],I⟩
 clear E;(try clear I);rintro a w ⟨E,I⟩;refine RT 3 E I ?_;exact⟨rfl,I⟩
theorem M5 (I:U W w (aR W B p s::L))(hw:ct p s)(pG:s.k.now≤1000000):Calls prog 285 #[pt B.pb] w λr w'=>∃ ad c,r=.returned (.slice ad (br s.k).1.length c)∧U W w' (cd 124 ad (br s.k).1.length c (br s.k).1::aR W B p ⟨(br s.k).2,s.g⟩::L):=by
 refine EN func285 ntmps285 rfl rfl λa E=>?_;refine CL 4 E I (oh I) λa w E I=>?_;replace I:=aR.open I;refine aZ 0 E I (ZY (I.pick (az B.core s.k)) hw.wc pG) λad c a w E I=>?_;refine RT 1 E I ?_;exact⟨ad,c,rfl,(aR.fold I B p ⟨(br s.k).2,s.g⟩).sub⟩
theorem M6 (I:U W w (aR W B p s::L))(hw:ct p s):Calls prog 283 #[pt B.pb] w λr w'=>∃ ad c,r=.returned (.slice ad (cy s.k).1.length c)∧U W w' (cd 124 ad (cy s.k).1.length c (cy s.k).1::aR W B p ⟨(cy s.k).2,s.g⟩::L):=by
 refine EN func283 ntmps283 rfl rfl λa E=>?_;refine CL 4 E I (oh I) λa w E I=>?_;replace I:=aR.open I;refine aZ 0 E I (ZX (I.pick (az B.core s.k)) hw.wc) λad c a w E I=>?_;refine RT 1 E I ?_;exact⟨ad,c,rfl,(aR.fold I B p ⟨(cy s.k).2,s.g⟩).sub⟩
theorem M7 (I:U W w (aR W B p s::L)):Calls prog 281 #[pt B.pb] w λr w'=>∃ ad c,r=.returned (.slice ad s.k.ev.length c)∧U W w' (Sl 135 1 ad s.k.ev.length c (s.k.ev.map cB)::aR W B p ⟨{ s.k with ev:=[] },s.g⟩::L):=by
 refine EN func281 ntmps281 rfl rfl λa E=>?_;refine CL 4 E I (oh I) λa w E I=>?_;replace I:=aR.open I;refine aZ 0 E I (ZR (I.pick (az B.core s.k))) λad c a w E I=>?_;refine RT 1 E I ?_;exact⟨ad,c,rfl,(aR.fold I B p ⟨{ s.k with ev:=[] },s.g⟩).sub⟩
theorem M8 (I:U W w (aR W B p s::L)):Calls prog 141 #[pt B.pb] w λr w'=>r=.returned (.bool s.k.cl)∧U W w' (aR W B p s::L):=by
 refine EN func141 ntmps141 rfl rfl λa E=>?_;refine CL 4 E I (oh I) λa w E I=>?_;replace I:=aR.open I;refine CL 0 E I (zb (I.pick (az B.core s.k))) λa w E I=>?_;refine RT 1 E I ?_;exact⟨rfl,(aR.fold I B p s).sub⟩
theorem M9 (I:U W w (aR W B p s::L))(hw:ct p s):Calls prog 273 #[pt B.pb] w λr w'=>∃ ad c,r=.returned (.tuple #[.slice ad 128 c,.int .i64 (l4 s).2])∧U W w' (Sl 5 1 ad 128 c (bc (l4 s).1)::aR W B p s::L):=by
 replace I:=aR.open I;have bD:=hw.wc.lu;have ie:s.k.ls.length≤8:=by rw[hw.wc.ls];exact hw.wc.n.2
 refine EN func273 ntmps273 rfl rfl λa E=>?_;refine RN 7 E I λa E=>?_;replace E:=E.aP 5;refine aV 2 (λw0 w'=>Rd w' B.pb 0 (gB p B s.g)) [4,8] [0,1,2,5,6,7,3003,3008,1004,1009,1010,11,12] E I λa w E I hH=>?_;have hC:=hH.at w (I.ai (b:=B.pb));refine RH 6 E I hH hC λa E=>?_;refine QH E (λw hc=>bT E underlying183 rfl Ty.t183 (zn hc)) hC λa E=>?_;refine QH E (λw hc=>ae E (hc 0 _ rfl)) hC λa E=>?_;refine RH 0 E I hH hC λa E=>?_;refine aZ 0 E I (y3 I) λad c a w E I=>?_;replace hC:=hH.at w (I.ai (b:=B.pb));refine RH 0 E I hH hC λa E=>?_;refine CL 0 E I (pc (I.pick (az B.core s.k))) λa w E I=>?_;obtain⟨D,I,hD⟩:=az.qu I;refine CL 0 E I (sj I bD ie) λa w E I=>?_;refine RN 2 E I λa E=>?_;replace I:=hD _ _ I;refine RT 0 E I ?_;exact⟨ad,c,rfl,(aR.fold I B p s).sub (M:=Sl 5 1 ad 128 c (bc (gx s.g))::aR W B p s::L)⟩
theorem Na (I:U W w (aR W B p s::L))(hw:ct p s)(a6:dm p)(aH:p.title.size≤1000000000)(fE:cY B.gs):Calls prog 276 #[pt B.pb] w λr w'=>∃ ad c,r=.returned (.tuple #[.slice ad 128 c,.int .i64 (fD p B.gs s).2])∧U W w' (Sl 5 1 ad 128 c (bc (fD p B.gs s).1)::aR W B p s::L):=by
 have bD:=hw.wc.lu;have ie:s.k.ls.length≤8:=by rw[hw.wc.ls];exact hw.wc.n.2
 have gX:=hw.wc.lZ;have fw:aU s.k.ls≤aG s.k:=hw.wc.nG;refine EN func276 ntmps276 rfl rfl λa E=>?_;refine CL 5 E I (oh I) λa w E I=>?_;replace I:=aR.open I;refine CL 0 E I (pc (I.pick (az B.core s.k))) λa w E I=>?_;obtain⟨D,I,hD⟩:=az.qu I;refine CL 0 E I (sj I bD ie) λa w E I=>?_;refine RN 1 E I λa E=>?_;replace I:=(aR.fold (hD _ _ I) B p s);refine RN 5 E I λa E=>?_;replace E:=E.aP 11;refine RN 3 E I λa E=>?_;replace I:=aR.open I;refine CL 1 E I (tN (I.pick (az B.core s.k)) hw.wc) λa w E I=>?_;replace I:=(aR.fold I B p s);refine IF 3 E I (λaj a E=>?_) λaj a E=>?_
 ·
  refine aZ 2 E I (M9 I hw) λad c a w E I=>?_;refine RT 4 E I ?_;refine⟨ad,c,?_,?_⟩
  ·rw[fD,ak (by rw[aw];omega)]
  ·rw[fD,ak (by rw[aw];omega)];exact I
 refine RN 1 E I λa E=>?_;replace I:=aR.open I;refine aV 0 (λw0 w'=>Rd w' B.pb 0 (gB p B s.g)) [7,12,13,17,21,22,23,24,25,29] [0,1,2,4,5,6,8,9,10,11,14,15,16,18,19,20,26,27,28,3003,3007,3012,3017,3021,3029,1013,1022,1023,1024,1025,1030,31,32] E I λa w E I hH=>?_;have hC:=hH.at w (I.ai (b:=B.pb));refine RH 19 E I hH hC λa E=>?_;refine QH E (λw hc=>bT E underlying45 rfl Ty.t45 (MZ hc)) hC λa E=>?_;refine QH E (λw hc=>bT E underlying183 rfl Ty.t183 (zn hc)) hC λa E=>?_;refine QH E (λw hc=>ae E (hc 0 _ rfl)) hC λa E=>?_;refine QH E (λw hc=>bT E underlying186 rfl Ty.t186 (M0 hc)) hC λa E=>?_;refine QH E (λw hc=>ae E (hc 0 _ rfl)) hC λa E=>?_;refine QH E (λw hc=>ae E (hc 0 _ rfl)) hC λa E=>?_;refine RH 0 E I hH hC λa E=>?_;refine CL 0 E I (pc (I.pick (az B.core s.k))) λa w E I=>?_;replace hC:=hH.at w (I.ai (b:=B.pb));refine RH 0 E I hH hC λa E=>?_;refine CL 0 E I (tN (I.pick (az B.core s.k)) hw.wc) λa w E I=>?_;replace hC:=hH.at w (I.ai (b:=B.pb));obtain⟨D,I,hD⟩:=az.qu I;refine RH 0 E I hH hC λa E=>?_;refine j3 0 E I (GG (r:=0) (to:=aG s.k) (.inl rfl) (by decide) I fE bD ie hw.wc.nF gX (λw' di=>(di.pick (Sl 5 1 B.adT B.gs.table.length B.cT (bc B.gs.table))).cu B.adT _ rfl rfl)) λga gm X a w E ⟨⟨tV,iA⟩,I⟩=>?_;replace hC:=hH.at w (I.ai (b:=B.pb));have m2:=iA rfl;subst m2;rw[xv]at I;have ik:(dv B.gs s.k.ls (aG s.k)).length=aG s.k-aU s.k.ls:=xf _ _ _;have m5:∀ b∈dv B.gs s.k.ls (aG s.k),b.length≤1099511627776:=λb hb=>by
  rw[dv,cR]at hb;obtain⟨i,_,rfl⟩:=hb;rw[nD,jk,a8];omega
 obtain⟨zs,cV,eS,I⟩:=cg.open I;rw[← ik]at E I;refine RH 0 E I hH hC λa E=>?_;refine CL 0 E I (MJ (P:=dv B.gs s.k.ls (aG s.k)) (zs:=zs) (fr:=aU s.k.ls) (L:=Sl 22 1 ga (dv B.gs s.k.ls (aG s.k)).length gm (zs.map aM)::ah ba zs::Qu B.core.qb B.core.aB s.k.ls::D::aa B.pb 192 (gB p B s.g)::Sl 5 1 B.adT B.gs.table.length B.cT (bc B.gs.table)::L) (I.sub (M:=aA W p B.aq B.cO::Sl 22 1 ga (dv B.gs s.k.ls (aG s.k)).length gm (zs.map aM)::ah ba zs::Qu B.core.qb B.core.aB s.k.ls::D::aa B.pb 192 (gB p B s.g)::Sl 5 1 B.adT B.gs.table.length B.cT (bc B.gs.table)::L)) a6 aH (hw.qf a6) ⟨by omega,m5⟩ (by omega) cV (λw' di=>U.mJ (di.sub (M:=Sl 22 1 ga (dv B.gs s.k.ls (aG s.k)).length gm (zs.map aM)::ah ba zs::[])))) λa w E I=>?_;replace hC:=hH.at w (I.ai (b:=B.pb));refine RH 0 E I hH hC λa E=>?_;refine aZ 0 E I (y3 I) λad2 c2 a w E I=>?_;replace hC:=hH.at w (I.ai (b:=B.pb));replace I:=hD _ _ (I.sub (M:=Qu B.core.qb B.core.aB s.k.ls::D::Sl 5 1 ad2 128 c2 (bc (gx (foldI p (aU s.k.ls) s.g (dv B.gs s.k.ls (aG s.k)))))::aa B.pb 192 (gB p B s.g)::aA W p B.aq B.cO::Sl 5 1 B.adT B.gs.table.length B.cT (bc B.gs.table)::L));refine RH 0 E I hH hC λa E=>?_;refine CL 0 E I (tN I hw.wc) λa w E I=>?_;refine RN 2 E I λa E=>?_;refine RT 0 E I ?_;refine⟨ad2,c2,?_,?_⟩
 ·rw[fD,ag (by rw[aw];omega)]
 ·rw[fD,ag (by rw[aw];omega)];exact (aR.fold I B p s).sub (M:=Sl 5 1 ad2 128 c2 (bc (gx (foldI p (aU s.k.ls) s.g (dv B.gs s.k.ls (aG s.k)))))::aR W B p s::L)
end
theorem Nb {cf:Cf}(h:eV cf):∃ (n me aL bq:Nat),cf=⟨n,me,cf.id,aL,bq,cf.bf,cf.order,cf.cv,cf.workers,cf.room⟩:=by
 obtain⟨⟨h1,h2,h3⟩,⟨h4,h5,h6,h7⟩,h8,h9,fg,lP⟩:=h;simp only[fB] at *;refine⟨cf.n.toNat,cf.me.toNat,cf.aL.toNat,cf.bq.toNat,?_⟩;rw[Int.toNat_of_nonneg (by omega),Int.toNat_of_nonneg (by omega),Int.toNat_of_nonneg (by omega),Int.toNat_of_nonneg (by omega)]
section
variable {W w:World}{L:List SP}{cP cT n me aL bq:Nat}{adP adT:Option Addr}{p:Pr}{tb:List UInt8}{cf:Cf}{id bf order cv workers room:Int}
theorem aat (I:U W w (aA W p adP cP::L))(h:¬ eV cf)(eP:tb.length≤1099511627776)(hT:∀ w',U W w' (aA W p adP cP::L)→aX w' adT tb.length tb) :
   Calls prog 60 #[.agg (bV cf).toArray,.agg (bO p adP cP).toArray,.slice adT tb.length cT] w λr w'=>r=.returned (.tuple #[.pointer none,.int .i64 1])∧U W w' (aA W p adP cP::L):=by
 refine EN func60 ntmps60 rfl rfl λa E=>?_;refine BX 1 E I λb3 a w E I=>?_;change U W w (aa b3 28 (bV cf)::_) at I;refine BX 0 E I λb4 a w E I=>?_;change U W w (aa b4 45 (bO p adP cP)::_) at I;refine RN 2 E I λa E=>?_;refine cc (M:=λa w=>∃ (b8:Nat) (ei:Option Addr) (dF:Nat),Fr a 48 [(3,pt b3),(4,pt b4),(8,pt b8)]∧U W w (aa b8 186 (dq ⟨cf.bf,cf.order,tb⟩ ei dF)::Sl 5 1 ei tb.length dF (bc tb)::aa b3 28 (bV cf)::aa b4 45 (bO p adP cP)::aA W p adP cP::L)) ?_ ?_
 ·
  refine aV 0 (λw0 w'=>Rd w' b3 0 (bV cf)) [3,5,7] [0,2,4,3001,3003,2005,6,1007,1008] E I λa w E I hH=>?_;have hC:=hH.at w (I.ai (b:=b3));refine RH 3 E I hH hC λa E=>?_;refine QH E (λw hc=>ae E (hc 5 _ rfl)) hC λa E=>?_;refine QH E (λw hc=>ae E (hc 6 _ rfl)) hC λa E=>?_;refine RH 0 E I hH hC λa E=>?_;refine DN [(5,[6,1007,1008]),(7,[1005,6,1008])] (by kernel_rfl) rfl ⟨⟨_,rfl,?_⟩,⟨_,rfl,?_⟩,trivial⟩
  ·
   refine RH 0 E I hH hC λa E=>?_;refine aZ 0 E I (s6 (bs:=tb) I (λw' hw=>hT w' hw.sub) eP) λei dF a w E I=>?_;replace hC:=hH.at w (I.ai (b:=b3));refine RH 1 E I hH hC λa E=>?_;refine eZ E rfl I Ty.t186 rfl λb8 a w E I ho=>?_;clear ho;replace hC:=hH.at w (I.ai (b:=b3));refine RH 0 E I hH hC λa E=>?_;refine SA 0 E I λa w E I=>?_;refine RN 0 E I λa E=>?_;exact⟨_,ei,dF,E.ab [3,4,8],I.sub (M:=aa b8 186 [.int .i64 cf.bf,.int .i64 cf.order,.slice ei tb.length dF]::Sl 5 1 ei tb.length dF (bc tb)::aa b3 28 (bV cf)::aa b4 45 (bO p adP cP)::aA W p adP cP::L)⟩
  refine RH 0 E I hH hC λa E=>?_;refine eZ E rfl I Ty.t186 rfl λb8 a w E I ho=>?_;clear ho;replace hC:=hH.at w (I.ai (b:=b3));refine RH 0 E I hH hC λa E=>?_;refine aZ 0 E I (s6 (bs:=tb) I (λw' hw=>hT w' hw.sub) eP) λei dF a w E I=>?_;replace hC:=hH.at w (I.ai (b:=b3));refine RH 1 E I hH hC λa E=>?_;refine SA 0 E I λa w E I=>?_;refine RN 0 E I λa E=>?_;exact⟨_,ei,dF,E.ab [3,4,8],I.sub (M:=aa b8 186 [.int .i64 cf.bf,.int .i64 cf.order,.slice ei tb.length dF]::Sl 5 1 ei tb.length dF (bc tb)::aa b3 28 (bV cf)::aa b4 45 (bO p adP cP)::aA W p adP cP::L)⟩
 clear E;(try clear I);rintro a w ⟨b8,ei,dF,E,I⟩;refine CL 2 E I (ZO I h) λa w E I=>?_;refine RN 9 E I λa E=>?_;rw[show decide ((1:Int)≠0)=true from rfl]at E;refine RN 1 E I λa E=>?_;replace E:=E.ed 26;refine RT 13 E I ?_;exact⟨rfl,I.sub⟩
theorem aau (I:U W w (aA W p adP cP::L))(hm:eV ⟨n,me,id,aL,bq,bf,order,cv,workers,room⟩)(h:¬ (dm p∧cY ⟨bf,order,tb⟩))(aH:p.title.size≤1000000000)(ea:p.ops.length≤1000000000)(eP:tb.length≤1099511627776)(hT:∀ w',U W w' (aA W p adP cP::L)→aX w' adT tb.length tb) :
   Calls prog 60 #[.agg (bV ⟨n,me,id,aL,bq,bf,order,cv,workers,room⟩).toArray,.agg (bO p adP cP).toArray,.slice adT tb.length cT] w λr w'=>r=.returned (.tuple #[.pointer none,.int .i64 1])∧U W w' (aA W p adP cP::L):=by
 obtain⟨cf,df⟩:∃ cf:Cf,cf=⟨n,me,id,aL,bq,bf,order,cv,workers,room⟩:=⟨_,rfl⟩;rw[← df];have hg:cf.bf=bf∧cf.order=order:=by rw[df];exact⟨rfl,rfl⟩
 refine EN func60 ntmps60 rfl rfl λa E=>?_;refine BX 1 E I λb3 a w E I=>?_;change U W w (aa b3 28 (bV cf)::_) at I;refine BX 0 E I λb4 a w E I=>?_;change U W w (aa b4 45 (bO p adP cP)::_) at I;refine RN 2 E I λa E=>?_;refine cc (M:=λa w=>∃ (b8:Nat) (ei:Option Addr) (dF:Nat),Fr a 48 [(3,pt b3),(4,pt b4),(8,pt b8)]∧U W w (aa b8 186 (dq ⟨cf.bf,cf.order,tb⟩ ei dF)::Sl 5 1 ei tb.length dF (bc tb)::aa b3 28 (bV cf)::aa b4 45 (bO p adP cP)::aA W p adP cP::L)) ?_ ?_
 ·
  refine aV 0 (λw0 w'=>Rd w' b3 0 (bV cf)) [3,5,7] [0,2,4,3001,3003,2005,6,1007,1008] E I λa w E I hH=>?_;have hC:=hH.at w (I.ai (b:=b3));refine RH 3 E I hH hC λa E=>?_;refine QH E (λw hc=>ae E (hc 5 _ rfl)) hC λa E=>?_;refine QH E (λw hc=>ae E (hc 6 _ rfl)) hC λa E=>?_;refine RH 0 E I hH hC λa E=>?_;refine DN [(5,[6,1007,1008]),(7,[1005,6,1008])] (by kernel_rfl) rfl ⟨⟨_,rfl,?_⟩,⟨_,rfl,?_⟩,trivial⟩
  ·
   refine RH 0 E I hH hC λa E=>?_;refine aZ 0 E I (s6 (bs:=tb) I (λw' hw=>hT w' hw.sub) eP) λei dF a w E I=>?_;replace hC:=hH.at w (I.ai (b:=b3));refine RH 1 E I hH hC λa E=>?_;refine eZ E rfl I Ty.t186 rfl λb8 a w E I ho=>?_;clear ho;replace hC:=hH.at w (I.ai (b:=b3));refine RH 0 E I hH hC λa E=>?_;refine SA 0 E I λa w E I=>?_;refine RN 0 E I λa E=>?_;exact⟨_,ei,dF,E.ab [3,4,8],I.sub (M:=aa b8 186 [.int .i64 cf.bf,.int .i64 cf.order,.slice ei tb.length dF]::Sl 5 1 ei tb.length dF (bc tb)::aa b3 28 (bV cf)::aa b4 45 (bO p adP cP)::aA W p adP cP::L)⟩
  refine RH 0 E I hH hC λa E=>?_;refine eZ E rfl I Ty.t186 rfl λb8 a w E I ho=>?_;clear ho;replace hC:=hH.at w (I.ai (b:=b3));refine RH 0 E I hH hC λa E=>?_;refine aZ 0 E I (s6 (bs:=tb) I (λw' hw=>hT w' hw.sub) eP) λei dF a w E I=>?_;replace hC:=hH.at w (I.ai (b:=b3));refine RH 1 E I hH hC λa E=>?_;refine SA 0 E I λa w E I=>?_;refine RN 0 E I λa E=>?_;exact⟨_,ei,dF,E.ab [3,4,8],I.sub (M:=aa b8 186 [.int .i64 cf.bf,.int .i64 cf.order,.slice ei tb.length dF]::Sl 5 1 ei tb.length dF (bc tb)::aa b3 28 (bV cf)::aa b4 45 (bO p adP cP)::aA W p adP cP::L)⟩
 clear E;(try clear I);rintro a w ⟨b8,ei,dF,E,I⟩;refine RN 2 E I λa E=>?_;rw[df]at E;refine bh 0 E I (Mh I hm) λBc a w E I=>?_;refine RN 9 E I λa E=>?_;rw[show decide ((0:Int)≠0)=false from rfl]at E;refine RN 1 E I λa E=>?_;replace E:=E.aP 26;refine bh 1 E I (EI (I.pick (aA W p adP cP)) aH ea) λrc a w E ⟨jV,I⟩=>?_;refine BY 3 E I (λjU a E=>?_) λjU a E=>?_
 ·
  refine RT 8 E I ?_;exact⟨rfl,I.sub⟩
 refine bh 1 E I (zi I) λaav a w E ⟨fj,I⟩=>?_;refine IF 2 E I (λaj a E=>?_) λaj a E=>?_
 ·
  refine RT 3 E I ?_;exact⟨rfl,I.sub⟩
 exact absurd ⟨jV.1 jU,by have:=fj.1 aj;rw[hg.1,hg.2]at this;exact this⟩ h
theorem Nc (I:U W w (aA W p adP cP::L))(hm:eV ⟨n,me,id,aL,bq,bf,order,cv,workers,room⟩)(a6:dm p)(fE:cY ⟨bf,order,tb⟩)(aH:p.title.size≤1000000000)(ea:p.ops.length≤1000000000)(eP:tb.length≤1099511627776)(hT:∀ w',U W w' (aA W p adP cP::L)→aX w' adT tb.length tb) :
   Calls prog 60 #[.agg (bV ⟨n,me,id,aL,bq,bf,order,cv,workers,room⟩).toArray,.agg (bO p adP cP).toArray,.slice adT tb.length cT] w λr w'=>∃ B:jr,r=.returned (.tuple #[pt B.pb,.int .i64 0])∧B.gs=⟨bf,order,tb⟩ ∧
    U W w' (aR W B p (eD p ⟨n,me,id,aL,bq,bf,order,cv,workers,room⟩)::aA W p adP cP::L):=by
 obtain⟨cf,df⟩:∃ cf:Cf,cf=⟨n,me,id,aL,bq,bf,order,cv,workers,room⟩:=⟨_,rfl⟩;rw[← df];have hg:cf.bf=bf∧cf.order=order:=by rw[df];exact⟨rfl,rfl⟩
 have aga:1≤p.ops.length∧p.ops.length≤64:=⟨a6.1.2.1,a6.1.2.2.1⟩;refine EN func60 ntmps60 rfl rfl λa E=>?_;refine BX 1 E I λb3 a w E I=>?_;change U W w (aa b3 28 (bV cf)::_) at I;refine BX 0 E I λb4 a w E I=>?_;change U W w (aa b4 45 (bO p adP cP)::_) at I;refine RN 2 E I λa E=>?_;refine cc (M:=λa w=>∃ (b8:Nat) (ei:Option Addr) (dF:Nat),Fr a 48 [(3,pt b3),(4,pt b4),(8,pt b8)]∧U W w (aa b8 186 (dq ⟨cf.bf,cf.order,tb⟩ ei dF)::Sl 5 1 ei tb.length dF (bc tb)::aa b3 28 (bV cf)::aa b4 45 (bO p adP cP)::aA W p adP cP::L)) ?_ ?_
 ·
  refine aV 0 (λw0 w'=>Rd w' b3 0 (bV cf)) [3,5,7] [0,2,4,3001,3003,2005,6,1007,1008] E I λa w E I hH=>?_;have hC:=hH.at w (I.ai (b:=b3));refine RH 3 E I hH hC λa E=>?_;refine QH E (λw hc=>ae E (hc 5 _ rfl)) hC λa E=>?_;refine QH E (λw hc=>ae E (hc 6 _ rfl)) hC λa E=>?_;refine RH 0 E I hH hC λa E=>?_;refine DN [(5,[6,1007,1008]),(7,[1005,6,1008])] (by kernel_rfl) rfl ⟨⟨_,rfl,?_⟩,⟨_,rfl,?_⟩,trivial⟩
  ·
   refine RH 0 E I hH hC λa E=>?_;refine aZ 0 E I (s6 (bs:=tb) I (λw' hw=>hT w' hw.sub) eP) λei dF a w E I=>?_;replace hC:=hH.at w (I.ai (b:=b3));refine RH 1 E I hH hC λa E=>?_;refine eZ E rfl I Ty.t186 rfl λb8 a w E I ho=>?_;clear ho;replace hC:=hH.at w (I.ai (b:=b3));refine RH 0 E I hH hC λa E=>?_;refine SA 0 E I λa w E I=>?_;refine RN 0 E I λa E=>?_;exact⟨_,ei,dF,E.ab [3,4,8],I.sub (M:=aa b8 186 [.int .i64 cf.bf,.int .i64 cf.order,.slice ei tb.length dF]::Sl 5 1 ei tb.length dF (bc tb)::aa b3 28 (bV cf)::aa b4 45 (bO p adP cP)::aA W p adP cP::L)⟩
  refine RH 0 E I hH hC λa E=>?_;refine eZ E rfl I Ty.t186 rfl λb8 a w E I ho=>?_;clear ho;replace hC:=hH.at w (I.ai (b:=b3));refine RH 0 E I hH hC λa E=>?_;refine aZ 0 E I (s6 (bs:=tb) I (λw' hw=>hT w' hw.sub) eP) λei dF a w E I=>?_;replace hC:=hH.at w (I.ai (b:=b3));refine RH 1 E I hH hC λa E=>?_;refine SA 0 E I λa w E I=>?_;refine RN 0 E I λa E=>?_;exact⟨_,ei,dF,E.ab [3,4,8],I.sub (M:=aa b8 186 [.int .i64 cf.bf,.int .i64 cf.order,.slice ei tb.length dF]::Sl 5 1 ei tb.length dF (bc tb)::aa b3 28 (bV cf)::aa b4 45 (bO p adP cP)::aA W p adP cP::L)⟩
 clear E;(try clear I);rintro a w ⟨b8,ei,dF,E,I⟩;refine RN 2 E I λa E=>?_;rw[df]at E;refine bh 0 E I (Mh I hm) λBc a w E I=>?_;rw[← df]at I;refine RN 9 E I λa E=>?_;rw[show decide ((0:Int)≠0)=false from rfl]at E;refine RN 1 E I λa E=>?_;replace E:=E.aP 26;refine bh 1 E I (EI (I.pick (aA W p adP cP)) aH ea) λrc a w E ⟨jV,I⟩=>?_;rw[jV.2 a6]at E;refine RN 1 E I λa E=>?_;rw[show (!true)=false from rfl]at E;refine RN 2 E I λa E=>?_;replace E:=E.aP 31;refine bh 1 E I (zi I) λaav a w E ⟨fj,I⟩=>?_;rw[fj.2 (by rw[hg.1,hg.2];exact fE)]at E;refine RN 2 E I λa E=>?_;replace E:=E.aP 35;refine RN 2 E I λa E=>?_;replace I:=I.bM 114 4 none;rw[bO]at I;refine RN 2 E I λa E=>?_;refine g8 E rfl I underlying43 Ty.t114 rfl rfl (by decide) (λh0=>(I.pick (aA W p adP cP)).rT adP h0) (by rw[jw Ei]) (Aj Kc _) (by omega) λoP oQ a w E I=>?_;rw[nil_append,eG]at I;rw[eG]at E;refine ST 1 E I (λa w E I=>?_);refine RN 0 E I λa E=>?_;replace I:U W w (aa b4 45 [.string p.title,.slice oP p.ops.length oQ]::Sl 114 4 oP p.ops.length oQ (rows dR p.ops)::_):=I;refine RN 4 E I λa E=>?_;simp only[dq]at E;refine BX 1 E I λvp a w E I=>?_;refine RN 1 E I λa E=>?_;replace I:=(I.pick (Sl 114 4 oP p.ops.length oQ (rows dR p.ops))).Ek;replace I:U W w (aa vp 192 (gB p ⟨vp,Bc,oP,oQ,ei,dF,⟨cf.bf,cf.order,tb⟩⟩ o8)::az Bc (fl cf)::aA W p oP oQ::Sl 5 1 ei tb.length dF (bc tb)::aA W p adP cP::L):=by
  have dz:U W w (aA W p oP oQ::_):=I;have uI:=dz.jZ vp;exact U.sub (M:=_::az Bc (fl cf)::aA W p oP oQ::Sl 5 1 ei tb.length dF (bc tb)::aA W p adP cP::L) (show U W w (aa vp 192 (gB p ⟨vp,Bc,oP,oQ,ei,dF,⟨cf.bf,cf.order,tb⟩⟩ o8)::_) from uI)
 replace I:=aR.fold I ⟨vp,Bc,oP,oQ,ei,dF,⟨cf.bf,cf.order,tb⟩⟩ p ⟨fl cf,o8⟩;refine CL 2 E I (GH I (xn (by rw[df];exact hm)) a6 aH) λa w E I=>?_;refine RT 4 E I ?_;exact⟨⟨vp,Bc,oP,oQ,ei,dF,⟨cf.bf,cf.order,tb⟩⟩,rfl,by rw[hg.1,hg.2],I⟩
end
end
section
structure zo (W:World)(L:List SP)(f:FuncId)(us:List Value):Prop where
 c:hQ prog f=true
 h:∀ {w:World} {M:List SP} {x y:UInt8},U W w M→(∀ {w'},U W w' M→U W w' L)→Calls prog f (List.toArray (.int .u8 (x.toNat:Nat)::.int .u8 (y.toNat:Nat)::us)) w λe w'=>∃ z:Int,e=.returned (.int .i64 z)∧U W w' M
abbrev hK (bb oo m c:Nat)(xs:List UInt8):SP:=Sl 5 1 (some ⟨bb,oo,none⟩) m c (bc xs)
abbrev sv (bb oo m c:Nat):Value:=.slice (some ⟨bb,oo,none⟩) m c
abbrev kI (f:FuncId)(us:List Value):Value:=.func (.func f) #[] us.toArray
theorem tW (bs:List UInt8)(i:Nat)(x:UInt8):(bc bs).set i (.int .u8 (x.toNat:Int))=bc (bs.set i x):=by rw[bc,bc,jz]
theorem B1 {n:Nat}(h:n≤9223372036854775807):IntKind.u64.wrap (n:Int)=n:=by rw[wrap_u64];omega
section
variable {W w:World}{L:List SP}{bb oo m c lo up f n k:Nat}{us:List Value}{xs:List UInt8}
theorem Nd (I:U W w (hK bb oo m c xs::L))(hF:zo W L f us)(hx:xs.length=m)(hb:up≤m)(hm:m≤1000)(ha0:lo≤m) :
   Calls prog 340 #[sv bb oo m c,.int .i64 lo,.int .i64 up,kI f us] w λe w'=>∃ ys:List UInt8,e=.returned (.tuple #[])∧ys.length=m∧U W w' (hK bb oo m c ys::L):=by
 refine EN func340 ntmps340 rfl rfl λa E=>?_;refine RN 4 E I λa E=>?_;refine aN (λμ a w=>∃ (i:Nat) (ys:List UInt8),(μ=up-i∧lo<i∧ys.length=m)∧Fr a 53 [(0,sv bb oo m c),(1,.int .i64 lo),(2,.int .i64 up),(3,kI f us),(8,.int .i64 i)]∧U W w (hK bb oo m c ys::L)) (up-(lo+1)) (⟨lo+1,xs,⟨rfl,by omega,hx⟩,E.ab [0,1,2,3,8],I⟩) ?_;clear E I;rintro μ a w ⟨i,ys,⟨rfl,hi,hy⟩,E,I⟩;refine IF 5 E I (λaj a E=>?_) λaj a E=>?_
 ·
  have him:i<m:=by omega
  refine RN 4 E I λa E=>?_;refine aN (λμ a w=>∃ (j:Nat) (zs:List UInt8),(μ=j∧j≤i∧zs.length=m)∧Fr a 53 [(0,sv bb oo m c),(1,.int .i64 lo),(2,.int .i64 up),(3,kI f us),(8,.int .i64 i),(9,.int .i64 j)]∧U W w (hK bb oo m c zs::L)) (i) (⟨i,ys,⟨rfl,a7 _,hy⟩,E.ab [0,1,2,3,8,9],I⟩) ?_;clear E I;rintro μ a w ⟨j,zs,⟨yz,hj,hz⟩,E,I⟩;have Nf:j<zs.length:=by omega
  have Ng:j-1<zs.length:=by omega
  refine bR 2 [13] [0,1,2,3,4,5,6,7,9,10,11,12,3008,1013,1014,15,16] E I λa w E I hH hC=>?_;have hr:Rd w bb oo (bc zs):=I.cK bb oo (by omega);refine RH 4 E I hH hC λa E=>?_;refine E.by (s:=21) (λbX E=>?_) (λbX E=>?_)
  ·
   refine RH 7 E I hH hC λa E=>?_;rw[show (j:Int)-1=((j-1:Nat):Int) from by omega]at E;refine RH 1 E I hH hC λa E=>?_;refine QH E (λw hc=>ae E (hc.cell (hr j _ (dU Nf)))) hC λa E=>?_;refine RH 0 E I hH hC λa E=>?_;refine bw E (cw E rfl (s:=21)) (ae E (hr (j-1) _ (dU Ng))) rfl λa E=>?_;refine RH 0 E I hH hC λa E=>?_;refine bh 0 E I (hF.h I λh=>h.tail) (hf:=hF.c) λz a w E I=>?_;refine RN 2 E I λa E=>?_;refine IF 0 E I (λao a E=>?_) λao a E=>?_
   ·
    refine bR 1 [13] [0,1,2,3,4,5,6,7,8,10,11,12,3009,1013,14,1015,16,1017] E I λa w E I hH hC=>?_;have hr:Rd w bb oo (bc zs):=I.cK bb oo (by omega);refine RH 5 E I hH hC λa E=>?_;rw[show (j:Int)-1=((j-1:Nat):Int) from by omega]at E;refine RH 3 E I hH hC λa E=>?_;rw[show (j:Int)-1=((j-1:Nat):Int) from by omega]at E;refine RH 4 E I hH hC λa E=>?_;refine QH E (λw hc=>ae E (hc.cell (hr (j-1) _ (dU Ng)))) hC λa E=>?_;refine RH 0 E I hH hC λa E=>?_;refine SS E (ae E (hr j _ (dU Nf))) λa E=>?_;refine RH 1 E I hH hC λa E=>?_;refine mG (off:=oo) (k:=j) E rfl I Ty.t5 rfl (by omega) (by rw[dy];omega) λa w E I=>?_;rw[tW]at I;refine RN 1 E I λa E=>?_;refine mG (off:=oo) (k:=j-1) E rfl I Ty.t5 rfl (by omega) (by rw[dy,bt];omega) λa w E I=>?_;rw[tW]at I;refine RN 2 E I λa E=>?_;rw[show (j:Int)-1=((j-1:Nat):Int) from by omega]at E;refine RN 1 E I λa E=>?_;exact⟨j-1,by omega,j-1,_,⟨rfl,by omega,by simp[hz]⟩,E.ab [0,1,2,3,8,9],I⟩
   refine RN 3 E I λa E=>?_;exact⟨up-(i+1),by omega,i+1,zs,⟨rfl,by omega,hz⟩,E.ab [0,1,2,3,8],I⟩
  refine RH 13 E I hH hC λa E=>?_;refine RN 4 E I λa E=>?_;exact⟨up-(i+1),by omega,i+1,zs,⟨rfl,by omega,hz⟩,E.ab [0,1,2,3,8],I⟩
 refine RT 0 E I ?_;exact⟨ys,rfl,hy,I⟩
theorem GJ (I:U W w (hK bb oo m c xs::L))(hx:xs.length=m)(h1:lo+n≤m)(h2:up+n≤m)(hm:m≤1000) :
   Calls prog 344 #[sv bb oo m c,.int .i64 lo,.int .i64 up,.int .i64 n,kI f us] w λe w'=>∃ ys:List UInt8,e=.returned (.tuple #[])∧ys.length=m∧U W w' (hK bb oo m c ys::L):=by
 refine EN func344 ntmps344 rfl rfl λa E=>?_;refine RN 2 E I λa E=>?_;refine aN (λμ a w=>∃ (i:Nat) (zs:List UInt8),(μ=n-i∧i≤n∧zs.length=m)∧Fr a 38 [(0,sv bb oo m c),(1,.int .i64 lo),(2,.int .i64 up),(3,.int .i64 n),(10,.int .i64 i)]∧U W w (hK bb oo m c zs::L)) (n) (⟨0,xs,⟨rfl,Nat.zero_le _,hx⟩,E.ab [0,1,2,3,10],I⟩) ?_;clear E I;rintro μ a w ⟨i,zs,⟨rfl,hi,hz⟩,E,I⟩;refine IF 5 E I (λaj a E=>?_) λaj a E=>?_
 ·
  have jA:lo+i<zs.length:=by omega
  have j8:up+i<zs.length:=by omega
  refine bR 1 [19] [0,1,2,3,4,5,6,7,8,9,10,11,12,14,15,16,17,18,3013,1019,20,1021,22,1023] E I λa w E I hH hC=>?_;have hr:Rd w bb oo (bc zs):=I.cK bb oo (by omega);refine RH 18 E I hH hC λa E=>?_;refine QH E (λw hc=>ae E (hc.cell (hr (up+i) _ (dU j8)))) hC λa E=>?_;refine RH 0 E I hH hC λa E=>?_;refine SS E (ae E (hr (lo+i) _ (dU jA))) λa E=>?_;refine RH 1 E I hH hC λa E=>?_;refine mG (off:=oo) (k:=lo+i) E rfl I Ty.t5 rfl (by omega) (by rw[dy];omega) λa w E I=>?_;rw[tW]at I;refine RN 1 E I λa E=>?_;refine mG (off:=oo) (k:=up+i) E rfl I Ty.t5 rfl (by omega) (by rw[dy,bt];omega) λa w E I=>?_;rw[tW]at I;refine RN 3 E I λa E=>?_;exact⟨n-(i+1),by omega,i+1,_,⟨rfl,by omega,by simp[hz]⟩,E.ab [0,1,2,3,10],I⟩
 refine RT 0 E I ?_;exact⟨zs,rfl,hz,I⟩
theorem rotate (I:U W w (hK bb oo m c xs::L))(hx:xs.length=m)(h1:lo<k)(h2:k<up)(h3:up≤m)(hm:m≤1000) :
   Calls prog 343 #[sv bb oo m c,.int .i64 lo,.int .i64 k,.int .i64 up,kI f us] w λe w'=>∃ ys:List UInt8,e=.returned (.tuple #[])∧ys.length=m∧U W w' (hK bb oo m c ys::L):=by
 refine EN func343 ntmps343 rfl rfl λa E=>?_;refine RN 4 E I λa E=>?_;rw[show (k:Int)-(lo:Int)=((k-lo:Nat):Int) from by omega]at E;refine RN 5 E I λa E=>?_;rw[show (up:Int)-(k:Int)=((up-k:Nat):Int) from by omega]at E;refine RN 2 E I λa E=>?_;refine aN (λμ a w=>∃ (i j:Nat) (zs:List UInt8),(μ=i+j∧(1≤i∧1≤j)∧(i≤k∧k+j≤m)∧zs.length=m)∧Fr a 58 [(0,sv bb oo m c),(2,.int .i64 k),(4,kI f us),(10,.int .i64 i),(11,.int .i64 j)]∧U W w (hK bb oo m c zs::L)) (k-lo+(up-k)) (⟨k-lo,up-k,xs,⟨rfl,⟨by omega,by omega⟩,⟨by omega,by omega⟩,hx⟩,E.ab [0,2,4,10,11],I⟩) ?_;clear E I;rintro μ a w ⟨i,j,zs,⟨rfl,⟨hi,hj⟩,⟨pW,vq⟩,hz⟩,E,I⟩;refine IF 5 E I (λaj a E=>?_) λaj a E=>?_
 ·
  refine IF 4 E I (λao a E=>?_) λao a E=>?_
  ·
   refine RN 5 E I λa E=>?_;rw[show (k:Int)-(i:Int)=((k-i:Nat):Int) from by omega]at E;refine bh 3 E I (GJ I hz (by omega) (by omega) hm) λys a w E ⟨hy,I⟩=>?_;refine RN 3 E I λa E=>?_;rw[show (i:Int)-(j:Int)=((i-j:Nat):Int) from by omega]at E;refine RN 1 E I λa E=>?_;exact⟨i-j+j,by omega,i-j,j,ys,⟨rfl,⟨by omega,by omega⟩,⟨by omega,by omega⟩,hy⟩,E.ab [0,2,4,10,11],I⟩
  refine RN 5 E I λa E=>?_;rw[show (k:Int)-(i:Int)=((k-i:Nat):Int) from by omega]at E;refine RN 5 E I λa E=>?_;rw[show (k:Int)+(j:Int)-(i:Int)=((k+j-i:Nat):Int) from by omega]at E;refine bh 2 E I (GJ I hz (by omega) (by omega) hm) λys a w E ⟨hy,I⟩=>?_;refine RN 3 E I λa E=>?_;rw[show (j:Int)-(i:Int)=((j-i:Nat):Int) from by omega]at E;refine RN 1 E I λa E=>?_;exact⟨i+(j-i),by omega,i,j-i,ys,⟨rfl,⟨by omega,by omega⟩,⟨by omega,by omega⟩,hy⟩,E.ab [0,2,4,10,11],I⟩
 refine RN 4 E I λa E=>?_;rw[show (k:Int)-(i:Int)=((k-i:Nat):Int) from by omega]at E;refine bh 3 E I (GJ I hz (by omega) (by omega) hm) λys a w E ⟨hy,I⟩=>?_;refine RT 0 E I ?_;exact⟨ys,rfl,hy,I⟩
theorem Nh (hF:zo W L f us)(hm:m≤1000):∀ (d:Nat) {w:World} {xs:List UInt8} {lo k up:Nat},up-lo≤d→xs.length=m→lo<k→k<up→up≤m→U W w (hK bb oo m c xs::L) →
   Calls prog 341 #[sv bb oo m c,.int .i64 lo,.int .i64 k,.int .i64 up,kI f us] w λe w'=>∃ ys:List UInt8,e=.returned (.tuple #[])∧ys.length=m∧U W w' (hK bb oo m c ys::L):=by
 intro d
 induction d with
 | zero=>intro w xs lo k up hd hx h1 h2 h3 I;omega
 | succ d ih =>
  intro w xs lo k up hd hx h1 h2 h3 I;refine EN func341 ntmps341 rfl rfl λa E=>?_;refine RN 5 E I λa E=>?_;rw[show (k:Int)-(lo:Int)=((k-lo:Nat):Int) from by omega]at E;refine IF 1 E I (λaj a E=>?_) λaj a E=>?_
  ·
   refine RN 7 E I λa E=>?_;refine aN (λμ a w=>∃ (i j:Nat),(μ=j-i∧(k≤i∧i≤j)∧j≤up)∧Fr a 220 [(0,sv bb oo m c),(1,.int .i64 lo),(2,.int .i64 k),(4,kI f us),(10,.int .i64 i),(11,.int .i64 j)]∧U W w (hK bb oo m c xs::L)) (up-k) (⟨k,up,⟨rfl,⟨a7 _,by omega⟩,a7 _⟩,E.ab [0,1,2,4,10,11],I⟩) ?_;clear E I;rintro μ a w ⟨i,j,⟨rfl,⟨hi,oK⟩,hj⟩,E,I⟩;refine IF 5 E I (λao a E=>?_) λao a E=>?_
   ·
    have mn:(i+j)/2<xs.length:=by omega
    have iy:lo<xs.length:=by omega
    refine RN 4 E I λa E=>?_;rw[show (i:Int)+(j:Int)=((i+j:Nat):Int) from rfl]at E;refine SX 0 E I (B1 (by omega)) λa E=>?_;refine RN 1 E I λa E=>?_;rw[show (((i+j:Nat):Int).fdiv (2 ^ 1))=(((i+j)/2:Nat):Int) from lf (i+j) 2]at E;refine SX 0 E I (fR (by omega) (by omega)) λa E=>?_;refine bR 2 [8] [0,1,2,3,5,6,7,3004,1008,1009,10] E I λa w E I hH hC=>?_;have hr:Rd w bb oo (bc xs):=I.cK bb oo (by omega);refine RH 7 E I hH hC λa E=>?_;refine QH E (λw hc=>ae E (hc.cell (hr ((i+j)/2) _ (dU mn)))) hC λa E=>?_;refine RH 0 E I hH hC λa E=>?_;refine SS E (ae E (hr lo _ (dU iy))) λa E=>?_;refine RH 0 E I hH hC λa E=>?_;refine bh 0 E I (hF.h I λh=>h.tail) (hf:=hF.c) λz a w E I=>?_;refine RN 1 E I λa E=>?_;refine IF 0 E I (λay a E=>?_) λay a E=>?_
    ·
     refine RN 3 E I λa E=>?_;exact⟨j-((i+j)/2+1),by omega,(i+j)/2+1,j,⟨rfl,⟨by omega,by omega⟩,hj⟩,E.ab [0,1,2,4,10,11],I⟩
    refine RN 2 E I λa E=>?_;exact⟨(i+j)/2-i,by omega,i,(i+j)/2,⟨rfl,⟨hi,by omega⟩,by omega⟩,E.ab [0,1,2,4,10,11],I⟩
   refine RN 4 E I λa E=>?_;refine aN (λμ a w=>∃ (q:Nat) (zs:List UInt8),(μ=i-q∧lo≤q∧zs.length=m)∧Fr a 220 [(0,sv bb oo m c),(10,.int .i64 i),(13,.int .i64 q)]∧U W w (hK bb oo m c zs::L)) (i-lo) (⟨lo,xs,⟨rfl,a7 _,hx⟩,E.ab [0,10,13],I⟩) ?_;clear E I;rintro μ a w ⟨q,zs,⟨rfl,hq,hz⟩,E,I⟩;refine RN 5 E I λa E=>?_;rw[show (i:Int)-1=((i-1:Nat):Int) from by omega]at E;refine IF 1 E I (λbk a E=>?_) λbk a E=>?_
   ·
    have cV:q<zs.length:=by omega
    have eS:q+1<zs.length:=by omega
    refine bR 1 [13] [0,1,2,3,4,5,6,7,8,10,11,12,3009,1013,14,1015,16,1017] E I λa w E I hH hC=>?_;have hr:Rd w bb oo (bc zs):=I.cK bb oo (by omega);refine RH 12 E I hH hC λa E=>?_;refine QH E (λw hc=>ae E (hc.cell (hr (q+1) _ (dU eS)))) hC λa E=>?_;refine RH 0 E I hH hC λa E=>?_;refine SS E (ae E (hr q _ (dU cV))) λa E=>?_;refine RH 1 E I hH hC λa E=>?_;refine mG (off:=oo) (k:=q) E rfl I Ty.t5 rfl (by omega) (by rw[dy];omega) λa w E I=>?_;rw[tW]at I;refine RN 1 E I λa E=>?_;refine mG (off:=oo) (k:=q+1) E rfl I Ty.t5 rfl (by omega) (by rw[dy,bt];omega) λa w E I=>?_;rw[tW]at I;refine RN 3 E I λa E=>?_;exact⟨i-(q+1),by omega,q+1,_,⟨rfl,by omega,by simp[hz]⟩,E.ab [0,10,13],I⟩
   refine RT 0 E I ?_;exact⟨zs,rfl,hz,I⟩
  refine RN 5 E I λa E=>?_;rw[show (up:Int)-(k:Int)=((up-k:Nat):Int) from by omega]at E;refine IF 1 E I (λbN a E=>?_) λbN a E=>?_
  ·
   refine RN 7 E I λa E=>?_;refine aN (λμ a w=>∃ (i j:Nat),(μ=j-i∧(lo≤i∧i≤j)∧j≤k)∧Fr a 220 [(0,sv bb oo m c),(2,.int .i64 k),(4,kI f us),(14,.int .i64 i),(15,.int .i64 j)]∧U W w (hK bb oo m c xs::L)) (k-lo) (⟨lo,k,⟨rfl,⟨a7 _,by omega⟩,a7 _⟩,E.ab [0,2,4,14,15],I⟩) ?_;clear E I;rintro μ a w ⟨i,j,⟨rfl,⟨hi,oK⟩,hj⟩,E,I⟩;refine IF 5 E I (λeN a E=>?_) λeN a E=>?_
   ·
    have mn:(i+j)/2<xs.length:=by omega
    have iy:k<xs.length:=by omega
    refine RN 4 E I λa E=>?_;rw[show (i:Int)+(j:Int)=((i+j:Nat):Int) from rfl]at E;refine SX 0 E I (B1 (by omega)) λa E=>?_;refine RN 1 E I λa E=>?_;rw[show (((i+j:Nat):Int).fdiv (2 ^ 1))=(((i+j)/2:Nat):Int) from lf (i+j) 2]at E;refine SX 0 E I (fR (by omega) (by omega)) λa E=>?_;refine bR 2 [8] [0,1,2,3,5,6,7,3004,1008,1009,10,11] E I λa w E I hH hC=>?_;have hr:Rd w bb oo (bc xs):=I.cK bb oo (by omega);refine RH 7 E I hH hC λa E=>?_;refine QH E (λw hc=>ae E (hc.cell (hr k _ (dU iy)))) hC λa E=>?_;refine RH 0 E I hH hC λa E=>?_;refine SS E (ae E (hr ((i+j)/2) _ (dU mn))) λa E=>?_;refine RH 0 E I hH hC λa E=>?_;refine bh 0 E I (hF.h I λh=>h.tail) (hf:=hF.c) λz a w E I=>?_;refine RN 2 E I λa E=>?_;refine IF 0 E I (λmi a E=>?_) λmi a E=>?_
    ·
     refine RN 3 E I λa E=>?_;exact⟨j-((i+j)/2+1),by omega,(i+j)/2+1,j,⟨rfl,⟨by omega,by omega⟩,hj⟩,E.ab [0,2,4,14,15],I⟩
    refine RN 2 E I λa E=>?_;exact⟨(i+j)/2-i,by omega,i,(i+j)/2,⟨rfl,⟨hi,by omega⟩,by omega⟩,E.ab [0,2,4,14,15],I⟩
   refine RN 4 E I λa E=>?_;refine aN (λμ a w=>∃ (q:Nat) (zs:List UInt8),(μ=q∧q≤k∧zs.length=m)∧Fr a 220 [(0,sv bb oo m c),(14,.int .i64 i),(17,.int .i64 q)]∧U W w (hK bb oo m c zs::L)) (k) (⟨k,xs,⟨rfl,a7 _,hx⟩,E.ab [0,14,17],I⟩) ?_;clear E I;rintro μ a w ⟨q,zs,⟨yz,hq,hz⟩,E,I⟩;refine IF 5 E I (λmU a E=>?_) λmU a E=>?_
   ·
    have cV:q<zs.length:=by omega
    have eS:q-1<zs.length:=by omega
    refine bR 1 [13] [0,1,2,3,4,5,6,7,8,10,11,12,3009,1013,14,1015,16,1017] E I λa w E I hH hC=>?_;have hr:Rd w bb oo (bc zs):=I.cK bb oo (by omega);refine RH 5 E I hH hC λa E=>?_;rw[show (q:Int)-1=((q-1:Nat):Int) from by omega]at E;refine RH 3 E I hH hC λa E=>?_;rw[show (q:Int)-1=((q-1:Nat):Int) from by omega]at E;refine RH 4 E I hH hC λa E=>?_;refine QH E (λw hc=>ae E (hc.cell (hr (q-1) _ (dU eS)))) hC λa E=>?_;refine RH 0 E I hH hC λa E=>?_;refine SS E (ae E (hr q _ (dU cV))) λa E=>?_;refine RH 1 E I hH hC λa E=>?_;refine mG (off:=oo) (k:=q) E rfl I Ty.t5 rfl (by omega) (by rw[dy];omega) λa w E I=>?_;rw[tW]at I;refine RN 1 E I λa E=>?_;refine mG (off:=oo) (k:=q-1) E rfl I Ty.t5 rfl (by omega) (by rw[dy,bt];omega) λa w E I=>?_;rw[tW]at I;refine RN 2 E I λa E=>?_;rw[show (q:Int)-1=((q-1:Nat):Int) from by omega]at E;refine RN 1 E I λa E=>?_;exact⟨q-1,by omega,q-1,_,⟨rfl,by omega,by simp[hz]⟩,E.ab [0,14,17],I⟩
   refine RT 0 E I ?_;exact⟨zs,rfl,hz,I⟩
  refine RN 4 E I λa E=>?_;rw[show (lo:Int)+(up:Int)=((lo+up:Nat):Int) from rfl]at E;refine SX 0 E I (B1 (by omega)) λa E=>?_;refine RN 1 E I λa E=>?_;rw[show (((lo+up:Nat):Int).fdiv (2 ^ 1))=(((lo+up)/2:Nat):Int) from lf (lo+up) 2]at E;refine SX 0 E I (fR (by omega) (by omega)) λa E=>?_;refine RN 1 E I λa E=>?_;obtain⟨hL,Et⟩:∃ hL,hL=(lo+up)/2:=⟨_,rfl⟩;rw[← Et]at E;refine RN 8 E I λa E=>?_;refine cc (M:=λa w=>∃ s r:Nat,((lo≤s∧hL+k≤s+up)∧s≤r∧r≤hL∧r≤k)∧Fr a 220 [(0,sv bb oo m c),(1,.int .i64 lo),(2,.int .i64 k),(3,.int .i64 up),(4,kI f us),(18,.int .i64 hL),(19,.int .i64 ((hL:Int)+k)),(20,.int .i64 s),(21,.int .i64 r)]∧U W w (hK bb oo m c xs::L)) ?_ ?_
  ·
   refine IF 4 E I (λlS a E=>?_) λlS a E=>?_
   ·
    refine RN 4 E I λa E=>?_;rw[show (hL:Int)+(k:Int)-(up:Int)=((hL+k-up:Nat):Int) from by omega]at E;refine RN 3 E I λa E=>?_;exact⟨hL+k-up,hL,⟨⟨by omega,by omega⟩,by omega,by omega,by omega⟩,E.ab [0,1,2,3,4,18,19,20,21],I⟩
   refine RN 5 E I λa E=>?_;exact⟨lo,k,⟨⟨by omega,by omega⟩,by omega,by omega,by omega⟩,E.ab [0,1,2,3,4,18,19,20,21],I⟩
  clear E;(try clear I);rintro a w ⟨xy,B2,⟨⟨oA,dz⟩,uI,hs4,p0⟩,E,I⟩;refine RN 3 E I λa E=>?_;rw[show (hL:Int)+(k:Int)-1=((hL+k-1:Nat):Int) from by omega]at E;refine RN 2 E I λa E=>?_;refine aN (λμ a w=>∃ (s r:Nat),(μ=r-s∧(lo≤s∧hL+k≤s+up)∧s≤r∧r≤hL∧r≤k)∧Fr a 220 [(0,sv bb oo m c),(1,.int .i64 lo),(2,.int .i64 k),(3,.int .i64 up),(4,kI f us),(18,.int .i64 hL),(19,.int .i64 ((hL:Int)+k)),(20,.int .i64 s),(21,.int .i64 r),(22,.int .i64 ((hL+k-1:Nat):Int))]∧U W w (hK bb oo m c xs::L)) (B2-xy) (⟨xy,B2,⟨rfl,⟨oA,dz⟩,uI,hs4,p0⟩,E.ab [0,1,2,3,4,18,19,20,21,22],I⟩) ?_;clear E I;rintro μ a w ⟨s,r,⟨rfl,⟨g1,hS⟩,l9,ma,o3⟩,E,I⟩;refine IF 5 E I (λke a E=>?_) λke a E=>?_
  ·
   have mn:(s+r)/2<xs.length:=by omega
   have iy:hL+k-1-(s+r)/2<xs.length:=by omega
   refine RN 4 E I λa E=>?_;rw[show (s:Int)+(r:Int)=((s+r:Nat):Int) from rfl]at E;refine SX 0 E I (B1 (by omega)) λa E=>?_;refine RN 1 E I λa E=>?_;rw[show (((s+r:Nat):Int).fdiv (2 ^ 1))=(((s+r)/2:Nat):Int) from lf (s+r) 2]at E;refine SX 0 E I (fR (by omega) (by omega)) λa E=>?_;refine bR 2 [10] [0,1,2,3,4,5,7,8,9,3006,1010,1011,12,13] E I λa w E I hH hC=>?_;have hr:Rd w bb oo (bc xs):=I.cK bb oo (by omega);refine RH 5 E I hH hC λa E=>?_;rw[show ((hL+k-1:Nat):Int)-(((s+r)/2:Nat):Int)=((hL+k-1-(s+r)/2:Nat):Int) from by omega]at E;refine RH 4 E I hH hC λa E=>?_;refine QH E (λw hc=>ae E (hc.cell (hr (hL+k-1-(s+r)/2) _ (dU iy)))) hC λa E=>?_;refine RH 0 E I hH hC λa E=>?_;refine SS E (ae E (hr ((s+r)/2) _ (dU mn))) λa E=>?_;refine RH 0 E I hH hC λa E=>?_;refine bh 0 E I (hF.h I λh=>h.tail) (hf:=hF.c) λz a w E I=>?_;refine RN 2 E I λa E=>?_;refine IF 0 E I (λwO a E=>?_) λwO a E=>?_
   ·
    refine RN 3 E I λa E=>?_;exact⟨r-((s+r)/2+1),by omega,(s+r)/2+1,r,⟨rfl,⟨by omega,by omega⟩,by omega,ma,o3⟩,E.ab [0,1,2,3,4,18,19,20,21,22],I⟩
   refine RN 2 E I λa E=>?_;exact⟨(s+r)/2-s,by omega,s,(s+r)/2,⟨rfl,⟨g1,hS⟩,by omega,by omega,by omega⟩,E.ab [0,1,2,3,4,18,19,20,21,22],I⟩
  refine RN 4 E I λa E=>?_;rw[show (hL:Int)+(k:Int)-(s:Int)=((hL+k-s:Nat):Int) from by omega]at E;refine RN 1 E I λa E=>?_;refine cc (M:=λa w=>∃ zs:List UInt8,zs.length=m∧Fr a 220 [(0,sv bb oo m c),(1,.int .i64 lo),(3,.int .i64 up),(4,kI f us),(18,.int .i64 hL),(20,.int .i64 s),(24,.int .i64 ((hL+k-s:Nat):Int))]∧U W w (hK bb oo m c zs::L)) ?_ ?_
  ·
   refine BY 5 E I (λbX a E=>?_) λbX a E=>?_
   ·
    refine IF 4 E I (λts a E=>?_) λts a E=>?_
    ·
     refine bh 5 E I (rotate I hx (by omega) (by omega) (by omega) hm) λys a w E ⟨hy,I⟩=>?_;refine RN 0 E I λa E=>?_;exact⟨ys,hy,E.ab [0,1,3,4,18,20,24],I⟩
    refine RN 0 E I λa E=>?_;exact⟨xs,hx,E.ab [0,1,3,4,18,20,24],I⟩
   refine RN 5 E I λa E=>?_;exact⟨xs,hx,E.ab [0,1,3,4,18,20,24],I⟩
  clear E;(try clear I);rintro a w ⟨zs,hz,E,I⟩;refine cc (M:=λa w=>∃ zs:List UInt8,zs.length=m∧Fr a 220 [(0,sv bb oo m c),(3,.int .i64 up),(4,kI f us),(18,.int .i64 hL),(24,.int .i64 ((hL+k-s:Nat):Int))]∧U W w (hK bb oo m c zs::L)) ?_ ?_
  ·
   refine BY 5 E I (λbX a E=>?_) λbX a E=>?_
   ·
    refine IF 4 E I (λyC a E=>?_) λyC a E=>?_
    ·
     refine bh 5 E I (ih (by omega) hz (by omega) (by omega) (by omega) I) λys a w E ⟨hy,I⟩=>?_;refine RN 0 E I λa E=>?_;exact⟨ys,hy,E.ab [0,3,4,18,24],I⟩
    refine RN 0 E I λa E=>?_;exact⟨zs,hz,E.ab [0,3,4,18,24],I⟩
   refine RN 5 E I λa E=>?_;exact⟨zs,hz,E.ab [0,3,4,18,24],I⟩
  clear E;(try clear I);rintro a w ⟨zs,hz,E,I⟩;refine BY 5 E I (λbX a E=>?_) λbX a E=>?_
  ·
   refine IF 4 E I (λwP a E=>?_) λwP a E=>?_
   ·
    refine bh 5 E I (ih (by omega) hz (by omega) (by omega) (by omega) I) λys a w E ⟨hy,I⟩=>?_;refine RT 0 E I ?_;exact⟨ys,rfl,hy,I⟩
   refine RT 0 E I ?_;exact⟨zs,rfl,hz,I⟩
  refine RT 5 E I ?_;exact⟨zs,rfl,hz,I⟩
theorem aaw (I:U W w (hK bb oo m c xs::L))(hF:zo W L f us)(hx:xs.length=m)(hm:m≤1000) :
   Calls prog 335 #[sv bb oo m c,.int .i64 m,kI f us] w λe w'=>∃ ys:List UInt8,e=.returned (.tuple #[])∧ys.length=m∧U W w' (hK bb oo m c ys::L):=by
 refine EN func335 ntmps335 rfl rfl λa E=>?_;refine RN 7 E I λa E=>?_;refine aN (λμ a w=>∃ (q:Nat) (ys:List UInt8),(μ=m-q∧q≤m∧ys.length=m)∧Fr a 63 [(0,sv bb oo m c),(1,.int .i64 m),(2,kI f us),(6,.int .i64 20),(7,.int .i64 q),(8,.int .i64 ((q+20:Nat):Int))]∧U W w (hK bb oo m c ys::L)) (m) (⟨0,xs,⟨rfl,Nat.zero_le _,hx⟩,E.ab [0,1,2,6,7,8],I⟩) ?_;clear E I;rintro μ a w ⟨q,ys,⟨rfl,hq,hy⟩,E,I⟩;refine IF 5 E I (λaj a E=>?_) λaj a E=>?_
 ·
  refine bh 5 E I (Nd I hF hy (by omega) hm hq) λzs a w E ⟨hz,I⟩=>?_;refine RN 7 E I λa E=>?_;exact⟨m-(q+20),by omega,q+20,zs,⟨rfl,by omega,hz⟩,E.ab [0,1,2,6,7,8],I⟩
 refine bh 5 E I (Nd I hF hy (a7 _) hm hq) λzs a w E ⟨hz,I⟩=>?_;refine RN 0 E I λa E=>?_;refine aN (λμ a w=>∃ (s:Nat) (ys:List UInt8),(μ=m-s∧(1≤s∧s≤2000)∧ys.length=m)∧Fr a 63 [(0,sv bb oo m c),(1,.int .i64 m),(2,kI f us),(6,.int .i64 s)]∧U W w (hK bb oo m c ys::L)) (m-20) (⟨20,zs,⟨rfl,⟨by decide,by decide⟩,hz⟩,E.ab [0,1,2,6],I⟩) ?_;clear E I;rintro μ a w ⟨s,ys,⟨rfl,⟨oA,dz⟩,hy⟩,E,I⟩;refine IF 5 E I (λao a E=>?_) λao a E=>?_
 ·
  refine RN 3 E I λa E=>?_;rw[show (2:Int)*(s:Int)=((2*s:Nat):Int) from by omega]at E;refine RN 3 E I λa E=>?_;refine aN (λμ a w=>∃ (q:Nat) (ys:List UInt8),(μ=m-q∧q≤m∧ys.length=m)∧Fr a 63 [(0,sv bb oo m c),(1,.int .i64 m),(2,kI f us),(6,.int .i64 s),(7,.int .i64 q),(8,.int .i64 ((q+2*s:Nat):Int))]∧U W w (hK bb oo m c ys::L)) (m) (⟨0,ys,⟨rfl,Nat.zero_le _,hy⟩,(by rw[eG];exact E.ab [0,1,2,6,7,8]),I⟩) ?_;clear E I;rintro μ a w ⟨q,ys,⟨rfl,hq,hy⟩,E,I⟩;refine IF 5 E I (λay a E=>?_) λay a E=>?_
  ·
   refine RN 6 E I λa E=>?_;rw[show (q:Int)+(s:Int)=((q+s:Nat):Int) from rfl]at E;refine bh 2 E I (Nh hF hm _ (a7 _) hy (by omega) (by omega) (by omega) I) λzs a w E ⟨hz,I⟩=>?_;refine RN 7 E I λa E=>?_;rw[show ((q+2*s:Nat):Int)+2*(s:Int)=((q+2*s+2*s:Nat):Int) from by omega]at E;refine RN 1 E I λa E=>?_;exact⟨m-(q+2*s),by omega,q+2*s,zs,⟨rfl,by omega,hz⟩,E.ab [0,1,2,6,7,8],I⟩
  refine RN 5 E I λa E=>?_;rw[show (q:Int)+(s:Int)=((q+s:Nat):Int) from rfl]at E;refine IF 5 E I (λbk a E=>?_) λbk a E=>?_
  ·
   refine bh 5 E I (Nh hF hm _ (a7 _) hy (by omega) (by omega) (a7 _) I) λzs a w E ⟨hz,I⟩=>?_;refine RN 2 E I λa E=>?_;rw[show (s:Int)*2=((s*2:Nat):Int) from by omega]at E;refine RN 1 E I λa E=>?_;exact⟨m-s*2,by omega,s*2,zs,⟨rfl,⟨by omega,by omega⟩,hz⟩,E.ab [0,1,2,6],I⟩
  refine RN 2 E I λa E=>?_;rw[show (s:Int)*2=((s*2:Nat):Int) from by omega]at E;refine RN 1 E I λa E=>?_;exact⟨m-s*2,by omega,s*2,ys,⟨rfl,⟨by omega,by omega⟩,hy⟩,E.ab [0,1,2,6],I⟩
 refine RT 0 E I ?_;exact⟨ys,rfl,hy,I⟩
theorem aax (I:U W w (hK bb oo m c xs::L))(hF:zo W L f us)(hx:xs.length=m)(hm:m≤1000) :
   Calls prog 327 #[sv bb oo m c,kI f us] w λe w'=>∃ ys:List UInt8,e=.returned (.tuple #[])∧ys.length=m∧U W w' (hK bb oo m c ys::L):=by
 refine EN func327 ntmps327 rfl rfl λa E=>?_;refine bh 4 E I (aaw I hF hx hm) λys a w E ⟨hy,I⟩=>?_;refine RT 0 E I ?_;exact⟨ys,rfl,hy,I⟩
theorem aay {b:Gs}{adT:Option Addr}{cT b3 dt b8 q8:Nat}{d u:UInt8}{g:Nat→Int}:zo W (aa b8 5 [.int .u8 (d.toNat:Nat)]::aa q8 5 [.int .u8 (u.toNat:Nat)]::aa b3 186 (dq b adT cT)::aa dt 320 (ints .i64 256 g)::L)
   328 [pt b8,pt q8,pt b3,pt dt]:=by
 refine⟨by kernel_rfl,?_⟩;intro w M x y I hM;have hx:=x.toNat_lt;have hy:=y.toNat_lt;refine EN func328 ntmps328 rfl rfl λa E=>?_;refine RN 4 E I λa E=>?_;refine SS E (ae E ((hM I).bz (b:=b8) rfl)) λa E=>?_;refine RN 0 E I λa E=>?_;refine SS E (ae E ((hM I).bz (b:=q8) rfl)) λa E=>?_;refine RN 0 E I λa E=>?_;refine SS E (Dz E underlying423 Ty.t423 Ty.t5 rfl rfl) λa E=>?_;refine RN 1 E I λa E=>?_;refine aN (λμ a w=>∃ (i:Nat),(μ=2-i∧i≤2)∧Fr a 47 [(0,.int .u8 (x.toNat:Nat)),(1,.int .u8 (y.toNat:Nat)),(4,pt b3),(5,pt dt),(13,.agg #[.int .u8 (d.toNat:Nat),.int .u8 (u.toNat:Nat)]),(14,.int .i64 i)]∧U W w M) (2) (⟨0,⟨rfl,by decide⟩,E.ab [0,1,4,5,13,14],I⟩) ?_;clear E I;rintro μ a w ⟨i,⟨rfl,hi⟩,E,I⟩;refine IF 3 E I (λaj a E=>?_) λaj a E=>?_
 ·
  obtain⟨q,hq⟩:∃ q:UInt8,[Value.int .u8 (d.toNat:Nat),Value.int .u8 (u.toNat:Nat)][i]?=some (.int .u8 (q.toNat:Nat)):=by
   have:i=0∨i=1:=by omega
   rcases this with rfl | rfl
   ·exact⟨d,rfl⟩
   ·exact⟨u,rfl⟩
  refine RN 2 E I λa E=>?_;refine SS E (sX E underlying423 underlying5 rfl Ty.t5 (by omega) hq) λa E=>?_;refine bR 3 [9] [0,1001,2,3,4,5,7,8,3006,1009,10,11] E I λa w E I hH hC=>?_;refine RH 1 E I hH hC λa E=>?_;refine SS E (ae E ((hM I).bz (b:=b3) rfl)) λa E=>?_;refine RH 2 E I hH hC λa E=>?_;refine E.by (s:=20) (λbX E=>?_) (λbX E=>?_)
  ·
   refine RH 4 E I hH hC λa E=>?_;refine QH E (λw hc=>ae E (hc.cell ((hM I).bz (b:=dt) (fV g hx)))) hC λa E=>?_;refine RH 0 E I hH hC λa E=>?_;refine bw E (cw E rfl (s:=20)) (ae E ((hM I).bz (b:=dt) (fV g hy))) rfl λa E=>?_;refine RH 2 E I hH hC λa E=>?_;refine IF 0 E I (λao a E=>?_) λao a E=>?_
   ·
    refine bR 1 [5] [0,1,3,4,3002,1005,6,7] E I λa w E I hH hC=>?_;refine RH 4 E I hH hC λa E=>?_;refine QH E (λw hc=>ae E (hc.cell ((hM I).bz (b:=dt) (fV g hy)))) hC λa E=>?_;refine RH 0 E I hH hC λa E=>?_;refine SS E (ae E ((hM I).bz (b:=dt) (fV g hx))) λa E=>?_;refine RH 0 E I hH hC λa E=>?_;refine QP E (λw=>Ad E) λa E=>?_;refine RH 1 E I hH hC λa E=>?_;refine RT 0 E I ?_;exact⟨_,rfl,I⟩
   refine IF 8 E I (λay a E=>?_) λay a E=>?_
   ·
    refine IF 5 E I (λbk a E=>?_) λbk a E=>?_
    ·
     refine RT 2 E I ?_;exact⟨_,rfl,I⟩
    refine RT 2 E I ?_;exact⟨_,rfl,I⟩
   refine RN 2 E I λa E=>?_;exact⟨2-(i+1),by omega,i+1,⟨rfl,by omega⟩,E.ab [0,1,4,5,13,14],I⟩
  refine RH 8 E I hH hC λa E=>?_;refine IF 9 E I (λay a E=>?_) λay a E=>?_
  ·
   refine IF 5 E I (λbk a E=>?_) λbk a E=>?_
   ·
    refine RT 2 E I ?_;exact⟨_,rfl,I⟩
   refine RT 2 E I ?_;exact⟨_,rfl,I⟩
  refine RN 2 E I λa E=>?_;exact⟨2-(i+1),by omega,i+1,⟨rfl,by omega⟩,E.ab [0,1,4,5,13,14],I⟩
 refine RT 2 E I ?_;exact⟨_,rfl,I⟩
end
theorem aaz:xw:=by
 refine⟨?_⟩;intro W w L c k cT ad adT past b I hb hk eo j9 hp ht;refine EN func310 ntmps310 rfl rfl λa E=>?_;refine BX 1 E I λb3 a w E I=>?_;change U W w (aa b3 186 (dq b adT cT)::_) at I;refine bh 4 E I (zi I) λr a w E ⟨hr,I⟩=>?_;obtain rfl:=hr.2 hb;refine RN 1 E I λa E=>?_;replace E:=E.aP 14;refine CL 4 E I (MK I hb (by omega) j9 (λw' h=>hp _ h.tail)) λa w E I=>?_;refine AL 0 E I λdt a w E I=>?_;rw[q6]at I;refine SA 0 E I λa w E I=>?_;refine CL 3 E I (MM I hb (by omega) j9 (λw' h=>hp _ h.tail.tail) (λw' h=>ht _ h.tail.tail)) λa w E I=>?_;refine CL 1 E I (ML I (by omega) (λw' h=>hp _ h.tail.tail)) λa w E I=>?_;refine AL 0 E I λb8 a w E I=>?_;refine AL 0 E I λq8 a w E I=>?_;refine ST 0 E I (λa w E I=>?_);refine ST 0 E I (λa w E I=>?_);refine RN 5 E I λa E=>?_;replace I:U W w (Sl 5 1 none 0 0 (bc [])::_):=I.bM 5 1 none;refine aN (λμ a w=>∃ (i:Nat) (hE:Option Addr) (cl:Nat) (ys:List UInt8),(μ=256-i∧i≤256∧ys.length=i)∧Fr a 40 [(2,.int .i64 k),(3,pt b3),(7,pt dt),(8,pt b8),(9,pt q8),(10,.slice hE i cl),(23,.int .i64 i)]∧U W w (Sl 5 1 hE i cl (bc ys)::aa b8 5 [.int .u8 ((nE b past).toNat:Nat)]::aa q8 5 [.int .u8 ((iB past).toNat:Nat)]::aa b3 186 (dq b adT cT)::aa dt 320 (ints .i64 256 (gM b past))::L)) (256) (⟨0,none,0,[],⟨rfl,by decide,rfl⟩,E.ab [2,3,7,8,9,10,23],I.sub⟩) ?_;clear E I;rintro μ a w ⟨i,hE,cl,ys,⟨rfl,hi,hy⟩,E,I⟩;refine IF 3 E I (λao a E=>?_) λao a E=>?_
 ·
  refine RN 6 E I λa E=>?_;refine SS E (gr E underlying3 underlying5) λa E=>?_;rw[wrap_u8,show (i:Int)%256=(((UInt8.ofNat i).toNat:Nat):Int) from by rw[UInt8.toNat_ofNat'];omega]at E;refine RN 0 E I λa E=>?_;refine cp E rfl I underlying22 Ty.t5 rfl rfl rfl rfl (by decide) (by decide) λWj a w E I ho=>?_;clear ho;refine RN 0 E I λa E=>?_;refine cQ E rfl I underlying22 Ty.t5 rfl rfl I.ai rfl (ez [UInt8.ofNat i]) (by decide) (by decide) (by omega) λKh Ki a w E I=>?_;rw[show bc ys++_=bc (ys++[UInt8.ofNat i]) from (fM _ [_]).symm]at I;refine RN 3 E I λa E=>?_;exact⟨256-(i+1),by omega,i+1,Kh,Ki,ys++[UInt8.ofNat i],⟨rfl,by omega,by simp[hy]⟩,E.ab [2,3,7,8,9,10,23],I.sub⟩
 refine RN 1 E I λa E=>?_;obtain rfl:i=256:=by omega
 have hA:=E;have zp:=I;obtain⟨bb,oo,rfl,_⟩:=I.bU hE (by omega);have E:=hA;have I:=zp;have cn:=(I.sl (some ⟨bb,oo,none⟩)).2;refine bh 2 E I (aax I aay hy (by decide)) λzs a w E ⟨hz,I⟩=>?_;refine RN 5 E I λa E=>?_;rw[show min (max (k:Int) 0) 256=(k:Int) from by omega]at E;refine RT 2 E I ?_;have h1:=I.Dh (some ⟨bb,oo,none⟩) 0 k (Nat.zero_le _) (by omega);rw[Nat.sub_zero,Nat.sub_zero,fW,Nat.zero_mul,drop_zero,show (bc zs).take k=bc (zs.take k) from by rw[bc,bc,map_take]]at h1;have hl:(zs.take k).length=k:=by rw[eA];omega
 exact⟨_,_,zs.take k,by rw[hl,Nat.sub_zero,Nat.sub_zero],hl,by rw[hl];exact h1.sub⟩
end
end Go.Proofs.YteoldcfapaiobaaGreat
