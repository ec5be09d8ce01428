/- The document's guesses: quintainref12.MayBy, weights, ahead, Rank, Chain. -/
import Derived.Test.YteoldcfapaiobaaGreatF09Core
import Derived.Test.YteoldcfapaiobaaGreatF08Pkt4
import Derived.Test.YteoldcfapaiobaaGreatF01Row
namespace Go.Proofs.YteoldcfapaiobaaGreat
open Tryz
open List (drop_zero nil_append drop_eq_nil_of_le ext_getElem getElem_map append_nil map_take range_succ map_singleton getLastD_eq_getLast?)
open Go.RowKit
set_option linter.unusedVariables false
set_option linter.unusedSimpArgs false
set_option maxRecDepth 10000
set_option synthInstance.maxSize 4000
set_option synthInstance.maxHeartbeats 400000
section
def qh (w:Nat→Int)(last drawn:Int)(v u:Nat):Bool:=if (v:Int)=drawn∨(u:Int)=drawn then decide ((v:Int)=drawn) else if w v≠w u then decide (w u<w v) else decide ((v:Int)=last)
def ie (w:Nat→Int)(last drawn:Int):Nat→Nat
 | 0=>0
 | i+1=>if qh w last drawn (i+1) (ie w last drawn i)=true then i+1 else ie w last drawn i
theorem Gt (w:Nat→Int)(last drawn:Int):∀ i,ie w last drawn i≤i
 | 0=>bf _
 | i+1=>by
  rw[ie];split
  ·exact bf _
  ·exact Nat.le_succ_of_le (Gt w last drawn i)
theorem MD {w:Nat→Int}{last:Int}{d:Nat}:∀ {i},d≤i→ie w last d i=d
 | 0,h=>by rw[ie];omega
 | i+1,h=>by
  rw[ie];by_cases hd:d=i+1
  ·rw[ak]
   ·exact hd.symm
   ·rw[qh,ak (.inl (by omega))];exact dh (by omega)
  ·rw[MD (i:=i) (by omega),ag];rw[qh,ak (.inr rfl),ct];omega
theorem ME {w:Nat→Int}{last:Nat}:∀ i,(∀ v,v≤i→w v≤w (ie w last (-1) i))∧(ie w last (-1) i=last∨((last≤i→w last<w (ie w last (-1) i))∧∀ v,v<ie w last (-1) i→w v<w (ie w last (-1) i)))
 | 0=>by
  refine⟨λv hv=>by rw[ie,show v=0 from by omega];exact Int.le_refl _,?_⟩;by_cases h:last=0
  ·exact .inl h.symm
  ·exact .inr ⟨λhl=>by omega,λv hv=>by rw[ie]at hv;omega⟩
 | i+1=>by
  obtain⟨h1,h2⟩:=ME (w:=w) (last:=last) i;have hle:=Gt w last (-1) i;have h0:¬ (((i+1:Nat):Int) = -1∨((ie w last (-1) i:Nat):Int) = -1):=by omega
  rw[ie];generalize ie w last (-1) i=r at *;rw[qh,ag h0];by_cases hw:w (i+1)=w r
  ·rw[ag (show ¬ w (i+1)≠w r from λh=>h hw)];by_cases hl:i+1=last
   ·rw[ak (dh (by omega))];refine⟨λv hv=>?_,.inl hl⟩;by_cases sm:v=i+1
    ·subst sm;exact Int.le_refl _
    ·rw[hw];exact h1 v (by omega)
   ·rw[ag (by rw[ct];omega)];refine⟨λv hv=>?_,?_⟩
    ·by_cases sm:v=i+1
     ·subst sm;omega
     ·exact h1 v (by omega)
    ·rcases h2 with h2 | ⟨h2,h3⟩
     ·exact .inl h2
     ·exact .inr ⟨λhh=>h2 (by omega),h3⟩
  ·rw[ak hw];by_cases hl:w r<w (i+1)
   ·rw[ak (dh hl)];have ig:∀ v,v<i+1→w v<w (i+1):=λv hv=>by have:=h1 v (by omega);omega
    refine⟨λv hv=>?_,?_⟩
    ·by_cases sm:v=i+1
     ·subst sm;exact Int.le_refl _
     ·have:=ig v (by omega);omega
    ·by_cases vT:last=i+1
     ·exact .inl vT.symm
     ·exact .inr ⟨λhh=>ig last (by omega),ig⟩
   ·rw[ag (by rw[ct];exact hl)];refine⟨λv hv=>?_,?_⟩
    ·by_cases sm:v=i+1
     ·subst sm;omega
     ·exact h1 v (by omega)
    ·rcases h2 with h2 | ⟨h2,h3⟩
     ·exact .inl h2
     ·refine .inr ⟨λhh=>?_,h3⟩;by_cases vT:last=i+1
      ·subst vT;omega
      ·exact h2 (by omega)
def tM (b:Gs)(past:List UInt8):Int:=if b.kind=3 then ((b.table.getD (past.length%b.table.length) 0).toNat:Int) else -1
theorem Z7 {b:Gs}{past:List UInt8}(hb:cY b):ie (gK b past) ((iz past).toNat:Nat) (tM b past) 255=(nD b past).toNat:=by
 have Gq:=lk (iz past);unfold tM nD;split
 ·have:=lk (b.table.getD (past.length%b.table.length) 0);exact MD (by omega)
 ·rw[UInt8.toNat_ofNat'];obtain⟨h1,h2⟩:=ME (w:=gK b past) (last:=(iz past).toNat) 255;have hle:=Gt (gK b past) ((iz past).toNat:Nat) (-1) 255;generalize ie (gK b past) ((iz past).toNat:Nat) (-1) 255=r at *;rcases h2 with h2 | ⟨h2,h3⟩
  ·rw[LG λv hv=>by rw[← h2];exact h1 v (by omega),h2];omega
  ·have h4:=(LH (last:=(iz past).toNat) (h2 (by omega)) h3 (i:=256) λv hv=>h1 v (by omega)).2 (by omega);rw[h4];omega
def tN (t:Nat→Bool):List Value:=fn 256 λi=>.bool (t i)
theorem Z8 (t:Nat→Bool):(tN t).length=256:=IT _ _
theorem Z9 {t:Nat→Bool}{i:Nat}(h:i<256):(tN t)[i]?=some (.bool (t i)):=IU _ h
theorem aaa {t:Nat→Bool}{i:Nat}:(tN t).set i (.bool true)=tN λj=>if j=i then true else t j:=by
 rw[tN,IV];exact Dt λj _=>by by_cases h:j=i <;> simp[h]
theorem aab (m:Nat)(v:Value):List.replicate m v=fn m λ_=>v:=by
 apply ext_getElem (by simp[fn]);intro i h1 h2;simp[fn]
theorem aac:List.replicate 256 (Value.bool false)=tN λ_=>false:=aab 256 _
def q4 (t:Nat→Bool):Nat→Nat
 | 0=>0
 | i+1=>q4 t i+if t i=true then 1 else 0
theorem MF {t:Nat→Bool}:∀ {i},(∀ v,v<i→t v=true)→q4 t i=i
 | 0,_=>rfl
 | i+1,h=>by rw[q4,MF (i:=i) λv hv=>h v (by omega),ak (h i (by omega))]
theorem MG {t:Nat→Bool}{u:Nat}(hu:t u=false):∀ {i},q4 (λj=>if j=u then true else t j) i=q4 t i+if u<i then 1 else 0
 | 0=>by simp[q4]
 | i+1=>by
  rw[q4,q4,MG hu (i:=i)];by_cases h:i=u
  ·subst h;simp[hu]
  ·by_cases h2:u<i
   ·simp[h,h2,show u<i+1 from by omega];omega
   ·simp[h,h2,show ¬ u<i+1 from by omega]
def kq (w:Nat→Int)(last drawn:Int)(t:Nat→Bool)(first:Bool)(i:Nat)(fL:Int):Prop :=
 (fL = -1∧∀ v,v<i→t v=true)∨∃ u:Nat,fL=(u:Int)∧u<i∧t u=false∧(first=true→u=ie w last drawn (i-1))
section
variable {w:Nat→Int}{last drawn:Int}{t:Nat→Bool}{f:Bool}{i u:Nat}{fL:Int}
theorem kq.take (h:kq w last drawn t f i fL)(h0:fL<0)(hi:t i=false)(hf:f=true→∀ v,t v=false):kq w last drawn t f (i+1) i:=by
 refine .inr ⟨i,rfl,by omega,hi,λjU=>?_⟩;rcases h with ⟨_,h⟩ | ⟨u,h,_⟩
 ·have : i = 0 := by
   rcases lH i with h1 | h1
   ·exact h1
   ·have h2:=h 0 h1;rw[hf jU 0]at h2;cases h2
  subst this;rfl
 ·omega
theorem kq.nat (h:kq w last drawn t f i fL)(h0:0≤fL):∃ u:Nat,fL=(u:Int)∧u<i∧t u=false∧(f=true→u=ie w last drawn (i-1)):=by
 rcases h with ⟨h,_⟩ | h
 ·omega
 ·exact h
theorem kq.up (hu:u<i∧t u=false∧(f=true→u=ie w last drawn (i-1)))(E:qh w last drawn i u=true)(hi:t i=false):kq w last drawn t f (i+1) i:=by
 refine .inr ⟨i,rfl,by omega,hi,λhf=>?_⟩;have h1:=hu.2.2 hf;obtain⟨j,rfl⟩:∃ j,i=j+1:=⟨i-1,by omega⟩;rw[yH]at h1 ⊢;rw[ie,← h1,ak E]
theorem kq.ab (hu:u<i∧t u=false∧(f=true→u=ie w last drawn (i-1)))(E:qh w last drawn i u=false):kq w last drawn t f (i+1) u:=by
 refine .inr ⟨u,rfl,by omega,hu.2.1,λhf=>?_⟩;have h1:=hu.2.2 hf;obtain⟨j,rfl⟩:∃ j,i=j+1:=⟨i-1,by omega⟩;rw[yH]at h1 ⊢;rw[ie,← h1,E,ag (by decide)]
theorem kq.skip (h:kq w last drawn t f i fL)(hi:t i=true)(hf:f=true→∀ v,t v=false):kq w last drawn t f (i+1) fL:=by
 have o3:f=true→False:=λh=>by rw[hf h i]at hi;cases hi
 rcases h with ⟨h1,h⟩ | ⟨u,h1,h2,h3,_⟩
 ·refine .inl ⟨h1,λv hv=>?_⟩;by_cases hvi:v=i
  ·subst hvi;exact hi
  ·exact h v (by omega)
 ·exact .inr ⟨u,h1,by omega,h3,λh=>(o3 h).elim⟩
theorem kq.Gu (h:kq w last drawn t f 256 fL)(hc:q4 t 256<256):∃ u:Nat,fL=(u:Int)∧u<256∧t u=false∧(f=true→u=ie w last drawn 255):=by
 rcases h with ⟨_,h⟩ | h
 ·rw[MF h]at hc;omega
 ·exact h
theorem kq.start:kq w last drawn t f 0 (-1):=.inl ⟨rfl,λv hv=>by omega⟩
end
section
variable {W w:World}{L:List SP}{n c m cT:Nat}{ad adT:Option Addr}{past:List UInt8}{b:Gs}{g:Nat→Int}
theorem Gv (I:U W w L):Calls prog 49 #[.agg (dp b adT cT).toArray] w λe w'=>∃ r:Bool,e=.returned (.bool r)∧(r=true↔cY b)∧U W w' L:=by
 refine EN func49 ntmps49 rfl rfl λa E=>?_;refine BX 1 E I λb1 a w E I=>?_;change U W w (aa b1 47 (dp b adT cT)::_) at I;refine BY 7 E I (λbX a E=>?_) λbX a E=>?_
 ·
  refine RT 27 E I ?_;exact⟨_,rfl,⟨λh=>(by cases h),λh=>by rw[cY]at h;exfalso;omega⟩,I.sub⟩
 refine BY 5 E I (λfj a E=>?_) λfj a E=>?_
 ·
  refine RT 22 E I ?_;exact⟨_,rfl,⟨λh=>(by cases h),λh=>by rw[cY]at h;exfalso;omega⟩,I.sub⟩
 refine BY 5 E I (λnB a E=>?_) λnB a E=>?_
 ·
  refine RT 17 E I ?_;exact⟨_,rfl,⟨λh=>(by cases h),λh=>by rw[cY]at h;exfalso;omega⟩,I.sub⟩
 refine BY 5 E I (λuL a E=>?_) λuL a E=>?_
 ·
  refine RT 12 E I ?_;exact⟨_,rfl,⟨λh=>(by cases h),λh=>by rw[cY]at h;exfalso;omega⟩,I.sub⟩
 refine BY 4 E I (λp6 a E=>?_) λp6 a E=>?_
 ·
  refine IF 5 E I (λaj a E=>?_) λaj a E=>?_
  ·
   refine RT 2 E I ?_;exact⟨_,rfl,⟨λh=>(by cases h),λh=>by rw[cY]at h;exfalso;omega⟩,I.sub⟩
  refine IF 5 E I (λao a E=>?_) λao a E=>?_
  ·
   refine BY 6 E I (λdE a E=>?_) λdE a E=>?_
   ·
    refine RT 6 E I ?_;exact⟨_,rfl,(by rw[ct,cY];omega),I.sub⟩
   refine RT 6 E I ?_;exact⟨_,rfl,⟨λh=>(by cases h),λh=>by rw[cY]at h;exfalso;omega⟩,I.sub⟩
  refine RT 6 E I ?_;exact⟨_,rfl,(by rw[ct,cY];omega),I.sub⟩
 refine IF 11 E I (λao a E=>?_) λao a E=>?_
 ·
  refine BY 6 E I (λdE a E=>?_) λdE a E=>?_
  ·
   refine RT 6 E I ?_;exact⟨_,rfl,(by rw[ct,cY];omega),I.sub⟩
  refine RT 6 E I ?_;exact⟨_,rfl,⟨λh=>(by cases h),λh=>by rw[cY]at h;exfalso;omega⟩,I.sub⟩
 refine RT 6 E I ?_;exact⟨_,rfl,(by rw[ct,cY];omega),I.sub⟩
theorem aad (I:U W w L)(hb:cY b)(eF:past.length≤4000)(j8:past.length≤c)(hp:∀ w',U W w' L→aW w' ad past.length past) :
   Calls prog 192 #[.agg (dp b adT cT).toArray,.slice ad past.length c] w λe w'=>e=.returned (.agg (ints .i64 256 (gK b past)).toArray)∧U W w' L:=by
 simp only[cY]at hb;refine EN func192 ntmps192 rfl rfl λa E=>?_;refine BX 1 E I λb2 a w E I=>?_;change U W w (aa b2 47 (dp b adT cT)::_) at I;refine AL 0 E I λb4 a w E I=>?_;rw[q3]at I;refine AL 1 E I λb5 a w E I=>?_;rw[q3]at I;refine BY 6 E I (λbX a E=>?_) λbX a E=>?_
 ·
  refine SA 9 E I λa w E I=>?_;refine RT 0 E I ?_;exact⟨by rw[gK,ag (by omega)],I.sub⟩
 refine IF 6 E I (λaj a E=>?_) λaj a E=>?_
 ·
  refine SA 2 E I λa w E I=>?_;refine RT 0 E I ?_;exact⟨by rw[gK,ak (by omega),y1 (by omega)],I.sub⟩
 refine RN 1 E I λa E=>?_;have b9:b.kind=2:=by omega
 obtain⟨o,ho⟩:∃ o:Nat,b.order=(o:Int):=⟨b.order.toNat,by omega⟩;rw[dp,ho]at I;have dY:o≤past.length:=by omega
 have lj:gK b past=hE o past past.length:=by rw[gK,ak b9,ho,c6]
 refine RN 6 E I λa E=>?_;rw[show ((past.length:Nat):Int)-(o:Int)=((past.length-o:Nat):Int) from by omega]at E;refine RN 1 E I λa E=>?_;refine SS E (lK E underlying22 underlying5 underlying9 ((show aW w (ft ad (past.length-o) c 1) (past.length-(past.length-o)) (past.drop (past.length-o)) from by have h1:=(hp _ I.tail.tail.tail).uY (lo:=past.length-o) (by omega) j8;rw[c5]at h1;exact h1))) λa E=>?_;refine RN 6 E I λa E=>?_;have Z2:o≤3:=by omega
 refine aQ (λμ a w=>∃ (i:Nat),(μ=past.length-i∧o≤i∧i≤past.length)∧Fr a 54 [(1,.slice ad past.length c),(2,pt b2),(4,pt b4),(5,pt b5),(6,.string ⟨(past.drop (past.length-o)).toArray⟩),(7,.int .i64 i)]∧U W w (aa b5 320 (ints .i64 256 (hE o past i))::aa b4 320 (ints .i64 256 (λ_=>0))::aa b2 47 [.int .i64 b.kind,.int .i64 o,.slice adT b.table.length cT]::L)) (past.length-o) (⟨o,⟨rfl,bf _,dY⟩,E.ab [1,2,4,5,6,7],by rw[y1 (bf _)];exact I.sub⟩) ?_;clear E I;rintro μ a w ⟨i,⟨rfl,Gn,hi⟩,E,I⟩;refine IF 6 E I (λao a E=>?_) λao a E=>?_
 ·
  have aF:i<past.length:=by omega
  have nT:=BB o past i past[i].toNat;have qV:=lk past[i];refine RN 7 E I λa E=>?_;rw[show ((i:Nat):Int)-(o:Int)=((i-o:Nat):Int) from by omega]at E;refine RN 2 E I λa E=>?_;rw[show i-(i-o)=o from by omega]at E;refine SS E (lK E underlying22 underlying5 underlying9 ((hp _ I.tail.tail.tail).y2 (lo:=i-o) (n:=o) (by omega) j8)) λa E=>?_;refine RN 1 E I λa E=>?_;refine SS E (sQ E) λa E=>?_;rw[qF]at E;refine IF 0 E I (λay a E=>?_) λay a E=>?_
  ·
   obtain⟨bb,oo,rfl,hr⟩:=(hp _ I.tail.tail.tail).get (by omega);refine RN 3 E I λa E=>?_;refine SS E (ae E (hr i _ (dT aF))) λa E=>?_;refine RN 1 E I λa E=>?_;refine SS E (ae E (I.bz (fT _ qV))) λa E=>?_;refine ST 2 E I (λa w E I=>?_) (hlt:=(by rw[dg];omega));rw[ints_set]at I;refine RN 3 E I λa E=>?_;exact⟨past.length-(i+1),by omega,i+1,⟨rfl,by omega,by omega⟩,E.ab [1,2,4,5,6,7],by
    rw[show hE o past (i+1)=λj=>if j=past[i].toNat then hE o past i past[i].toNat+1 else hE o past i j from by
     rw[hE,ak ⟨Gn,by rw[y0,← ay]⟩,bl,aD aF];rfl]
    exact I.sub⟩
  refine RN 3 E I λa E=>?_;exact⟨past.length-(i+1),by omega,i+1,⟨rfl,by omega,by omega⟩,E.ab [1,2,4,5,6,7],by
   rw[show hE o past (i+1)=hE o past i from by
    rw[hE,ag (λh=>by
     have h2:=h.2;rw[y0]at h2;rw[h2]at ay;cases ay)]]
   exact I.sub⟩
 obtain rfl:i=past.length:=by omega
 refine SA 2 E I λa w E I=>?_;refine RT 0 E I ?_;exact⟨by rw[lj],I.sub⟩
theorem aae {v u:Nat}{last drawn:Int}(I:U W w L)(hv:v<256)(hu:u<256):Calls prog 193 #[.int .i64 v,.int .i64 u,.agg (ints .i64 256 g).toArray,.int .i64 last,.int .i64 drawn] w λe w'=>e=.returned (.bool (qh g last drawn v u))∧U W w' L:=by
 refine EN func193 ntmps193 rfl rfl λa E=>?_;refine BX 1 E I λdt a w E I=>?_;refine BY 7 E I (λbX a E=>?_) λbX a E=>?_
 ·
  refine RT 10 E I ?_;exact⟨by rw[qh,ak (.inl bX)],I.sub⟩
 refine IF 4 E I (λaj a E=>?_) λaj a E=>?_
 ·
  refine RT 5 E I ?_;exact⟨by rw[qh,ak (.inr aj)],I.sub⟩
 refine RN 2 E I λa E=>?_;have h0:¬ ((v:Int)=drawn∨(u:Int)=drawn):=by omega
 refine bS 0 [5] [0,1,3,4,3002,1005,6] E I λa w E I hH hC=>?_;refine RH 4 E I hH hC λa E=>?_;refine QH E (λw hc=>ae E (hc.cell (I.bz (fT _ hv)))) hC λa E=>?_;refine RH 0 E I hH hC λa E=>?_;refine SS E (ae E (I.bz (fT _ hu))) λa E=>?_;refine RH 1 E I hH hC λa E=>?_;refine IF 0 E I (λao a E=>?_) λao a E=>?_
 ·
  refine bS 1 [5] [0,1,3,4,3002,1005,6,7] E I λa w E I hH hC=>?_;refine RH 4 E I hH hC λa E=>?_;refine QH E (λw hc=>ae E (hc.cell (I.bz (fT _ hv)))) hC λa E=>?_;refine RH 0 E I hH hC λa E=>?_;refine SS E (ae E (I.bz (fT _ hu))) λa E=>?_;refine RH 2 E I hH hC λa E=>?_;refine RT 0 E I ?_;exact⟨by rw[qh,ag h0,ak ao],I.sub⟩
 refine RT 5 E I ?_;exact⟨by rw[qh,ag h0,ag (λh=>h ao)],I.sub⟩
set_option maxHeartbeats 1000000 in
theorem MH {k:Nat}(I:U W w L)(hb:cY b)(hk:1≤k∧k≤100000)(eF:past.length≤4000)(j8:past.length≤c)(hp:∀ w',U W w' L→aW w' ad past.length past)(ht:∀ w',U W w' L→aW w' adT b.table.length b.table) :
   Calls prog 160 #[.agg (dp b adT cT).toArray,.slice ad past.length c,.int .i64 k] w λe w'=>∃ (av:Option Addr) (c':Nat) (out:List UInt8),e=.returned (.slice av out.length c')∧(out.length=min k 256∧out[0]?=some (nD b past))∧U W w' (Sl 5 1 av out.length c' (bc out)::L):=by
 have lJ:=hb;simp only[cY]at lJ;refine EN func160 ntmps160 rfl rfl λa E=>?_;refine BX 1 E I λb3 a w E I=>?_;change U W w (aa b3 47 (dp b adT cT)::_) at I;refine bj 4 E I (Gv I) λr a w E ⟨hr,I⟩=>?_;rw[hr.2 hb]at E;refine RN 2 E I λa E=>?_;replace E:=E.aM 17;refine RN 3 E I λa E=>?_;rw[bo (by omega)]at E;refine CL 4 E I (aad I hb eF j8 (λw' hw=>hp w' hw.tail)) λa w E I=>?_;refine AL 0 E I λdt a w E I=>?_;rw[q3]at I;refine SA 0 E I λa w E I=>?_;refine RN 3 E I λa E=>?_;have uI:(if 0<past.length then ((past.getD (past.length-1) 0).toNat:Int) else 0)=((iz past).toNat:Nat):=by
  split
  ·rw[iz,getLastD_eq_getLast?,List.getLast?_eq_getElem?,bl]
  ·rw[iz,g4 (l:=past) (by omega)];rfl
 refine cd (M:=λa w=>Fr a 86 [(1,.slice ad past.length c),(2,.int .i64 k),(3,pt b3),(7,pt dt),(8,.int .i64 ((iz past).toNat:Nat)),(9,.int .i64 (-1))]∧U W w (aa dt 320 (ints .i64 256 (gK b past))::aa b3 47 (dp b adT cT)::L)) ?_ ?_
 ·
  refine IF 4 E I (λao a E=>?_) λao a E=>?_
  ·
   obtain⟨bb,oo,rfl,e5⟩:=(hp _ I.tail.tail).get (by omega);rw[ak (by omega)]at uI;refine RN 4 E I λa E=>?_;rw[show ((past.length:Nat):Int)-1=((past.length-1:Nat):Int) from by omega]at E;refine RN 1 E I λa E=>?_;refine SS E (ae E (e5 (past.length-1) _ (ln (by omega)))) λa E=>?_;refine SX 0 E I (tC _) λa E=>?_;refine RN 1 E I λa E=>?_;rw[uI]at E;exact⟨E.ab [1,2,3,7,8,9],I⟩
  rw[ag (by omega)]at uI;refine RN 1 E I λa E=>?_;rw[show (0:Int)=((iz past).toNat:Nat) from uI]at E;exact⟨E.ab [1,2,3,7,8,9],I⟩
 clear E;(try clear I);rintro a w ⟨E,I⟩;refine cd (M:=λa w=>Fr a 86 [(2,.int .i64 k),(3,pt b3),(7,pt dt),(8,.int .i64 ((iz past).toNat:Nat)),(9,.int .i64 (tM b past))]∧U W w (aa dt 320 (ints .i64 256 (gK b past))::aa b3 47 (dp b adT cT)::L)) ?_ ?_
 ·
  refine IF 4 E I (λay a E=>?_) λay a E=>?_
  ·
   refine bS 0 [5,6,7] [0,2,3,4,3001,1005,1006,1007,8,1009,10,11] E I λa w E I hH hC=>?_;have hA:=E;obtain⟨Z3,Z4,rfl,pU⟩:=(ht _ I.tail.tail).get (by omega);have E:=hA;have Gp:past.length%b.table.length<b.table.length:=Nat.mod_lt _ (by omega);refine RH 8 E I hH hC λa E=>?_;rw[oD]at E;refine RH 1 E I hH hC λa E=>?_;refine SS E (ae E (pU (past.length%b.table.length) _ (ln Gp))) λa E=>?_;refine RH 0 E I hH hC λa E=>?_;refine QP E (λw=>pE E underlying5 underlying3 (tC _)) λa E=>?_;refine RH 1 E I hH hC λa E=>?_;rw[tM,ak (by omega)];exact⟨E.ab [2,3,7,8,9],I⟩
  refine RN 0 E I λa E=>?_;rw[tM,ag (by omega)];exact⟨E.ab [2,3,7,8,9],I⟩
 clear E;(try clear I);rintro a w ⟨E,I⟩;refine AL 1 E I λkJ a w E I=>?_;rw[aac]at I;refine RN 3 E I λa E=>?_;refine aQ (λμ a w=>∃ (j:Nat) (out:List UInt8) (t:Nat→Bool) (ad2:Option Addr) (c2:Nat),(μ=min k 256-j∧j≤min k 256∧out.length=j∧q4 t 256=j∧(j=0→∀ v,t v=false)∧(1≤j→out[0]?=some (nD b past)))∧Fr a 86 [(2,.int .i64 k),(3,pt b3),(7,pt dt),(8,.int .i64 ((iz past).toNat:Nat)),(9,.int .i64 (tM b past)),(10,pt kJ),(11,.slice ad2 out.length c2)]∧U W w (Sl 5 1 ad2 out.length c2 (bc out)::aa kJ 322 (tN t)::aa dt 320 (ints .i64 256 (gK b past))::aa b3 47 (dp b adT cT)::L)) (min k 256) (⟨0,[],λ_=>false,none,0,⟨rfl,by omega,rfl,by decide,λ_ _=>rfl,λh=>by omega⟩,E.ab [2,3,7,8,9,10,11],I.bN 5 1 none⟩) ?_;clear E I;rintro μ a w ⟨j,out,t,ad2,c2,⟨rfl,hj,dY,MJ,hj0,zf⟩,E,I⟩;refine BY 7 E I (λdE a E=>?_) λdE a E=>?_
 ·
  refine IF 4 E I (λbd a E=>?_) λbd a E=>?_
  ·
   refine RN 5 E I λa E=>?_;refine aQ (λμ a w=>∃ (i:Nat) (fL:Int),(μ=256-i∧i≤256∧kq (gK b past) ((iz past).toNat:Nat) (tM b past) t (decide (j=0)) i fL)∧Fr a 86 [(2,.int .i64 k),(3,pt b3),(7,pt dt),(8,.int .i64 ((iz past).toNat:Nat)),(9,.int .i64 (tM b past)),(10,pt kJ),(11,.slice ad2 out.length c2),(12,.int .i64 fL),(13,.int .i64 i)]∧U W w (Sl 5 1 ad2 out.length c2 (bc out)::aa kJ 322 (tN t)::aa dt 320 (ints .i64 256 (gK b past))::aa b3 47 (dp b adT cT)::L)) (256) (⟨0, -1,⟨rfl,by omega,kq.start⟩,E.ab [2,3,7,8,9,10,11,12,13],I⟩) ?_;clear E I;rintro μ a w ⟨i,fL,⟨rfl,hi,vi⟩,E,I⟩;refine IF 4 E I (λbF a E=>?_) λbF a E=>?_
   ·
    have BR:i<256:=by omega
    have o3:decide (j=0)=true→∀ v,t v=false:=λh=>hj0 (by simpa using h);refine RN 4 E I λa E=>?_;refine SS E (ae E (I.bz (Z9 BR))) λa E=>?_;refine BY 2 E I (λdE a E=>?_) λdE a E=>?_
    ·
     refine BY 3 E I (λjS a E=>?_) λjS a E=>?_
     ·
      refine RN 14 E I λa E=>?_;exact⟨256-(i+1),by omega,i+1,i,⟨rfl,by omega,vi.take jS dE o3⟩,E.ab [2,3,7,8,9,10,11,12,13],I⟩
     obtain⟨u,rfl,hu⟩:=vi.nat (by omega);refine CL 5 E I (aae I BR (by omega)) λa w E I=>?_;refine IF 2 E I (λeU a E=>?_) λeU a E=>?_
     ·
      refine RN 5 E I λa E=>?_;exact⟨256-(i+1),by omega,i+1,i,⟨rfl,by omega,kq.up hu eU dE⟩,E.ab [2,3,7,8,9,10,11,12,13],I⟩
     refine RN 3 E I λa E=>?_;exact⟨256-(i+1),by omega,i+1,u,⟨rfl,by omega,kq.ab hu eU⟩,E.ab [2,3,7,8,9,10,11,12,13],I⟩
    refine RN 15 E I λa E=>?_;exact⟨256-(i+1),by omega,i+1,fL,⟨rfl,by omega,vi.skip dE o3⟩,E.ab [2,3,7,8,9,10,11,12,13],I⟩
   obtain rfl:i=256:=by omega
   obtain⟨u,rfl,hu6,htu,Gw⟩:=vi.Gu (by omega);refine ST 3 E I (λa w E I=>?_) (hlt:=(by rw[Z8];omega));rw[aaa]at I;refine SX 2 E I (by rw[wrap_u8];omega) λa E=>?_;rw[show ((u:Nat):Int)=((UInt8.ofNat u).toNat:Int) from by rw[UInt8.toNat_ofNat'];omega]at E;refine RN 0 E I λa E=>?_;refine cr E rfl I underlying22 Ty.t5 rfl rfl rfl rfl (by decide) (by decide) λb83 a w E I ho=>?_;clear ho;refine RN 0 E I λa E=>?_;refine cQ E rfl I underlying22 Ty.t5 rfl rfl I.ai rfl (ep [UInt8.ofNat u]) (by decide) (by decide) (by omega) λaaf c84 a w E I=>?_;rw[show bc out++_=bc (out++[UInt8.ofNat u]) from (fM _ [_]).symm,show out.length+1=(out++[UInt8.ofNat u]).length from by simp]at I;rw[show out.length+1=(out++[UInt8.ofNat u]).length from by simp]at E;refine RN 1 E I λa E=>?_;exact⟨min k 256-(j+1),by omega,j+1,out++[UInt8.ofNat u],_,aaf,c84,⟨rfl,by omega,by rw[aI,dY];rfl,by rw[MG htu,MJ,ak hu6],λh=>by omega,λ_=>by
    rcases lH j with h0 | h0
    ·rw[g4 (l:=out) (by omega),Gw (dh h0),Z7 hb];simp
    ·rw[mA (by omega)];exact zf (by omega)⟩,E.ab [2,3,7,8,9,10,11],I.sub⟩
  refine RT 3 E I ?_;exact⟨ad2,c2,out,rfl,⟨by omega,zf (by omega)⟩,I.sub⟩
 refine RT 8 E I ?_;exact⟨ad2,c2,out,rfl,⟨by omega,zf (by omega)⟩,I.sub⟩
theorem aag (I:U W w L)(hb:cY b)(eF:past.length≤1001)(j8:past.length≤c)(hn:m≤1000)(hp:∀ w',U W w' L→aW w' ad past.length past)(ht:∀ w',U W w' L→aW w' adT b.table.length b.table) :
   Calls prog 161 #[.agg (dp b adT cT).toArray,.slice ad past.length c,.int .i64 m] w λe w'=>∃ av c',e=.returned (.slice av m c')∧U W w' (Sl 5 1 av m c' (bc (kj b past m))::L):=by
 refine EN func161 ntmps161 rfl rfl λa E=>?_;refine BX 1 E I λb3 a w E I=>?_;change U W w (aa b3 47 (dp b adT cT)::_) at I;refine bj 4 E I (Gv I) λr a w E ⟨hr,I⟩=>?_;rw[hr.2 hb]at E;refine RN 1 E I λa E=>?_;replace E:=E.aM 13;refine RN 2 E I λa E=>?_;replace I:=I.bN 5 1 none;refine RN 1 E I λa E=>?_;refine g9 E rfl I underlying22 Ty.t5 rfl rfl (by decide) (λh0=>(hp _ I.tail.tail).get h0) (by rw[dy];omega) (ep _) (by omega) λLA LB a w E I=>?_;rw[nil_append,eE]at I;rw[eE]at E;refine RN 6 E I λa E=>?_;refine aQ (λμ a w=>∃ (i:Nat) (ad2:Option Addr) (c2:Nat) (fu:Option Addr) (dI:Nat),(μ=m-i∧i≤m)∧Fr a 41 [(2,.int .i64 m),(3,pt b3),(7,.slice ad2 (ej b past i).length c2),(8,.slice fu i dI),(9,.int .i64 i)]∧U W w (Sl 5 1 fu i dI (bc (kj b past i))::Sl 5 1 ad2 (ej b past i).length c2 (bc (ej b past i))::aa b3 47 (dp b adT cT)::L)) (m) (⟨0,LA,LB,none,0,⟨rfl,by omega⟩,E.ab [2,3,7,8,9],by
  have h1:kj b past 0=[]:=g4 (FN b past 0);rw[h1];exact I.bN 5 1 none⟩) ?_
 clear E I;rintro μ a w ⟨i,ad2,c2,fu,dI,⟨rfl,hi⟩,E,I⟩;refine BY 6 E I (λbX a E=>?_) λbX a E=>?_
 ·
  refine RN 3 E I λa E=>?_;rw[dh (by omega)]at E;refine RN 3 E I λa E=>?_;have cp:=iA b past i;have Gr:=(I.sl ad2).2;have him:i<m:=by omega
  refine j2 2 E I (MH (past:=ej b past i) (k:=1) I hb (by decide) (by omega) Gr (λw' hw=>hw.cv ad2 (ej b past i) rfl rfl) (λw' hw=>ht w' hw.tail.tail.tail)) λr4 o2 out a w E ⟨⟨dY,ho0⟩,I⟩=>?_;refine RN 1 E I λa E=>?_;obtain⟨x,rfl⟩:∃ x,out=[x]:=by
   match out,dY with
   | [x],_=>exact⟨x,rfl⟩
  obtain rfl:x=nD b (ej b past i):=by simpa using ho0
  obtain⟨gr,or',rfl,jR⟩:=I.bU r4 (by simp);refine SX 3 E I (by simp) λa E=>?_;refine RN 0 E I λa E=>?_;refine SS E (ae E (jR 0 _ rfl)) λa E=>?_;refine RN 0 E I λa E=>?_;refine cr E rfl I underlying22 Ty.t5 rfl rfl rfl rfl (by decide) (by decide) λgL a w E I ho=>?_;clear ho;refine RN 0 E I λa E=>?_;refine cQ E rfl I underlying22 Ty.t5 rfl rfl I.ai rfl (ep [nD b (ej b past i)]) (by decide) (by decide) (by omega) λGx Gy a w E I=>?_;rw[show bc (ej b past i)++_=bc (ej b past (i+1)) from (fM _ [_]).symm,show (ej b past i).length+1=(ej b past (i+1)).length from by rw[iA,iA];omega]at I;rw[show (ej b past i).length+1=(ej b past (i+1)).length from by rw[iA,iA];omega]at E;refine RN 1 E I λa E=>?_;replace jR:=I.cK gr or' (by simp);refine SX 2 E I (by simp) λa E=>?_;refine RN 0 E I λa E=>?_;refine SS E (ae E (jR 0 _ rfl)) λa E=>?_;refine RN 0 E I λa E=>?_;refine cr E rfl I underlying22 Ty.t5 rfl rfl rfl rfl (by decide) (by decide) λb38 a w E I ho=>?_;clear ho;refine RN 0 E I λa E=>?_;refine cQ E rfl I underlying22 Ty.t5 rfl rfl I.ai rfl (ep [nD b (ej b past i)]) (by decide) (by decide) (by omega) λaah c39 a w E I=>?_;rw[show bc (kj b past i)++_=bc (kj b past (i+1)) from by rw[Zg,u7];exact (fM _ [_]).symm]at I;refine RN 4 E I λa E=>?_;exact⟨m-(i+1),by omega,i+1,Gx,Gy,aah,c39,⟨rfl,by omega⟩,E.ab [2,3,7,8,9],I.sub⟩
 refine RT 7 E I ?_;obtain rfl:i=m:=by omega
 exact⟨_,_,rfl,I.sub⟩
end
end
section
def xj (to:Nat)(l x:List UInt8):Prop:=(∃ t,x=l++t)∧to≤x.length∧x.length≤1001
def nH (X:List (List UInt8))(front to:Nat):List (List UInt8):=(List.range (to-front)).map λi=>bJ X (front+i)
theorem xk (b:Gs)(ls:List (List UInt8))(to:Nat):nH (jj b ls to) (aU ls) to=dv b ls to:=rfl
theorem BS (X:List (List UInt8))(front to:Nat):(nH X front to).length=to-front:=by simp[nH]
structure zg (to:Nat)(ls X:List (List UInt8)):Prop where
 len:X.length=ls.length
 fit:∀ (j:Nat) (l x:List UInt8),ls[j]?=some l→X[j]?=some x→xj to l x
theorem aai {b:Gs}{l:List UInt8}{to:Nat}(h:l.length≤1000)(h2:to≤1000):xj to l (oa b l to):=by
 refine⟨⟨kj b l (to-l.length),?_⟩,Zh b l to,?_⟩
 ·rw[oa,u7]
 ·rw[oa,iA];omega
theorem MK {b:Gs}{l:List UInt8}{to:Nat}(h:to≤l.length):oa b l to=l:=by rw[oa,show to-l.length=0 from by omega];rfl
structure xm:Prop where
 aaj:∀ {W w:World} {L:List SP} {c k cT:Nat} {ad adT:Option Addr} {past:List UInt8} {b:Gs},U W w L→cY b→(1≤k∧k≤256)→past.length≤1000→past.length≤c→(∀ w',U W w' L→aW w' ad past.length past)→(∀ w',U W w' L→aW w' adT b.table.length b.table) →
 Calls prog 310 #[.agg (dp b adT cT).toArray,.slice ad past.length c,.int .i64 k] w λe w'=>∃ (av:Option Addr) (c':Nat) (out:List UInt8),e=.returned (.slice av out.length c')∧out.length=k∧U W w' (Sl 5 1 av out.length c' (bc out)::L)
section
variable {W w:World}{L:List SP}{c m cT to r:Nat}{ad adT:Option Addr}{past:List UInt8}{b:Gs}
set_option maxHeartbeats 1000000 in
theorem aak (qi:r=0∨xm)(hr:r≤100000)(I:U W w (Sl 5 1 ad past.length c (bc past)::L))(hb:cY b)(eF:past.length≤1000)(tK:to≤1000)(ht:∀ w',U W w' L→aW w' adT b.table.length b.table) :
   Calls prog 294 #[.slice ad past.length c,.agg (dp b adT cT).toArray,.int .i64 r,.int .i64 to] w λe w'=>∃ (av:Option Addr) (c':Nat) (x:List UInt8),e=.returned (.slice av x.length c')∧(xj to past x∧(r=0→x=oa b past to)) ∧
    U W w' (Sl 5 1 av x.length c' (bc x)::L):=by
 have j8:=(I.sl ad).2;refine EN func294 ntmps294 rfl rfl λa E=>?_;refine BX 1 E I λb5 a w E I=>?_;change U W w (aa b5 186 (dp b adT cT)::_) at I;refine IF 7 E I (λaj a E=>?_) λaj a E=>?_
 ·
  refine RT 3 E I ?_;exact⟨ad,c,past,rfl,⟨⟨⟨[],by simp⟩,by omega,by omega⟩,λ_=>(MK (by omega)).symm⟩,I.tail⟩
 refine RN 0 E I λa E=>?_;refine cd (M:=λa w=>∃ (ad2:Option Addr) (c2:Nat) (y:List UInt8),((∃ t,y=past++t)∧y.length≤past.length+1∧past.length<to∧(r=0→y=past))∧Fr a 48 [(0,.slice ad2 y.length c2),(3,.int .i64 to),(5,pt b5)]∧U W w (Sl 5 1 ad2 y.length c2 (bc y)::aa b5 186 (dp b adT cT)::L)) ?_ ?_
 ·
  refine SX 2 E I (by decide) λa E=>?_;rw[show ((r:Nat):Int).tmod 256=((r%256:Nat):Int) from oD _ 256]at E;refine RN 1 E I λa E=>?_;have yV:r%256<256:=Nat.mod_lt _ (by decide);generalize mf:r%256=r6 at E yV;refine IF 3 E I (λao a E=>?_) λao a E=>?_
  ·
   have hRk:=qi.resolve_left (λh=>by rw[h]at mf;omega);have hp0:=I.drew.tail.tail;refine bS 0 [] [0,1,2,3,4,5,7,8,9,11,1006,1010,12,1013,1014,1015,16] E I λa w E I hH hC=>?_;refine RH 5 E I hH hC λa E=>?_;refine QP E (λw=>DD E underlying22 Ty.t5 (bf _) (by omega)) λa E=>?_;rw[rF]at E;refine RH 3 E I hH hC λa E=>?_;rw[show ((r6:Nat):Int)+1=((r6+1:Nat):Int) from by omega]at E;refine RH 2 E I hH hC λa E=>?_;refine j2 0 E I (hRk.aaj I hb (by omega) eF j8 (λw' hw=>hw.tail.cv ad past rfl rfl) (λw' hw=>ht w' hw.tail.tail)) λr4 o2 out a w E ⟨dY,I⟩=>?_;obtain⟨gr,or',rfl,jR⟩:=I.bU r4 (by omega);refine RN 1 E I λa E=>?_;refine SS E (ae E (jR r6 _ (dT (by omega)))) λa E=>?_;refine RN 0 E I λa E=>?_;refine cr E rfl I underlying22 Ty.t5 rfl rfl rfl rfl (by decide) (by decide) λgL a w E I ho=>?_;clear ho;replace I:=I.I0 ad past.length (bf _);rw[rF,fU,gg (by rw[dy];exact bf _)]at I;refine RN 0 E I λa E=>?_;refine cQ E rfl I underlying22 Ty.t5 rfl rfl I.ai rfl (ep [out[r6]]) (by decide) (by decide) (by omega) λGx Gy a w E I=>?_;rw[show bc past++_=bc (past++[out[r6]]) from (fM _ [_]).symm,show past.length+1=(past++[out[r6]]).length from by simp]at I;rw[show past.length+1=(past++[out[r6]]).length from by simp]at E;refine RN 1 E I λa E=>?_;exact⟨Gx,Gy,past++[out[r6]],⟨⟨_,rfl⟩,by simp,by omega,λh=>by rw[h]at mf;omega⟩,E.ab [0,3,5],I.sub⟩
  have af6:r6=0:=by omega
  refine RN 0 E I λa E=>?_;exact⟨ad,c,past,⟨⟨[],by simp⟩,by omega,by omega,λ_=>rfl⟩,E.ab [0,3,5],I.sub⟩
 clear E;(try clear I);rintro a w ⟨ad2,c2,y,⟨g6,jg,hy4,mv⟩,E,I⟩;refine RN 1 E I λa E=>?_;have jl:y.length≤to:=by omega
 have pa:=(I.sl ad2).2;refine bS 0 [] [0,1,2,3,4,5,7,8,9,10,11,1006,1012,1013,14] E I λa w E I hH hC=>?_;refine RH 5 E I hH hC λa E=>?_;refine QP E (λw=>DD E underlying22 Ty.t5 (bf _) (by omega)) λa E=>?_;rw[rF]at E;refine RH 5 E I hH hC λa E=>?_;rw[show ((to:Nat):Int)-((y.length:Nat):Int)=((to-y.length:Nat):Int) from by omega]at E;refine RH 1 E I hH hC λa E=>?_;refine aY 0 E I (Z6 (to:=0) (past:=y) (m:=to-y.length) I hb (by omega) pa (by omega) (λw' hw=>hw.cv ad2 y rfl rfl) (λw' hw=>ht w' hw.tail.tail)) λadc zh a w E I=>?_;replace I:=I.I0 ad2 y.length (bf _);rw[rF,fU,gg (by rw[dy];exact bf _)]at I;have Gz:=FN b y (to-y.length);refine RN 0 E I λa E=>?_;refine g9 E rfl I underlying22 Ty.t5 rfl rfl (by decide) (λh0=>(I.tail.cv adc (kj b y (to-y.length)) rfl Gz).get h0) (by rw[dy];omega) (ep _) (by omega) λp9 r9 a w E I=>?_;rw[← fM,u7,show y.length+(to-y.length)=(ej b y (to-y.length)).length from by rw[iA]]at I;rw[show y.length+(to-y.length)=(ej b y (to-y.length)).length from by rw[iA]]at E;refine RN 1 E I λa E=>?_;refine RT 0 E I ?_;obtain⟨t,GA⟩:=g6;refine⟨p9,r9,_,rfl,⟨⟨⟨t++kj b y (to-y.length),?_⟩,by rw[iA];omega,by rw[iA];omega⟩,λh=>?_⟩,I.sub⟩
 ·rw[← u7,GA,dx]
 ·rw[mv h,oa]
set_option maxHeartbeats 1000000 in
theorem GC {qb:Nat}{aB:List Nat}{ls:List (List UInt8)}(qi:r=0∨xm)(hr:r≤100000)(I:U W w (Qu qb aB ls::L))(hb:cY b)(h0:ls≠[])(h8:ls.length≤8)(hl:∀ l∈ls,l.length≤1000)(tK:to≤1000)(ht:∀ w',U W w' L→aW w' adT b.table.length b.table) :
   Calls prog 277 #[pt qb,.agg (dp b adT cT).toArray,.int .i64 r,.int .i64 to] w λe w'=>∃ (av:Option Addr) (c':Nat) (X:List (List UInt8)),e=.returned (.slice av (to-aU ls) c')∧(zg to ls X∧(r=0→X=jj b ls to)) ∧
    U W w' (ch av (to-aU ls) c' (nH X (aU ls) to)::Qu qb aB ls::L):=by
 refine EN func277 ntmps277 rfl rfl λa E=>?_;refine BX 1 E I λb5 a w E I=>?_;change U W w (aa b5 186 (dp b adT cT)::_) at I;refine RN 6 E I λa E=>?_;replace E:=E.aM 21;refine bj 1 E I (ze I) λso a w E ⟨jR,I⟩=>?_;rw[jR.2 hb]at E;refine RN 3 E I λa E=>?_;replace E:=E.aM 26;refine RN 4 E I λa E=>?_;rw[bo (by omega)]at E;refine RN 3 E I λa E=>?_;rw[bo (by omega)]at E;refine CL 3 E I (se (I.pick (Qu qb aB ls)) h0 h8) λa w E I=>?_;refine CL 6 E I (FO I) λa w E I=>?_;refine RN 1 E I λa E=>?_;replace I:=I.bN 22 1 none;replace I:=U.iY (f:=a7) I;refine aQ (λμ a w=>∃ (i:Nat) (so:Nat) (xs:List ec) (og:Option Addr) (db:Nat),(μ=ls.length-i∧i≤ls.length∧xs.length=i∧(so=0∨xm)∧so≤100000∧(r=0→so=0)∧(∀ (j:Nat) (l:List UInt8) (x:ec),ls[j]?=some l→xs[j]?=some x→xj to l x.2.2)∧(r=0→xs.map (·.2.2)=(jj b ls to).take i))∧Fr a 84 [(0,pt qb),(2,.int .i64 so),(3,.int .i64 to),(5,pt b5),(9,.int .i64 (aU ls)),(10,.slice og i db),(37,.int .i64 ls.length),(38,.int .i64 i)]∧U W w (Sl 22 1 og i db (xs.map aL)::ah a7 xs::Qu qb aB ls::aa b5 186 (dp b adT cT)::L)) (ls.length) (⟨0,r,[],none,0,⟨rfl,by omega,rfl,qi,hr,λh=>h,λj l x _ h=>by simp at h,λ_=>rfl⟩,E.ab [0,2,3,5,9,10,37,38],(I.sub:U W w (Sl 22 1 none 0 0 []::ah a7 []::Qu qb aB ls::aa b5 186 (dp b adT cT)::L))⟩) ?_;clear E I;rintro μ a w ⟨i,so,xs,og,db,⟨rfl,hi,ca,MM,MN,MO,nR,vj⟩,E,I⟩;refine IF 3 E I (λao a E=>?_) λao a E=>?_
 ·
  have aF:i<ls.length:=by omega
  have hlt:=hl _ (va aF);refine CL 7 E I (tG (I.pick (Qu qb aB ls)) aF) λa w E I=>?_;refine aY 0 E I (Zs I aF hlt) λc0 dS a w E I=>?_;refine RN 3 E I λa E=>?_;refine cd (M:=λa w=>∃ k xn:Nat,((k=0∨xm)∧k≤100000∧(xn=0∨xm)∧xn≤100000∧(r=0→k=0∧xn=0))∧Fr a 84 [(0,pt qb),(2,.int .i64 xn),(3,.int .i64 to),(5,pt b5),(9,.int .i64 (aU ls)),(10,.slice og i db),(12,.slice c0 (ls.getD i []).length dS),(13,.int .i64 k),(37,.int .i64 ls.length),(38,.int .i64 i)]∧U W w (Sl 5 1 c0 (ls.getD i []).length dS (bc (ls.getD i []))::Sl 22 1 og i db (xs.map aL)::ah a7 xs::Qu qb aB ls::aa b5 186 (dp b adT cT)::L)) ?_ ?_
  ·
   refine IF 5 E I (λay a E=>?_) λay a E=>?_
   ·
    refine RN 3 E I λa E=>?_;exact⟨so,0,⟨MM,MN,.inl rfl,by omega,λh=>⟨MO h,rfl⟩⟩,E.ab [0,2,3,5,9,10,12,13,37,38],I.sub⟩
   refine RN 0 E I λa E=>?_;exact⟨0,so,⟨.inl rfl,by omega,MM,MN,λh=>⟨rfl,MO h⟩⟩,E.ab [0,2,3,5,9,10,12,13,37,38],I.sub⟩
  clear E;(try clear I);rintro a w ⟨k,xn,⟨g8,b9,kI,mS,MP⟩,E,I⟩;refine j2 5 E I (aak g8 b9 I hb hlt tK (λw' hw=>ht w' hw.tail.tail.tail.tail)) λhG cl x a w E ⟨⟨hfx,Gw⟩,I⟩=>?_;refine RN 0 E I λa E=>?_;refine cr E rfl I underlying207 Ty.t22 rfl rfl rfl rfl (by decide) (by decide) λYK a w E I ho=>?_;clear ho;refine RN 0 E I λa E=>?_;refine cQ E rfl I underlying207 Ty.t22 rfl rfl I.ai rfl (by simp[Value.oneCell']) (by decide) (by decide) (by omega) λFC FD a w E I=>?_;rw[show List.map aL xs++_=List.map aL (xs++[(hG,cl,x)]) from by rw[cW];rfl]at I;refine RN 3 E I λa E=>?_;have dz:=U.j0 (f:=a7) (x:=(hG,cl,x)) (I.sub (M:=Sl 5 1 hG x.length cl (bc x)::ah a7 xs::Sl 22 1 FC (i+1) FD ((xs++[(hG,cl,x)]).map aL)::Qu qb aB ls::aa b5 186 (dp b adT cT)::L));refine⟨ls.length-(i+1),by omega,i+1,xn,xs++[(hG,cl,x)],FC,FD,⟨rfl,by omega,by rw[aI,ca];rfl,kI,mS,λh=>(MP h).2,λj l y hj hy=>?_,λh=>?_⟩,E.ab [0,2,3,5,9,10,37,38],dz.sub⟩
  ·by_cases gT:j<i
   ·rw[mA (by omega)]at hy;exact nR j l y hj hy
   ·have eT:=(a2.1 hy).1;rw[aI,jD]at eT;obtain rfl:j=i:=by omega
    rw[pA (by omega),ca,Nat.sub_self]at hy;obtain rfl:(hG,cl,x)=y:=by simpa using hy
    rw[show l=ls.getD j [] from by rw[bl,hj];rfl];exact hfx
  ·rw[cW,vj h,jw (by rw[jj,a8];exact aF)]
   congr 1
   rw[map_singleton,Gw (MP h).1];simp[jj,bl,aF]
 obtain rfl:i=ls.length:=by omega
 have iy:zg to ls (xs.map (·.2.2)):=⟨by rw[a8];exact ca,λj l x hj hx=>by
  rw[bn]at hx;obtain⟨y,hy,rfl⟩:=rG.1 hx;exact nR j l y hj hy⟩
 have mX:r=0→xs.map (·.2.2)=jj b ls to:=λh=>by rw[vj h,gg (by rw[jj,a8];exact bf _)]
 clear nR vj;have fw:aU ls≤1000:=by
  obtain⟨l,jf,j7⟩:=By h0;rw[j7];exact hl l jf
 refine RN 6 E I λa E=>?_;replace I:=I.bN 22 1 none;replace I:=U.iY (f:=a7) I;refine aQ (λμ a w=>∃ (d:Nat) (zs:List ec) (mY:Option Addr) (mZ:Nat),(μ=to-aU ls-d∧d≤to-aU ls∧zs.map (·.2.2)=(List.range d).map λi=>bJ (xs.map (·.2.2)) (aU ls+i))∧Fr a 84 [(3,.int .i64 to),(10,.slice og ls.length db),(14,.slice mY d mZ),(15,.int .i64 (aU ls+d:Nat))]∧U W w (Sl 22 1 mY d mZ (zs.map aL)::ah a7 zs::Sl 22 1 og ls.length db (xs.map aL)::ah a7 xs::Qu qb aB ls::L)) (to-aU ls) (⟨0,[],none,0,⟨rfl,by omega,rfl⟩,by rw[Nat.add_zero];exact E.ab [3,10,14,15],(I.sub:U W w (Sl 22 1 none 0 0 []::ah a7 []::Sl 22 1 og ls.length db (xs.map aL)::ah a7 xs::Qu qb aB ls::L))⟩) ?_;clear E I;rintro μ a w ⟨d,zs,mY,mZ,⟨rfl,hd,tO⟩,E,I⟩;refine IF 5 E I (λbd a E=>?_) λbd a E=>?_
 ·
  refine RN 3 E I λa E=>?_;replace I:=I.bN 5 1 none;refine RN 5 E I λa E=>?_;refine aQ (λμ a w=>∃ (i:Nat) (iR:Option Addr) (jm:Nat),(μ=ls.length-i∧i≤ls.length)∧Fr a 84 [(3,.int .i64 to),(10,.slice og ls.length db),(14,.slice mY d mZ),(15,.int .i64 (aU ls+d:Nat)),(16,.slice iR i jm),(65,.slice og ls.length db),(66,.int .i64 ls.length),(67,.int .i64 i)]∧U W w (Sl 5 1 iR i jm (bc (fA (xs.map (·.2.2)) (aU ls+d) i))::Sl 22 1 mY d mZ (zs.map aL)::ah a7 zs::Sl 22 1 og ls.length db (xs.map aL)::ah a7 xs::Qu qb aB ls::L)) (ls.length) (⟨0,none,0,⟨rfl,by omega⟩,E.ab [3,10,14,15,16,65,66,67],I⟩) ?_;clear E I;rintro μ a w ⟨i,iR,jm,⟨rfl,hi⟩,E,I⟩;refine IF 3 E I (λbF a E=>?_) λbF a E=>?_
  ·
   have aF:i<ls.length:=by omega
   obtain⟨x,hx⟩:∃ x,xs[i]?=some x:=⟨_,aD (by omega)⟩;have BT:=U.mF (xs:=xs) (I.sub (M:=Sl 22 1 og ls.length db (xs.map aL)::ah a7 xs::[]));obtain⟨mR,oT,rfl,fK⟩:=BT.1 (by omega);have zi:=iy.fit i _ x.2.2 (aD aF) (by rw[bn,hx];rfl);obtain⟨m5,ol,g5,gq⟩:=(BT.2 x (bH hx)).get (by have:=zi.2.1;omega);refine RN 3 E I λa E=>?_;refine SS E (ae E (fK i (aL x) (by rw[bn,hx];rfl))) λa E=>?_;refine RN 4 E I λa E=>?_;rw[aL,g5]at E;refine SX 0 E I (by have:=zi.2.1;omega) λa E=>?_;refine RN 0 E I λa E=>?_;refine SS E (ae E (gq (aU ls+d) _ (ln (by have:=zi.2.1;omega)))) λa E=>?_;refine RN 0 E I λa E=>?_;refine cr E rfl I underlying22 Ty.t5 rfl rfl rfl rfl (by decide) (by decide) λb76 a w E I ho=>?_;clear ho;refine RN 0 E I λa E=>?_;refine cQ E rfl I underlying22 Ty.t5 rfl rfl I.ai rfl (ep [x.2.2.getD (aU ls+d) 0]) (by decide) (by decide) (by omega) λaal c77 a w E I=>?_;rw[show bc (fA (xs.map (·.2.2)) (aU ls+d) i)++_=bc (fA (xs.map (·.2.2)) (aU ls+d) (i+1)) from by rw[BA (by rw[a8];omega),getElem_map,fM,(a2.1 hx).2]]at I;refine RN 3 E I λa E=>?_;exact⟨ls.length-(i+1),by omega,i+1,aal,c77,⟨rfl,by omega⟩,E.ab [3,10,14,15,16,65,66,67],I.sub⟩
  obtain rfl:i=ls.length:=by omega
  have eT:fA (xs.map (·.2.2)) (aU ls+d) ls.length=bJ (xs.map (·.2.2)) (aU ls+d):=by
   conv=>lhs;rw[← iy.len]
   exact Bz _ _
  rw[eT]at I;have qE:(bJ (xs.map (·.2.2)) (aU ls+d)).length=ls.length:=by rw[nC];exact iy.len
  refine RN 2 E I λa E=>?_;refine cr E rfl I underlying207 Ty.t22 rfl rfl rfl rfl (by decide) (by decide) λb81 a w E I ho=>?_;clear ho;refine RN 0 E I λa E=>?_;refine cQ E rfl I underlying207 Ty.t22 rfl rfl I.ai rfl (by simp[Value.oneCell']) (by decide) (by decide) (by omega) λMQ MR a w E I=>?_;rw[show List.map aL zs++_=List.map aL (zs++[(iR,jm,bJ (xs.map (·.2.2)) (aU ls+d))]) from by rw[cW,map_singleton,aL,qE];rfl]at I;refine RN 4 E I λa E=>?_;have dz:=U.j0 (f:=a7) (x:=(iR,jm,bJ (xs.map (·.2.2)) (aU ls+d))) (by
   rw[a7,qE];exact I.sub (M:=Sl 5 1 iR ls.length jm (bc (bJ (xs.map (·.2.2)) (aU ls+d)))::ah a7 zs::Sl 22 1 MQ (d+1) MR ((zs++[(iR,jm,bJ (xs.map (·.2.2)) (aU ls+d))]).map aL)::Sl 22 1 og ls.length db (xs.map aL)::ah a7 xs::Qu qb aB ls::L))
  exact⟨to-aU ls-(d+1),by omega,d+1,zs++[(iR,jm,bJ (xs.map (·.2.2)) (aU ls+d))],MQ,MR,⟨rfl,by omega,by rw[cW,tO,range_succ,cW];rfl⟩,by rw[show ((aU ls+(d+1):Nat):Int)=((aU ls+d:Nat):Int)+1 from by omega];exact E.ab [3,10,14,15],dz.sub⟩
 obtain rfl:d=to-aU ls:=by omega
 refine RT 3 E I ?_;exact⟨mY,mZ,xs.map (·.2.2),rfl,⟨iy,mX⟩,ch.close (xs:=zs) (I.sub (M:=Sl 22 1 mY (to-aU ls) mZ (zs.map aL)::ah a7 zs::Qu qb aB ls::L)) tO (BS _ _ _)⟩
end
end
section
structure jo where
 pb:Nat
 core:qd
 aq:Option Addr
 cO:Nat
 adT:Option Addr
 cT:Nat
 gs:Gs
abbrev gy (p:Pr)(B:jo)(g:Nat→Int):List Value:=[pt B.core.cb,.string p.title,.slice B.aq p.ops.length B.cO,.int .i64 B.gs.kind,.int .i64 B.gs.order,.slice B.adT B.gs.table.length B.cT]++ints .i32 32 g
theorem MS {w:World}{b:Nat}{p:Pr}{B:jo}{g:Nat→Int}(h:Rd w b 0 (gy p B g)):Rd w b 1 (bP p B.aq B.cO):=h.part 1 2
theorem MT {w:World}{b:Nat}{p:Pr}{B:jo}{g:Nat→Int}(h:Rd w b 0 (gy p B g)):Rd w b 3 (dp B.gs B.adT B.cT):=h.part 3 3
theorem zj {w:World}{b:Nat}{p:Pr}{B:jo}{g:Nat→Int}(h:Rd w b 0 (gy p B g)):Rd w b 6 (ints .i32 32 g):=by
 have h1:=h.part 6 32
 rwa [show ((gy p B g).drop 6).take 32=ints .i32 32 g from by
  show (ints .i32 32 g).take 32=_;exact gg (by rw[dg];exact bf _)]at h1
theorem MU (p:Pr)(B:jo)(g:Nat→Int):(gy p B g).length=38:=by rw[gy,aI,dg];rfl
theorem aam (p:Pr)(B:jo)(g g':Nat→Int):cG (gy p B g) 6 (ints .i32 32 g')=gy p B g':=by
 rw[cG,dg,drop_eq_nil_of_le (by rw[MU];exact bf _),append_nil,gy,gy]
 congr 1
def aP (W:World)(B:jo)(p:Pr)(s:Pl):SP:=λh=>cn [aa B.pb 192 (gy p B s.g),az B.core s.k,aA W p B.aq B.cO,Sl 5 1 B.adT B.gs.table.length B.cT (bc B.gs.table)] h
def fD (p:Pr)(gs:Gs)(s:Pl):List UInt8×Nat:=if aG s.k≤aw s.k then lX s else (gu (foldI p (aw s.k) s.g (dv gs s.k.ls (aG s.k))),aG s.k)
section
variable {W w:World}{L R:List SP}{n c i:Nat}{ad:Option Addr}{B:jo}{x:UInt8}{p:Pr}{s:Pl}{bs:List UInt8}
theorem aP.open (I:U W w (aP W B p s::L)):U W w (aa B.pb 192 (gy p B s.g)::az B.core s.k::aA W p B.aq B.cO::Sl 5 1 B.adT B.gs.table.length B.cT (bc B.gs.table)::L) :=
 I.open (M:=[_,_,_,_]) λ_ h=>h
theorem aP.close (I:U W w (aa B.pb 192 (gy p B s.g)::az B.core s.k::aA W p B.aq B.cO::Sl 5 1 B.adT B.gs.table.length B.cT (bc B.gs.table)::L)):U W w (aP W B p s::L) :=
 U.shut (M:=[_,_,_,_]) I λ_ h=>h
theorem aP.fold (I:U W w L)(B:jo)(p:Pr)(s:Pl)[kk:fJ L [aa B.pb 192 (gy p B s.g),az B.core s.k,aA W p B.aq B.cO,Sl 5 1 B.adT B.gs.table.length B.cT (bc B.gs.table)] R]:U W w (aP W B p s::R):=aP.close (I.perm kk.perm)
theorem oh (I:U W w (aP W B p s::L)):Calls prog 178 #[pt B.pb] w λr w'=>r=.returned (pt B.core.cb)∧U W w' (aP W B p s::L):=by
 replace I:=aP.open I;refine EN func178 ntmps178 rfl rfl λa E=>?_;refine RN 6 E I λa E=>?_;replace E:=E.aM 4;refine RT 7 E I ?_;exact⟨rfl,aP.close I⟩
theorem GD (I:U W w (aP W B p s::L))(hw:WP p s)(a6:dk p)(aH:p.title.size≤1000000000):Calls prog 99 #[pt B.pb] w λr w'=>r=.returned (.tuple #[])∧U W w' (aP W B p (ez p s)::L):=by
 refine EN func99 ntmps99 rfl rfl λa E=>?_;refine RN 0 E I λa E=>?_;refine aQ (λμ a w=>∃ (i:Nat),(μ=aw s.k-s.k.mr.length-i∧i≤aw s.k-s.k.mr.length)∧Fr a 56 [(0,pt B.pb)]∧U W w (aP W B p (iD p i s)::L)) (aw s.k-s.k.mr.length) (⟨0,⟨rfl,by omega⟩,E.ab [0],I⟩) ?_;clear E I;rintro μ a w ⟨i,⟨rfl,hi⟩,E,I⟩;obtain⟨kr,fb,mE⟩:=hw.q0 i hi;have eP:iD p (i+1) s=ob p (iD p i s):=FT p i s;have DM:=hw.low;have wu:aw (iD p i s).k=aw s.k:=by rw[aw,fb];rfl
 generalize GF:iD p i s=si at I kr fb mE eP wu;replace I:=aP.open I;have bD:=kr.wc.lu;have ib:si.k.ls.length≤8:=by rw[kr.wc.ls];exact kr.wc.n.2
 have aan:aw si.k≤1000:=fG kr.wc.nF kr.wc.lV;refine aX 2 (λw0 w'=>w'.cell? ⟨B.pb,0,none⟩=some (pt B.core.cb)) [4,8] [0,1,2,5,6,7,3003,3008,1004,1009,1010,11] E I λa w E I hH=>?_;have hC:=hH.at w (I.bz (b:=B.pb) rfl);refine RH 6 E I hH hC λa E=>?_;refine QH E (λw hc=>ae E (hc)) hC λa E=>?_;refine QH E (λw hc=>ae E (hc)) hC λa E=>?_;refine RH 0 E I hH hC λa E=>?_;refine CL 0 E I (Mc (I.pick (az B.core si.k))) λa w E I=>?_;replace hC:=hH.at w (I.bz (b:=B.pb) rfl);refine RH 0 E I hH hC λa E=>?_;refine CL 0 E I (o9 (I.pick (az B.core si.k))) λa w E I=>?_;obtain⟨D,I,hD⟩:=az.qu I;refine CL 0 E I (se I bD ib) λa w E I=>?_;refine RN 1 E I λa E=>?_;replace I:=hD _ _ I;replace I:=I.sub (M:=aa B.pb 192 (gy p B si.g)::az B.core si.k::aA W p B.aq B.cO::Sl 5 1 B.adT B.gs.table.length B.cT (bc B.gs.table)::L);refine IF 0 E I (λaj a E=>?_) λaj a E=>?_
 ·
  have qK:si.k.mr.length<aU si.k.ls:=by omega
  have aao:si.k.mr.length<aw si.k:=qK;refine CL 5 E I (Mc (I.pick (az B.core si.k))) λa w E I=>?_;refine CL 6 E I (o9 (I.pick (az B.core si.k))) λa w E I=>?_;refine RN 1 E I λa E=>?_;obtain⟨D,I,hD⟩:=az.qu I;refine aY 0 E I (Zt I bD qK ib) λiR jm a w E I=>?_;refine RN 5 E I λa E=>?_;replace I:=hD _ _ (I.sub (M:=Qu B.core.qb B.core.aB si.k.ls::D::Sl 5 1 iR (bJ si.k.ls si.k.mr.length).length jm (bc (bJ si.k.ls si.k.mr.length))::aa B.pb 192 (gy p B si.g)::aA W p B.aq B.cO::Sl 5 1 B.adT B.gs.table.length B.cT (bc B.gs.table)::L));have eT:=nC si.k.ls si.k.mr.length;refine aX 1 (λw0 w'=>Rd w' B.pb 0 (gy p B si.g)) [8] [0,1,2,3,5,6,7,9,10,3004,1008,1011,12,13,1014] E I λa w E I hH=>?_;have hC:=hH.at w (I.ai (b:=B.pb));refine RH 9 E I hH hC λa E=>?_;refine QH E (λw hc=>bT E underlying45 rfl Ty.t45 (MS hc)) hC λa E=>?_;refine RH 0 E I hH hC λa E=>?_;refine SS E (bT E underlying183 rfl Ty.t183 (zj hC)) λa E=>?_;refine RH 0 E I hH hC λa E=>?_;refine CL 0 E I (My (b:=bJ si.k.ls si.k.mr.length) (fr:=si.k.mr.length) (I.pick (aA W p B.aq B.cO)) a6 aH (kr.qc a6) (by omega) (λw' hw=>(hw.pick (Sl 5 1 iR (bJ si.k.ls si.k.mr.length).length jm (bc (bJ si.k.ls si.k.mr.length)))).cv iR _ rfl rfl)) λa w E I=>?_;refine RN 2 E I λa E=>?_;refine rq E rfl I Ty.t183 uy (by rw[dg,MU];decide) λa w E I=>?_;rw[aam]at I;refine aX 0 (λw0 w'=>Rd w' B.pb 0 (gy p B (e8 p si.k.mr.length (bJ si.k.ls si.k.mr.length) si.g))) [7,8] [0,1,2,4,5,6,3003,1007,1008,1009] E I λa w E I hH=>?_;have hC:=hH.at w (I.ai (b:=B.pb));refine RH 6 E I hH hC λa E=>?_;refine QH E (λw hc=>ae E (hc 0 _ rfl)) hC λa E=>?_;refine RH 0 E I hH hC λa E=>?_;refine SS E (bT E underlying183 rfl Ty.t183 (zj hC)) λa E=>?_;refine RH 0 E I hH hC λa E=>?_;refine CL 0 E I (Zd I) λa w E I=>?_;replace hC:=hH.at w (I.ai (b:=B.pb));refine RH 0 E I hH hC λa E=>?_;refine CL 0 E I (ZM (I.pick (az B.core si.k)) kr.wc (by omega) (yL _)) λa w E I=>?_;refine RN 0 E I λa E=>?_;exact⟨aw s.k-s.k.mr.length-(i+1),by omega,i+1,⟨rfl,by omega⟩,E.ab [0],by
   rw[eP];show U W w (aP W B p ⟨lU si.k (gJ (gu (e8 p si.k.mr.length (bJ si.k.ls si.k.mr.length) si.g))),e8 p si.k.mr.length (bJ si.k.ls si.k.mr.length) si.g⟩::L);exact (aP.fold I B p ⟨lU si.k (gJ (gu (e8 p si.k.mr.length (bJ si.k.ls si.k.mr.length) si.g))),e8 p si.k.mr.length (bJ si.k.ls si.k.mr.length) si.g⟩).sub⟩
 refine RT 0 E I ?_;obtain rfl:i=aw s.k-s.k.mr.length:=by
  have:aU si.k.ls=aw si.k:=rfl;omega
 refine⟨rfl,?_⟩;rw[ez,GF];exact aP.close I
theorem MV (I:U W w (aP W B p s::L))(hw:cu p s)(a6:dk p)(aH:p.title.size≤1000000000):Calls prog 282 #[pt B.pb,.int .u8 (x.toNat:Nat)] w λr w'=>r=.returned (.int .i64 (dK p x s).1)∧U W w' (aP W B p (dK p x s).2::L):=by
 have h1:=vd x s.k;have lO:=hw.toWP.more (hw.wc.al x) (hw.held.al x) h1.1 h1.2;refine EN func282 ntmps282 rfl rfl λa E=>?_;refine CL 4 E I (oh I) λa w E I=>?_;refine RN 1 E I λa E=>?_;replace I:=aP.open I;refine CL 0 E I (ZO (x:=x) (I.pick (az B.core s.k)) hw.wc) λa w E I=>?_;replace I:=(aP.fold I B p ⟨(c1 x s.k).2,s.g⟩);refine RN 1 E I λa E=>?_;refine cd (M:=λa w=>Fr a 15 [(5,.int .i64 (dK p x s).1)]∧U W w (aP W B p (dK p x s).2::L)) ?_ ?_
 ·
  refine IF 3 E I (λaj a E=>?_) λaj a E=>?_
  ·
   refine CL 1 E I (GD I lO a6 aH) λa w E I=>?_;refine RN 0 E I λa E=>?_;exact⟨E.ab [5],I⟩
  refine RN 0 E I λa E=>?_;have he:(dK p x s).2=⟨(c1 x s.k).2,s.g⟩:=by
   show ez p _=_;rw[vc aj];exact hw.ez
  rw[he];exact⟨E.ab [5],I⟩
 clear E;(try clear I);rintro a w ⟨E,I⟩;refine RT 3 E I ?_;exact⟨rfl,I⟩
theorem MW (I:U W w (aP W B p s::L))(hw:cu p s)(a6:dk p)(aH:p.title.size≤1000000000)(hb:bs.length≤65536)(hc:bs.length≤c)(hp:∀ w',U W w' L→aW w' ad bs.length bs) :
   Calls prog 284 #[pt B.pb,.slice ad bs.length c] w λr w'=>r=.returned (.int .i64 (dB p bs s).1)∧U W w' (aP W B p (dB p bs s).2::L):=by
 have h1:=sh bs s.k;have lO:=hw.toWP.more (hw.wc.recv bs).1 ((hw.wc.recv bs).2 hw.held) h1.1 h1.2;refine EN func284 ntmps284 rfl rfl λa E=>?_;refine CL 4 E I (oh I) λa w E I=>?_;refine RN 1 E I λa E=>?_;replace I:=aP.open I;refine CL 0 E I (ZW (bs:=bs) (ad:=ad) (c:=c) (I.pick (az B.core s.k)) hw.wc hb hc (λw' df=>hp w' df.tail.tail.tail)) λa w E I=>?_;replace I:=(aP.fold I B p ⟨(dm bs s.k).2,s.g⟩);refine RN 1 E I λa E=>?_;refine cd (M:=λa w=>Fr a 15 [(5,.int .i64 (dB p bs s).1)]∧U W w (aP W B p (dB p bs s).2::L)) ?_ ?_
 ·
  refine IF 3 E I (λaj a E=>?_) λaj a E=>?_
  ·
   refine CL 1 E I (GD I lO a6 aH) λa w E I=>?_;refine RN 0 E I λa E=>?_;exact⟨E.ab [5],I⟩
  refine RN 0 E I λa E=>?_;have he:(dB p bs s).2=⟨(dm bs s.k).2,s.g⟩:=by
   show ez p _=_;rw[w9 aj];exact hw.ez
  rw[he];exact⟨E.ab [5],I⟩
 clear E;(try clear I);rintro a w ⟨E,I⟩;refine RT 3 E I ?_;exact⟨rfl,I⟩
theorem MX (I:U W w (aP W B p s::L))(hw:cu p s)(pD:s.k.now≤1000000):Calls prog 285 #[pt B.pb] w λr w'=>∃ ad c,r=.returned (.slice ad (bt s.k).1.length c)∧U W w' (cg 124 ad (bt s.k).1.length c (bt s.k).1::aP W B p ⟨(bt s.k).2,s.g⟩::L):=by
 refine EN func285 ntmps285 rfl rfl λa E=>?_;refine CL 4 E I (oh I) λa w E I=>?_;replace I:=aP.open I;refine aY 0 E I (ZU (I.pick (az B.core s.k)) hw.wc pD) λad c a w E I=>?_;refine RT 1 E I ?_;exact⟨ad,c,rfl,(aP.fold I B p ⟨(bt s.k).2,s.g⟩).sub⟩
theorem MY (I:U W w (aP W B p s::L))(hw:cu p s):Calls prog 283 #[pt B.pb] w λr w'=>∃ ad c,r=.returned (.slice ad (cy s.k).1.length c)∧U W w' (cg 124 ad (cy s.k).1.length c (cy s.k).1::aP W B p ⟨(cy s.k).2,s.g⟩::L):=by
 refine EN func283 ntmps283 rfl rfl λa E=>?_;refine CL 4 E I (oh I) λa w E I=>?_;replace I:=aP.open I;refine aY 0 E I (ZT (I.pick (az B.core s.k)) hw.wc) λad c a w E I=>?_;refine RT 1 E I ?_;exact⟨ad,c,rfl,(aP.fold I B p ⟨(cy s.k).2,s.g⟩).sub⟩
theorem MZ (I:U W w (aP W B p s::L)):Calls prog 281 #[pt B.pb] w λr w'=>∃ ad c,r=.returned (.slice ad s.k.ev.length c)∧U W w' (Sl 135 1 ad s.k.ev.length c (s.k.ev.map cA)::aP W B p ⟨{ s.k with ev:=[] },s.g⟩::L):=by
 refine EN func281 ntmps281 rfl rfl λa E=>?_;refine CL 4 E I (oh I) λa w E I=>?_;replace I:=aP.open I;refine aY 0 E I (ZN (I.pick (az B.core s.k))) λad c a w E I=>?_;refine RT 1 E I ?_;exact⟨ad,c,rfl,(aP.fold I B p ⟨{ s.k with ev:=[] },s.g⟩).sub⟩
theorem M0 (I:U W w (aP W B p s::L)):Calls prog 141 #[pt B.pb] w λr w'=>r=.returned (.bool s.k.cl)∧U W w' (aP W B p s::L):=by
 refine EN func141 ntmps141 rfl rfl λa E=>?_;refine CL 4 E I (oh I) λa w E I=>?_;replace I:=aP.open I;refine CL 0 E I (y7 (I.pick (az B.core s.k))) λa w E I=>?_;refine RT 1 E I ?_;exact⟨rfl,(aP.fold I B p s).sub⟩
theorem M1 (I:U W w (aP W B p s::L))(hw:cu p s):Calls prog 273 #[pt B.pb] w λr w'=>∃ ad c,r=.returned (.tuple #[.slice ad 128 c,.int .i64 (lX s).2])∧U W w' (Sl 5 1 ad 128 c (bc (lX s).1)::aP W B p s::L):=by
 replace I:=aP.open I;have bD:=hw.wc.lu;have ib:s.k.ls.length≤8:=by rw[hw.wc.ls];exact hw.wc.n.2
 refine EN func273 ntmps273 rfl rfl λa E=>?_;refine RN 7 E I λa E=>?_;replace E:=E.aM 5;refine aX 2 (λw0 w'=>Rd w' B.pb 0 (gy p B s.g)) [4,8] [0,1,2,5,6,7,3003,3008,1004,1009,1010,11,12] E I λa w E I hH=>?_;have hC:=hH.at w (I.ai (b:=B.pb));refine RH 6 E I hH hC λa E=>?_;refine QH E (λw hc=>bT E underlying183 rfl Ty.t183 (zj hc)) hC λa E=>?_;refine QH E (λw hc=>ae E (hc 0 _ rfl)) hC λa E=>?_;refine RH 0 E I hH hC λa E=>?_;refine aY 0 E I (yY I) λad c a w E I=>?_;replace hC:=hH.at w (I.ai (b:=B.pb));refine RH 0 E I hH hC λa E=>?_;refine CL 0 E I (o9 (I.pick (az B.core s.k))) λa w E I=>?_;obtain⟨D,I,hD⟩:=az.qu I;refine CL 0 E I (se I bD ib) λa w E I=>?_;refine RN 2 E I λa E=>?_;replace I:=hD _ _ I;refine RT 0 E I ?_;exact⟨ad,c,rfl,(aP.fold I B p s).sub (M:=Sl 5 1 ad 128 c (bc (gu s.g))::aP W B p s::L)⟩
theorem M3 (I:U W w (aP W B p s::L))(hw:cu p s)(a6:dk p)(aH:p.title.size≤1000000000)(fE:cY B.gs):Calls prog 276 #[pt B.pb] w λr w'=>∃ ad c,r=.returned (.tuple #[.slice ad 128 c,.int .i64 (fD p B.gs s).2])∧U W w' (Sl 5 1 ad 128 c (bc (fD p B.gs s).1)::aP W B p s::L):=by
 have bD:=hw.wc.lu;have ib:s.k.ls.length≤8:=by rw[hw.wc.ls];exact hw.wc.n.2
 have gW:=hw.wc.lV;have fw:aU s.k.ls≤aG s.k:=hw.wc.nF;refine EN func276 ntmps276 rfl rfl λa E=>?_;refine CL 5 E I (oh I) λa w E I=>?_;replace I:=aP.open I;refine CL 0 E I (o9 (I.pick (az B.core s.k))) λa w E I=>?_;obtain⟨D,I,hD⟩:=az.qu I;refine CL 0 E I (se I bD ib) λa w E I=>?_;refine RN 1 E I λa E=>?_;replace I:=(aP.fold (hD _ _ I) B p s);refine RN 5 E I λa E=>?_;replace E:=E.aM 11;refine RN 3 E I λa E=>?_;replace I:=aP.open I;refine CL 1 E I (tI (I.pick (az B.core s.k)) hw.wc) λa w E I=>?_;replace I:=(aP.fold I B p s);refine IF 3 E I (λaj a E=>?_) λaj a E=>?_
 ·
  refine aY 2 E I (M1 I hw) λad c a w E I=>?_;refine RT 4 E I ?_;refine⟨ad,c,?_,?_⟩
  ·rw[fD,ak (by rw[aw];omega)]
  ·rw[fD,ak (by rw[aw];omega)];exact I
 refine RN 1 E I λa E=>?_;replace I:=aP.open I;refine aX 0 (λw0 w'=>Rd w' B.pb 0 (gy p B s.g)) [7,12,13,17,21,22,23,24,25,29] [0,1,2,4,5,6,8,9,10,11,14,15,16,18,19,20,26,27,28,3003,3007,3012,3017,3021,3029,1013,1022,1023,1024,1025,1030,31,32] E I λa w E I hH=>?_;have hC:=hH.at w (I.ai (b:=B.pb));refine RH 19 E I hH hC λa E=>?_;refine QH E (λw hc=>bT E underlying45 rfl Ty.t45 (MS hc)) hC λa E=>?_;refine QH E (λw hc=>bT E underlying183 rfl Ty.t183 (zj hc)) hC λa E=>?_;refine QH E (λw hc=>ae E (hc 0 _ rfl)) hC λa E=>?_;refine QH E (λw hc=>bT E underlying186 rfl Ty.t186 (MT hc)) hC λa E=>?_;refine QH E (λw hc=>ae E (hc 0 _ rfl)) hC λa E=>?_;refine QH E (λw hc=>ae E (hc 0 _ rfl)) hC λa E=>?_;refine RH 0 E I hH hC λa E=>?_;refine CL 0 E I (o9 (I.pick (az B.core s.k))) λa w E I=>?_;replace hC:=hH.at w (I.ai (b:=B.pb));refine RH 0 E I hH hC λa E=>?_;refine CL 0 E I (tI (I.pick (az B.core s.k)) hw.wc) λa w E I=>?_;replace hC:=hH.at w (I.ai (b:=B.pb));obtain⟨D,I,hD⟩:=az.qu I;refine RH 0 E I hH hC λa E=>?_;refine j2 0 E I (GC (r:=0) (to:=aG s.k) (.inl rfl) (by decide) I fE bD ib hw.wc.nE gW (λw' df=>(df.pick (Sl 5 1 B.adT B.gs.table.length B.cT (bc B.gs.table))).cv B.adT _ rfl rfl)) λfY gk X a w E ⟨⟨tQ,iy⟩,I⟩=>?_;replace hC:=hH.at w (I.ai (b:=B.pb));have mX:=iy rfl;subst mX;rw[xk]at I;have ig:(dv B.gs s.k.ls (aG s.k)).length=aG s.k-aU s.k.ls:=w5 _ _ _;have m0:∀ b∈dv B.gs s.k.ls (aG s.k),b.length≤1099511627776:=λb hb=>by
  rw[dv,cR]at hb;obtain⟨i,_,rfl⟩:=hb;rw[nC,jj,a8];omega
 obtain⟨zs,cV,eQ,I⟩:=ch.open I;rw[← ig]at E I;refine RH 0 E I hH hC λa E=>?_;refine CL 0 E I (Mz (P:=dv B.gs s.k.ls (aG s.k)) (zs:=zs) (fr:=aU s.k.ls) (L:=Sl 22 1 fY (dv B.gs s.k.ls (aG s.k)).length gk (zs.map aL)::ah a7 zs::Qu B.core.qb B.core.aB s.k.ls::D::aa B.pb 192 (gy p B s.g)::Sl 5 1 B.adT B.gs.table.length B.cT (bc B.gs.table)::L) (I.sub (M:=aA W p B.aq B.cO::Sl 22 1 fY (dv B.gs s.k.ls (aG s.k)).length gk (zs.map aL)::ah a7 zs::Qu B.core.qb B.core.aB s.k.ls::D::aa B.pb 192 (gy p B s.g)::Sl 5 1 B.adT B.gs.table.length B.cT (bc B.gs.table)::L)) a6 aH (hw.qc a6) ⟨by omega,m0⟩ (by omega) cV (λw' df=>U.mF (df.sub (M:=Sl 22 1 fY (dv B.gs s.k.ls (aG s.k)).length gk (zs.map aL)::ah a7 zs::[])))) λa w E I=>?_;replace hC:=hH.at w (I.ai (b:=B.pb));refine RH 0 E I hH hC λa E=>?_;refine aY 0 E I (yY I) λad2 c2 a w E I=>?_;replace hC:=hH.at w (I.ai (b:=B.pb));replace I:=hD _ _ (I.sub (M:=Qu B.core.qb B.core.aB s.k.ls::D::Sl 5 1 ad2 128 c2 (bc (gu (foldI p (aU s.k.ls) s.g (dv B.gs s.k.ls (aG s.k)))))::aa B.pb 192 (gy p B s.g)::aA W p B.aq B.cO::Sl 5 1 B.adT B.gs.table.length B.cT (bc B.gs.table)::L));refine RH 0 E I hH hC λa E=>?_;refine CL 0 E I (tI I hw.wc) λa w E I=>?_;refine RN 2 E I λa E=>?_;refine RT 0 E I ?_;refine⟨ad2,c2,?_,?_⟩
 ·rw[fD,ag (by rw[aw];omega)]
 ·rw[fD,ag (by rw[aw];omega)];exact (aP.fold I B p s).sub (M:=Sl 5 1 ad2 128 c2 (bc (gu (foldI p (aU s.k.ls) s.g (dv B.gs s.k.ls (aG s.k)))))::aP W B p s::L)
end
theorem M4 {cf:Cf}(h:eW cf):∃ (n me aK br:Nat),cf=⟨n,me,cf.id,aK,br,cf.bg,cf.order,cf.cw,cf.workers,cf.room⟩:=by
 obtain⟨⟨h1,h2,h3⟩,⟨h4,h5,h6,h7⟩,h8,h9,fh,lN⟩:=h;simp only[fB] at *;refine⟨cf.n.toNat,cf.me.toNat,cf.aK.toNat,cf.br.toNat,?_⟩;rw[Int.toNat_of_nonneg (by omega),Int.toNat_of_nonneg (by omega),Int.toNat_of_nonneg (by omega),Int.toNat_of_nonneg (by omega)]
section
variable {W w:World}{L:List SP}{cP cT n me aK br:Nat}{adP adT:Option Addr}{p:Pr}{tb:List UInt8}{cf:Cf}{id bg order cw workers room:Int}
theorem aap (I:U W w (aA W p adP cP::L))(h:¬ eW cf)(eM:tb.length≤1099511627776)(hT:∀ w',U W w' (aA W p adP cP::L)→aW w' adT tb.length tb) :
   Calls prog 60 #[.agg (bV cf).toArray,.agg (bP p adP cP).toArray,.slice adT tb.length cT] w λr w'=>r=.returned (.tuple #[.pointer none,.int .i64 1])∧U W w' (aA W p adP cP::L):=by
 refine EN func60 ntmps60 rfl rfl λa E=>?_;refine BX 1 E I λb3 a w E I=>?_;change U W w (aa b3 28 (bV cf)::_) at I;refine BX 0 E I λb4 a w E I=>?_;change U W w (aa b4 45 (bP p adP cP)::_) at I;refine RN 2 E I λa E=>?_;refine cd (M:=λa w=>∃ (b8:Nat) (eg:Option Addr) (dJ:Nat),Fr a 48 [(3,pt b3),(4,pt b4),(8,pt b8)]∧U W w (aa b8 186 (dp ⟨cf.bg,cf.order,tb⟩ eg dJ)::Sl 5 1 eg tb.length dJ (bc tb)::aa b3 28 (bV cf)::aa b4 45 (bP p adP cP)::aA W p adP cP::L)) ?_ ?_
 ·
  refine aX 0 (λw0 w'=>Rd w' b3 0 (bV cf)) [3,5,7] [0,2,4,3001,3003,2005,6,1007,1008] E I λa w E I hH=>?_;have hC:=hH.at w (I.ai (b:=b3));refine RH 3 E I hH hC λa E=>?_;refine QH E (λw hc=>ae E (hc 5 _ rfl)) hC λa E=>?_;refine QH E (λw hc=>ae E (hc 6 _ rfl)) hC λa E=>?_;refine RH 0 E I hH hC λa E=>?_;refine DN [(5,[6,1007,1008]),(7,[1005,6,1008])] (by kernel_rfl) rfl ⟨⟨_,rfl,?_⟩,⟨_,rfl,?_⟩,trivial⟩
  ·
   refine RH 0 E I hH hC λa E=>?_;refine aY 0 E I (sY (bs:=tb) I (λw' hw=>hT w' hw.sub) eM) λeg dJ a w E I=>?_;replace hC:=hH.at w (I.ai (b:=b3));refine RH 1 E I hH hC λa E=>?_;refine e0 E rfl I Ty.t186 rfl λb8 a w E I ho=>?_;clear ho;replace hC:=hH.at w (I.ai (b:=b3));refine RH 0 E I hH hC λa E=>?_;refine SA 0 E I λa w E I=>?_;refine RN 0 E I λa E=>?_;exact⟨_,eg,dJ,E.ab [3,4,8],I.sub (M:=aa b8 186 [.int .i64 cf.bg,.int .i64 cf.order,.slice eg tb.length dJ]::Sl 5 1 eg tb.length dJ (bc tb)::aa b3 28 (bV cf)::aa b4 45 (bP p adP cP)::aA W p adP cP::L)⟩
  refine RH 0 E I hH hC λa E=>?_;refine e0 E rfl I Ty.t186 rfl λb8 a w E I ho=>?_;clear ho;replace hC:=hH.at w (I.ai (b:=b3));refine RH 0 E I hH hC λa E=>?_;refine aY 0 E I (sY (bs:=tb) I (λw' hw=>hT w' hw.sub) eM) λeg dJ a w E I=>?_;replace hC:=hH.at w (I.ai (b:=b3));refine RH 1 E I hH hC λa E=>?_;refine SA 0 E I λa w E I=>?_;refine RN 0 E I λa E=>?_;exact⟨_,eg,dJ,E.ab [3,4,8],I.sub (M:=aa b8 186 [.int .i64 cf.bg,.int .i64 cf.order,.slice eg tb.length dJ]::Sl 5 1 eg tb.length dJ (bc tb)::aa b3 28 (bV cf)::aa b4 45 (bP p adP cP)::aA W p adP cP::L)⟩
 clear E;(try clear I);rintro a w ⟨b8,eg,dJ,E,I⟩;refine CL 2 E I (ZK I h) λa w E I=>?_;refine RN 9 E I λa E=>?_;rw[show decide ((1:Int)≠0)=true from rfl]at E;refine RN 1 E I λa E=>?_;replace E:=E.ei 26;refine RT 13 E I ?_;exact⟨rfl,I.sub⟩
theorem aaq (I:U W w (aA W p adP cP::L))(hm:eW ⟨n,me,id,aK,br,bg,order,cw,workers,room⟩)(h:¬ (dk p∧cY ⟨bg,order,tb⟩))(aH:p.title.size≤1000000000)(dY:p.ops.length≤1000000000)(eM:tb.length≤1099511627776)(hT:∀ w',U W w' (aA W p adP cP::L)→aW w' adT tb.length tb) :
   Calls prog 60 #[.agg (bV ⟨n,me,id,aK,br,bg,order,cw,workers,room⟩).toArray,.agg (bP p adP cP).toArray,.slice adT tb.length cT] w λr w'=>r=.returned (.tuple #[.pointer none,.int .i64 1])∧U W w' (aA W p adP cP::L):=by
 obtain⟨cf,dc⟩:∃ cf:Cf,cf=⟨n,me,id,aK,br,bg,order,cw,workers,room⟩:=⟨_,rfl⟩;rw[← dc];have hg:cf.bg=bg∧cf.order=order:=by rw[dc];exact⟨rfl,rfl⟩
 refine EN func60 ntmps60 rfl rfl λa E=>?_;refine BX 1 E I λb3 a w E I=>?_;change U W w (aa b3 28 (bV cf)::_) at I;refine BX 0 E I λb4 a w E I=>?_;change U W w (aa b4 45 (bP p adP cP)::_) at I;refine RN 2 E I λa E=>?_;refine cd (M:=λa w=>∃ (b8:Nat) (eg:Option Addr) (dJ:Nat),Fr a 48 [(3,pt b3),(4,pt b4),(8,pt b8)]∧U W w (aa b8 186 (dp ⟨cf.bg,cf.order,tb⟩ eg dJ)::Sl 5 1 eg tb.length dJ (bc tb)::aa b3 28 (bV cf)::aa b4 45 (bP p adP cP)::aA W p adP cP::L)) ?_ ?_
 ·
  refine aX 0 (λw0 w'=>Rd w' b3 0 (bV cf)) [3,5,7] [0,2,4,3001,3003,2005,6,1007,1008] E I λa w E I hH=>?_;have hC:=hH.at w (I.ai (b:=b3));refine RH 3 E I hH hC λa E=>?_;refine QH E (λw hc=>ae E (hc 5 _ rfl)) hC λa E=>?_;refine QH E (λw hc=>ae E (hc 6 _ rfl)) hC λa E=>?_;refine RH 0 E I hH hC λa E=>?_;refine DN [(5,[6,1007,1008]),(7,[1005,6,1008])] (by kernel_rfl) rfl ⟨⟨_,rfl,?_⟩,⟨_,rfl,?_⟩,trivial⟩
  ·
   refine RH 0 E I hH hC λa E=>?_;refine aY 0 E I (sY (bs:=tb) I (λw' hw=>hT w' hw.sub) eM) λeg dJ a w E I=>?_;replace hC:=hH.at w (I.ai (b:=b3));refine RH 1 E I hH hC λa E=>?_;refine e0 E rfl I Ty.t186 rfl λb8 a w E I ho=>?_;clear ho;replace hC:=hH.at w (I.ai (b:=b3));refine RH 0 E I hH hC λa E=>?_;refine SA 0 E I λa w E I=>?_;refine RN 0 E I λa E=>?_;exact⟨_,eg,dJ,E.ab [3,4,8],I.sub (M:=aa b8 186 [.int .i64 cf.bg,.int .i64 cf.order,.slice eg tb.length dJ]::Sl 5 1 eg tb.length dJ (bc tb)::aa b3 28 (bV cf)::aa b4 45 (bP p adP cP)::aA W p adP cP::L)⟩
  refine RH 0 E I hH hC λa E=>?_;refine e0 E rfl I Ty.t186 rfl λb8 a w E I ho=>?_;clear ho;replace hC:=hH.at w (I.ai (b:=b3));refine RH 0 E I hH hC λa E=>?_;refine aY 0 E I (sY (bs:=tb) I (λw' hw=>hT w' hw.sub) eM) λeg dJ a w E I=>?_;replace hC:=hH.at w (I.ai (b:=b3));refine RH 1 E I hH hC λa E=>?_;refine SA 0 E I λa w E I=>?_;refine RN 0 E I λa E=>?_;exact⟨_,eg,dJ,E.ab [3,4,8],I.sub (M:=aa b8 186 [.int .i64 cf.bg,.int .i64 cf.order,.slice eg tb.length dJ]::Sl 5 1 eg tb.length dJ (bc tb)::aa b3 28 (bV cf)::aa b4 45 (bP p adP cP)::aA W p adP cP::L)⟩
 clear E;(try clear I);rintro a w ⟨b8,eg,dJ,E,I⟩;refine RN 2 E I λa E=>?_;rw[dc]at E;refine bj 0 E I (L8 I hm) λBc a w E I=>?_;refine RN 9 E I λa E=>?_;rw[show decide ((0:Int)≠0)=false from rfl]at E;refine RN 1 E I λa E=>?_;replace E:=E.aM 26;refine bj 1 E I (EE (I.pick (aA W p adP cP)) aH dY) λrc a w E ⟨jT,I⟩=>?_;refine BY 3 E I (λjS a E=>?_) λjS a E=>?_
 ·
  refine RT 8 E I ?_;exact⟨rfl,I.sub⟩
 refine bj 1 E I (ze I) λaar a w E ⟨fk,I⟩=>?_;refine IF 2 E I (λaj a E=>?_) λaj a E=>?_
 ·
  refine RT 3 E I ?_;exact⟨rfl,I.sub⟩
 exact absurd ⟨jT.1 jS,by have:=fk.1 aj;rw[hg.1,hg.2]at this;exact this⟩ h
theorem M5 (I:U W w (aA W p adP cP::L))(hm:eW ⟨n,me,id,aK,br,bg,order,cw,workers,room⟩)(a6:dk p)(fE:cY ⟨bg,order,tb⟩)(aH:p.title.size≤1000000000)(dY:p.ops.length≤1000000000)(eM:tb.length≤1099511627776)(hT:∀ w',U W w' (aA W p adP cP::L)→aW w' adT tb.length tb) :
   Calls prog 60 #[.agg (bV ⟨n,me,id,aK,br,bg,order,cw,workers,room⟩).toArray,.agg (bP p adP cP).toArray,.slice adT tb.length cT] w λr w'=>∃ B:jo,r=.returned (.tuple #[pt B.pb,.int .i64 0])∧B.gs=⟨bg,order,tb⟩ ∧
    U W w' (aP W B p (eA p ⟨n,me,id,aK,br,bg,order,cw,workers,room⟩)::aA W p adP cP::L):=by
 obtain⟨cf,dc⟩:∃ cf:Cf,cf=⟨n,me,id,aK,br,bg,order,cw,workers,room⟩:=⟨_,rfl⟩;rw[← dc];have hg:cf.bg=bg∧cf.order=order:=by rw[dc];exact⟨rfl,rfl⟩
 have af7:1≤p.ops.length∧p.ops.length≤64:=⟨a6.1.2.1,a6.1.2.2.1⟩;refine EN func60 ntmps60 rfl rfl λa E=>?_;refine BX 1 E I λb3 a w E I=>?_;change U W w (aa b3 28 (bV cf)::_) at I;refine BX 0 E I λb4 a w E I=>?_;change U W w (aa b4 45 (bP p adP cP)::_) at I;refine RN 2 E I λa E=>?_;refine cd (M:=λa w=>∃ (b8:Nat) (eg:Option Addr) (dJ:Nat),Fr a 48 [(3,pt b3),(4,pt b4),(8,pt b8)]∧U W w (aa b8 186 (dp ⟨cf.bg,cf.order,tb⟩ eg dJ)::Sl 5 1 eg tb.length dJ (bc tb)::aa b3 28 (bV cf)::aa b4 45 (bP p adP cP)::aA W p adP cP::L)) ?_ ?_
 ·
  refine aX 0 (λw0 w'=>Rd w' b3 0 (bV cf)) [3,5,7] [0,2,4,3001,3003,2005,6,1007,1008] E I λa w E I hH=>?_;have hC:=hH.at w (I.ai (b:=b3));refine RH 3 E I hH hC λa E=>?_;refine QH E (λw hc=>ae E (hc 5 _ rfl)) hC λa E=>?_;refine QH E (λw hc=>ae E (hc 6 _ rfl)) hC λa E=>?_;refine RH 0 E I hH hC λa E=>?_;refine DN [(5,[6,1007,1008]),(7,[1005,6,1008])] (by kernel_rfl) rfl ⟨⟨_,rfl,?_⟩,⟨_,rfl,?_⟩,trivial⟩
  ·
   refine RH 0 E I hH hC λa E=>?_;refine aY 0 E I (sY (bs:=tb) I (λw' hw=>hT w' hw.sub) eM) λeg dJ a w E I=>?_;replace hC:=hH.at w (I.ai (b:=b3));refine RH 1 E I hH hC λa E=>?_;refine e0 E rfl I Ty.t186 rfl λb8 a w E I ho=>?_;clear ho;replace hC:=hH.at w (I.ai (b:=b3));refine RH 0 E I hH hC λa E=>?_;refine SA 0 E I λa w E I=>?_;refine RN 0 E I λa E=>?_;exact⟨_,eg,dJ,E.ab [3,4,8],I.sub (M:=aa b8 186 [.int .i64 cf.bg,.int .i64 cf.order,.slice eg tb.length dJ]::Sl 5 1 eg tb.length dJ (bc tb)::aa b3 28 (bV cf)::aa b4 45 (bP p adP cP)::aA W p adP cP::L)⟩
  refine RH 0 E I hH hC λa E=>?_;refine e0 E rfl I Ty.t186 rfl λb8 a w E I ho=>?_;clear ho;replace hC:=hH.at w (I.ai (b:=b3));refine RH 0 E I hH hC λa E=>?_;refine aY 0 E I (sY (bs:=tb) I (λw' hw=>hT w' hw.sub) eM) λeg dJ a w E I=>?_;replace hC:=hH.at w (I.ai (b:=b3));refine RH 1 E I hH hC λa E=>?_;refine SA 0 E I λa w E I=>?_;refine RN 0 E I λa E=>?_;exact⟨_,eg,dJ,E.ab [3,4,8],I.sub (M:=aa b8 186 [.int .i64 cf.bg,.int .i64 cf.order,.slice eg tb.length dJ]::Sl 5 1 eg tb.length dJ (bc tb)::aa b3 28 (bV cf)::aa b4 45 (bP p adP cP)::aA W p adP cP::L)⟩
 clear E;(try clear I);rintro a w ⟨b8,eg,dJ,E,I⟩;refine RN 2 E I λa E=>?_;rw[dc]at E;refine bj 0 E I (L8 I hm) λBc a w E I=>?_;rw[← dc]at I;refine RN 9 E I λa E=>?_;rw[show decide ((0:Int)≠0)=false from rfl]at E;refine RN 1 E I λa E=>?_;replace E:=E.aM 26;refine bj 1 E I (EE (I.pick (aA W p adP cP)) aH dY) λrc a w E ⟨jT,I⟩=>?_;rw[jT.2 a6]at E;refine RN 1 E I λa E=>?_;rw[show (!true)=false from rfl]at E;refine RN 2 E I λa E=>?_;replace E:=E.aM 31;refine bj 1 E I (ze I) λaar a w E ⟨fk,I⟩=>?_;rw[fk.2 (by rw[hg.1,hg.2];exact fE)]at E;refine RN 2 E I λa E=>?_;replace E:=E.aM 35;refine RN 2 E I λa E=>?_;replace I:=I.bN 114 4 none;rw[bP]at I;refine RN 2 E I λa E=>?_;refine g9 E rfl I underlying43 Ty.t114 rfl rfl (by decide) (λh0=>(I.pick (aA W p adP cP)).rQ adP h0) (by rw[jv Ee]) (Af J2 _) (by omega) λoO oP a w E I=>?_;rw[nil_append,eE]at I;rw[eE]at E;refine ST 1 E I (λa w E I=>?_);refine RN 0 E I λa E=>?_;replace I:U W w (aa b4 45 [.string p.title,.slice oO p.ops.length oP]::Sl 114 4 oO p.ops.length oP (rows dQ p.ops)::_):=I;refine RN 4 E I λa E=>?_;simp only[dp]at E;refine BX 1 E I λvk a w E I=>?_;refine RN 1 E I λa E=>?_;replace I:=(I.pick (Sl 114 4 oO p.ops.length oP (rows dQ p.ops))).Eg;replace I:U W w (aa vk 192 (gy p ⟨vk,Bc,oO,oP,eg,dJ,⟨cf.bg,cf.order,tb⟩⟩ o6)::az Bc (fm cf)::aA W p oO oP::Sl 5 1 eg tb.length dJ (bc tb)::aA W p adP cP::L):=by
  have dz:U W w (aA W p oO oP::_):=I;have uD:=dz.jX vk;exact U.sub (M:=_::az Bc (fm cf)::aA W p oO oP::Sl 5 1 eg tb.length dJ (bc tb)::aA W p adP cP::L) (show U W w (aa vk 192 (gy p ⟨vk,Bc,oO,oP,eg,dJ,⟨cf.bg,cf.order,tb⟩⟩ o6)::_) from uD)
 replace I:=aP.fold I ⟨vk,Bc,oO,oP,eg,dJ,⟨cf.bg,cf.order,tb⟩⟩ p ⟨fm cf,o6⟩;refine CL 2 E I (GD I (xe (by rw[dc];exact hm)) a6 aH) λa w E I=>?_;refine RT 4 E I ?_;exact⟨⟨vk,Bc,oO,oP,eg,dJ,⟨cf.bg,cf.order,tb⟩⟩,rfl,by rw[hg.1,hg.2],I⟩
end
end
section
structure zk (W:World)(L:List SP)(f:FuncId)(us:List Value):Prop where
 c:hQ prog f=true
 h:∀ {w:World} {M:List SP} {x y:UInt8},U W w M→(∀ {w'},U W w' M→U W w' L)→Calls prog f (List.toArray (.int .u8 (x.toNat:Nat)::.int .u8 (y.toNat:Nat)::us)) w λe w'=>∃ z:Int,e=.returned (.int .i64 z)∧U W w' M
abbrev hK (bb oo m c:Nat)(xs:List UInt8):SP:=Sl 5 1 (some ⟨bb,oo,none⟩) m c (bc xs)
abbrev sv (bb oo m c:Nat):Value:=.slice (some ⟨bb,oo,none⟩) m c
abbrev kG (f:FuncId)(us:List Value):Value:=.func (.func f) #[] us.toArray
theorem tR (bs:List UInt8)(i:Nat)(x:UInt8):(bc bs).set i (.int .u8 (x.toNat:Int))=bc (bs.set i x):=by rw[bc,bc,jy]
theorem BU {n:Nat}(h:n≤9223372036854775807):IntKind.u64.wrap (n:Int)=n:=by rw[wrap_u64];omega
section
variable {W w:World}{L:List SP}{bb oo m c lo up f n k:Nat}{us:List Value}{xs:List UInt8}
theorem M6 (I:U W w (hK bb oo m c xs::L))(hF:zk W L f us)(hx:xs.length=m)(hb:up≤m)(hm:m≤1000)(ha0:lo≤m) :
   Calls prog 340 #[sv bb oo m c,.int .i64 lo,.int .i64 up,kG f us] w λe w'=>∃ ys:List UInt8,e=.returned (.tuple #[])∧ys.length=m∧U W w' (hK bb oo m c ys::L):=by
 refine EN func340 ntmps340 rfl rfl λa E=>?_;refine RN 4 E I λa E=>?_;refine aQ (λμ a w=>∃ (i:Nat) (ys:List UInt8),(μ=up-i∧lo<i∧ys.length=m)∧Fr a 53 [(0,sv bb oo m c),(1,.int .i64 lo),(2,.int .i64 up),(3,kG f us),(8,.int .i64 i)]∧U W w (hK bb oo m c ys::L)) (up-(lo+1)) (⟨lo+1,xs,⟨rfl,by omega,hx⟩,E.ab [0,1,2,3,8],I⟩) ?_;clear E I;rintro μ a w ⟨i,ys,⟨rfl,hi,hy⟩,E,I⟩;refine IF 5 E I (λaj a E=>?_) λaj a E=>?_
 ·
  have him:i<m:=by omega
  refine RN 4 E I λa E=>?_;refine aQ (λμ a w=>∃ (j:Nat) (zs:List UInt8),(μ=j∧j≤i∧zs.length=m)∧Fr a 53 [(0,sv bb oo m c),(1,.int .i64 lo),(2,.int .i64 up),(3,kG f us),(8,.int .i64 i),(9,.int .i64 j)]∧U W w (hK bb oo m c zs::L)) (i) (⟨i,ys,⟨rfl,bf _,hy⟩,E.ab [0,1,2,3,8,9],I⟩) ?_;clear E I;rintro μ a w ⟨j,zs,⟨yu,hj,hz⟩,E,I⟩;have M7:j<zs.length:=by omega
  have M8:j-1<zs.length:=by omega
  refine bS 2 [13] [0,1,2,3,4,5,6,7,9,10,11,12,3008,1013,1014,15,16] E I λa w E I hH hC=>?_;have hr:Rd w bb oo (bc zs):=I.cK bb oo (by omega);refine RH 4 E I hH hC λa E=>?_;refine E.by (s:=21) (λbX E=>?_) (λbX E=>?_)
  ·
   refine RH 7 E I hH hC λa E=>?_;rw[show (j:Int)-1=((j-1:Nat):Int) from by omega]at E;refine RH 1 E I hH hC λa E=>?_;refine QH E (λw hc=>ae E (hc.cell (hr j _ (dT M7)))) hC λa E=>?_;refine RH 0 E I hH hC λa E=>?_;refine bm E (bQ E rfl (s:=21)) (ae E (hr (j-1) _ (dT M8))) rfl λa E=>?_;refine RH 0 E I hH hC λa E=>?_;refine bj 0 E I (hF.h I λh=>h.tail) (hf:=hF.c) λz a w E I=>?_;refine RN 2 E I λa E=>?_;refine IF 0 E I (λao a E=>?_) λao a E=>?_
   ·
    refine bS 1 [13] [0,1,2,3,4,5,6,7,8,10,11,12,3009,1013,14,1015,16,1017] E I λa w E I hH hC=>?_;have hr:Rd w bb oo (bc zs):=I.cK bb oo (by omega);refine RH 5 E I hH hC λa E=>?_;rw[show (j:Int)-1=((j-1:Nat):Int) from by omega]at E;refine RH 3 E I hH hC λa E=>?_;rw[show (j:Int)-1=((j-1:Nat):Int) from by omega]at E;refine RH 4 E I hH hC λa E=>?_;refine QH E (λw hc=>ae E (hc.cell (hr (j-1) _ (dT M8)))) hC λa E=>?_;refine RH 0 E I hH hC λa E=>?_;refine SS E (ae E (hr j _ (dT M7))) λa E=>?_;refine RH 1 E I hH hC λa E=>?_;refine mB (off:=oo) (k:=j) E rfl I Ty.t5 rfl (by omega) (by rw[dy];omega) λa w E I=>?_;rw[tR]at I;refine RN 1 E I λa E=>?_;refine mB (off:=oo) (k:=j-1) E rfl I Ty.t5 rfl (by omega) (by rw[dy,bw];omega) λa w E I=>?_;rw[tR]at I;refine RN 2 E I λa E=>?_;rw[show (j:Int)-1=((j-1:Nat):Int) from by omega]at E;refine RN 1 E I λa E=>?_;exact⟨j-1,by omega,j-1,_,⟨rfl,by omega,by simp[hz]⟩,E.ab [0,1,2,3,8,9],I⟩
   refine RN 3 E I λa E=>?_;exact⟨up-(i+1),by omega,i+1,zs,⟨rfl,by omega,hz⟩,E.ab [0,1,2,3,8],I⟩
  refine RH 13 E I hH hC λa E=>?_;refine RN 4 E I λa E=>?_;exact⟨up-(i+1),by omega,i+1,zs,⟨rfl,by omega,hz⟩,E.ab [0,1,2,3,8],I⟩
 refine RT 0 E I ?_;exact⟨ys,rfl,hy,I⟩
theorem GG (I:U W w (hK bb oo m c xs::L))(hx:xs.length=m)(h1:lo+n≤m)(h2:up+n≤m)(hm:m≤1000) :
   Calls prog 344 #[sv bb oo m c,.int .i64 lo,.int .i64 up,.int .i64 n,kG f us] w λe w'=>∃ ys:List UInt8,e=.returned (.tuple #[])∧ys.length=m∧U W w' (hK bb oo m c ys::L):=by
 refine EN func344 ntmps344 rfl rfl λa E=>?_;refine RN 2 E I λa E=>?_;refine aQ (λμ a w=>∃ (i:Nat) (zs:List UInt8),(μ=n-i∧i≤n∧zs.length=m)∧Fr a 38 [(0,sv bb oo m c),(1,.int .i64 lo),(2,.int .i64 up),(3,.int .i64 n),(10,.int .i64 i)]∧U W w (hK bb oo m c zs::L)) (n) (⟨0,xs,⟨rfl,Nat.zero_le _,hx⟩,E.ab [0,1,2,3,10],I⟩) ?_;clear E I;rintro μ a w ⟨i,zs,⟨rfl,hi,hz⟩,E,I⟩;refine IF 5 E I (λaj a E=>?_) λaj a E=>?_
 ·
  have jf:lo+i<zs.length:=by omega
  have j7:up+i<zs.length:=by omega
  refine bS 1 [19] [0,1,2,3,4,5,6,7,8,9,10,11,12,14,15,16,17,18,3013,1019,20,1021,22,1023] E I λa w E I hH hC=>?_;have hr:Rd w bb oo (bc zs):=I.cK bb oo (by omega);refine RH 18 E I hH hC λa E=>?_;refine QH E (λw hc=>ae E (hc.cell (hr (up+i) _ (dT j7)))) hC λa E=>?_;refine RH 0 E I hH hC λa E=>?_;refine SS E (ae E (hr (lo+i) _ (dT jf))) λa E=>?_;refine RH 1 E I hH hC λa E=>?_;refine mB (off:=oo) (k:=lo+i) E rfl I Ty.t5 rfl (by omega) (by rw[dy];omega) λa w E I=>?_;rw[tR]at I;refine RN 1 E I λa E=>?_;refine mB (off:=oo) (k:=up+i) E rfl I Ty.t5 rfl (by omega) (by rw[dy,bw];omega) λa w E I=>?_;rw[tR]at I;refine RN 3 E I λa E=>?_;exact⟨n-(i+1),by omega,i+1,_,⟨rfl,by omega,by simp[hz]⟩,E.ab [0,1,2,3,10],I⟩
 refine RT 0 E I ?_;exact⟨zs,rfl,hz,I⟩
theorem rotate (I:U W w (hK bb oo m c xs::L))(hx:xs.length=m)(h1:lo<k)(h2:k<up)(h3:up≤m)(hm:m≤1000) :
   Calls prog 343 #[sv bb oo m c,.int .i64 lo,.int .i64 k,.int .i64 up,kG f us] w λe w'=>∃ ys:List UInt8,e=.returned (.tuple #[])∧ys.length=m∧U W w' (hK bb oo m c ys::L):=by
 refine EN func343 ntmps343 rfl rfl λa E=>?_;refine RN 4 E I λa E=>?_;rw[show (k:Int)-(lo:Int)=((k-lo:Nat):Int) from by omega]at E;refine RN 5 E I λa E=>?_;rw[show (up:Int)-(k:Int)=((up-k:Nat):Int) from by omega]at E;refine RN 2 E I λa E=>?_;refine aQ (λμ a w=>∃ (i j:Nat) (zs:List UInt8),(μ=i+j∧(1≤i∧1≤j)∧(i≤k∧k+j≤m)∧zs.length=m)∧Fr a 58 [(0,sv bb oo m c),(2,.int .i64 k),(4,kG f us),(10,.int .i64 i),(11,.int .i64 j)]∧U W w (hK bb oo m c zs::L)) (k-lo+(up-k)) (⟨k-lo,up-k,xs,⟨rfl,⟨by omega,by omega⟩,⟨by omega,by omega⟩,hx⟩,E.ab [0,2,4,10,11],I⟩) ?_;clear E I;rintro μ a w ⟨i,j,zs,⟨rfl,⟨hi,hj⟩,⟨pT,vl⟩,hz⟩,E,I⟩;refine IF 5 E I (λaj a E=>?_) λaj a E=>?_
 ·
  refine IF 4 E I (λao a E=>?_) λao a E=>?_
  ·
   refine RN 5 E I λa E=>?_;rw[show (k:Int)-(i:Int)=((k-i:Nat):Int) from by omega]at E;refine bj 3 E I (GG I hz (by omega) (by omega) hm) λys a w E ⟨hy,I⟩=>?_;refine RN 3 E I λa E=>?_;rw[show (i:Int)-(j:Int)=((i-j:Nat):Int) from by omega]at E;refine RN 1 E I λa E=>?_;exact⟨i-j+j,by omega,i-j,j,ys,⟨rfl,⟨by omega,by omega⟩,⟨by omega,by omega⟩,hy⟩,E.ab [0,2,4,10,11],I⟩
  refine RN 5 E I λa E=>?_;rw[show (k:Int)-(i:Int)=((k-i:Nat):Int) from by omega]at E;refine RN 5 E I λa E=>?_;rw[show (k:Int)+(j:Int)-(i:Int)=((k+j-i:Nat):Int) from by omega]at E;refine bj 2 E I (GG I hz (by omega) (by omega) hm) λys a w E ⟨hy,I⟩=>?_;refine RN 3 E I λa E=>?_;rw[show (j:Int)-(i:Int)=((j-i:Nat):Int) from by omega]at E;refine RN 1 E I λa E=>?_;exact⟨i+(j-i),by omega,i,j-i,ys,⟨rfl,⟨by omega,by omega⟩,⟨by omega,by omega⟩,hy⟩,E.ab [0,2,4,10,11],I⟩
 refine RN 4 E I λa E=>?_;rw[show (k:Int)-(i:Int)=((k-i:Nat):Int) from by omega]at E;refine bj 3 E I (GG I hz (by omega) (by omega) hm) λys a w E ⟨hy,I⟩=>?_;refine RT 0 E I ?_;exact⟨ys,rfl,hy,I⟩
theorem M9 (hF:zk W L f us)(hm:m≤1000):∀ (d:Nat) {w:World} {xs:List UInt8} {lo k up:Nat},up-lo≤d→xs.length=m→lo<k→k<up→up≤m→U W w (hK bb oo m c xs::L) →
   Calls prog 341 #[sv bb oo m c,.int .i64 lo,.int .i64 k,.int .i64 up,kG f us] w λe w'=>∃ ys:List UInt8,e=.returned (.tuple #[])∧ys.length=m∧U W w' (hK bb oo m c ys::L):=by
 intro d
 induction d with
 | zero=>intro w xs lo k up hd hx h1 h2 h3 I;omega
 | succ d ih =>
  intro w xs lo k up hd hx h1 h2 h3 I;refine EN func341 ntmps341 rfl rfl λa E=>?_;refine RN 5 E I λa E=>?_;rw[show (k:Int)-(lo:Int)=((k-lo:Nat):Int) from by omega]at E;refine IF 1 E I (λaj a E=>?_) λaj a E=>?_
  ·
   refine RN 7 E I λa E=>?_;refine aQ (λμ a w=>∃ (i j:Nat),(μ=j-i∧(k≤i∧i≤j)∧j≤up)∧Fr a 220 [(0,sv bb oo m c),(1,.int .i64 lo),(2,.int .i64 k),(4,kG f us),(10,.int .i64 i),(11,.int .i64 j)]∧U W w (hK bb oo m c xs::L)) (up-k) (⟨k,up,⟨rfl,⟨bf _,by omega⟩,bf _⟩,E.ab [0,1,2,4,10,11],I⟩) ?_;clear E I;rintro μ a w ⟨i,j,⟨rfl,⟨hi,oJ⟩,hj⟩,E,I⟩;refine IF 5 E I (λao a E=>?_) λao a E=>?_
   ·
    have mg:(i+j)/2<xs.length:=by omega
    have iw:lo<xs.length:=by omega
    refine RN 4 E I λa E=>?_;rw[show (i:Int)+(j:Int)=((i+j:Nat):Int) from rfl]at E;refine SX 0 E I (BU (by omega)) λa E=>?_;refine RN 1 E I λa E=>?_;rw[show (((i+j:Nat):Int).fdiv (2 ^ 1))=(((i+j)/2:Nat):Int) from lf (i+j) 2]at E;refine SX 0 E I (fH (by omega) (by omega)) λa E=>?_;refine bS 2 [8] [0,1,2,3,5,6,7,3004,1008,1009,10] E I λa w E I hH hC=>?_;have hr:Rd w bb oo (bc xs):=I.cK bb oo (by omega);refine RH 7 E I hH hC λa E=>?_;refine QH E (λw hc=>ae E (hc.cell (hr ((i+j)/2) _ (dT mg)))) hC λa E=>?_;refine RH 0 E I hH hC λa E=>?_;refine SS E (ae E (hr lo _ (dT iw))) λa E=>?_;refine RH 0 E I hH hC λa E=>?_;refine bj 0 E I (hF.h I λh=>h.tail) (hf:=hF.c) λz a w E I=>?_;refine RN 1 E I λa E=>?_;refine IF 0 E I (λay a E=>?_) λay a E=>?_
    ·
     refine RN 3 E I λa E=>?_;exact⟨j-((i+j)/2+1),by omega,(i+j)/2+1,j,⟨rfl,⟨by omega,by omega⟩,hj⟩,E.ab [0,1,2,4,10,11],I⟩
    refine RN 2 E I λa E=>?_;exact⟨(i+j)/2-i,by omega,i,(i+j)/2,⟨rfl,⟨hi,by omega⟩,by omega⟩,E.ab [0,1,2,4,10,11],I⟩
   refine RN 4 E I λa E=>?_;refine aQ (λμ a w=>∃ (q:Nat) (zs:List UInt8),(μ=i-q∧lo≤q∧zs.length=m)∧Fr a 220 [(0,sv bb oo m c),(10,.int .i64 i),(13,.int .i64 q)]∧U W w (hK bb oo m c zs::L)) (i-lo) (⟨lo,xs,⟨rfl,bf _,hx⟩,E.ab [0,10,13],I⟩) ?_;clear E I;rintro μ a w ⟨q,zs,⟨rfl,hq,hz⟩,E,I⟩;refine RN 5 E I λa E=>?_;rw[show (i:Int)-1=((i-1:Nat):Int) from by omega]at E;refine IF 1 E I (λbd a E=>?_) λbd a E=>?_
   ·
    have cV:q<zs.length:=by omega
    have eQ:q+1<zs.length:=by omega
    refine bS 1 [13] [0,1,2,3,4,5,6,7,8,10,11,12,3009,1013,14,1015,16,1017] E I λa w E I hH hC=>?_;have hr:Rd w bb oo (bc zs):=I.cK bb oo (by omega);refine RH 12 E I hH hC λa E=>?_;refine QH E (λw hc=>ae E (hc.cell (hr (q+1) _ (dT eQ)))) hC λa E=>?_;refine RH 0 E I hH hC λa E=>?_;refine SS E (ae E (hr q _ (dT cV))) λa E=>?_;refine RH 1 E I hH hC λa E=>?_;refine mB (off:=oo) (k:=q) E rfl I Ty.t5 rfl (by omega) (by rw[dy];omega) λa w E I=>?_;rw[tR]at I;refine RN 1 E I λa E=>?_;refine mB (off:=oo) (k:=q+1) E rfl I Ty.t5 rfl (by omega) (by rw[dy,bw];omega) λa w E I=>?_;rw[tR]at I;refine RN 3 E I λa E=>?_;exact⟨i-(q+1),by omega,q+1,_,⟨rfl,by omega,by simp[hz]⟩,E.ab [0,10,13],I⟩
   refine RT 0 E I ?_;exact⟨zs,rfl,hz,I⟩
  refine RN 5 E I λa E=>?_;rw[show (up:Int)-(k:Int)=((up-k:Nat):Int) from by omega]at E;refine IF 1 E I (λbF a E=>?_) λbF a E=>?_
  ·
   refine RN 7 E I λa E=>?_;refine aQ (λμ a w=>∃ (i j:Nat),(μ=j-i∧(lo≤i∧i≤j)∧j≤k)∧Fr a 220 [(0,sv bb oo m c),(2,.int .i64 k),(4,kG f us),(14,.int .i64 i),(15,.int .i64 j)]∧U W w (hK bb oo m c xs::L)) (k-lo) (⟨lo,k,⟨rfl,⟨bf _,by omega⟩,bf _⟩,E.ab [0,2,4,14,15],I⟩) ?_;clear E I;rintro μ a w ⟨i,j,⟨rfl,⟨hi,oJ⟩,hj⟩,E,I⟩;refine IF 5 E I (λeU a E=>?_) λeU a E=>?_
   ·
    have mg:(i+j)/2<xs.length:=by omega
    have iw:k<xs.length:=by omega
    refine RN 4 E I λa E=>?_;rw[show (i:Int)+(j:Int)=((i+j:Nat):Int) from rfl]at E;refine SX 0 E I (BU (by omega)) λa E=>?_;refine RN 1 E I λa E=>?_;rw[show (((i+j:Nat):Int).fdiv (2 ^ 1))=(((i+j)/2:Nat):Int) from lf (i+j) 2]at E;refine SX 0 E I (fH (by omega) (by omega)) λa E=>?_;refine bS 2 [8] [0,1,2,3,5,6,7,3004,1008,1009,10,11] E I λa w E I hH hC=>?_;have hr:Rd w bb oo (bc xs):=I.cK bb oo (by omega);refine RH 7 E I hH hC λa E=>?_;refine QH E (λw hc=>ae E (hc.cell (hr k _ (dT iw)))) hC λa E=>?_;refine RH 0 E I hH hC λa E=>?_;refine SS E (ae E (hr ((i+j)/2) _ (dT mg))) λa E=>?_;refine RH 0 E I hH hC λa E=>?_;refine bj 0 E I (hF.h I λh=>h.tail) (hf:=hF.c) λz a w E I=>?_;refine RN 2 E I λa E=>?_;refine IF 0 E I (λnn a E=>?_) λnn a E=>?_
    ·
     refine RN 3 E I λa E=>?_;exact⟨j-((i+j)/2+1),by omega,(i+j)/2+1,j,⟨rfl,⟨by omega,by omega⟩,hj⟩,E.ab [0,2,4,14,15],I⟩
    refine RN 2 E I λa E=>?_;exact⟨(i+j)/2-i,by omega,i,(i+j)/2,⟨rfl,⟨hi,by omega⟩,by omega⟩,E.ab [0,2,4,14,15],I⟩
   refine RN 4 E I λa E=>?_;refine aQ (λμ a w=>∃ (q:Nat) (zs:List UInt8),(μ=q∧q≤k∧zs.length=m)∧Fr a 220 [(0,sv bb oo m c),(14,.int .i64 i),(17,.int .i64 q)]∧U W w (hK bb oo m c zs::L)) (k) (⟨k,xs,⟨rfl,bf _,hx⟩,E.ab [0,14,17],I⟩) ?_;clear E I;rintro μ a w ⟨q,zs,⟨yu,hq,hz⟩,E,I⟩;refine IF 5 E I (λmO a E=>?_) λmO a E=>?_
   ·
    have cV:q<zs.length:=by omega
    have eQ:q-1<zs.length:=by omega
    refine bS 1 [13] [0,1,2,3,4,5,6,7,8,10,11,12,3009,1013,14,1015,16,1017] E I λa w E I hH hC=>?_;have hr:Rd w bb oo (bc zs):=I.cK bb oo (by omega);refine RH 5 E I hH hC λa E=>?_;rw[show (q:Int)-1=((q-1:Nat):Int) from by omega]at E;refine RH 3 E I hH hC λa E=>?_;rw[show (q:Int)-1=((q-1:Nat):Int) from by omega]at E;refine RH 4 E I hH hC λa E=>?_;refine QH E (λw hc=>ae E (hc.cell (hr (q-1) _ (dT eQ)))) hC λa E=>?_;refine RH 0 E I hH hC λa E=>?_;refine SS E (ae E (hr q _ (dT cV))) λa E=>?_;refine RH 1 E I hH hC λa E=>?_;refine mB (off:=oo) (k:=q) E rfl I Ty.t5 rfl (by omega) (by rw[dy];omega) λa w E I=>?_;rw[tR]at I;refine RN 1 E I λa E=>?_;refine mB (off:=oo) (k:=q-1) E rfl I Ty.t5 rfl (by omega) (by rw[dy,bw];omega) λa w E I=>?_;rw[tR]at I;refine RN 2 E I λa E=>?_;rw[show (q:Int)-1=((q-1:Nat):Int) from by omega]at E;refine RN 1 E I λa E=>?_;exact⟨q-1,by omega,q-1,_,⟨rfl,by omega,by simp[hz]⟩,E.ab [0,14,17],I⟩
   refine RT 0 E I ?_;exact⟨zs,rfl,hz,I⟩
  refine RN 4 E I λa E=>?_;rw[show (lo:Int)+(up:Int)=((lo+up:Nat):Int) from rfl]at E;refine SX 0 E I (BU (by omega)) λa E=>?_;refine RN 1 E I λa E=>?_;rw[show (((lo+up:Nat):Int).fdiv (2 ^ 1))=(((lo+up)/2:Nat):Int) from lf (lo+up) 2]at E;refine SX 0 E I (fH (by omega) (by omega)) λa E=>?_;refine RN 1 E I λa E=>?_;obtain⟨hL,Eo⟩:∃ hL,hL=(lo+up)/2:=⟨_,rfl⟩;rw[← Eo]at E;refine RN 8 E I λa E=>?_;refine cd (M:=λa w=>∃ s r:Nat,((lo≤s∧hL+k≤s+up)∧s≤r∧r≤hL∧r≤k)∧Fr a 220 [(0,sv bb oo m c),(1,.int .i64 lo),(2,.int .i64 k),(3,.int .i64 up),(4,kG f us),(18,.int .i64 hL),(19,.int .i64 ((hL:Int)+k)),(20,.int .i64 s),(21,.int .i64 r)]∧U W w (hK bb oo m c xs::L)) ?_ ?_
  ·
   refine IF 4 E I (λmP a E=>?_) λmP a E=>?_
   ·
    refine RN 4 E I λa E=>?_;rw[show (hL:Int)+(k:Int)-(up:Int)=((hL+k-up:Nat):Int) from by omega]at E;refine RN 3 E I λa E=>?_;exact⟨hL+k-up,hL,⟨⟨by omega,by omega⟩,by omega,by omega,by omega⟩,E.ab [0,1,2,3,4,18,19,20,21],I⟩
   refine RN 5 E I λa E=>?_;exact⟨lo,k,⟨⟨by omega,by omega⟩,by omega,by omega,by omega⟩,E.ab [0,1,2,3,4,18,19,20,21],I⟩
  clear E;(try clear I);rintro a w ⟨xp,BV,⟨⟨oz,dz⟩,uD,hs4,pX⟩,E,I⟩;refine RN 3 E I λa E=>?_;rw[show (hL:Int)+(k:Int)-1=((hL+k-1:Nat):Int) from by omega]at E;refine RN 2 E I λa E=>?_;refine aQ (λμ a w=>∃ (s r:Nat),(μ=r-s∧(lo≤s∧hL+k≤s+up)∧s≤r∧r≤hL∧r≤k)∧Fr a 220 [(0,sv bb oo m c),(1,.int .i64 lo),(2,.int .i64 k),(3,.int .i64 up),(4,kG f us),(18,.int .i64 hL),(19,.int .i64 ((hL:Int)+k)),(20,.int .i64 s),(21,.int .i64 r),(22,.int .i64 ((hL+k-1:Nat):Int))]∧U W w (hK bb oo m c xs::L)) (BV-xp) (⟨xp,BV,⟨rfl,⟨oz,dz⟩,uD,hs4,pX⟩,E.ab [0,1,2,3,4,18,19,20,21,22],I⟩) ?_;clear E I;rintro μ a w ⟨s,r,⟨rfl,⟨g1,iJ⟩,m8,m9,o0⟩,E,I⟩;refine IF 5 E I (λkc a E=>?_) λkc a E=>?_
  ·
   have mg:(s+r)/2<xs.length:=by omega
   have iw:hL+k-1-(s+r)/2<xs.length:=by omega
   refine RN 4 E I λa E=>?_;rw[show (s:Int)+(r:Int)=((s+r:Nat):Int) from rfl]at E;refine SX 0 E I (BU (by omega)) λa E=>?_;refine RN 1 E I λa E=>?_;rw[show (((s+r:Nat):Int).fdiv (2 ^ 1))=(((s+r)/2:Nat):Int) from lf (s+r) 2]at E;refine SX 0 E I (fH (by omega) (by omega)) λa E=>?_;refine bS 2 [10] [0,1,2,3,4,5,7,8,9,3006,1010,1011,12,13] E I λa w E I hH hC=>?_;have hr:Rd w bb oo (bc xs):=I.cK bb oo (by omega);refine RH 5 E I hH hC λa E=>?_;rw[show ((hL+k-1:Nat):Int)-(((s+r)/2:Nat):Int)=((hL+k-1-(s+r)/2:Nat):Int) from by omega]at E;refine RH 4 E I hH hC λa E=>?_;refine QH E (λw hc=>ae E (hc.cell (hr (hL+k-1-(s+r)/2) _ (dT iw)))) hC λa E=>?_;refine RH 0 E I hH hC λa E=>?_;refine SS E (ae E (hr ((s+r)/2) _ (dT mg))) λa E=>?_;refine RH 0 E I hH hC λa E=>?_;refine bj 0 E I (hF.h I λh=>h.tail) (hf:=hF.c) λz a w E I=>?_;refine RN 2 E I λa E=>?_;refine IF 0 E I (λwI a E=>?_) λwI a E=>?_
   ·
    refine RN 3 E I λa E=>?_;exact⟨r-((s+r)/2+1),by omega,(s+r)/2+1,r,⟨rfl,⟨by omega,by omega⟩,by omega,m9,o0⟩,E.ab [0,1,2,3,4,18,19,20,21,22],I⟩
   refine RN 2 E I λa E=>?_;exact⟨(s+r)/2-s,by omega,s,(s+r)/2,⟨rfl,⟨g1,iJ⟩,by omega,by omega,by omega⟩,E.ab [0,1,2,3,4,18,19,20,21,22],I⟩
  refine RN 4 E I λa E=>?_;rw[show (hL:Int)+(k:Int)-(s:Int)=((hL+k-s:Nat):Int) from by omega]at E;refine RN 1 E I λa E=>?_;refine cd (M:=λa w=>∃ zs:List UInt8,zs.length=m∧Fr a 220 [(0,sv bb oo m c),(1,.int .i64 lo),(3,.int .i64 up),(4,kG f us),(18,.int .i64 hL),(20,.int .i64 s),(24,.int .i64 ((hL+k-s:Nat):Int))]∧U W w (hK bb oo m c zs::L)) ?_ ?_
  ·
   refine BY 5 E I (λbX a E=>?_) λbX a E=>?_
   ·
    refine IF 4 E I (λtl a E=>?_) λtl a E=>?_
    ·
     refine bj 5 E I (rotate I hx (by omega) (by omega) (by omega) hm) λys a w E ⟨hy,I⟩=>?_;refine RN 0 E I λa E=>?_;exact⟨ys,hy,E.ab [0,1,3,4,18,20,24],I⟩
    refine RN 0 E I λa E=>?_;exact⟨xs,hx,E.ab [0,1,3,4,18,20,24],I⟩
   refine RN 5 E I λa E=>?_;exact⟨xs,hx,E.ab [0,1,3,4,18,20,24],I⟩
  clear E;(try clear I);rintro a w ⟨zs,hz,E,I⟩;refine cd (M:=λa w=>∃ zs:List UInt8,zs.length=m∧Fr a 220 [(0,sv bb oo m c),(3,.int .i64 up),(4,kG f us),(18,.int .i64 hL),(24,.int .i64 ((hL+k-s:Nat):Int))]∧U W w (hK bb oo m c zs::L)) ?_ ?_
  ·
   refine BY 5 E I (λbX a E=>?_) λbX a E=>?_
   ·
    refine IF 4 E I (λyx a E=>?_) λyx a E=>?_
    ·
     refine bj 5 E I (ih (by omega) hz (by omega) (by omega) (by omega) I) λys a w E ⟨hy,I⟩=>?_;refine RN 0 E I λa E=>?_;exact⟨ys,hy,E.ab [0,3,4,18,24],I⟩
    refine RN 0 E I λa E=>?_;exact⟨zs,hz,E.ab [0,3,4,18,24],I⟩
   refine RN 5 E I λa E=>?_;exact⟨zs,hz,E.ab [0,3,4,18,24],I⟩
  clear E;(try clear I);rintro a w ⟨zs,hz,E,I⟩;refine BY 5 E I (λbX a E=>?_) λbX a E=>?_
  ·
   refine IF 4 E I (λwJ a E=>?_) λwJ a E=>?_
   ·
    refine bj 5 E I (ih (by omega) hz (by omega) (by omega) (by omega) I) λys a w E ⟨hy,I⟩=>?_;refine RT 0 E I ?_;exact⟨ys,rfl,hy,I⟩
   refine RT 0 E I ?_;exact⟨zs,rfl,hz,I⟩
  refine RT 5 E I ?_;exact⟨zs,rfl,hz,I⟩
theorem aas (I:U W w (hK bb oo m c xs::L))(hF:zk W L f us)(hx:xs.length=m)(hm:m≤1000) :
   Calls prog 335 #[sv bb oo m c,.int .i64 m,kG f us] w λe w'=>∃ ys:List UInt8,e=.returned (.tuple #[])∧ys.length=m∧U W w' (hK bb oo m c ys::L):=by
 refine EN func335 ntmps335 rfl rfl λa E=>?_;refine RN 7 E I λa E=>?_;refine aQ (λμ a w=>∃ (q:Nat) (ys:List UInt8),(μ=m-q∧q≤m∧ys.length=m)∧Fr a 63 [(0,sv bb oo m c),(1,.int .i64 m),(2,kG f us),(6,.int .i64 20),(7,.int .i64 q),(8,.int .i64 ((q+20:Nat):Int))]∧U W w (hK bb oo m c ys::L)) (m) (⟨0,xs,⟨rfl,Nat.zero_le _,hx⟩,E.ab [0,1,2,6,7,8],I⟩) ?_;clear E I;rintro μ a w ⟨q,ys,⟨rfl,hq,hy⟩,E,I⟩;refine IF 5 E I (λaj a E=>?_) λaj a E=>?_
 ·
  refine bj 5 E I (M6 I hF hy (by omega) hm hq) λzs a w E ⟨hz,I⟩=>?_;refine RN 7 E I λa E=>?_;exact⟨m-(q+20),by omega,q+20,zs,⟨rfl,by omega,hz⟩,E.ab [0,1,2,6,7,8],I⟩
 refine bj 5 E I (M6 I hF hy (bf _) hm hq) λzs a w E ⟨hz,I⟩=>?_;refine RN 0 E I λa E=>?_;refine aQ (λμ a w=>∃ (s:Nat) (ys:List UInt8),(μ=m-s∧(1≤s∧s≤2000)∧ys.length=m)∧Fr a 63 [(0,sv bb oo m c),(1,.int .i64 m),(2,kG f us),(6,.int .i64 s)]∧U W w (hK bb oo m c ys::L)) (m-20) (⟨20,zs,⟨rfl,⟨by decide,by decide⟩,hz⟩,E.ab [0,1,2,6],I⟩) ?_;clear E I;rintro μ a w ⟨s,ys,⟨rfl,⟨oz,dz⟩,hy⟩,E,I⟩;refine IF 5 E I (λao a E=>?_) λao a E=>?_
 ·
  refine RN 3 E I λa E=>?_;rw[show (2:Int)*(s:Int)=((2*s:Nat):Int) from by omega]at E;refine RN 3 E I λa E=>?_;refine aQ (λμ a w=>∃ (q:Nat) (ys:List UInt8),(μ=m-q∧q≤m∧ys.length=m)∧Fr a 63 [(0,sv bb oo m c),(1,.int .i64 m),(2,kG f us),(6,.int .i64 s),(7,.int .i64 q),(8,.int .i64 ((q+2*s:Nat):Int))]∧U W w (hK bb oo m c ys::L)) (m) (⟨0,ys,⟨rfl,Nat.zero_le _,hy⟩,(by rw[eE];exact E.ab [0,1,2,6,7,8]),I⟩) ?_;clear E I;rintro μ a w ⟨q,ys,⟨rfl,hq,hy⟩,E,I⟩;refine IF 5 E I (λay a E=>?_) λay a E=>?_
  ·
   refine RN 6 E I λa E=>?_;rw[show (q:Int)+(s:Int)=((q+s:Nat):Int) from rfl]at E;refine bj 2 E I (M9 hF hm _ (bf _) hy (by omega) (by omega) (by omega) I) λzs a w E ⟨hz,I⟩=>?_;refine RN 7 E I λa E=>?_;rw[show ((q+2*s:Nat):Int)+2*(s:Int)=((q+2*s+2*s:Nat):Int) from by omega]at E;refine RN 1 E I λa E=>?_;exact⟨m-(q+2*s),by omega,q+2*s,zs,⟨rfl,by omega,hz⟩,E.ab [0,1,2,6,7,8],I⟩
  refine RN 5 E I λa E=>?_;rw[show (q:Int)+(s:Int)=((q+s:Nat):Int) from rfl]at E;refine IF 5 E I (λbd a E=>?_) λbd a E=>?_
  ·
   refine bj 5 E I (M9 hF hm _ (bf _) hy (by omega) (by omega) (bf _) I) λzs a w E ⟨hz,I⟩=>?_;refine RN 2 E I λa E=>?_;rw[show (s:Int)*2=((s*2:Nat):Int) from by omega]at E;refine RN 1 E I λa E=>?_;exact⟨m-s*2,by omega,s*2,zs,⟨rfl,⟨by omega,by omega⟩,hz⟩,E.ab [0,1,2,6],I⟩
  refine RN 2 E I λa E=>?_;rw[show (s:Int)*2=((s*2:Nat):Int) from by omega]at E;refine RN 1 E I λa E=>?_;exact⟨m-s*2,by omega,s*2,ys,⟨rfl,⟨by omega,by omega⟩,hy⟩,E.ab [0,1,2,6],I⟩
 refine RT 0 E I ?_;exact⟨ys,rfl,hy,I⟩
theorem aat (I:U W w (hK bb oo m c xs::L))(hF:zk W L f us)(hx:xs.length=m)(hm:m≤1000) :
   Calls prog 327 #[sv bb oo m c,kG f us] w λe w'=>∃ ys:List UInt8,e=.returned (.tuple #[])∧ys.length=m∧U W w' (hK bb oo m c ys::L):=by
 refine EN func327 ntmps327 rfl rfl λa E=>?_;refine bj 4 E I (aas I hF hx hm) λys a w E ⟨hy,I⟩=>?_;refine RT 0 E I ?_;exact⟨ys,rfl,hy,I⟩
theorem aau {b:Gs}{adT:Option Addr}{cT b3 dt b8 q5:Nat}{d u:UInt8}{g:Nat→Int}:zk W (aa b8 5 [.int .u8 (d.toNat:Nat)]::aa q5 5 [.int .u8 (u.toNat:Nat)]::aa b3 186 (dp b adT cT)::aa dt 320 (ints .i64 256 g)::L)
   328 [pt b8,pt q5,pt b3,pt dt]:=by
 refine⟨by kernel_rfl,?_⟩;intro w M x y I hM;have hx:=x.toNat_lt;have hy:=y.toNat_lt;refine EN func328 ntmps328 rfl rfl λa E=>?_;refine RN 4 E I λa E=>?_;refine SS E (ae E ((hM I).bz (b:=b8) rfl)) λa E=>?_;refine RN 0 E I λa E=>?_;refine SS E (ae E ((hM I).bz (b:=q5) rfl)) λa E=>?_;refine RN 0 E I λa E=>?_;refine SS E (Dv E underlying423 Ty.t423 Ty.t5 rfl rfl) λa E=>?_;refine RN 1 E I λa E=>?_;refine aQ (λμ a w=>∃ (i:Nat),(μ=2-i∧i≤2)∧Fr a 47 [(0,.int .u8 (x.toNat:Nat)),(1,.int .u8 (y.toNat:Nat)),(4,pt b3),(5,pt dt),(13,.agg #[.int .u8 (d.toNat:Nat),.int .u8 (u.toNat:Nat)]),(14,.int .i64 i)]∧U W w M) (2) (⟨0,⟨rfl,by decide⟩,E.ab [0,1,4,5,13,14],I⟩) ?_;clear E I;rintro μ a w ⟨i,⟨rfl,hi⟩,E,I⟩;refine IF 3 E I (λaj a E=>?_) λaj a E=>?_
 ·
  obtain⟨q,hq⟩:∃ q:UInt8,[Value.int .u8 (d.toNat:Nat),Value.int .u8 (u.toNat:Nat)][i]?=some (.int .u8 (q.toNat:Nat)):=by
   have:i=0∨i=1:=by omega
   rcases this with rfl | rfl
   ·exact⟨d,rfl⟩
   ·exact⟨u,rfl⟩
  refine RN 2 E I λa E=>?_;refine SS E (sR E underlying423 underlying5 rfl Ty.t5 (by omega) hq) λa E=>?_;refine bS 3 [9] [0,1001,2,3,4,5,7,8,3006,1009,10,11] E I λa w E I hH hC=>?_;refine RH 1 E I hH hC λa E=>?_;refine SS E (ae E ((hM I).bz (b:=b3) rfl)) λa E=>?_;refine RH 2 E I hH hC λa E=>?_;refine E.by (s:=20) (λbX E=>?_) (λbX E=>?_)
  ·
   refine RH 4 E I hH hC λa E=>?_;refine QH E (λw hc=>ae E (hc.cell ((hM I).bz (b:=dt) (fT g hx)))) hC λa E=>?_;refine RH 0 E I hH hC λa E=>?_;refine bm E (bQ E rfl (s:=20)) (ae E ((hM I).bz (b:=dt) (fT g hy))) rfl λa E=>?_;refine RH 2 E I hH hC λa E=>?_;refine IF 0 E I (λao a E=>?_) λao a E=>?_
   ·
    refine bS 1 [5] [0,1,3,4,3002,1005,6,7] E I λa w E I hH hC=>?_;refine RH 4 E I hH hC λa E=>?_;refine QH E (λw hc=>ae E (hc.cell ((hM I).bz (b:=dt) (fT g hy)))) hC λa E=>?_;refine RH 0 E I hH hC λa E=>?_;refine SS E (ae E ((hM I).bz (b:=dt) (fT g hx))) λa E=>?_;refine RH 0 E I hH hC λa E=>?_;refine QP E (λw=>z8 E) λa E=>?_;refine RH 1 E I hH hC λa E=>?_;refine RT 0 E I ?_;exact⟨_,rfl,I⟩
   refine IF 8 E I (λay a E=>?_) λay a E=>?_
   ·
    refine IF 5 E I (λbd a E=>?_) λbd a E=>?_
    ·
     refine RT 2 E I ?_;exact⟨_,rfl,I⟩
    refine RT 2 E I ?_;exact⟨_,rfl,I⟩
   refine RN 2 E I λa E=>?_;exact⟨2-(i+1),by omega,i+1,⟨rfl,by omega⟩,E.ab [0,1,4,5,13,14],I⟩
  refine RH 8 E I hH hC λa E=>?_;refine IF 9 E I (λay a E=>?_) λay a E=>?_
  ·
   refine IF 5 E I (λbd a E=>?_) λbd a E=>?_
   ·
    refine RT 2 E I ?_;exact⟨_,rfl,I⟩
   refine RT 2 E I ?_;exact⟨_,rfl,I⟩
  refine RN 2 E I λa E=>?_;exact⟨2-(i+1),by omega,i+1,⟨rfl,by omega⟩,E.ab [0,1,4,5,13,14],I⟩
 refine RT 2 E I ?_;exact⟨_,rfl,I⟩
end
theorem aav:xm:=by
 refine⟨?_⟩;intro W w L c k cT ad adT past b I hb hk eF j8 hp ht;refine EN func310 ntmps310 rfl rfl λa E=>?_;refine BX 1 E I λb3 a w E I=>?_;change U W w (aa b3 186 (dp b adT cT)::_) at I;refine bj 4 E I (ze I) λr a w E ⟨hr,I⟩=>?_;obtain rfl:=hr.2 hb;refine RN 1 E I λa E=>?_;replace E:=E.aM 14;refine CL 4 E I (MA I hb (by omega) j8 (λw' h=>hp _ h.tail)) λa w E I=>?_;refine AL 0 E I λdt a w E I=>?_;rw[q3]at I;refine SA 0 E I λa w E I=>?_;refine CL 3 E I (MC I hb (by omega) j8 (λw' h=>hp _ h.tail.tail) (λw' h=>ht _ h.tail.tail)) λa w E I=>?_;refine CL 1 E I (MB I (by omega) (λw' h=>hp _ h.tail.tail)) λa w E I=>?_;refine AL 0 E I λb8 a w E I=>?_;refine AL 0 E I λq5 a w E I=>?_;refine ST 0 E I (λa w E I=>?_);refine ST 0 E I (λa w E I=>?_);refine RN 5 E I λa E=>?_;replace I:U W w (Sl 5 1 none 0 0 (bc [])::_):=I.bN 5 1 none;refine aQ (λμ a w=>∃ (i:Nat) (hG:Option Addr) (cl:Nat) (ys:List UInt8),(μ=256-i∧i≤256∧ys.length=i)∧Fr a 40 [(2,.int .i64 k),(3,pt b3),(7,pt dt),(8,pt b8),(9,pt q5),(10,.slice hG i cl),(23,.int .i64 i)]∧U W w (Sl 5 1 hG i cl (bc ys)::aa b8 5 [.int .u8 ((nD b past).toNat:Nat)]::aa q5 5 [.int .u8 ((iz past).toNat:Nat)]::aa b3 186 (dp b adT cT)::aa dt 320 (ints .i64 256 (gK b past))::L)) (256) (⟨0,none,0,[],⟨rfl,by decide,rfl⟩,E.ab [2,3,7,8,9,10,23],I.sub⟩) ?_;clear E I;rintro μ a w ⟨i,hG,cl,ys,⟨rfl,hi,hy⟩,E,I⟩;refine IF 3 E I (λao a E=>?_) λao a E=>?_
 ·
  refine RN 6 E I λa E=>?_;refine SS E (gn E underlying3 underlying5) λa E=>?_;rw[wrap_u8,show (i:Int)%256=(((UInt8.ofNat i).toNat:Nat):Int) from by rw[UInt8.toNat_ofNat'];omega]at E;refine RN 0 E I λa E=>?_;refine cr E rfl I underlying22 Ty.t5 rfl rfl rfl rfl (by decide) (by decide) λWh a w E I ho=>?_;clear ho;refine RN 0 E I λa E=>?_;refine cQ E rfl I underlying22 Ty.t5 rfl rfl I.ai rfl (ep [UInt8.ofNat i]) (by decide) (by decide) (by omega) λJ7 J8 a w E I=>?_;rw[show bc ys++_=bc (ys++[UInt8.ofNat i]) from (fM _ [_]).symm]at I;refine RN 3 E I λa E=>?_;exact⟨256-(i+1),by omega,i+1,J7,J8,ys++[UInt8.ofNat i],⟨rfl,by omega,by simp[hy]⟩,E.ab [2,3,7,8,9,10,23],I.sub⟩
 refine RN 1 E I λa E=>?_;obtain rfl:i=256:=by omega
 have hA:=E;have zl:=I;obtain⟨bb,oo,rfl,_⟩:=I.bU hG (by omega);have E:=hA;have I:=zl;have cp:=(I.sl (some ⟨bb,oo,none⟩)).2;refine bj 2 E I (aat I aau hy (by decide)) λzs a w E ⟨hz,I⟩=>?_;refine RN 5 E I λa E=>?_;rw[show min (max (k:Int) 0) 256=(k:Int) from by omega]at E;refine RT 2 E I ?_;have h1:=I.Dd (some ⟨bb,oo,none⟩) 0 k (Nat.zero_le _) (by omega);rw[Nat.sub_zero,Nat.sub_zero,fU,Nat.zero_mul,drop_zero,show (bc zs).take k=bc (zs.take k) from by rw[bc,bc,map_take]]at h1;have hl:(zs.take k).length=k:=by rw[et];omega
 exact⟨_,_,zs.take k,by rw[hl,Nat.sub_zero,Nat.sub_zero],hl,by rw[hl];exact h1.sub⟩
end
end Go.Proofs.YteoldcfapaiobaaGreat
