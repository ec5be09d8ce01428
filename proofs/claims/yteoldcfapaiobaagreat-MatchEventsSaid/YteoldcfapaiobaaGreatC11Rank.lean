/- The document's guesses: quintainref12.MayBy, weights, ahead, Rank, Chain. -/
import Derived.Test.YteoldcfapaiobaaGreatC10Core
import Derived.Test.YteoldcfapaiobaaGreatC08Pkt3
import Derived.Test.YteoldcfapaiobaaGreatC09CoQ
import Derived.Test.YteoldcfapaiobaaGreatC01Row
namespace Go.Proofs.YteoldcfapaiobaaGreat
open Tryz
open List (drop_zero getElem?_append_right nil_append drop_eq_nil_of_le ext_getElem getElem_map append_nil map_take range_succ map_singleton getLastD_eq_getLast?)
open Go.RowKit
set_option linter.unusedVariables false
set_option linter.unusedSimpArgs false
set_option maxRecDepth 10000
set_option synthInstance.maxSize 4000
set_option synthInstance.maxHeartbeats 400000
section
def pB (w:Nat→Int)(last drawn:Int)(v u:Nat):Bool:=if (v:Int)=drawn∨(u:Int)=drawn then decide ((v:Int)=drawn) else if w v≠w u then decide (w u<w v) else decide ((v:Int)=last)
def hJ (w:Nat→Int)(last drawn:Int):Nat→Nat
 | 0=>0
 | i+1=>if pB w last drawn (i+1) (hJ w last drawn i)=true then i+1 else hJ w last drawn i
theorem E6 (w:Nat→Int)(last drawn:Int):∀ i,hJ w last drawn i≤i
 | 0=>bf _
 | i+1=>by
  rw[hJ];split
  ·exact bf _
  ·exact Nat.le_succ_of_le (E6 w last drawn i)
theorem K4 {w:Nat→Int}{last:Int}{d:Nat}:∀ {i},d≤i→hJ w last d i=d
 | 0,h=>by rw[hJ];omega
 | i+1,h=>by
  rw[hJ];by_cases hd:d=i+1
  ·rw[ak]
   ·exact hd.symm
   ·rw[pB,ak (.inl (by omega))];exact dk (by omega)
  ·rw[K4 (i:=i) (by omega),ae];rw[pB,ak (.inr rfl),cp];omega
theorem K5 {w:Nat→Int}{last:Nat}:∀ i,(∀ v,v≤i→w v≤w (hJ w last (-1) i))∧(hJ w last (-1) i=last∨((last≤i→w last<w (hJ w last (-1) i))∧∀ v,v<hJ w last (-1) i→w v<w (hJ w last (-1) i)))
 | 0=>by
  refine⟨λv hv=>by rw[hJ,show v=0 from by omega];exact Int.le_refl _,?_⟩;by_cases h:last=0
  ·exact .inl h.symm
  ·exact .inr ⟨λhl=>by omega,λv hv=>by rw[hJ]at hv;omega⟩
 | i+1=>by
  obtain⟨h1,h2⟩:=K5 (w:=w) (last:=last) i;have hle:=E6 w last (-1) i;have h0:¬ (((i+1:Nat):Int) = -1∨((hJ w last (-1) i:Nat):Int) = -1):=by omega
  rw[hJ];generalize hJ w last (-1) i=r at *;rw[pB,ae h0];by_cases hw:w (i+1)=w r
  ·rw[ae (show ¬ w (i+1)≠w r from λh=>h hw)];by_cases hl:i+1=last
   ·rw[ak (dk (by omega))];refine⟨λv hv=>?_,.inl hl⟩;by_cases nC:v=i+1
    ·subst nC;exact Int.le_refl _
    ·rw[hw];exact h1 v (by omega)
   ·rw[ae (by rw[cp];omega)];refine⟨λv hv=>?_,?_⟩
    ·by_cases nC:v=i+1
     ·subst nC;omega
     ·exact h1 v (by omega)
    ·rcases h2 with h2 | ⟨h2,h3⟩
     ·exact .inl h2
     ·exact .inr ⟨λhh=>h2 (by omega),h3⟩
  ·rw[ak hw];by_cases hl:w r<w (i+1)
   ·rw[ak (dk hl)];have hO:∀ v,v<i+1→w v<w (i+1):=λv hv=>by have:=h1 v (by omega);omega
    refine⟨λv hv=>?_,?_⟩
    ·by_cases nC:v=i+1
     ·subst nC;exact Int.le_refl _
     ·have:=hO v (by omega);omega
    ·by_cases u5:last=i+1
     ·exact .inl u5.symm
     ·exact .inr ⟨λhh=>hO last (by omega),hO⟩
   ·rw[ae (by rw[cp];exact hl)];refine⟨λv hv=>?_,?_⟩
    ·by_cases nC:v=i+1
     ·subst nC;omega
     ·exact h1 v (by omega)
    ·rcases h2 with h2 | ⟨h2,h3⟩
     ·exact .inl h2
     ·refine .inr ⟨λhh=>?_,h3⟩;by_cases u5:last=i+1
      ·subst u5;omega
      ·exact h2 (by omega)
def sR (b:Gs)(past:List UInt8):Int:=if b.kind=3 then ((b.table.getD (past.length%b.table.length) 0).toNat:Int) else -1
theorem YN {b:Gs}{past:List UInt8}(hb:cR b):hJ (gB b past) ((ie past).toNat:Nat) (sR b past) 255=(m4 b past).toNat:=by
 have E4:=lF (ie past);unfold sR m4;split
 ·have:=lF (b.table.getD (past.length%b.table.length) 0);exact K4 (by omega)
 ·rw[UInt8.toNat_ofNat'];obtain⟨h1,h2⟩:=K5 (w:=gB b past) (last:=(ie past).toNat) 255;have hle:=E6 (gB b past) ((ie past).toNat:Nat) (-1) 255;generalize hJ (gB b past) ((ie past).toNat:Nat) (-1) 255=r at *;rcases h2 with h2 | ⟨h2,h3⟩
  ·rw[Ka λv hv=>by rw[← h2];exact h1 v (by omega),h2];omega
  ·have h4:=(Kb (last:=(ie past).toNat) (h2 (by omega)) h3 (i:=256) λv hv=>h1 v (by omega)).2 (by omega);rw[h4];omega
def sS (t:Nat→Bool):List Value:=fn 256 λi=>.bool (t i)
theorem YO (t:Nat→Bool):(sS t).length=256:=Hr _ _
theorem YP {t:Nat→Bool}{i:Nat}(h:i<256):(sS t)[i]?=some (.bool (t i)):=Hs _ h
theorem YQ {t:Nat→Bool}{i:Nat}:(sS t).set i (.bool true)=sS λj=>if j=i then true else t j:=by
 rw[sS,Ht];exact B6 λj _=>by by_cases h:j=i <;> simp[h]
theorem YR (m:Nat)(v:Value):List.replicate m v=fn m λ_=>v:=by
 apply ext_getElem (by simp[fn]);intro i h1 h2;simp[fn]
theorem YS:List.replicate 256 (Value.bool false)=sS λ_=>false:=YR 256 _
def qk (t:Nat→Bool):Nat→Nat
 | 0=>0
 | i+1=>qk t i+if t i=true then 1 else 0
theorem K6 {t:Nat→Bool}:∀ {i},(∀ v,v<i→t v=true)→qk t i=i
 | 0,_=>rfl
 | i+1,h=>by rw[qk,K6 (i:=i) λv hv=>h v (by omega),ak (h i (by omega))]
theorem K7 {t:Nat→Bool}{u:Nat}(hu:t u=false):∀ {i},qk (λj=>if j=u then true else t j) i=qk t i+if u<i then 1 else 0
 | 0=>by simp[qk]
 | i+1=>by
  rw[qk,qk,K7 hu (i:=i)];by_cases h:i=u
  ·subst h;simp[hu]
  ·by_cases h2:u<i
   ·simp[h,h2,show u<i+1 from by omega];omega
   ·simp[h,h2,show ¬ u<i+1 from by omega]
def j2 (w:Nat→Int)(last drawn:Int)(t:Nat→Bool)(first:Bool)(i:Nat)(fG:Int):Prop :=
 (fG = -1∧∀ v,v<i→t v=true)∨∃ u:Nat,fG=(u:Int)∧u<i∧t u=false∧(first=true→u=hJ w last drawn (i-1))
section
variable {w:Nat→Int}{last drawn:Int}{t:Nat→Bool}{f:Bool}{i u:Nat}{fG:Int}
theorem j2.take (h:j2 w last drawn t f i fG)(h0:fG<0)(hi:t i=false)(hf:f=true→∀ v,t v=false):j2 w last drawn t f (i+1) i:=by
 refine .inr ⟨i,rfl,by omega,hi,λjx=>?_⟩;rcases h with ⟨_,h⟩ | ⟨u,h,_⟩
 ·have : i = 0 := by
   rcases Nat.eq_zero_or_pos i with h1 | h1
   ·exact h1
   ·have h2:=h 0 h1;rw[hf jx 0]at h2;cases h2
  subst this;rfl
 ·omega
theorem j2.nat (h:j2 w last drawn t f i fG)(h0:0≤fG):∃ u:Nat,fG=(u:Int)∧u<i∧t u=false∧(f=true→u=hJ w last drawn (i-1)):=by
 rcases h with ⟨h,_⟩ | h
 ·omega
 ·exact h
theorem j2.up (hu:u<i∧t u=false∧(f=true→u=hJ w last drawn (i-1)))(E:pB w last drawn i u=true)(hi:t i=false):j2 w last drawn t f (i+1) i:=by
 refine .inr ⟨i,rfl,by omega,hi,λhf=>?_⟩;have h1:=hu.2.2 hf;obtain⟨j,rfl⟩:∃ j,i=j+1:=⟨i-1,by omega⟩;rw[Nat.add_sub_cancel]at h1 ⊢;rw[hJ,← h1,ak E]
theorem j2.ab (hu:u<i∧t u=false∧(f=true→u=hJ w last drawn (i-1)))(E:pB w last drawn i u=false):j2 w last drawn t f (i+1) u:=by
 refine .inr ⟨u,rfl,by omega,hu.2.1,λhf=>?_⟩;have h1:=hu.2.2 hf;obtain⟨j,rfl⟩:∃ j,i=j+1:=⟨i-1,by omega⟩;rw[Nat.add_sub_cancel]at h1 ⊢;rw[hJ,← h1,E,ae (by decide)]
theorem j2.skip (h:j2 w last drawn t f i fG)(hi:t i=true)(hf:f=true→∀ v,t v=false):j2 w last drawn t f (i+1) fG:=by
 have om:f=true→False:=λh=>by rw[hf h i]at hi;cases hi
 rcases h with ⟨h1,h⟩ | ⟨u,h1,h2,h3,_⟩
 ·refine .inl ⟨h1,λv hv=>?_⟩;by_cases YT:v=i
  ·subst YT;exact hi
  ·exact h v (by omega)
 ·exact .inr ⟨u,h1,by omega,h3,λh=>(om h).elim⟩
theorem j2.E7 (h:j2 w last drawn t f 256 fG)(hc:qk t 256<256):∃ u:Nat,fG=(u:Int)∧u<256∧t u=false∧(f=true→u=hJ w last drawn 255):=by
 rcases h with ⟨_,h⟩ | h
 ·rw[K6 h]at hc;omega
 ·exact h
theorem j2.start:j2 w last drawn t f 0 (-1):=.inl ⟨rfl,λv hv=>by omega⟩
end
section
variable {W w:World}{L:List SP}{n c m cT:Nat}{ad adT:Option Addr}{past:List UInt8}{b:Gs}{g:Nat→Int}
theorem E8 (I:U W w L):Calls prog 49 #[.agg (di b adT cT).toArray] w λe V=>∃ r:Bool,e=.returned (.bool r)∧(r=true↔cR b)∧U W V L:=by
 refine EN func49 ntmps49 rfl rfl λa E=>?_;refine BX 1 E I λb1 a w E I=>?_;change U W w (aa b1 47 (di b adT cT)::_) at I;refine BY 7 E I (λbS a E=>?_) λbS a E=>?_
 ·
  refine RT 27 E I ?_;exact⟨_,rfl,⟨λh=>(by cases h),λh=>by rw[cR]at h;exfalso;omega⟩,I.sub⟩
 refine BY 5 E I (λfa a E=>?_) λfa a E=>?_
 ·
  refine RT 22 E I ?_;exact⟨_,rfl,⟨λh=>(by cases h),λh=>by rw[cR]at h;exfalso;omega⟩,I.sub⟩
 refine BY 5 E I (λm1 a E=>?_) λm1 a E=>?_
 ·
  refine RT 17 E I ?_;exact⟨_,rfl,⟨λh=>(by cases h),λh=>by rw[cR]at h;exfalso;omega⟩,I.sub⟩
 refine BY 5 E I (λtG a E=>?_) λtG a E=>?_
 ·
  refine RT 12 E I ?_;exact⟨_,rfl,⟨λh=>(by cases h),λh=>by rw[cR]at h;exfalso;omega⟩,I.sub⟩
 refine BY 4 E I (λph a E=>?_) λph a E=>?_
 ·
  refine IF 5 E I (λaj a E=>?_) λaj a E=>?_
  ·
   refine RT 2 E I ?_;exact⟨_,rfl,⟨λh=>(by cases h),λh=>by rw[cR]at h;exfalso;omega⟩,I.sub⟩
  refine IF 5 E I (λao a E=>?_) λao a E=>?_
  ·
   refine BY 6 E I (λdp a E=>?_) λdp a E=>?_
   ·
    refine RT 6 E I ?_;exact⟨_,rfl,(by rw[cp,cR];omega),I.sub⟩
   refine RT 6 E I ?_;exact⟨_,rfl,⟨λh=>(by cases h),λh=>by rw[cR]at h;exfalso;omega⟩,I.sub⟩
  refine RT 6 E I ?_;exact⟨_,rfl,(by rw[cp,cR];omega),I.sub⟩
 refine IF 11 E I (λao a E=>?_) λao a E=>?_
 ·
  refine BY 6 E I (λdp a E=>?_) λdp a E=>?_
  ·
   refine RT 6 E I ?_;exact⟨_,rfl,(by rw[cp,cR];omega),I.sub⟩
  refine RT 6 E I ?_;exact⟨_,rfl,⟨λh=>(by cases h),λh=>by rw[cR]at h;exfalso;omega⟩,I.sub⟩
 refine RT 6 E I ?_;exact⟨_,rfl,(by rw[cp,cR];omega),I.sub⟩
theorem YU (I:U W w L)(hb:cR b)(eB:past.length≤4000)(jP:past.length≤c)(hp:∀ V,U W V L→a6 V ad past.length past) :
   Calls prog 192 #[.agg (di b adT cT).toArray,.slice ad past.length c] w λe V=>e=.returned (.agg (ints .i64 256 (gB b past)).toArray)∧U W V L:=by
 simp only[cR]at hb;refine EN func192 ntmps192 rfl rfl λa E=>?_;refine BX 1 E I λb2 a w E I=>?_;change U W w (aa b2 47 (di b adT cT)::_) at I;refine AL 0 E I λb4 a w E I=>?_;rw[qj]at I;refine AL 1 E I λb5 a w E I=>?_;rw[qj]at I;refine BY 6 E I (λbS a E=>?_) λbS a E=>?_
 ·
  refine SA 9 E I λa w E I=>?_;refine RT 0 E I ?_;exact⟨by rw[gB,ae (by omega)],I.sub⟩
 refine IF 6 E I (λaj a E=>?_) λaj a E=>?_
 ·
  refine SA 2 E I λa w E I=>?_;refine RT 0 E I ?_;exact⟨by rw[gB,ak (by omega),xX (by omega)],I.sub⟩
 refine RN 1 E I λa E=>?_;have ch:b.kind=2:=by omega
 obtain⟨o,ho⟩:∃ o:Nat,b.order=(o:Int):=⟨b.order.toNat,by omega⟩;rw[di,ho]at I;have dW:o≤past.length:=by omega
 have kL:gB b past=gX o past past.length:=by rw[gB,ak ch,ho,Int.toNat_natCast]
 refine RN 6 E I λa E=>?_;rw[show ((past.length:Nat):Int)-(o:Int)=((past.length-o:Nat):Int) from by omega]at E;refine RN 1 E I λa E=>?_;refine SS E (lV E underlying22 underlying5 underlying9 ((show a6 w (fk ad (past.length-o) c 1) (past.length-(past.length-o)) (past.drop (past.length-o)) from by have h1:=(hp _ I.tail.tail.tail).tW (lo:=past.length-o) (by omega) jP;rw[c6]at h1;exact h1))) λa E=>?_;refine RN 6 E I λa E=>?_;have YI:o≤3:=by omega
 refine aR (λμ a w=>∃ (i:Nat),(μ=past.length-i∧o≤i∧i≤past.length)∧Fr a 54 [(1,.slice ad past.length c),(2,pt b2),(4,pt b4),(5,pt b5),(6,.string ⟨(past.drop (past.length-o)).toArray⟩),(7,.int .i64 i)]∧U W w (aa b5 320 (ints .i64 256 (gX o past i))::aa b4 320 (ints .i64 256 (λ_=>0))::aa b2 47 [.int .i64 b.kind,.int .i64 o,.slice adT b.table.length cT]::L)) (past.length-o) (⟨o,⟨rfl,bf _,dW⟩,E.ab [1,2,4,5,6,7],by rw[xX (bf _)];exact I.sub⟩) ?_;clear E I;rintro μ a w ⟨i,⟨rfl,E2,hi⟩,E,I⟩;refine IF 6 E I (λao a E=>?_) λao a E=>?_
 ·
  have aJ:i<past.length:=by omega
  have nh:=Al o past i past[i].toNat;have qe:=lF past[i];refine RN 7 E I λa E=>?_;rw[show ((i:Nat):Int)-(o:Int)=((i-o:Nat):Int) from by omega]at E;refine RN 2 E I λa E=>?_;rw[show i-(i-o)=o from by omega]at E;refine SS E (lV E underlying22 underlying5 underlying9 ((hp _ I.tail.tail.tail).xY (lo:=i-o) (n:=o) (by omega) jP)) λa E=>?_;refine RN 1 E I λa E=>?_;refine SS E (rL E) λa E=>?_;rw[qI]at E;refine IF 0 E I (λay a E=>?_) λay a E=>?_
  ·
   obtain⟨bb,oo,rfl,hr⟩:=(hp _ I.tail.tail.tail).get (by omega);refine RN 3 E I λa E=>?_;refine SS E (ag E (hr i _ (dO aJ))) λa E=>?_;refine RN 1 E I λa E=>?_;refine SS E (ag E (I.bB (fO _ qe))) λa E=>?_;refine ST 2 E I (λa w E I=>?_) (hlt:=(by rw[df];omega));rw[ints_set]at I;refine RN 3 E I λa E=>?_;exact⟨past.length-(i+1),by omega,i+1,⟨rfl,by omega,by omega⟩,E.ab [1,2,4,5,6,7],by
    rw[show gX o past (i+1)=λj=>if j=past[i].toNat then gX o past i past[i].toNat+1 else gX o past i j from by
     rw[gX,ak ⟨E2,by rw[xW,← ay]⟩,bl,aI aJ];rfl]
    exact I.sub⟩
  refine RN 3 E I λa E=>?_;exact⟨past.length-(i+1),by omega,i+1,⟨rfl,by omega,by omega⟩,E.ab [1,2,4,5,6,7],by
   rw[show gX o past (i+1)=gX o past i from by
    rw[gX,ae (λh=>by
     have h2:=h.2;rw[xW]at h2;rw[h2]at ay;cases ay)]]
   exact I.sub⟩
 obtain rfl:i=past.length:=by omega
 refine SA 2 E I λa w E I=>?_;refine RT 0 E I ?_;exact⟨by rw[kL],I.sub⟩
theorem YV {v u:Nat}{last drawn:Int}(I:U W w L)(hv:v<256)(hu:u<256):Calls prog 193 #[.int .i64 v,.int .i64 u,.agg (ints .i64 256 g).toArray,.int .i64 last,.int .i64 drawn] w λe V=>e=.returned (.bool (pB g last drawn v u))∧U W V L:=by
 refine EN func193 ntmps193 rfl rfl λa E=>?_;refine BX 1 E I λdr a w E I=>?_;refine BY 7 E I (λbS a E=>?_) λbS a E=>?_
 ·
  refine RT 10 E I ?_;exact⟨by rw[pB,ak (.inl bS)],I.sub⟩
 refine IF 4 E I (λaj a E=>?_) λaj a E=>?_
 ·
  refine RT 5 E I ?_;exact⟨by rw[pB,ak (.inr aj)],I.sub⟩
 refine RN 2 E I λa E=>?_;have h0:¬ ((v:Int)=drawn∨(u:Int)=drawn):=by omega
 refine bQ 0 [5] [0,1,3,4,3002,1005,6] E I λa w E I hH hC=>?_;refine RH 4 E I hH hC λa E=>?_;refine QH E (λw hc=>ag E (hc.cell (I.bB (fO _ hv)))) hC λa E=>?_;refine RH 0 E I hH hC λa E=>?_;refine SS E (ag E (I.bB (fO _ hu))) λa E=>?_;refine RH 1 E I hH hC λa E=>?_;refine IF 0 E I (λao a E=>?_) λao a E=>?_
 ·
  refine bQ 1 [5] [0,1,3,4,3002,1005,6,7] E I λa w E I hH hC=>?_;refine RH 4 E I hH hC λa E=>?_;refine QH E (λw hc=>ag E (hc.cell (I.bB (fO _ hv)))) hC λa E=>?_;refine RH 0 E I hH hC λa E=>?_;refine SS E (ag E (I.bB (fO _ hu))) λa E=>?_;refine RH 2 E I hH hC λa E=>?_;refine RT 0 E I ?_;exact⟨by rw[pB,ae h0,ak ao],I.sub⟩
 refine RT 5 E I ?_;exact⟨by rw[pB,ae h0,ae (λh=>h ao)],I.sub⟩
set_option maxHeartbeats 1000000 in
theorem K8 {k:Nat}(I:U W w L)(hb:cR b)(hk:1≤k∧k≤100000)(eB:past.length≤4000)(jP:past.length≤c)(hp:∀ V,U W V L→a6 V ad past.length past)(ht:∀ V,U W V L→a6 V adT b.table.length b.table) :
   Calls prog 160 #[.agg (di b adT cT).toArray,.slice ad past.length c,.int .i64 k] w λe V=>∃ (av:Option Addr) (c':Nat) (out:List UInt8),e=.returned (.slice av out.length c')∧(out.length=min k 256∧out[0]?=some (m4 b past))∧U W V (Sl 5 1 av out.length c' (bc out)::L):=by
 have kZ:=hb;simp only[cR]at kZ;refine EN func160 ntmps160 rfl rfl λa E=>?_;refine BX 1 E I λb3 a w E I=>?_;change U W w (aa b3 47 (di b adT cT)::_) at I;refine bg 4 E I (E8 I) λr a w E ⟨hr,I⟩=>?_;rw[hr.2 hb]at E;refine RN 2 E I λa E=>?_;replace E:=E.aN 17;refine RN 3 E I λa E=>?_;rw[bn (by omega)]at E;refine CL 4 E I (YU I hb eB jP (λV hw=>hp V hw.tail)) λa w E I=>?_;refine AL 0 E I λdr a w E I=>?_;rw[qj]at I;refine SA 0 E I λa w E I=>?_;refine RN 3 E I λa E=>?_;have tC:(if 0<past.length then ((past.getD (past.length-1) 0).toNat:Int) else 0)=((ie past).toNat:Nat):=by
  split
  ·rw[ie,getLastD_eq_getLast?,List.getLast?_eq_getElem?,bl]
  ·rw[ie,g5 (l:=past) (by omega)];rfl
 refine b7 (M:=λa w=>Fr a 86 [(1,.slice ad past.length c),(2,.int .i64 k),(3,pt b3),(7,pt dr),(8,.int .i64 ((ie past).toNat:Nat)),(9,.int .i64 (-1))]∧U W w (aa dr 320 (ints .i64 256 (gB b past))::aa b3 47 (di b adT cT)::L)) ?_ ?_
 ·
  refine IF 4 E I (λao a E=>?_) λao a E=>?_
  ·
   obtain⟨bb,oo,rfl,eT⟩:=(hp _ I.tail.tail).get (by omega);rw[ak (by omega)]at tC;refine RN 4 E I λa E=>?_;rw[show ((past.length:Nat):Int)-1=((past.length-1:Nat):Int) from by omega]at E;refine RN 1 E I λa E=>?_;refine SS E (ag E (eT (past.length-1) _ (kN (by omega)))) λa E=>?_;refine SX 0 E I (sH _) λa E=>?_;refine RN 1 E I λa E=>?_;rw[tC]at E;exact⟨E.ab [1,2,3,7,8,9],I⟩
  rw[ae (by omega)]at tC;refine RN 1 E I λa E=>?_;rw[show (0:Int)=((ie past).toNat:Nat) from tC]at E;exact⟨E.ab [1,2,3,7,8,9],I⟩
 clear E;(try clear I);rintro a w ⟨E,I⟩;refine b7 (M:=λa w=>Fr a 86 [(2,.int .i64 k),(3,pt b3),(7,pt dr),(8,.int .i64 ((ie past).toNat:Nat)),(9,.int .i64 (sR b past))]∧U W w (aa dr 320 (ints .i64 256 (gB b past))::aa b3 47 (di b adT cT)::L)) ?_ ?_
 ·
  refine IF 4 E I (λay a E=>?_) λay a E=>?_
  ·
   refine bQ 0 [5,6,7] [0,2,3,4,3001,1005,1006,1007,8,1009,10,11] E I λa w E I hH hC=>?_;have hA:=E;obtain⟨YJ,YK,rfl,tO⟩:=(ht _ I.tail.tail).get (by omega);have E:=hA;have E3:past.length%b.table.length<b.table.length:=Nat.mod_lt _ (by omega);refine RH 8 E I hH hC λa E=>?_;rw[nP]at E;refine RH 1 E I hH hC λa E=>?_;refine SS E (ag E (tO (past.length%b.table.length) _ (kN E3))) λa E=>?_;refine RH 0 E I hH hC λa E=>?_;refine QP E (λw=>oR E underlying5 underlying3 (sH _)) λa E=>?_;refine RH 1 E I hH hC λa E=>?_;rw[sR,ak (by omega)];exact⟨E.ab [2,3,7,8,9],I⟩
  refine RN 0 E I λa E=>?_;rw[sR,ae (by omega)];exact⟨E.ab [2,3,7,8,9],I⟩
 clear E;(try clear I);rintro a w ⟨E,I⟩;refine AL 1 E I λkc a w E I=>?_;rw[YS]at I;refine RN 3 E I λa E=>?_;refine aR (λμ a w=>∃ (j:Nat) (out:List UInt8) (t:Nat→Bool) (ad2:Option Addr) (c2:Nat),(μ=min k 256-j∧j≤min k 256∧out.length=j∧qk t 256=j∧(j=0→∀ v,t v=false)∧(1≤j→out[0]?=some (m4 b past)))∧Fr a 86 [(2,.int .i64 k),(3,pt b3),(7,pt dr),(8,.int .i64 ((ie past).toNat:Nat)),(9,.int .i64 (sR b past)),(10,pt kc),(11,.slice ad2 out.length c2)]∧U W w (Sl 5 1 ad2 out.length c2 (bc out)::aa kc 322 (sS t)::aa dr 320 (ints .i64 256 (gB b past))::aa b3 47 (di b adT cT)::L)) (min k 256) (⟨0,[],λ_=>false,none,0,⟨rfl,by omega,rfl,by decide,λ_ _=>rfl,λh=>by omega⟩,E.ab [2,3,7,8,9,10,11],I.bM 5 1 none⟩) ?_;clear E I;rintro μ a w ⟨j,out,t,ad2,c2,⟨rfl,hj,dW,K9,YW,E9⟩,E,I⟩;refine BY 7 E I (λdp a E=>?_) λdp a E=>?_
 ·
  refine IF 4 E I (λbh a E=>?_) λbh a E=>?_
  ·
   refine RN 5 E I λa E=>?_;refine aR (λμ a w=>∃ (i:Nat) (fG:Int),(μ=256-i∧i≤256∧j2 (gB b past) ((ie past).toNat:Nat) (sR b past) t (decide (j=0)) i fG)∧Fr a 86 [(2,.int .i64 k),(3,pt b3),(7,pt dr),(8,.int .i64 ((ie past).toNat:Nat)),(9,.int .i64 (sR b past)),(10,pt kc),(11,.slice ad2 out.length c2),(12,.int .i64 fG),(13,.int .i64 i)]∧U W w (Sl 5 1 ad2 out.length c2 (bc out)::aa kc 322 (sS t)::aa dr 320 (ints .i64 256 (gB b past))::aa b3 47 (di b adT cT)::L)) (256) (⟨0, -1,⟨rfl,by omega,j2.start⟩,E.ab [2,3,7,8,9,10,11,12,13],I⟩) ?_;clear E I;rintro μ a w ⟨i,fG,⟨rfl,hi,AD⟩,E,I⟩;refine IF 4 E I (λbR a E=>?_) λbR a E=>?_
   ·
    have AB:i<256:=by omega
    have om:decide (j=0)=true→∀ v,t v=false:=λh=>YW (by simpa using h);refine RN 4 E I λa E=>?_;refine SS E (ag E (I.bB (YP AB))) λa E=>?_;refine BY 2 E I (λdp a E=>?_) λdp a E=>?_
    ·
     refine BY 3 E I (λjv a E=>?_) λjv a E=>?_
     ·
      refine RN 14 E I λa E=>?_;exact⟨256-(i+1),by omega,i+1,i,⟨rfl,by omega,AD.take jv dp om⟩,E.ab [2,3,7,8,9,10,11,12,13],I⟩
     obtain⟨u,rfl,hu⟩:=AD.nat (by omega);refine CL 5 E I (YV I AB (by omega)) λa w E I=>?_;refine IF 2 E I (λeE a E=>?_) λeE a E=>?_
     ·
      refine RN 5 E I λa E=>?_;exact⟨256-(i+1),by omega,i+1,i,⟨rfl,by omega,j2.up hu eE dp⟩,E.ab [2,3,7,8,9,10,11,12,13],I⟩
     refine RN 3 E I λa E=>?_;exact⟨256-(i+1),by omega,i+1,u,⟨rfl,by omega,j2.ab hu eE⟩,E.ab [2,3,7,8,9,10,11,12,13],I⟩
    refine RN 15 E I λa E=>?_;exact⟨256-(i+1),by omega,i+1,fG,⟨rfl,by omega,AD.skip dp om⟩,E.ab [2,3,7,8,9,10,11,12,13],I⟩
   obtain rfl:i=256:=by omega
   obtain⟨u,rfl,YX,YY,Fa⟩:=AD.E7 (by omega);refine ST 3 E I (λa w E I=>?_) (hlt:=(by rw[YO];omega));rw[YQ]at I;refine SX 2 E I (by rw[wrap_u8];omega) λa E=>?_;rw[show ((u:Nat):Int)=((UInt8.ofNat u).toNat:Int) from by rw[UInt8.toNat_ofNat'];omega]at E;refine RN 0 E I λa E=>?_;refine cn E rfl I underlying22 Ty.t5 rfl rfl rfl rfl (by decide) (by decide) λb83 a w E I ho=>?_;clear ho;refine RN 0 E I λa E=>?_;refine cI E rfl I underlying22 Ty.t5 rfl rfl I.ai rfl (ep [UInt8.ofNat u]) (by decide) (by decide) (by omega) λYZ Y0 a w E I=>?_;rw[show bc out++_=bc (out++[UInt8.ofNat u]) from (fH _ [_]).symm,show out.length+1=(out++[UInt8.ofNat u]).length from by simp]at I;rw[show out.length+1=(out++[UInt8.ofNat u]).length from by simp]at E;refine RN 1 E I λa E=>?_;exact⟨min k 256-(j+1),by omega,j+1,out++[UInt8.ofNat u],_,YZ,Y0,⟨rfl,by omega,by rw[aL,dW];rfl,by rw[K7 YY,K9,ak YX],λh=>by omega,λ_=>by
    rcases Nat.eq_zero_or_pos j with h0 | h0
    ·rw[g5 (l:=out) (by omega),Fa (dk h0),YN hb];simp
    ·rw[lS (by omega)];exact E9 (by omega)⟩,E.ab [2,3,7,8,9,10,11],I.sub⟩
  refine RT 3 E I ?_;exact⟨ad2,c2,out,rfl,⟨by omega,E9 (by omega)⟩,I.sub⟩
 refine RT 8 E I ?_;exact⟨ad2,c2,out,rfl,⟨by omega,E9 (by omega)⟩,I.sub⟩
theorem Y1 (I:U W w L)(hb:cR b)(eB:past.length≤1001)(jP:past.length≤c)(hn:m≤1000)(hp:∀ V,U W V L→a6 V ad past.length past)(ht:∀ V,U W V L→a6 V adT b.table.length b.table) :
   Calls prog 161 #[.agg (di b adT cT).toArray,.slice ad past.length c,.int .i64 m] w λe V=>∃ av c',e=.returned (.slice av m c')∧U W V (Sl 5 1 av m c' (bc (jZ b past m))::L):=by
 refine EN func161 ntmps161 rfl rfl λa E=>?_;refine BX 1 E I λb3 a w E I=>?_;change U W w (aa b3 47 (di b adT cT)::_) at I;refine bg 4 E I (E8 I) λr a w E ⟨hr,I⟩=>?_;rw[hr.2 hb]at E;refine RN 1 E I λa E=>?_;replace E:=E.aN 13;refine RN 2 E I λa E=>?_;replace I:=I.bM 5 1 none;refine RN 1 E I λa E=>?_;refine gV E rfl I underlying22 Ty.t5 rfl rfl (by decide) (λh0=>(hp _ I.tail.tail).get h0) (by rw[dw];omega) (ep _) (by omega) λJ5 J6 a w E I=>?_;rw[nil_append,Nat.zero_add]at I;rw[Nat.zero_add]at E;refine RN 6 E I λa E=>?_;refine aR (λμ a w=>∃ (i:Nat) (ad2:Option Addr) (c2:Nat) (fl:Option Addr) (dC:Nat),(μ=m-i∧i≤m)∧Fr a 41 [(2,.int .i64 m),(3,pt b3),(7,.slice ad2 (eh b past i).length c2),(8,.slice fl i dC),(9,.int .i64 i)]∧U W w (Sl 5 1 fl i dC (bc (jZ b past i))::Sl 5 1 ad2 (eh b past i).length c2 (bc (eh b past i))::aa b3 47 (di b adT cT)::L)) (m) (⟨0,J5,J6,none,0,⟨rfl,by omega⟩,E.ab [2,3,7,8,9],by
  have h1:jZ b past 0=[]:=g5 (Es b past 0);rw[h1];exact I.bM 5 1 none⟩) ?_
 clear E I;rintro μ a w ⟨i,ad2,c2,fl,dC,⟨rfl,hi⟩,E,I⟩;refine BY 6 E I (λbS a E=>?_) λbS a E=>?_
 ·
  refine RN 3 E I λa E=>?_;rw[dk (by omega)]at E;refine RN 3 E I λa E=>?_;have cg:=ig b past i;have E5:=(I.sl ad2).2;have Y2:i<m:=by omega
  refine jI 2 E I (K8 (past:=eh b past i) (k:=1) I hb (by decide) (by omega) E5 (λV hw=>hw.cF ad2 (eh b past i) rfl rfl) (λV hw=>ht V hw.tail.tail.tail)) λq0 oj out a w E ⟨⟨dW,Y3⟩,I⟩=>?_;refine RN 1 E I λa E=>?_;obtain⟨x,rfl⟩:∃ x,out=[x]:=by
   match out,dW with
   | [x],_=>exact⟨x,rfl⟩
  obtain rfl:x=m4 b (eh b past i):=by simpa using Y3
  obtain⟨gi,or',rfl,ju⟩:=I.bY q0 (by simp);refine SX 3 E I (by simp) λa E=>?_;refine RN 0 E I λa E=>?_;refine SS E (ag E (ju 0 _ rfl)) λa E=>?_;refine RN 0 E I λa E=>?_;refine cn E rfl I underlying22 Ty.t5 rfl rfl rfl rfl (by decide) (by decide) λgC a w E I ho=>?_;clear ho;refine RN 0 E I λa E=>?_;refine cI E rfl I underlying22 Ty.t5 rfl rfl I.ai rfl (ep [m4 b (eh b past i)]) (by decide) (by decide) (by omega) λFb Fc a w E I=>?_;rw[show bc (eh b past i)++_=bc (eh b past (i+1)) from (fH _ [_]).symm,show (eh b past i).length+1=(eh b past (i+1)).length from by rw[ig,ig];omega]at I;rw[show (eh b past i).length+1=(eh b past (i+1)).length from by rw[ig,ig];omega]at E;refine RN 1 E I λa E=>?_;replace ju:=I.cC gi or' (by simp);refine SX 2 E I (by simp) λa E=>?_;refine RN 0 E I λa E=>?_;refine SS E (ag E (ju 0 _ rfl)) λa E=>?_;refine RN 0 E I λa E=>?_;refine cn E rfl I underlying22 Ty.t5 rfl rfl rfl rfl (by decide) (by decide) λb38 a w E I ho=>?_;clear ho;refine RN 0 E I λa E=>?_;refine cI E rfl I underlying22 Ty.t5 rfl rfl I.ai rfl (ep [m4 b (eh b past i)]) (by decide) (by decide) (by omega) λY4 Y5 a w E I=>?_;rw[show bc (jZ b past i)++_=bc (jZ b past (i+1)) from by rw[XW,ug];exact (fH _ [_]).symm]at I;refine RN 4 E I λa E=>?_;exact⟨m-(i+1),by omega,i+1,Fb,Fc,Y4,Y5,⟨rfl,by omega⟩,E.ab [2,3,7,8,9],I.sub⟩
 refine RT 7 E I ?_;obtain rfl:i=m:=by omega
 exact⟨_,_,rfl,I.sub⟩
end
end
section
def wg (to:Nat)(l x:List UInt8):Prop:=(∃ t,x=l++t)∧to≤x.length∧x.length≤1001
def m7 (X:List (List UInt8))(front to:Nat):List (List UInt8):=(List.range (to-front)).map λi=>cr X (front+i)
theorem wi (b:Gs)(ls:List (List UInt8))(to:Nat):m7 (iQ b ls to) (aU ls) to=dt b ls to:=rfl
theorem AE (X:List (List UInt8))(front to:Nat):(m7 X front to).length=to-front:=by simp[m7]
structure yf (to:Nat)(ls X:List (List UInt8)):Prop where
 len:X.length=ls.length
 fit:∀ (j:Nat) (l x:List UInt8),ls[j]?=some l→X[j]?=some x→wg to l x
theorem Y6 {b:Gs}{l:List UInt8}{to:Nat}(h:l.length≤1000)(h2:to≤1000):wg to l (nz b l to):=by
 refine⟨⟨jZ b l (to-l.length),?_⟩,XX b l to,?_⟩
 ·rw[nz,ug]
 ·rw[nz,ig];omega
theorem La {b:Gs}{l:List UInt8}{to:Nat}(h:to≤l.length):nz b l to=l:=by rw[nz,show to-l.length=0 from by omega];rfl
structure wj:Prop where
 Y7:∀ {W w:World} {L:List SP} {c k cT:Nat} {ad adT:Option Addr} {past:List UInt8} {b:Gs},U W w L→cR b→(1≤k∧k≤256)→past.length≤1000→past.length≤c→(∀ V,U W V L→a6 V ad past.length past)→(∀ V,U W V L→a6 V adT b.table.length b.table) →
 Calls prog 310 #[.agg (di b adT cT).toArray,.slice ad past.length c,.int .i64 k] w λe V=>∃ (av:Option Addr) (c':Nat) (out:List UInt8),e=.returned (.slice av out.length c')∧out.length=k∧U W V (Sl 5 1 av out.length c' (bc out)::L)
section
variable {W w:World}{L:List SP}{c m cT to r:Nat}{ad adT:Option Addr}{past:List UInt8}{b:Gs}
set_option maxHeartbeats 1000000 in
theorem Y8 (rk:r=0∨wj)(hr:r≤100000)(I:U W w (Sl 5 1 ad past.length c (bc past)::L))(hb:cR b)(eB:past.length≤1000)(sO:to≤1000)(ht:∀ V,U W V L→a6 V adT b.table.length b.table) :
   Calls prog 294 #[.slice ad past.length c,.agg (di b adT cT).toArray,.int .i64 r,.int .i64 to] w λe V=>∃ (av:Option Addr) (c':Nat) (x:List UInt8),e=.returned (.slice av x.length c')∧(wg to past x∧(r=0→x=nz b past to)) ∧
    U W V (Sl 5 1 av x.length c' (bc x)::L):=by
 have jP:=(I.sl ad).2;refine EN func294 ntmps294 rfl rfl λa E=>?_;refine BX 1 E I λb5 a w E I=>?_;change U W w (aa b5 186 (di b adT cT)::_) at I;refine IF 7 E I (λaj a E=>?_) λaj a E=>?_
 ·
  refine RT 3 E I ?_;exact⟨ad,c,past,rfl,⟨⟨⟨[],by simp⟩,by omega,by omega⟩,λ_=>(La (by omega)).symm⟩,I.tail⟩
 refine RN 0 E I λa E=>?_;refine b7 (M:=λa w=>∃ (ad2:Option Addr) (c2:Nat) (y:List UInt8),((∃ t,y=past++t)∧y.length≤past.length+1∧past.length<to∧(r=0→y=past))∧Fr a 48 [(0,.slice ad2 y.length c2),(3,.int .i64 to),(5,pt b5)]∧U W w (Sl 5 1 ad2 y.length c2 (bc y)::aa b5 186 (di b adT cT)::L)) ?_ ?_
 ·
  refine SX 2 E I (by decide) λa E=>?_;rw[show ((r:Nat):Int).tmod 256=((r%256:Nat):Int) from nP _ 256]at E;refine RN 1 E I λa E=>?_;have xS:r%256<256:=Nat.mod_lt _ (by decide);generalize og:r%256=r6 at E xS;refine IF 3 E I (λao a E=>?_) λao a E=>?_
  ·
   have Y9:=rk.resolve_left (λh=>by rw[h]at og;omega);have hp0:=I.drew.tail.tail;refine bQ 0 [] [0,1,2,3,4,5,7,8,9,11,1006,1010,12,1013,1014,1015,16] E I λa w E I hH hC=>?_;refine RH 5 E I hH hC λa E=>?_;refine QP E (λw=>Ch E underlying22 Ty.t5 (bf _) (by omega)) λa E=>?_;rw[qG]at E;refine RH 3 E I hH hC λa E=>?_;rw[show ((r6:Nat):Int)+1=((r6+1:Nat):Int) from by omega]at E;refine RH 2 E I hH hC λa E=>?_;refine jI 0 E I (Y9.Y7 I hb (by omega) eB jP (λV hw=>hw.tail.cF ad past rfl rfl) (λV hw=>ht V hw.tail.tail)) λq0 oj out a w E ⟨dW,I⟩=>?_;obtain⟨gi,or',rfl,ju⟩:=I.bY q0 (by omega);refine RN 1 E I λa E=>?_;refine SS E (ag E (ju r6 _ (dO (by omega)))) λa E=>?_;refine RN 0 E I λa E=>?_;refine cn E rfl I underlying22 Ty.t5 rfl rfl rfl rfl (by decide) (by decide) λgC a w E I ho=>?_;clear ho;replace I:=I.Hy ad past.length (bf _);rw[qG,Nat.mul_one,fX (by rw[dw];exact bf _)]at I;refine RN 0 E I λa E=>?_;refine cI E rfl I underlying22 Ty.t5 rfl rfl I.ai rfl (ep [out[r6]]) (by decide) (by decide) (by omega) λFb Fc a w E I=>?_;rw[show bc past++_=bc (past++[out[r6]]) from (fH _ [_]).symm,show past.length+1=(past++[out[r6]]).length from by simp]at I;rw[show past.length+1=(past++[out[r6]]).length from by simp]at E;refine RN 1 E I λa E=>?_;exact⟨Fb,Fc,past++[out[r6]],⟨⟨_,rfl⟩,by simp,by omega,λh=>by rw[h]at og;omega⟩,E.ab [0,3,5],I.sub⟩
  have aeM:r6=0:=by omega
  refine RN 0 E I λa E=>?_;exact⟨ad,c,past,⟨⟨[],by simp⟩,by omega,by omega,λ_=>rfl⟩,E.ab [0,3,5],I.sub⟩
 clear E;(try clear I);rintro a w ⟨ad2,c2,y,⟨jO,l5,Za,rl⟩,E,I⟩;refine RN 1 E I λa E=>?_;have j3:y.length≤to:=by omega
 have oz:=(I.sl ad2).2;refine bQ 0 [] [0,1,2,3,4,5,7,8,9,10,11,1006,1012,1013,14] E I λa w E I hH hC=>?_;refine RH 5 E I hH hC λa E=>?_;refine QP E (λw=>Ch E underlying22 Ty.t5 (bf _) (by omega)) λa E=>?_;rw[qG]at E;refine RH 5 E I hH hC λa E=>?_;rw[show ((to:Nat):Int)-((y.length:Nat):Int)=((to-y.length:Nat):Int) from by omega]at E;refine RH 1 E I hH hC λa E=>?_;refine aY 0 E I (YM (to:=0) (past:=y) (m:=to-y.length) I hb (by omega) oz (by omega) (λV hw=>hw.cF ad2 y rfl rfl) (λV hw=>ht V hw.tail.tail)) λadc Zb a w E I=>?_;replace I:=I.Hy ad2 y.length (bf _);rw[qG,Nat.mul_one,fX (by rw[dw];exact bf _)]at I;have Fe:=Es b y (to-y.length);refine RN 0 E I λa E=>?_;refine gV E rfl I underlying22 Ty.t5 rfl rfl (by decide) (λh0=>(I.tail.cF adc (jZ b y (to-y.length)) rfl Fe).get h0) (by rw[dw];omega) (ep _) (by omega) λpo q7 a w E I=>?_;rw[← fH,ug,show y.length+(to-y.length)=(eh b y (to-y.length)).length from by rw[ig]]at I;rw[show y.length+(to-y.length)=(eh b y (to-y.length)).length from by rw[ig]]at E;refine RN 1 E I λa E=>?_;refine RT 0 E I ?_;obtain⟨t,Ff⟩:=jO;refine⟨po,q7,_,rfl,⟨⟨⟨t++jZ b y (to-y.length),?_⟩,by rw[ig];omega,by rw[ig];omega⟩,λh=>?_⟩,I.sub⟩
 ·rw[← ug,Ff,dv]
 ·rw[rl h,nz]
set_option maxHeartbeats 1000000 in
theorem Fg {qb:Nat}{aB:List Nat}{ls:List (List UInt8)}(rk:r=0∨wj)(hr:r≤100000)(I:U W w (Qu qb aB ls::L))(hb:cR b)(h0:ls≠[])(h8:ls.length≤8)(hl:∀ l∈ls,l.length≤1000)(sO:to≤1000)(ht:∀ V,U W V L→a6 V adT b.table.length b.table) :
   Calls prog 277 #[pt qb,.agg (di b adT cT).toArray,.int .i64 r,.int .i64 to] w λe V=>∃ (av:Option Addr) (c':Nat) (X:List (List UInt8)),e=.returned (.slice av (to-aU ls) c')∧(yf to ls X∧(r=0→X=iQ b ls to)) ∧
    U W V (b9 av (to-aU ls) c' (m7 X (aU ls) to)::Qu qb aB ls::L):=by
 refine EN func277 ntmps277 rfl rfl λa E=>?_;refine BX 1 E I λb5 a w E I=>?_;change U W w (aa b5 186 (di b adT cT)::_) at I;refine RN 6 E I λa E=>?_;replace E:=E.aN 21;refine bg 1 E I (ye I) λrr a w E ⟨ju,I⟩=>?_;rw[ju.2 hb]at E;refine RN 3 E I λa E=>?_;replace E:=E.aN 26;refine RN 4 E I λa E=>?_;rw[bn (by omega)]at E;refine RN 3 E I λa E=>?_;rw[bn (by omega)]at E;refine CL 3 E I (re (I.pick (Qu qb aB ls)) h0 h8) λa w E I=>?_;refine CL 6 E I (Et I) λa w E I=>?_;refine RN 1 E I λa E=>?_;replace I:=I.bM 22 1 none;replace I:=U.iI (f:=a7) I;refine aR (λμ a w=>∃ (i:Nat) (rr:Nat) (xs:List ea) (nD:Option Addr) (da:Nat),(μ=ls.length-i∧i≤ls.length∧xs.length=i∧(rr=0∨wj)∧rr≤100000∧(r=0→rr=0)∧(∀ (j:Nat) (l:List UInt8) (x:ea),ls[j]?=some l→xs[j]?=some x→wg to l x.2.2)∧(r=0→xs.map (·.2.2)=(iQ b ls to).take i))∧Fr a 84 [(0,pt qb),(2,.int .i64 rr),(3,.int .i64 to),(5,pt b5),(9,.int .i64 (aU ls)),(10,.slice nD i da),(37,.int .i64 ls.length),(38,.int .i64 i)]∧U W w (Sl 22 1 nD i da (xs.map aM)::ah a7 xs::Qu qb aB ls::aa b5 186 (di b adT cT)::L)) (ls.length) (⟨0,r,[],none,0,⟨rfl,by omega,rfl,rk,hr,λh=>h,λj l x _ h=>by simp at h,λ_=>rfl⟩,E.ab [0,2,3,5,9,10,37,38],(I.sub:U W w (Sl 22 1 none 0 0 []::ah a7 []::Qu qb aB ls::aa b5 186 (di b adT cT)::L))⟩) ?_;clear E I;rintro μ a w ⟨i,rr,xs,nD,da,⟨rfl,hi,cj,Lb,Lc,Ld,nf,uw⟩,E,I⟩;refine IF 3 E I (λao a E=>?_) λao a E=>?_
 ·
  have aJ:i<ls.length:=by omega
  have hlt:=hl _ (ui aJ);refine CL 7 E I (sK (I.pick (Qu qb aB ls)) aJ) λa w E I=>?_;refine aY 0 E I (X7 I aJ hlt) λcV dN a w E I=>?_;refine RN 3 E I λa E=>?_;refine b7 (M:=λa w=>∃ k wk:Nat,((k=0∨wj)∧k≤100000∧(wk=0∨wj)∧wk≤100000∧(r=0→k=0∧wk=0))∧Fr a 84 [(0,pt qb),(2,.int .i64 wk),(3,.int .i64 to),(5,pt b5),(9,.int .i64 (aU ls)),(10,.slice nD i da),(12,.slice cV (ls.getD i []).length dN),(13,.int .i64 k),(37,.int .i64 ls.length),(38,.int .i64 i)]∧U W w (Sl 5 1 cV (ls.getD i []).length dN (bc (ls.getD i []))::Sl 22 1 nD i da (xs.map aM)::ah a7 xs::Qu qb aB ls::aa b5 186 (di b adT cT)::L)) ?_ ?_
  ·
   refine IF 5 E I (λay a E=>?_) λay a E=>?_
   ·
    refine RN 3 E I λa E=>?_;exact⟨rr,0,⟨Lb,Lc,.inl rfl,by omega,λh=>⟨Ld h,rfl⟩⟩,E.ab [0,2,3,5,9,10,12,13,37,38],I.sub⟩
   refine RN 0 E I λa E=>?_;exact⟨0,rr,⟨.inl rfl,by omega,Lb,Lc,λh=>⟨rfl,Ld h⟩⟩,E.ab [0,2,3,5,9,10,12,13,37,38],I.sub⟩
  clear E;(try clear I);rintro a w ⟨k,wk,⟨gU,ch,mL,oe,Le⟩,E,I⟩;refine jI 5 E I (Y8 gU ch I hb hlt sO (λV hw=>ht V hw.tail.tail.tail.tail)) λgY cl x a w E ⟨⟨Zc,Fa⟩,I⟩=>?_;refine RN 0 E I λa E=>?_;refine cn E rfl I underlying207 Ty.t22 rfl rfl rfl rfl (by decide) (by decide) λXo a w E I ho=>?_;clear ho;refine RN 0 E I λa E=>?_;refine cI E rfl I underlying207 Ty.t22 rfl rfl I.ai rfl (by simp[Value.oneCell']) (by decide) (by decide) (by omega) λEg Eh a w E I=>?_;rw[show List.map aM xs++_=List.map aM (xs++[(gY,cl,x)]) from by rw[cQ];rfl]at I;refine RN 3 E I λa E=>?_;have dx:=U.jG (f:=a7) (x:=(gY,cl,x)) (I.sub (M:=Sl 5 1 gY x.length cl (bc x)::ah a7 xs::Sl 22 1 Eg (i+1) Eh ((xs++[(gY,cl,x)]).map aM)::Qu qb aB ls::aa b5 186 (di b adT cT)::L));refine⟨ls.length-(i+1),by omega,i+1,wk,xs++[(gY,cl,x)],Eg,Eh,⟨rfl,by omega,by rw[aL,cj];rfl,mL,oe,λh=>(Le h).2,λj l y hj hy=>?_,λh=>?_⟩,E.ab [0,2,3,5,9,10,37,38],dx.sub⟩
  ·by_cases gG:j<i
   ·rw[lS (by omega)]at hy;exact nf j l y hj hy
   ·have dG:=(a2.1 hy).1;rw[aL,iP]at dG;obtain rfl:j=i:=by omega
    rw[getElem?_append_right (by omega),cj,Nat.sub_self]at hy;obtain rfl:(gY,cl,x)=y:=by simpa using hy
    rw[show l=ls.getD j [] from by rw[bl,hj];rfl];exact Zc
  ·rw[cQ,uw h,iX (by rw[iQ,bd];exact aJ)]
   congr 1
   rw[map_singleton,Fa (Le h).1];simp[iQ,bl,aJ]
 obtain rfl:i=ls.length:=by omega
 have ic:yf to ls (xs.map (·.2.2)):=⟨by rw[bd];exact cj,λj l x hj hx=>by
  rw[bm]at hx;obtain⟨y,hy,rfl⟩:=Option.map_eq_some_iff.1 hx;exact nf j l y hj hy⟩
 have mq:r=0→xs.map (·.2.2)=iQ b ls to:=λh=>by rw[uw h,fX (by rw[iQ,bd];exact bf _)]
 clear nf uw;have fo:aU ls≤1000:=by
  obtain⟨l,kD,l3⟩:=Ai h0;rw[l3];exact hl l kD
 refine RN 6 E I λa E=>?_;replace I:=I.bM 22 1 none;replace I:=U.iI (f:=a7) I;refine aR (λμ a w=>∃ (d:Nat) (zs:List ea) (mv:Option Addr) (mw:Nat),(μ=to-aU ls-d∧d≤to-aU ls∧zs.map (·.2.2)=(List.range d).map λi=>cr (xs.map (·.2.2)) (aU ls+i))∧Fr a 84 [(3,.int .i64 to),(10,.slice nD ls.length da),(14,.slice mv d mw),(15,.int .i64 (aU ls+d:Nat))]∧U W w (Sl 22 1 mv d mw (zs.map aM)::ah a7 zs::Sl 22 1 nD ls.length da (xs.map aM)::ah a7 xs::Qu qb aB ls::L)) (to-aU ls) (⟨0,[],none,0,⟨rfl,by omega,rfl⟩,by rw[Nat.add_zero];exact E.ab [3,10,14,15],(I.sub:U W w (Sl 22 1 none 0 0 []::ah a7 []::Sl 22 1 nD ls.length da (xs.map aM)::ah a7 xs::Qu qb aB ls::L))⟩) ?_;clear E I;rintro μ a w ⟨d,zs,mv,mw,⟨rfl,hd,sT⟩,E,I⟩;refine IF 5 E I (λbh a E=>?_) λbh a E=>?_
 ·
  refine RN 3 E I λa E=>?_;replace I:=I.bM 5 1 none;refine RN 5 E I λa E=>?_;refine aR (λμ a w=>∃ (i:Nat) (iD:Option Addr) (jh:Nat),(μ=ls.length-i∧i≤ls.length)∧Fr a 84 [(3,.int .i64 to),(10,.slice nD ls.length da),(14,.slice mv d mw),(15,.int .i64 (aU ls+d:Nat)),(16,.slice iD i jh),(65,.slice nD ls.length da),(66,.int .i64 ls.length),(67,.int .i64 i)]∧U W w (Sl 5 1 iD i jh (bc (fu (xs.map (·.2.2)) (aU ls+d) i))::Sl 22 1 mv d mw (zs.map aM)::ah a7 zs::Sl 22 1 nD ls.length da (xs.map aM)::ah a7 xs::Qu qb aB ls::L)) (ls.length) (⟨0,none,0,⟨rfl,by omega⟩,E.ab [3,10,14,15,16,65,66,67],I⟩) ?_;clear E I;rintro μ a w ⟨i,iD,jh,⟨rfl,hi⟩,E,I⟩;refine IF 3 E I (λbR a E=>?_) λbR a E=>?_
  ·
   have aJ:i<ls.length:=by omega
   obtain⟨x,hx⟩:∃ x,xs[i]?=some x:=⟨_,aI (by omega)⟩;have AF:=U.lY (xs:=xs) (I.sub (M:=Sl 22 1 nD ls.length da (xs.map aM)::ah a7 xs::[]));obtain⟨mg,ox,rfl,e9⟩:=AF.1 (by omega);have yg:=ic.fit i _ x.2.2 (aI aJ) (by rw[bm,hx];rfl);obtain⟨mE,ol,gS,iM⟩:=(AF.2 x (bK hx)).get (by have:=yg.2.1;omega);refine RN 3 E I λa E=>?_;refine SS E (ag E (e9 i (aM x) (by rw[bm,hx];rfl))) λa E=>?_;refine RN 4 E I λa E=>?_;rw[aM,gS]at E;refine SX 0 E I (by have:=yg.2.1;omega) λa E=>?_;refine RN 0 E I λa E=>?_;refine SS E (ag E (iM (aU ls+d) _ (kN (by have:=yg.2.1;omega)))) λa E=>?_;refine RN 0 E I λa E=>?_;refine cn E rfl I underlying22 Ty.t5 rfl rfl rfl rfl (by decide) (by decide) λb76 a w E I ho=>?_;clear ho;refine RN 0 E I λa E=>?_;refine cI E rfl I underlying22 Ty.t5 rfl rfl I.ai rfl (ep [x.2.2.getD (aU ls+d) 0]) (by decide) (by decide) (by omega) λZd Ze a w E I=>?_;rw[show bc (fu (xs.map (·.2.2)) (aU ls+d) i)++_=bc (fu (xs.map (·.2.2)) (aU ls+d) (i+1)) from by rw[Ak (by rw[bd];omega),getElem_map,fH,(a2.1 hx).2]]at I;refine RN 3 E I λa E=>?_;exact⟨ls.length-(i+1),by omega,i+1,Zd,Ze,⟨rfl,by omega⟩,E.ab [3,10,14,15,16,65,66,67],I.sub⟩
  obtain rfl:i=ls.length:=by omega
  have dG:fu (xs.map (·.2.2)) (aU ls+d) ls.length=cr (xs.map (·.2.2)) (aU ls+d):=by
   conv=>lhs;rw[← ic.len]
   exact Aj _ _
  rw[dG]at I;have pY:(cr (xs.map (·.2.2)) (aU ls+d)).length=ls.length:=by rw[m3];exact ic.len
  refine RN 2 E I λa E=>?_;refine cn E rfl I underlying207 Ty.t22 rfl rfl rfl rfl (by decide) (by decide) λb81 a w E I ho=>?_;clear ho;refine RN 0 E I λa E=>?_;refine cI E rfl I underlying207 Ty.t22 rfl rfl I.ai rfl (by simp[Value.oneCell']) (by decide) (by decide) (by omega) λLf Lg a w E I=>?_;rw[show List.map aM zs++_=List.map aM (zs++[(iD,jh,cr (xs.map (·.2.2)) (aU ls+d))]) from by rw[cQ,map_singleton,aM,pY];rfl]at I;refine RN 4 E I λa E=>?_;have dx:=U.jG (f:=a7) (x:=(iD,jh,cr (xs.map (·.2.2)) (aU ls+d))) (by
   rw[a7,pY];exact I.sub (M:=Sl 5 1 iD ls.length jh (bc (cr (xs.map (·.2.2)) (aU ls+d)))::ah a7 zs::Sl 22 1 Lf (d+1) Lg ((zs++[(iD,jh,cr (xs.map (·.2.2)) (aU ls+d))]).map aM)::Sl 22 1 nD ls.length da (xs.map aM)::ah a7 xs::Qu qb aB ls::L))
  exact⟨to-aU ls-(d+1),by omega,d+1,zs++[(iD,jh,cr (xs.map (·.2.2)) (aU ls+d))],Lf,Lg,⟨rfl,by omega,by rw[cQ,sT,range_succ,cQ];rfl⟩,by rw[show ((aU ls+(d+1):Nat):Int)=((aU ls+d:Nat):Int)+1 from by omega];exact E.ab [3,10,14,15],dx.sub⟩
 obtain rfl:d=to-aU ls:=by omega
 refine RT 3 E I ?_;exact⟨mv,mw,xs.map (·.2.2),rfl,⟨ic,mq⟩,b9.close (xs:=zs) (I.sub (M:=Sl 22 1 mv (to-aU ls) mw (zs.map aM)::ah a7 zs::Qu qb aB ls::L)) sT (AE _ _ _)⟩
end
end
section
structure iR where
 pb:Nat
 core:pw
 aq:Option Addr
 cO:Nat
 adT:Option Addr
 cT:Nat
 gs:Gs
abbrev gp (p:Pr)(B:iR)(g:Nat→Int):List Value:=[pt B.core.cb,.string p.title,.slice B.aq p.ops.length B.cO,.int .i64 B.gs.kind,.int .i64 B.gs.order,.slice B.adT B.gs.table.length B.cT]++ints .i32 32 g
theorem Lh {w:World}{b:Nat}{p:Pr}{B:iR}{g:Nat→Int}(h:Rd w b 0 (gp p B g)):Rd w b 1 (bP p B.aq B.cO):=h.part 1 2
theorem Li {w:World}{b:Nat}{p:Pr}{B:iR}{g:Nat→Int}(h:Rd w b 0 (gp p B g)):Rd w b 3 (di B.gs B.adT B.cT):=h.part 3 3
theorem yh {w:World}{b:Nat}{p:Pr}{B:iR}{g:Nat→Int}(h:Rd w b 0 (gp p B g)):Rd w b 6 (ints .i32 32 g):=by
 have h1:=h.part 6 32
 rwa [show ((gp p B g).drop 6).take 32=ints .i32 32 g from by
  show (ints .i32 32 g).take 32=_;exact fX (by rw[df];exact bf _)]at h1
theorem Lj (p:Pr)(B:iR)(g:Nat→Int):(gp p B g).length=38:=by rw[gp,aL,df];rfl
theorem Zf (p:Pr)(B:iR)(g g':Nat→Int):cB (gp p B g) 6 (ints .i32 32 g')=gp p B g':=by
 rw[cB,df,drop_eq_nil_of_le (by rw[Lj];exact bf _),append_nil,gp,gp]
 congr 1
def aP (W:World)(B:iR)(p:Pr)(s:Pl):SP:=λh=>cm [aa B.pb 192 (gp p B s.g),az B.core s.k,aA W p B.aq B.cO,Sl 5 1 B.adT B.gs.table.length B.cT (bc B.gs.table)] h
def fx (p:Pr)(gs:Gs)(s:Pl):List UInt8×Nat:=if aF s.k≤ax s.k then lk s else (gj (foldI p (ax s.k) s.g (dt gs s.k.ls (aF s.k))),aF s.k)
section
variable {W w:World}{L R:List SP}{n c i:Nat}{ad:Option Addr}{B:iR}{x:UInt8}{p:Pr}{s:Pl}{bs:List UInt8}
theorem aP.open (I:U W w (aP W B p s::L)):U W w (aa B.pb 192 (gp p B s.g)::az B.core s.k::aA W p B.aq B.cO::Sl 5 1 B.adT B.gs.table.length B.cT (bc B.gs.table)::L) :=
 I.open (M:=[_,_,_,_]) λ_ h=>h
theorem aP.close (I:U W w (aa B.pb 192 (gp p B s.g)::az B.core s.k::aA W p B.aq B.cO::Sl 5 1 B.adT B.gs.table.length B.cT (bc B.gs.table)::L)):U W w (aP W B p s::L) :=
 U.shut (M:=[_,_,_,_]) I λ_ h=>h
theorem aP.fold (I:U W w L)(B:iR)(p:Pr)(s:Pl)[kk:fD L [aa B.pb 192 (gp p B s.g),az B.core s.k,aA W p B.aq B.cO,Sl 5 1 B.adT B.gs.table.length B.cT (bc B.gs.table)] R]:U W w (aP W B p s::R):=aP.close (I.perm kk.perm)
theorem nE (I:U W w (aP W B p s::L)):Calls prog 178 #[pt B.pb] w λr V=>r=.returned (pt B.core.cb)∧U W V (aP W B p s::L):=by
 replace I:=aP.open I;refine EN func178 ntmps178 rfl rfl λa E=>?_;refine RN 6 E I λa E=>?_;replace E:=E.aN 4;refine RT 7 E I ?_;exact⟨rfl,aP.close I⟩
theorem Fh (I:U W w (aP W B p s::L))(hw:WP p s)(a1:dg p)(aE:p.title.size≤1000000000):Calls prog 99 #[pt B.pb] w λr V=>r=.returned (.tuple #[])∧U W V (aP W B p (ey p s)::L):=by
 refine EN func99 ntmps99 rfl rfl λa E=>?_;refine RN 0 E I λa E=>?_;refine aR (λμ a w=>∃ (i:Nat),(μ=ax s.k-s.k.mr.length-i∧i≤ax s.k-s.k.mr.length)∧Fr a 56 [(0,pt B.pb)]∧U W w (aP W B p (ik p i s)::L)) (ax s.k-s.k.mr.length) (⟨0,⟨rfl,by omega⟩,E.ab [0],I⟩) ?_;clear E I;rintro μ a w ⟨i,⟨rfl,hi⟩,E,I⟩;obtain⟨j4,fe,lX⟩:=hw.qi i hi;have e6:ik p (i+1) s=nB p (ik p i s):=Ez p i s;have Cp:=hw.low;have vn:ax (ik p i s).k=ax s.k:=by rw[ax,fe];rfl
 generalize Fi:ik p i s=si at I j4 fe lX e6 vn;replace I:=aP.open I;have bN:=j4.wc.kR;have iB:si.k.ls.length≤8:=by rw[j4.wc.ls];exact j4.wc.n.2
 have Zg:ax si.k≤1000:=gN j4.wc.nA j4.wc.lM;refine aZ 2 (λw0 V=>V.cell? ⟨B.pb,0,none⟩=some (pt B.core.cb)) [4,8] [0,1,2,5,6,7,3003,3008,1004,1009,1010,11] E I λa w E I hH=>?_;have hC:=hH.at w (I.bB (b:=B.pb) rfl);refine RH 6 E I hH hC λa E=>?_;refine QH E (λw hc=>ag E (hc)) hC λa E=>?_;refine QH E (λw hc=>ag E (hc)) hC λa E=>?_;refine RH 0 E I hH hC λa E=>?_;refine CL 0 E I (KF (I.pick (az B.core si.k))) λa w E I=>?_;replace hC:=hH.at w (I.bB (b:=B.pb) rfl);refine RH 0 E I hH hC λa E=>?_;refine CL 0 E I (ow (I.pick (az B.core si.k))) λa w E I=>?_;obtain⟨D,I,hD⟩:=az.qu I;refine CL 0 E I (re I bN iB) λa w E I=>?_;refine RN 1 E I λa E=>?_;replace I:=hD _ _ I;replace I:=I.sub (M:=aa B.pb 192 (gp p B si.g)::az B.core si.k::aA W p B.aq B.cO::Sl 5 1 B.adT B.gs.table.length B.cT (bc B.gs.table)::L);refine IF 0 E I (λaj a E=>?_) λaj a E=>?_
 ·
  have p4:si.k.mr.length<aU si.k.ls:=by omega
  have Zh:si.k.mr.length<ax si.k:=p4;refine CL 5 E I (KF (I.pick (az B.core si.k))) λa w E I=>?_;refine CL 6 E I (ow (I.pick (az B.core si.k))) λa w E I=>?_;refine RN 1 E I λa E=>?_;obtain⟨D,I,hD⟩:=az.qu I;refine aY 0 E I (X8 I bN p4 iB) λiD jh a w E I=>?_;refine RN 5 E I λa E=>?_;replace I:=hD _ _ (I.sub (M:=Qu B.core.qb B.core.aB si.k.ls::D::Sl 5 1 iD (cr si.k.ls si.k.mr.length).length jh (bc (cr si.k.ls si.k.mr.length))::aa B.pb 192 (gp p B si.g)::aA W p B.aq B.cO::Sl 5 1 B.adT B.gs.table.length B.cT (bc B.gs.table)::L));have dG:=m3 si.k.ls si.k.mr.length;refine aZ 1 (λw0 V=>Rd V B.pb 0 (gp p B si.g)) [8] [0,1,2,3,5,6,7,9,10,3004,1008,1011,12,13,1014] E I λa w E I hH=>?_;have hC:=hH.at w (I.ai (b:=B.pb));refine RH 9 E I hH hC λa E=>?_;refine QH E (λw hc=>bT E underlying45 rfl Ty.t45 (Lh hc)) hC λa E=>?_;refine RH 0 E I hH hC λa E=>?_;refine SS E (bT E underlying183 rfl Ty.t183 (yh hC)) λa E=>?_;refine RH 0 E I hH hC λa E=>?_;refine CL 0 E I (KZ (b:=cr si.k.ls si.k.mr.length) (fr:=si.k.mr.length) (I.pick (aA W p B.aq B.cO)) a1 aE (j4.pv a1) (by omega) (λV hw=>(hw.pick (Sl 5 1 iD (cr si.k.ls si.k.mr.length).length jh (bc (cr si.k.ls si.k.mr.length)))).cF iD _ rfl rfl)) λa w E I=>?_;refine RN 2 E I λa E=>?_;refine qt E rfl I Ty.t183 tr (by rw[df,Lj];decide) λa w E I=>?_;rw[Zf]at I;refine aZ 0 (λw0 V=>Rd V B.pb 0 (gp p B (eW p si.k.mr.length (cr si.k.ls si.k.mr.length) si.g))) [7,8] [0,1,2,4,5,6,3003,1007,1008,1009] E I λa w E I hH=>?_;have hC:=hH.at w (I.ai (b:=B.pb));refine RH 6 E I hH hC λa E=>?_;refine QH E (λw hc=>ag E (hc 0 _ rfl)) hC λa E=>?_;refine RH 0 E I hH hC λa E=>?_;refine SS E (bT E underlying183 rfl Ty.t183 (yh hC)) λa E=>?_;refine RH 0 E I hH hC λa E=>?_;refine CL 0 E I (XT I) λa w E I=>?_;replace hC:=hH.at w (I.ai (b:=B.pb));refine RH 0 E I hH hC λa E=>?_;refine CL 0 E I (Ys (I.pick (az B.core si.k)) j4.wc (by omega) (DF _)) λa w E I=>?_;refine RN 0 E I λa E=>?_;exact⟨ax s.k-s.k.mr.length-(i+1),by omega,i+1,⟨rfl,by omega⟩,E.ab [0],by
   rw[e6];show U W w (aP W B p ⟨lg si.k (jf (gj (eW p si.k.mr.length (cr si.k.ls si.k.mr.length) si.g))),eW p si.k.mr.length (cr si.k.ls si.k.mr.length) si.g⟩::L);exact (aP.fold I B p ⟨lg si.k (jf (gj (eW p si.k.mr.length (cr si.k.ls si.k.mr.length) si.g))),eW p si.k.mr.length (cr si.k.ls si.k.mr.length) si.g⟩).sub⟩
 refine RT 0 E I ?_;obtain rfl:i=ax s.k-s.k.mr.length:=by
  have:aU si.k.ls=ax si.k:=rfl;omega
 refine⟨rfl,?_⟩;rw[ey,Fi];exact aP.close I
theorem Ll (I:U W w (aP W B p s::L))(hw:cw p s)(a1:dg p)(aE:p.title.size≤1000000000):Calls prog 282 #[pt B.pb,.int .u8 (x.toNat:Nat)] w λr V=>r=.returned (.int .i64 (dE p x s).1)∧U W V (aP W B p (dE p x s).2::L):=by
 have h1:=uo x s.k;have k7:=hw.toWP.more (hw.wc.al x) (hw.held.al x) h1.1 h1.2;refine EN func282 ntmps282 rfl rfl λa E=>?_;refine CL 4 E I (nE I) λa w E I=>?_;refine RN 1 E I λa E=>?_;replace I:=aP.open I;refine CL 0 E I (Yu (x:=x) (I.pick (az B.core s.k)) hw.wc) λa w E I=>?_;replace I:=(aP.fold I B p ⟨(cW x s.k).2,s.g⟩);refine RN 1 E I λa E=>?_;refine b7 (M:=λa w=>Fr a 15 [(5,.int .i64 (dE p x s).1)]∧U W w (aP W B p (dE p x s).2::L)) ?_ ?_
 ·
  refine IF 3 E I (λaj a E=>?_) λaj a E=>?_
  ·
   refine CL 1 E I (Fh I k7 a1 aE) λa w E I=>?_;refine RN 0 E I λa E=>?_;exact⟨E.ab [5],I⟩
  refine RN 0 E I λa E=>?_;have he:(dE p x s).2=⟨(cW x s.k).2,s.g⟩:=by
   show ey p _=_;rw[uk aj];exact hw.ey
  rw[he];exact⟨E.ab [5],I⟩
 clear E;(try clear I);rintro a w ⟨E,I⟩;refine RT 3 E I ?_;exact⟨rfl,I⟩
theorem Lm (I:U W w (aP W B p s::L))(hw:cw p s)(a1:dg p)(aE:p.title.size≤1000000000)(hb:bs.length≤65536)(hc:bs.length≤c)(hp:∀ V,U W V L→a6 V ad bs.length bs) :
   Calls prog 284 #[pt B.pb,.slice ad bs.length c] w λr V=>r=.returned (.int .i64 (dz p bs s).1)∧U W V (aP W B p (dz p bs s).2::L):=by
 have h1:=ri bs s.k;have k7:=hw.toWP.more (hw.wc.recv bs).1 ((hw.wc.recv bs).2 hw.held) h1.1 h1.2;refine EN func284 ntmps284 rfl rfl λa E=>?_;refine CL 4 E I (nE I) λa w E I=>?_;refine RN 1 E I λa E=>?_;replace I:=aP.open I;refine CL 0 E I (YC (bs:=bs) (ad:=ad) (c:=c) (I.pick (az B.core s.k)) hw.wc hb hc (λV dd=>hp V dd.tail.tail.tail)) λa w E I=>?_;replace I:=(aP.fold I B p ⟨(dh bs s.k).2,s.g⟩);refine RN 1 E I λa E=>?_;refine b7 (M:=λa w=>Fr a 15 [(5,.int .i64 (dz p bs s).1)]∧U W w (aP W B p (dz p bs s).2::L)) ?_ ?_
 ·
  refine IF 3 E I (λaj a E=>?_) λaj a E=>?_
  ·
   refine CL 1 E I (Fh I k7 a1 aE) λa w E I=>?_;refine RN 0 E I λa E=>?_;exact⟨E.ab [5],I⟩
  refine RN 0 E I λa E=>?_;have he:(dz p bs s).2=⟨(dh bs s.k).2,s.g⟩:=by
   show ey p _=_;rw[vX aj];exact hw.ey
  rw[he];exact⟨E.ab [5],I⟩
 clear E;(try clear I);rintro a w ⟨E,I⟩;refine RT 3 E I ?_;exact⟨rfl,I⟩
theorem Lo (I:U W w (aP W B p s::L))(hw:cw p s)(oQ:s.k.now≤1000000):Calls prog 285 #[pt B.pb] w λr V=>∃ ad c,r=.returned (.slice ad (bo s.k).1.length c)∧U W V (cu 124 ad (bo s.k).1.length c (bo s.k).1::aP W B p ⟨(bo s.k).2,s.g⟩::L):=by
 refine EN func285 ntmps285 rfl rfl λa E=>?_;refine CL 4 E I (nE I) λa w E I=>?_;replace I:=aP.open I;refine aY 0 E I (YA (I.pick (az B.core s.k)) hw.wc oQ) λad c a w E I=>?_;refine RT 1 E I ?_;exact⟨ad,c,rfl,(aP.fold I B p ⟨(bo s.k).2,s.g⟩).sub⟩
theorem Lp (I:U W w (aP W B p s::L))(hw:cw p s):Calls prog 283 #[pt B.pb] w λr V=>∃ ad c,r=.returned (.slice ad (bu s.k).1.length c)∧U W V (cu 124 ad (bu s.k).1.length c (bu s.k).1::aP W B p ⟨(bu s.k).2,s.g⟩::L):=by
 refine EN func283 ntmps283 rfl rfl λa E=>?_;refine CL 4 E I (nE I) λa w E I=>?_;replace I:=aP.open I;refine aY 0 E I (Yz (I.pick (az B.core s.k)) hw.wc) λad c a w E I=>?_;refine RT 1 E I ?_;exact⟨ad,c,rfl,(aP.fold I B p ⟨(bu s.k).2,s.g⟩).sub⟩
theorem Lq (I:U W w (aP W B p s::L)):Calls prog 281 #[pt B.pb] w λr V=>∃ ad c,r=.returned (.slice ad s.k.ev.length c)∧U W V (Sl 135 1 ad s.k.ev.length c (s.k.ev.map cx)::aP W B p ⟨{ s.k with ev:=[] },s.g⟩::L):=by
 refine EN func281 ntmps281 rfl rfl λa E=>?_;refine CL 4 E I (nE I) λa w E I=>?_;replace I:=aP.open I;refine aY 0 E I (Yt (I.pick (az B.core s.k))) λad c a w E I=>?_;refine RT 1 E I ?_;exact⟨ad,c,rfl,(aP.fold I B p ⟨{ s.k with ev:=[] },s.g⟩).sub⟩
theorem Lr (I:U W w (aP W B p s::L)):Calls prog 141 #[pt B.pb] w λr V=>r=.returned (.bool s.k.cl)∧U W V (aP W B p s::L):=by
 refine EN func141 ntmps141 rfl rfl λa E=>?_;refine CL 4 E I (nE I) λa w E I=>?_;replace I:=aP.open I;refine CL 0 E I (x7 (I.pick (az B.core s.k))) λa w E I=>?_;refine RT 1 E I ?_;exact⟨rfl,(aP.fold I B p s).sub⟩
theorem Ls (I:U W w (aP W B p s::L))(hw:cw p s):Calls prog 273 #[pt B.pb] w λr V=>∃ ad c,r=.returned (.tuple #[.slice ad 128 c,.int .i64 (lk s).2])∧U W V (Sl 5 1 ad 128 c (bc (lk s).1)::aP W B p s::L):=by
 replace I:=aP.open I;have bN:=hw.wc.kR;have iB:s.k.ls.length≤8:=by rw[hw.wc.ls];exact hw.wc.n.2
 refine EN func273 ntmps273 rfl rfl λa E=>?_;refine RN 7 E I λa E=>?_;replace E:=E.aN 5;refine aZ 2 (λw0 V=>Rd V B.pb 0 (gp p B s.g)) [4,8] [0,1,2,5,6,7,3003,3008,1004,1009,1010,11,12] E I λa w E I hH=>?_;have hC:=hH.at w (I.ai (b:=B.pb));refine RH 6 E I hH hC λa E=>?_;refine QH E (λw hc=>bT E underlying183 rfl Ty.t183 (yh hc)) hC λa E=>?_;refine QH E (λw hc=>ag E (hc 0 _ rfl)) hC λa E=>?_;refine RH 0 E I hH hC λa E=>?_;refine aY 0 E I (xV I) λad c a w E I=>?_;replace hC:=hH.at w (I.ai (b:=B.pb));refine RH 0 E I hH hC λa E=>?_;refine CL 0 E I (ow (I.pick (az B.core s.k))) λa w E I=>?_;obtain⟨D,I,hD⟩:=az.qu I;refine CL 0 E I (re I bN iB) λa w E I=>?_;refine RN 2 E I λa E=>?_;replace I:=hD _ _ I;refine RT 0 E I ?_;exact⟨ad,c,rfl,(aP.fold I B p s).sub (M:=Sl 5 1 ad 128 c (bc (gj s.g))::aP W B p s::L)⟩
theorem Lt (I:U W w (aP W B p s::L))(hw:cw p s)(a1:dg p)(aE:p.title.size≤1000000000)(fy:cR B.gs):Calls prog 276 #[pt B.pb] w λr V=>∃ ad c,r=.returned (.tuple #[.slice ad 128 c,.int .i64 (fx p B.gs s).2])∧U W V (Sl 5 1 ad 128 c (bc (fx p B.gs s).1)::aP W B p s::L):=by
 have bN:=hw.wc.kR;have iB:s.k.ls.length≤8:=by rw[hw.wc.ls];exact hw.wc.n.2
 have gJ:=hw.wc.lM;have fo:aU s.k.ls≤aF s.k:=hw.wc.nA;refine EN func276 ntmps276 rfl rfl λa E=>?_;refine CL 5 E I (nE I) λa w E I=>?_;replace I:=aP.open I;refine CL 0 E I (ow (I.pick (az B.core s.k))) λa w E I=>?_;obtain⟨D,I,hD⟩:=az.qu I;refine CL 0 E I (re I bN iB) λa w E I=>?_;refine RN 1 E I λa E=>?_;replace I:=(aP.fold (hD _ _ I) B p s);refine RN 5 E I λa E=>?_;replace E:=E.aN 11;refine RN 3 E I λa E=>?_;replace I:=aP.open I;refine CL 1 E I (sM (I.pick (az B.core s.k)) hw.wc) λa w E I=>?_;replace I:=(aP.fold I B p s);refine IF 3 E I (λaj a E=>?_) λaj a E=>?_
 ·
  refine aY 2 E I (Ls I hw) λad c a w E I=>?_;refine RT 4 E I ?_;refine⟨ad,c,?_,?_⟩
  ·rw[fx,ak (by rw[ax];omega)]
  ·rw[fx,ak (by rw[ax];omega)];exact I
 refine RN 1 E I λa E=>?_;replace I:=aP.open I;refine aZ 0 (λw0 V=>Rd V B.pb 0 (gp p B s.g)) [7,12,13,17,21,22,23,24,25,29] [0,1,2,4,5,6,8,9,10,11,14,15,16,18,19,20,26,27,28,3003,3007,3012,3017,3021,3029,1013,1022,1023,1024,1025,1030,31,32] E I λa w E I hH=>?_;have hC:=hH.at w (I.ai (b:=B.pb));refine RH 19 E I hH hC λa E=>?_;refine QH E (λw hc=>bT E underlying45 rfl Ty.t45 (Lh hc)) hC λa E=>?_;refine QH E (λw hc=>bT E underlying183 rfl Ty.t183 (yh hc)) hC λa E=>?_;refine QH E (λw hc=>ag E (hc 0 _ rfl)) hC λa E=>?_;refine QH E (λw hc=>bT E underlying186 rfl Ty.t186 (Li hc)) hC λa E=>?_;refine QH E (λw hc=>ag E (hc 0 _ rfl)) hC λa E=>?_;refine QH E (λw hc=>ag E (hc 0 _ rfl)) hC λa E=>?_;refine RH 0 E I hH hC λa E=>?_;refine CL 0 E I (ow (I.pick (az B.core s.k))) λa w E I=>?_;replace hC:=hH.at w (I.ai (b:=B.pb));refine RH 0 E I hH hC λa E=>?_;refine CL 0 E I (sM (I.pick (az B.core s.k)) hw.wc) λa w E I=>?_;replace hC:=hH.at w (I.ai (b:=B.pb));obtain⟨D,I,hD⟩:=az.qu I;refine RH 0 E I hH hC λa E=>?_;refine jI 0 E I (Fg (r:=0) (to:=aF s.k) (.inl rfl) (by decide) I fy bN iB hw.wc.m5 gJ (λV dd=>(dd.pick (Sl 5 1 B.adT B.gs.table.length B.cT (bc B.gs.table))).cF B.adT _ rfl rfl)) λfS ga X a w E ⟨⟨sU,ic⟩,I⟩=>?_;replace hC:=hH.at w (I.ai (b:=B.pb));have mq:=ic rfl;subst mq;rw[wi]at I;have hO:(dt B.gs s.k.ls (aF s.k)).length=aF s.k-aU s.k.ls:=vT _ _ _;have mx:∀ b∈dt B.gs s.k.ls (aF s.k),b.length≤1099511627776:=λb hb=>by
  rw[dt,c1]at hb;obtain⟨i,_,rfl⟩:=hb;rw[m3,iQ,bd];omega
 obtain⟨zs,c0,eL,I⟩:=b9.open I;rw[← hO]at E I;refine RH 0 E I hH hC λa E=>?_;refine CL 0 E I (K0 (P:=dt B.gs s.k.ls (aF s.k)) (zs:=zs) (fr:=aU s.k.ls) (L:=Sl 22 1 fS (dt B.gs s.k.ls (aF s.k)).length ga (zs.map aM)::ah a7 zs::Qu B.core.qb B.core.aB s.k.ls::D::aa B.pb 192 (gp p B s.g)::Sl 5 1 B.adT B.gs.table.length B.cT (bc B.gs.table)::L) (I.sub (M:=aA W p B.aq B.cO::Sl 22 1 fS (dt B.gs s.k.ls (aF s.k)).length ga (zs.map aM)::ah a7 zs::Qu B.core.qb B.core.aB s.k.ls::D::aa B.pb 192 (gp p B s.g)::Sl 5 1 B.adT B.gs.table.length B.cT (bc B.gs.table)::L)) a1 aE (hw.pv a1) ⟨by omega,mx⟩ (by omega) c0 (λV dd=>U.lY (dd.sub (M:=Sl 22 1 fS (dt B.gs s.k.ls (aF s.k)).length ga (zs.map aM)::ah a7 zs::[])))) λa w E I=>?_;replace hC:=hH.at w (I.ai (b:=B.pb));refine RH 0 E I hH hC λa E=>?_;refine aY 0 E I (xV I) λad2 c2 a w E I=>?_;replace hC:=hH.at w (I.ai (b:=B.pb));replace I:=hD _ _ (I.sub (M:=Qu B.core.qb B.core.aB s.k.ls::D::Sl 5 1 ad2 128 c2 (bc (gj (foldI p (aU s.k.ls) s.g (dt B.gs s.k.ls (aF s.k)))))::aa B.pb 192 (gp p B s.g)::aA W p B.aq B.cO::Sl 5 1 B.adT B.gs.table.length B.cT (bc B.gs.table)::L));refine RH 0 E I hH hC λa E=>?_;refine CL 0 E I (sM I hw.wc) λa w E I=>?_;refine RN 2 E I λa E=>?_;refine RT 0 E I ?_;refine⟨ad2,c2,?_,?_⟩
 ·rw[fx,ae (by rw[ax];omega)]
 ·rw[fx,ae (by rw[ax];omega)];exact (aP.fold I B p s).sub (M:=Sl 5 1 ad2 128 c2 (bc (gj (foldI p (aU s.k.ls) s.g (dt B.gs s.k.ls (aF s.k)))))::aP W B p s::L)
end
theorem Lu {cf:Cf}(h:eN cf):∃ (n me aK bt:Nat),cf=⟨n,me,cf.id,aK,bt,cf.ba,cf.order,cf.ct,cf.workers,cf.room⟩:=by
 obtain⟨⟨h1,h2,h3⟩,⟨h4,h5,h6,h7⟩,h8,h9,fF,mO⟩:=h;simp only[fv] at *;refine⟨cf.n.toNat,cf.me.toNat,cf.aK.toNat,cf.bt.toNat,?_⟩;rw[Int.toNat_of_nonneg (by omega),Int.toNat_of_nonneg (by omega),Int.toNat_of_nonneg (by omega),Int.toNat_of_nonneg (by omega)]
section
variable {W w:World}{L:List SP}{cP cT n me aK bt:Nat}{adP adT:Option Addr}{p:Pr}{tb:List UInt8}{cf:Cf}{id ba order ct workers room:Int}
theorem Zi (I:U W w (aA W p adP cP::L))(h:¬ eN cf)(eJ:tb.length≤1099511627776)(hT:∀ V,U W V (aA W p adP cP::L)→a6 V adT tb.length tb) :
   Calls prog 60 #[.agg (cc cf).toArray,.agg (bP p adP cP).toArray,.slice adT tb.length cT] w λr V=>r=.returned (.tuple #[.pointer none,.int .i64 1])∧U W V (aA W p adP cP::L):=by
 refine EN func60 ntmps60 rfl rfl λa E=>?_;refine BX 1 E I λb3 a w E I=>?_;change U W w (aa b3 28 (cc cf)::_) at I;refine BX 0 E I λb4 a w E I=>?_;change U W w (aa b4 45 (bP p adP cP)::_) at I;refine RN 2 E I λa E=>?_;refine b7 (M:=λa w=>∃ (b8:Nat) (ed:Option Addr) (dD:Nat),Fr a 48 [(3,pt b3),(4,pt b4),(8,pt b8)]∧U W w (aa b8 186 (di ⟨cf.ba,cf.order,tb⟩ ed dD)::Sl 5 1 ed tb.length dD (bc tb)::aa b3 28 (cc cf)::aa b4 45 (bP p adP cP)::aA W p adP cP::L)) ?_ ?_
 ·
  refine aZ 0 (λw0 V=>Rd V b3 0 (cc cf)) [3,5,7] [0,2,4,3001,3003,2005,6,1007,1008] E I λa w E I hH=>?_;have hC:=hH.at w (I.ai (b:=b3));refine RH 3 E I hH hC λa E=>?_;refine QH E (λw hc=>ag E (hc 5 _ rfl)) hC λa E=>?_;refine QH E (λw hc=>ag E (hc 6 _ rfl)) hC λa E=>?_;refine RH 0 E I hH hC λa E=>?_;refine DN [(5,[6,1007,1008]),(7,[1005,6,1008])] (by kernel_rfl) rfl ⟨⟨_,rfl,?_⟩,⟨_,rfl,?_⟩,trivial⟩
  ·
   refine RH 0 E I hH hC λa E=>?_;refine aY 0 E I (rT (bs:=tb) I (λV hw=>hT V hw.sub) eJ) λed dD a w E I=>?_;replace hC:=hH.at w (I.ai (b:=b3));refine RH 1 E I hH hC λa E=>?_;refine eR E rfl I Ty.t186 rfl λb8 a w E I ho=>?_;clear ho;replace hC:=hH.at w (I.ai (b:=b3));refine RH 0 E I hH hC λa E=>?_;refine SA 0 E I λa w E I=>?_;refine RN 0 E I λa E=>?_;exact⟨_,ed,dD,E.ab [3,4,8],I.sub (M:=aa b8 186 [.int .i64 cf.ba,.int .i64 cf.order,.slice ed tb.length dD]::Sl 5 1 ed tb.length dD (bc tb)::aa b3 28 (cc cf)::aa b4 45 (bP p adP cP)::aA W p adP cP::L)⟩
  refine RH 0 E I hH hC λa E=>?_;refine eR E rfl I Ty.t186 rfl λb8 a w E I ho=>?_;clear ho;replace hC:=hH.at w (I.ai (b:=b3));refine RH 0 E I hH hC λa E=>?_;refine aY 0 E I (rT (bs:=tb) I (λV hw=>hT V hw.sub) eJ) λed dD a w E I=>?_;replace hC:=hH.at w (I.ai (b:=b3));refine RH 1 E I hH hC λa E=>?_;refine SA 0 E I λa w E I=>?_;refine RN 0 E I λa E=>?_;exact⟨_,ed,dD,E.ab [3,4,8],I.sub (M:=aa b8 186 [.int .i64 cf.ba,.int .i64 cf.order,.slice ed tb.length dD]::Sl 5 1 ed tb.length dD (bc tb)::aa b3 28 (cc cf)::aa b4 45 (bP p adP cP)::aA W p adP cP::L)⟩
 clear E;(try clear I);rintro a w ⟨b8,ed,dD,E,I⟩;refine CL 2 E I (Yq I h) λa w E I=>?_;refine RN 9 E I λa E=>?_;rw[show decide ((1:Int)≠0)=true from rfl]at E;refine RN 1 E I λa E=>?_;replace E:=E.ef 26;refine RT 13 E I ?_;exact⟨rfl,I.sub⟩
theorem Zj (I:U W w (aA W p adP cP::L))(hm:eN ⟨n,me,id,aK,bt,ba,order,ct,workers,room⟩)(h:¬ (dg p∧cR ⟨ba,order,tb⟩))(aE:p.title.size≤1000000000)(dW:p.ops.length≤1000000000)(eJ:tb.length≤1099511627776)(hT:∀ V,U W V (aA W p adP cP::L)→a6 V adT tb.length tb) :
   Calls prog 60 #[.agg (cc ⟨n,me,id,aK,bt,ba,order,ct,workers,room⟩).toArray,.agg (bP p adP cP).toArray,.slice adT tb.length cT] w λr V=>r=.returned (.tuple #[.pointer none,.int .i64 1])∧U W V (aA W p adP cP::L):=by
 obtain⟨cf,c5⟩:∃ cf:Cf,cf=⟨n,me,id,aK,bt,ba,order,ct,workers,room⟩:=⟨_,rfl⟩;rw[← c5];have hg:cf.ba=ba∧cf.order=order:=by rw[c5];exact⟨rfl,rfl⟩
 refine EN func60 ntmps60 rfl rfl λa E=>?_;refine BX 1 E I λb3 a w E I=>?_;change U W w (aa b3 28 (cc cf)::_) at I;refine BX 0 E I λb4 a w E I=>?_;change U W w (aa b4 45 (bP p adP cP)::_) at I;refine RN 2 E I λa E=>?_;refine b7 (M:=λa w=>∃ (b8:Nat) (ed:Option Addr) (dD:Nat),Fr a 48 [(3,pt b3),(4,pt b4),(8,pt b8)]∧U W w (aa b8 186 (di ⟨cf.ba,cf.order,tb⟩ ed dD)::Sl 5 1 ed tb.length dD (bc tb)::aa b3 28 (cc cf)::aa b4 45 (bP p adP cP)::aA W p adP cP::L)) ?_ ?_
 ·
  refine aZ 0 (λw0 V=>Rd V b3 0 (cc cf)) [3,5,7] [0,2,4,3001,3003,2005,6,1007,1008] E I λa w E I hH=>?_;have hC:=hH.at w (I.ai (b:=b3));refine RH 3 E I hH hC λa E=>?_;refine QH E (λw hc=>ag E (hc 5 _ rfl)) hC λa E=>?_;refine QH E (λw hc=>ag E (hc 6 _ rfl)) hC λa E=>?_;refine RH 0 E I hH hC λa E=>?_;refine DN [(5,[6,1007,1008]),(7,[1005,6,1008])] (by kernel_rfl) rfl ⟨⟨_,rfl,?_⟩,⟨_,rfl,?_⟩,trivial⟩
  ·
   refine RH 0 E I hH hC λa E=>?_;refine aY 0 E I (rT (bs:=tb) I (λV hw=>hT V hw.sub) eJ) λed dD a w E I=>?_;replace hC:=hH.at w (I.ai (b:=b3));refine RH 1 E I hH hC λa E=>?_;refine eR E rfl I Ty.t186 rfl λb8 a w E I ho=>?_;clear ho;replace hC:=hH.at w (I.ai (b:=b3));refine RH 0 E I hH hC λa E=>?_;refine SA 0 E I λa w E I=>?_;refine RN 0 E I λa E=>?_;exact⟨_,ed,dD,E.ab [3,4,8],I.sub (M:=aa b8 186 [.int .i64 cf.ba,.int .i64 cf.order,.slice ed tb.length dD]::Sl 5 1 ed tb.length dD (bc tb)::aa b3 28 (cc cf)::aa b4 45 (bP p adP cP)::aA W p adP cP::L)⟩
  refine RH 0 E I hH hC λa E=>?_;refine eR E rfl I Ty.t186 rfl λb8 a w E I ho=>?_;clear ho;replace hC:=hH.at w (I.ai (b:=b3));refine RH 0 E I hH hC λa E=>?_;refine aY 0 E I (rT (bs:=tb) I (λV hw=>hT V hw.sub) eJ) λed dD a w E I=>?_;replace hC:=hH.at w (I.ai (b:=b3));refine RH 1 E I hH hC λa E=>?_;refine SA 0 E I λa w E I=>?_;refine RN 0 E I λa E=>?_;exact⟨_,ed,dD,E.ab [3,4,8],I.sub (M:=aa b8 186 [.int .i64 cf.ba,.int .i64 cf.order,.slice ed tb.length dD]::Sl 5 1 ed tb.length dD (bc tb)::aa b3 28 (cc cf)::aa b4 45 (bP p adP cP)::aA W p adP cP::L)⟩
 clear E;(try clear I);rintro a w ⟨b8,ed,dD,E,I⟩;refine RN 2 E I λa E=>?_;rw[c5]at E;refine bg 0 E I (KB I hm) λBc a w E I=>?_;refine RN 9 E I λa E=>?_;rw[show decide ((0:Int)≠0)=false from rfl]at E;refine RN 1 E I λa E=>?_;replace E:=E.aN 26;refine bg 1 E I (Df (I.pick (aA W p adP cP)) aE dW) λrc a w E ⟨jw,I⟩=>?_;refine BY 3 E I (λjv a E=>?_) λjv a E=>?_
 ·
  refine RT 8 E I ?_;exact⟨rfl,I.sub⟩
 refine bg 1 E I (ye I) λZk a w E ⟨fb,I⟩=>?_;refine IF 2 E I (λaj a E=>?_) λaj a E=>?_
 ·
  refine RT 3 E I ?_;exact⟨rfl,I.sub⟩
 exact absurd ⟨jw.1 jv,by have:=fb.1 aj;rw[hg.1,hg.2]at this;exact this⟩ h
theorem Lw (I:U W w (aA W p adP cP::L))(hm:eN ⟨n,me,id,aK,bt,ba,order,ct,workers,room⟩)(a1:dg p)(fy:cR ⟨ba,order,tb⟩)(aE:p.title.size≤1000000000)(dW:p.ops.length≤1000000000)(eJ:tb.length≤1099511627776)(hT:∀ V,U W V (aA W p adP cP::L)→a6 V adT tb.length tb) :
   Calls prog 60 #[.agg (cc ⟨n,me,id,aK,bt,ba,order,ct,workers,room⟩).toArray,.agg (bP p adP cP).toArray,.slice adT tb.length cT] w λr V=>∃ B:iR,r=.returned (.tuple #[pt B.pb,.int .i64 0])∧B.gs=⟨ba,order,tb⟩ ∧
    U W V (aP W B p (ez p ⟨n,me,id,aK,bt,ba,order,ct,workers,room⟩)::aA W p adP cP::L):=by
 obtain⟨cf,c5⟩:∃ cf:Cf,cf=⟨n,me,id,aK,bt,ba,order,ct,workers,room⟩:=⟨_,rfl⟩;rw[← c5];have hg:cf.ba=ba∧cf.order=order:=by rw[c5];exact⟨rfl,rfl⟩
 have aeN:1≤p.ops.length∧p.ops.length≤64:=⟨a1.1.2.1,a1.1.2.2.1⟩;refine EN func60 ntmps60 rfl rfl λa E=>?_;refine BX 1 E I λb3 a w E I=>?_;change U W w (aa b3 28 (cc cf)::_) at I;refine BX 0 E I λb4 a w E I=>?_;change U W w (aa b4 45 (bP p adP cP)::_) at I;refine RN 2 E I λa E=>?_;refine b7 (M:=λa w=>∃ (b8:Nat) (ed:Option Addr) (dD:Nat),Fr a 48 [(3,pt b3),(4,pt b4),(8,pt b8)]∧U W w (aa b8 186 (di ⟨cf.ba,cf.order,tb⟩ ed dD)::Sl 5 1 ed tb.length dD (bc tb)::aa b3 28 (cc cf)::aa b4 45 (bP p adP cP)::aA W p adP cP::L)) ?_ ?_
 ·
  refine aZ 0 (λw0 V=>Rd V b3 0 (cc cf)) [3,5,7] [0,2,4,3001,3003,2005,6,1007,1008] E I λa w E I hH=>?_;have hC:=hH.at w (I.ai (b:=b3));refine RH 3 E I hH hC λa E=>?_;refine QH E (λw hc=>ag E (hc 5 _ rfl)) hC λa E=>?_;refine QH E (λw hc=>ag E (hc 6 _ rfl)) hC λa E=>?_;refine RH 0 E I hH hC λa E=>?_;refine DN [(5,[6,1007,1008]),(7,[1005,6,1008])] (by kernel_rfl) rfl ⟨⟨_,rfl,?_⟩,⟨_,rfl,?_⟩,trivial⟩
  ·
   refine RH 0 E I hH hC λa E=>?_;refine aY 0 E I (rT (bs:=tb) I (λV hw=>hT V hw.sub) eJ) λed dD a w E I=>?_;replace hC:=hH.at w (I.ai (b:=b3));refine RH 1 E I hH hC λa E=>?_;refine eR E rfl I Ty.t186 rfl λb8 a w E I ho=>?_;clear ho;replace hC:=hH.at w (I.ai (b:=b3));refine RH 0 E I hH hC λa E=>?_;refine SA 0 E I λa w E I=>?_;refine RN 0 E I λa E=>?_;exact⟨_,ed,dD,E.ab [3,4,8],I.sub (M:=aa b8 186 [.int .i64 cf.ba,.int .i64 cf.order,.slice ed tb.length dD]::Sl 5 1 ed tb.length dD (bc tb)::aa b3 28 (cc cf)::aa b4 45 (bP p adP cP)::aA W p adP cP::L)⟩
  refine RH 0 E I hH hC λa E=>?_;refine eR E rfl I Ty.t186 rfl λb8 a w E I ho=>?_;clear ho;replace hC:=hH.at w (I.ai (b:=b3));refine RH 0 E I hH hC λa E=>?_;refine aY 0 E I (rT (bs:=tb) I (λV hw=>hT V hw.sub) eJ) λed dD a w E I=>?_;replace hC:=hH.at w (I.ai (b:=b3));refine RH 1 E I hH hC λa E=>?_;refine SA 0 E I λa w E I=>?_;refine RN 0 E I λa E=>?_;exact⟨_,ed,dD,E.ab [3,4,8],I.sub (M:=aa b8 186 [.int .i64 cf.ba,.int .i64 cf.order,.slice ed tb.length dD]::Sl 5 1 ed tb.length dD (bc tb)::aa b3 28 (cc cf)::aa b4 45 (bP p adP cP)::aA W p adP cP::L)⟩
 clear E;(try clear I);rintro a w ⟨b8,ed,dD,E,I⟩;refine RN 2 E I λa E=>?_;rw[c5]at E;refine bg 0 E I (KB I hm) λBc a w E I=>?_;rw[← c5]at I;refine RN 9 E I λa E=>?_;rw[show decide ((0:Int)≠0)=false from rfl]at E;refine RN 1 E I λa E=>?_;replace E:=E.aN 26;refine bg 1 E I (Df (I.pick (aA W p adP cP)) aE dW) λrc a w E ⟨jw,I⟩=>?_;rw[jw.2 a1]at E;refine RN 1 E I λa E=>?_;rw[show (!true)=false from rfl]at E;refine RN 2 E I λa E=>?_;replace E:=E.aN 31;refine bg 1 E I (ye I) λZk a w E ⟨fb,I⟩=>?_;rw[fb.2 (by rw[hg.1,hg.2];exact fy)]at E;refine RN 2 E I λa E=>?_;replace E:=E.aN 35;refine RN 2 E I λa E=>?_;replace I:=I.bM 114 4 none;rw[bP]at I;refine RN 2 E I λa E=>?_;refine gV E rfl I underlying43 Ty.t114 rfl rfl (by decide) (λh0=>(I.pick (aA W p adP cP)).qQ adP h0) (by rw[iW CQ]) (yZ IB _) (by omega) λnY nZ a w E I=>?_;rw[nil_append,Nat.zero_add]at I;rw[Nat.zero_add]at E;refine ST 1 E I (λa w E I=>?_);refine RN 0 E I λa E=>?_;replace I:U W w (aa b4 45 [.string p.title,.slice nY p.ops.length nZ]::Sl 114 4 nY p.ops.length nZ (rows dL p.ops)::_):=I;refine RN 4 E I λa E=>?_;simp only[di]at E;refine BX 1 E I λux a w E I=>?_;refine RN 1 E I λa E=>?_;replace I:=(I.pick (Sl 114 4 nY p.ops.length nZ (rows dL p.ops))).CS;replace I:U W w (aa ux 192 (gp p ⟨ux,Bc,nY,nZ,ed,dD,⟨cf.ba,cf.order,tb⟩⟩ ot)::az Bc (fg cf)::aA W p nY nZ::Sl 5 1 ed tb.length dD (bc tb)::aA W p adP cP::L):=by
  have dx:U W w (aA W p nY nZ::_):=I;have tw:=dx.jD ux;exact U.sub (M:=_::az Bc (fg cf)::aA W p nY nZ::Sl 5 1 ed tb.length dD (bc tb)::aA W p adP cP::L) (show U W w (aa ux 192 (gp p ⟨ux,Bc,nY,nZ,ed,dD,⟨cf.ba,cf.order,tb⟩⟩ ot)::_) from tw)
 replace I:=aP.fold I ⟨ux,Bc,nY,nZ,ed,dD,⟨cf.ba,cf.order,tb⟩⟩ p ⟨fg cf,ot⟩;refine CL 2 E I (Fh I (vZ (by rw[c5];exact hm)) a1 aE) λa w E I=>?_;refine RT 4 E I ?_;exact⟨⟨ux,Bc,nY,nZ,ed,dD,⟨cf.ba,cf.order,tb⟩⟩,rfl,by rw[hg.1,hg.2],I⟩
end
end
section
structure yi (W:World)(L:List SP)(f:FuncId)(us:List Value):Prop where
 c:g4 prog f=true
 h:∀ {w:World} {M:List SP} {x y:UInt8},U W w M→(∀ {V},U W V M→U W V L)→Calls prog f (List.toArray (.int .u8 (x.toNat:Nat)::.int .u8 (y.toNat:Nat)::us)) w λe V=>∃ z:Int,e=.returned (.int .i64 z)∧U W V M
abbrev g2 (bb oo m c:Nat)(xs:List UInt8):SP:=Sl 5 1 (some ⟨bb,oo,none⟩) m c (bc xs)
abbrev sv (bb oo m c:Nat):Value:=.slice (some ⟨bb,oo,none⟩) m c
abbrev kb (f:FuncId)(us:List Value):Value:=.func (.func f) #[] us.toArray
theorem sV (bs:List UInt8)(i:Nat)(x:UInt8):(bc bs).set i (.int .u8 (x.toNat:Int))=bc (bs.set i x):=by rw[bc,bc,List.map_set]
theorem AG {n:Nat}(h:n≤9223372036854775807):IntKind.u64.wrap (n:Int)=n:=by rw[wrap_u64];omega
section
variable {W w:World}{L:List SP}{bb oo m c lo up f n k:Nat}{us:List Value}{xs:List UInt8}
theorem Ly (I:U W w (g2 bb oo m c xs::L))(hF:yi W L f us)(hx:xs.length=m)(hb:up≤m)(hm:m≤1000)(Zl:lo≤m) :
   Calls prog 340 #[sv bb oo m c,.int .i64 lo,.int .i64 up,kb f us] w λe V=>∃ ys:List UInt8,e=.returned (.tuple #[])∧ys.length=m∧U W V (g2 bb oo m c ys::L):=by
 refine EN func340 ntmps340 rfl rfl λa E=>?_;refine RN 4 E I λa E=>?_;refine aR (λμ a w=>∃ (i:Nat) (ys:List UInt8),(μ=up-i∧lo<i∧ys.length=m)∧Fr a 53 [(0,sv bb oo m c),(1,.int .i64 lo),(2,.int .i64 up),(3,kb f us),(8,.int .i64 i)]∧U W w (g2 bb oo m c ys::L)) (up-(lo+1)) (⟨lo+1,xs,⟨rfl,by omega,hx⟩,E.ab [0,1,2,3,8],I⟩) ?_;clear E I;rintro μ a w ⟨i,ys,⟨rfl,hi,hy⟩,E,I⟩;refine IF 5 E I (λaj a E=>?_) λaj a E=>?_
 ·
  have Y2:i<m:=by omega
  refine RN 4 E I λa E=>?_;refine aR (λμ a w=>∃ (j:Nat) (zs:List UInt8),(μ=j∧j≤i∧zs.length=m)∧Fr a 53 [(0,sv bb oo m c),(1,.int .i64 lo),(2,.int .i64 up),(3,kb f us),(8,.int .i64 i),(9,.int .i64 j)]∧U W w (g2 bb oo m c zs::L)) (i) (⟨i,ys,⟨rfl,bf _,hy⟩,E.ab [0,1,2,3,8,9],I⟩) ?_;clear E I;rintro μ a w ⟨j,zs,⟨xt,hj,hz⟩,E,I⟩;have Lz:j<zs.length:=by omega
  have LA:j-1<zs.length:=by omega
  refine bQ 2 [13] [0,1,2,3,4,5,6,7,9,10,11,12,3008,1013,1014,15,16] E I λa w E I hH hC=>?_;have hr:Rd w bb oo (bc zs):=I.cC bb oo (by omega);refine RH 4 E I hH hC λa E=>?_;refine E.by (s:=21) (λbS E=>?_) (λbS E=>?_)
  ·
   refine RH 7 E I hH hC λa E=>?_;rw[show (j:Int)-1=((j-1:Nat):Int) from by omega]at E;refine RH 1 E I hH hC λa E=>?_;refine QH E (λw hc=>ag E (hc.cell (hr j _ (dO Lz)))) hC λa E=>?_;refine RH 0 E I hH hC λa E=>?_;refine bE E (cS E rfl (s:=21)) (ag E (hr (j-1) _ (dO LA))) rfl λa E=>?_;refine RH 0 E I hH hC λa E=>?_;refine bg 0 E I (hF.h I λh=>h.tail) (hf:=hF.c) λz a w E I=>?_;refine RN 2 E I λa E=>?_;refine IF 0 E I (λao a E=>?_) λao a E=>?_
   ·
    refine bQ 1 [13] [0,1,2,3,4,5,6,7,8,10,11,12,3009,1013,14,1015,16,1017] E I λa w E I hH hC=>?_;have hr:Rd w bb oo (bc zs):=I.cC bb oo (by omega);refine RH 5 E I hH hC λa E=>?_;rw[show (j:Int)-1=((j-1:Nat):Int) from by omega]at E;refine RH 3 E I hH hC λa E=>?_;rw[show (j:Int)-1=((j-1:Nat):Int) from by omega]at E;refine RH 4 E I hH hC λa E=>?_;refine QH E (λw hc=>ag E (hc.cell (hr (j-1) _ (dO LA)))) hC λa E=>?_;refine RH 0 E I hH hC λa E=>?_;refine SS E (ag E (hr j _ (dO Lz))) λa E=>?_;refine RH 1 E I hH hC λa E=>?_;refine lT (off:=oo) (k:=j) E rfl I Ty.t5 rfl (by omega) (by rw[dw];omega) λa w E I=>?_;rw[sV]at I;refine RN 1 E I λa E=>?_;refine lT (off:=oo) (k:=j-1) E rfl I Ty.t5 rfl (by omega) (by rw[dw,br];omega) λa w E I=>?_;rw[sV]at I;refine RN 2 E I λa E=>?_;rw[show (j:Int)-1=((j-1:Nat):Int) from by omega]at E;refine RN 1 E I λa E=>?_;exact⟨j-1,by omega,j-1,_,⟨rfl,by omega,by simp[hz]⟩,E.ab [0,1,2,3,8,9],I⟩
   refine RN 3 E I λa E=>?_;exact⟨up-(i+1),by omega,i+1,zs,⟨rfl,by omega,hz⟩,E.ab [0,1,2,3,8],I⟩
  refine RH 13 E I hH hC λa E=>?_;refine RN 4 E I λa E=>?_;exact⟨up-(i+1),by omega,i+1,zs,⟨rfl,by omega,hz⟩,E.ab [0,1,2,3,8],I⟩
 refine RT 0 E I ?_;exact⟨ys,rfl,hy,I⟩
theorem Fj (I:U W w (g2 bb oo m c xs::L))(hx:xs.length=m)(h1:lo+n≤m)(h2:up+n≤m)(hm:m≤1000) :
   Calls prog 344 #[sv bb oo m c,.int .i64 lo,.int .i64 up,.int .i64 n,kb f us] w λe V=>∃ ys:List UInt8,e=.returned (.tuple #[])∧ys.length=m∧U W V (g2 bb oo m c ys::L):=by
 refine EN func344 ntmps344 rfl rfl λa E=>?_;refine RN 2 E I λa E=>?_;refine aR (λμ a w=>∃ (i:Nat) (zs:List UInt8),(μ=n-i∧i≤n∧zs.length=m)∧Fr a 38 [(0,sv bb oo m c),(1,.int .i64 lo),(2,.int .i64 up),(3,.int .i64 n),(10,.int .i64 i)]∧U W w (g2 bb oo m c zs::L)) (n) (⟨0,xs,⟨rfl,Nat.zero_le _,hx⟩,E.ab [0,1,2,3,10],I⟩) ?_;clear E I;rintro μ a w ⟨i,zs,⟨rfl,hi,hz⟩,E,I⟩;refine IF 5 E I (λaj a E=>?_) λaj a E=>?_
 ·
  have kD:lo+i<zs.length:=by omega
  have l3:up+i<zs.length:=by omega
  refine bQ 1 [19] [0,1,2,3,4,5,6,7,8,9,10,11,12,14,15,16,17,18,3013,1019,20,1021,22,1023] E I λa w E I hH hC=>?_;have hr:Rd w bb oo (bc zs):=I.cC bb oo (by omega);refine RH 18 E I hH hC λa E=>?_;refine QH E (λw hc=>ag E (hc.cell (hr (up+i) _ (dO l3)))) hC λa E=>?_;refine RH 0 E I hH hC λa E=>?_;refine SS E (ag E (hr (lo+i) _ (dO kD))) λa E=>?_;refine RH 1 E I hH hC λa E=>?_;refine lT (off:=oo) (k:=lo+i) E rfl I Ty.t5 rfl (by omega) (by rw[dw];omega) λa w E I=>?_;rw[sV]at I;refine RN 1 E I λa E=>?_;refine lT (off:=oo) (k:=up+i) E rfl I Ty.t5 rfl (by omega) (by rw[dw,br];omega) λa w E I=>?_;rw[sV]at I;refine RN 3 E I λa E=>?_;exact⟨n-(i+1),by omega,i+1,_,⟨rfl,by omega,by simp[hz]⟩,E.ab [0,1,2,3,10],I⟩
 refine RT 0 E I ?_;exact⟨zs,rfl,hz,I⟩
theorem rotate (I:U W w (g2 bb oo m c xs::L))(hx:xs.length=m)(h1:lo<k)(h2:k<up)(h3:up≤m)(hm:m≤1000) :
   Calls prog 343 #[sv bb oo m c,.int .i64 lo,.int .i64 k,.int .i64 up,kb f us] w λe V=>∃ ys:List UInt8,e=.returned (.tuple #[])∧ys.length=m∧U W V (g2 bb oo m c ys::L):=by
 refine EN func343 ntmps343 rfl rfl λa E=>?_;refine RN 4 E I λa E=>?_;rw[show (k:Int)-(lo:Int)=((k-lo:Nat):Int) from by omega]at E;refine RN 5 E I λa E=>?_;rw[show (up:Int)-(k:Int)=((up-k:Nat):Int) from by omega]at E;refine RN 2 E I λa E=>?_;refine aR (λμ a w=>∃ (i j:Nat) (zs:List UInt8),(μ=i+j∧(1≤i∧1≤j)∧(i≤k∧k+j≤m)∧zs.length=m)∧Fr a 58 [(0,sv bb oo m c),(2,.int .i64 k),(4,kb f us),(10,.int .i64 i),(11,.int .i64 j)]∧U W w (g2 bb oo m c zs::L)) (k-lo+(up-k)) (⟨k-lo,up-k,xs,⟨rfl,⟨by omega,by omega⟩,⟨by omega,by omega⟩,hx⟩,E.ab [0,2,4,10,11],I⟩) ?_;clear E I;rintro μ a w ⟨i,j,zs,⟨rfl,⟨hi,hj⟩,⟨o5,uy⟩,hz⟩,E,I⟩;refine IF 5 E I (λaj a E=>?_) λaj a E=>?_
 ·
  refine IF 4 E I (λao a E=>?_) λao a E=>?_
  ·
   refine RN 5 E I λa E=>?_;rw[show (k:Int)-(i:Int)=((k-i:Nat):Int) from by omega]at E;refine bg 3 E I (Fj I hz (by omega) (by omega) hm) λys a w E ⟨hy,I⟩=>?_;refine RN 3 E I λa E=>?_;rw[show (i:Int)-(j:Int)=((i-j:Nat):Int) from by omega]at E;refine RN 1 E I λa E=>?_;exact⟨i-j+j,by omega,i-j,j,ys,⟨rfl,⟨by omega,by omega⟩,⟨by omega,by omega⟩,hy⟩,E.ab [0,2,4,10,11],I⟩
  refine RN 5 E I λa E=>?_;rw[show (k:Int)-(i:Int)=((k-i:Nat):Int) from by omega]at E;refine RN 5 E I λa E=>?_;rw[show (k:Int)+(j:Int)-(i:Int)=((k+j-i:Nat):Int) from by omega]at E;refine bg 2 E I (Fj I hz (by omega) (by omega) hm) λys a w E ⟨hy,I⟩=>?_;refine RN 3 E I λa E=>?_;rw[show (j:Int)-(i:Int)=((j-i:Nat):Int) from by omega]at E;refine RN 1 E I λa E=>?_;exact⟨i+(j-i),by omega,i,j-i,ys,⟨rfl,⟨by omega,by omega⟩,⟨by omega,by omega⟩,hy⟩,E.ab [0,2,4,10,11],I⟩
 refine RN 4 E I λa E=>?_;rw[show (k:Int)-(i:Int)=((k-i:Nat):Int) from by omega]at E;refine bg 3 E I (Fj I hz (by omega) (by omega) hm) λys a w E ⟨hy,I⟩=>?_;refine RT 0 E I ?_;exact⟨ys,rfl,hy,I⟩
theorem LB (hF:yi W L f us)(hm:m≤1000):∀ (d:Nat) {w:World} {xs:List UInt8} {lo k up:Nat},up-lo≤d→xs.length=m→lo<k→k<up→up≤m→U W w (g2 bb oo m c xs::L) →
   Calls prog 341 #[sv bb oo m c,.int .i64 lo,.int .i64 k,.int .i64 up,kb f us] w λe V=>∃ ys:List UInt8,e=.returned (.tuple #[])∧ys.length=m∧U W V (g2 bb oo m c ys::L):=by
 intro d
 induction d with
 | zero=>intro w xs lo k up hd hx h1 h2 h3 I;omega
 | succ d ih =>
  intro w xs lo k up hd hx h1 h2 h3 I;refine EN func341 ntmps341 rfl rfl λa E=>?_;refine RN 5 E I λa E=>?_;rw[show (k:Int)-(lo:Int)=((k-lo:Nat):Int) from by omega]at E;refine IF 1 E I (λaj a E=>?_) λaj a E=>?_
  ·
   refine RN 7 E I λa E=>?_;refine aR (λμ a w=>∃ (i j:Nat),(μ=j-i∧(k≤i∧i≤j)∧j≤up)∧Fr a 220 [(0,sv bb oo m c),(1,.int .i64 lo),(2,.int .i64 k),(4,kb f us),(10,.int .i64 i),(11,.int .i64 j)]∧U W w (g2 bb oo m c xs::L)) (up-k) (⟨k,up,⟨rfl,⟨bf _,by omega⟩,bf _⟩,E.ab [0,1,2,4,10,11],I⟩) ?_;clear E I;rintro μ a w ⟨i,j,⟨rfl,⟨hi,nT⟩,hj⟩,E,I⟩;refine IF 5 E I (λao a E=>?_) λao a E=>?_
   ·
    have lE:(i+j)/2<xs.length:=by omega
    have hY:lo<xs.length:=by omega
    refine RN 4 E I λa E=>?_;rw[show (i:Int)+(j:Int)=((i+j:Nat):Int) from rfl]at E;refine SX 0 E I (AG (by omega)) λa E=>?_;refine RN 1 E I λa E=>?_;rw[show (((i+j:Nat):Int).fdiv (2 ^ 1))=(((i+j)/2:Nat):Int) from kI (i+j) 2]at E;refine SX 0 E I (gr (by omega) (by omega)) λa E=>?_;refine bQ 2 [8] [0,1,2,3,5,6,7,3004,1008,1009,10] E I λa w E I hH hC=>?_;have hr:Rd w bb oo (bc xs):=I.cC bb oo (by omega);refine RH 7 E I hH hC λa E=>?_;refine QH E (λw hc=>ag E (hc.cell (hr ((i+j)/2) _ (dO lE)))) hC λa E=>?_;refine RH 0 E I hH hC λa E=>?_;refine SS E (ag E (hr lo _ (dO hY))) λa E=>?_;refine RH 0 E I hH hC λa E=>?_;refine bg 0 E I (hF.h I λh=>h.tail) (hf:=hF.c) λz a w E I=>?_;refine RN 1 E I λa E=>?_;refine IF 0 E I (λay a E=>?_) λay a E=>?_
    ·
     refine RN 3 E I λa E=>?_;exact⟨j-((i+j)/2+1),by omega,(i+j)/2+1,j,⟨rfl,⟨by omega,by omega⟩,hj⟩,E.ab [0,1,2,4,10,11],I⟩
    refine RN 2 E I λa E=>?_;exact⟨(i+j)/2-i,by omega,i,(i+j)/2,⟨rfl,⟨hi,by omega⟩,by omega⟩,E.ab [0,1,2,4,10,11],I⟩
   refine RN 4 E I λa E=>?_;refine aR (λμ a w=>∃ (q:Nat) (zs:List UInt8),(μ=i-q∧lo≤q∧zs.length=m)∧Fr a 220 [(0,sv bb oo m c),(10,.int .i64 i),(13,.int .i64 q)]∧U W w (g2 bb oo m c zs::L)) (i-lo) (⟨lo,xs,⟨rfl,bf _,hx⟩,E.ab [0,10,13],I⟩) ?_;clear E I;rintro μ a w ⟨q,zs,⟨rfl,hq,hz⟩,E,I⟩;refine RN 5 E I λa E=>?_;rw[show (i:Int)-1=((i-1:Nat):Int) from by omega]at E;refine IF 1 E I (λbh a E=>?_) λbh a E=>?_
   ·
    have c0:q<zs.length:=by omega
    have eL:q+1<zs.length:=by omega
    refine bQ 1 [13] [0,1,2,3,4,5,6,7,8,10,11,12,3009,1013,14,1015,16,1017] E I λa w E I hH hC=>?_;have hr:Rd w bb oo (bc zs):=I.cC bb oo (by omega);refine RH 12 E I hH hC λa E=>?_;refine QH E (λw hc=>ag E (hc.cell (hr (q+1) _ (dO eL)))) hC λa E=>?_;refine RH 0 E I hH hC λa E=>?_;refine SS E (ag E (hr q _ (dO c0))) λa E=>?_;refine RH 1 E I hH hC λa E=>?_;refine lT (off:=oo) (k:=q) E rfl I Ty.t5 rfl (by omega) (by rw[dw];omega) λa w E I=>?_;rw[sV]at I;refine RN 1 E I λa E=>?_;refine lT (off:=oo) (k:=q+1) E rfl I Ty.t5 rfl (by omega) (by rw[dw,br];omega) λa w E I=>?_;rw[sV]at I;refine RN 3 E I λa E=>?_;exact⟨i-(q+1),by omega,q+1,_,⟨rfl,by omega,by simp[hz]⟩,E.ab [0,10,13],I⟩
   refine RT 0 E I ?_;exact⟨zs,rfl,hz,I⟩
  refine RN 5 E I λa E=>?_;rw[show (up:Int)-(k:Int)=((up-k:Nat):Int) from by omega]at E;refine IF 1 E I (λbR a E=>?_) λbR a E=>?_
  ·
   refine RN 7 E I λa E=>?_;refine aR (λμ a w=>∃ (i j:Nat),(μ=j-i∧(lo≤i∧i≤j)∧j≤k)∧Fr a 220 [(0,sv bb oo m c),(2,.int .i64 k),(4,kb f us),(14,.int .i64 i),(15,.int .i64 j)]∧U W w (g2 bb oo m c xs::L)) (k-lo) (⟨lo,k,⟨rfl,⟨bf _,by omega⟩,bf _⟩,E.ab [0,2,4,14,15],I⟩) ?_;clear E I;rintro μ a w ⟨i,j,⟨rfl,⟨hi,nT⟩,hj⟩,E,I⟩;refine IF 5 E I (λeE a E=>?_) λeE a E=>?_
   ·
    have lE:(i+j)/2<xs.length:=by omega
    have hY:k<xs.length:=by omega
    refine RN 4 E I λa E=>?_;rw[show (i:Int)+(j:Int)=((i+j:Nat):Int) from rfl]at E;refine SX 0 E I (AG (by omega)) λa E=>?_;refine RN 1 E I λa E=>?_;rw[show (((i+j:Nat):Int).fdiv (2 ^ 1))=(((i+j)/2:Nat):Int) from kI (i+j) 2]at E;refine SX 0 E I (gr (by omega) (by omega)) λa E=>?_;refine bQ 2 [8] [0,1,2,3,5,6,7,3004,1008,1009,10,11] E I λa w E I hH hC=>?_;have hr:Rd w bb oo (bc xs):=I.cC bb oo (by omega);refine RH 7 E I hH hC λa E=>?_;refine QH E (λw hc=>ag E (hc.cell (hr k _ (dO hY)))) hC λa E=>?_;refine RH 0 E I hH hC λa E=>?_;refine SS E (ag E (hr ((i+j)/2) _ (dO lE))) λa E=>?_;refine RH 0 E I hH hC λa E=>?_;refine bg 0 E I (hF.h I λh=>h.tail) (hf:=hF.c) λz a w E I=>?_;refine RN 2 E I λa E=>?_;refine IF 0 E I (λmS a E=>?_) λmS a E=>?_
    ·
     refine RN 3 E I λa E=>?_;exact⟨j-((i+j)/2+1),by omega,(i+j)/2+1,j,⟨rfl,⟨by omega,by omega⟩,hj⟩,E.ab [0,2,4,14,15],I⟩
    refine RN 2 E I λa E=>?_;exact⟨(i+j)/2-i,by omega,i,(i+j)/2,⟨rfl,⟨hi,by omega⟩,by omega⟩,E.ab [0,2,4,14,15],I⟩
   refine RN 4 E I λa E=>?_;refine aR (λμ a w=>∃ (q:Nat) (zs:List UInt8),(μ=q∧q≤k∧zs.length=m)∧Fr a 220 [(0,sv bb oo m c),(14,.int .i64 i),(17,.int .i64 q)]∧U W w (g2 bb oo m c zs::L)) (k) (⟨k,xs,⟨rfl,bf _,hx⟩,E.ab [0,14,17],I⟩) ?_;clear E I;rintro μ a w ⟨q,zs,⟨xt,hq,hz⟩,E,I⟩;refine IF 5 E I (λki a E=>?_) λki a E=>?_
   ·
    have c0:q<zs.length:=by omega
    have eL:q-1<zs.length:=by omega
    refine bQ 1 [13] [0,1,2,3,4,5,6,7,8,10,11,12,3009,1013,14,1015,16,1017] E I λa w E I hH hC=>?_;have hr:Rd w bb oo (bc zs):=I.cC bb oo (by omega);refine RH 5 E I hH hC λa E=>?_;rw[show (q:Int)-1=((q-1:Nat):Int) from by omega]at E;refine RH 3 E I hH hC λa E=>?_;rw[show (q:Int)-1=((q-1:Nat):Int) from by omega]at E;refine RH 4 E I hH hC λa E=>?_;refine QH E (λw hc=>ag E (hc.cell (hr (q-1) _ (dO eL)))) hC λa E=>?_;refine RH 0 E I hH hC λa E=>?_;refine SS E (ag E (hr q _ (dO c0))) λa E=>?_;refine RH 1 E I hH hC λa E=>?_;refine lT (off:=oo) (k:=q) E rfl I Ty.t5 rfl (by omega) (by rw[dw];omega) λa w E I=>?_;rw[sV]at I;refine RN 1 E I λa E=>?_;refine lT (off:=oo) (k:=q-1) E rfl I Ty.t5 rfl (by omega) (by rw[dw,br];omega) λa w E I=>?_;rw[sV]at I;refine RN 2 E I λa E=>?_;rw[show (q:Int)-1=((q-1:Nat):Int) from by omega]at E;refine RN 1 E I λa E=>?_;exact⟨q-1,by omega,q-1,_,⟨rfl,by omega,by simp[hz]⟩,E.ab [0,14,17],I⟩
   refine RT 0 E I ?_;exact⟨zs,rfl,hz,I⟩
  refine RN 4 E I λa E=>?_;rw[show (lo:Int)+(up:Int)=((lo+up:Nat):Int) from rfl]at E;refine SX 0 E I (AG (by omega)) λa E=>?_;refine RN 1 E I λa E=>?_;rw[show (((lo+up:Nat):Int).fdiv (2 ^ 1))=(((lo+up)/2:Nat):Int) from kI (lo+up) 2]at E;refine SX 0 E I (gr (by omega) (by omega)) λa E=>?_;refine RN 1 E I λa E=>?_;obtain⟨g3,C0⟩:∃ g3,g3=(lo+up)/2:=⟨_,rfl⟩;rw[← C0]at E;refine RN 8 E I λa E=>?_;refine b7 (M:=λa w=>∃ s r:Nat,((lo≤s∧g3+k≤s+up)∧s≤r∧r≤g3∧r≤k)∧Fr a 220 [(0,sv bb oo m c),(1,.int .i64 lo),(2,.int .i64 k),(3,.int .i64 up),(4,kb f us),(18,.int .i64 g3),(19,.int .i64 ((g3:Int)+k)),(20,.int .i64 s),(21,.int .i64 r)]∧U W w (g2 bb oo m c xs::L)) ?_ ?_
  ·
   refine IF 4 E I (λmc a E=>?_) λmc a E=>?_
   ·
    refine RN 4 E I λa E=>?_;rw[show (g3:Int)+(k:Int)-(up:Int)=((g3+k-up:Nat):Int) from by omega]at E;refine RN 3 E I λa E=>?_;exact⟨g3+k-up,g3,⟨⟨by omega,by omega⟩,by omega,by omega,by omega⟩,E.ab [0,1,2,3,4,18,19,20,21],I⟩
   refine RN 5 E I λa E=>?_;exact⟨lo,k,⟨⟨by omega,by omega⟩,by omega,by omega,by omega⟩,E.ab [0,1,2,3,4,18,19,20,21],I⟩
  clear E;(try clear I);rintro a w ⟨wm,AH,⟨⟨nL,dx⟩,tw,Zm,o8⟩,E,I⟩;refine RN 3 E I λa E=>?_;rw[show (g3:Int)+(k:Int)-1=((g3+k-1:Nat):Int) from by omega]at E;refine RN 2 E I λa E=>?_;refine aR (λμ a w=>∃ (s r:Nat),(μ=r-s∧(lo≤s∧g3+k≤s+up)∧s≤r∧r≤g3∧r≤k)∧Fr a 220 [(0,sv bb oo m c),(1,.int .i64 lo),(2,.int .i64 k),(3,.int .i64 up),(4,kb f us),(18,.int .i64 g3),(19,.int .i64 ((g3:Int)+k)),(20,.int .i64 s),(21,.int .i64 r),(22,.int .i64 ((g3+k-1:Nat):Int))]∧U W w (g2 bb oo m c xs::L)) (AH-wm) (⟨wm,AH,⟨rfl,⟨nL,dx⟩,tw,Zm,o8⟩,E.ab [0,1,2,3,4,18,19,20,21,22],I⟩) ?_;clear E I;rintro μ a w ⟨s,r,⟨rfl,⟨g1,mH⟩,qz,rO,vM⟩,E,I⟩;refine IF 5 E I (λk9 a E=>?_) λk9 a E=>?_
  ·
   have lE:(s+r)/2<xs.length:=by omega
   have hY:g3+k-1-(s+r)/2<xs.length:=by omega
   refine RN 4 E I λa E=>?_;rw[show (s:Int)+(r:Int)=((s+r:Nat):Int) from rfl]at E;refine SX 0 E I (AG (by omega)) λa E=>?_;refine RN 1 E I λa E=>?_;rw[show (((s+r:Nat):Int).fdiv (2 ^ 1))=(((s+r)/2:Nat):Int) from kI (s+r) 2]at E;refine SX 0 E I (gr (by omega) (by omega)) λa E=>?_;refine bQ 2 [10] [0,1,2,3,4,5,7,8,9,3006,1010,1011,12,13] E I λa w E I hH hC=>?_;have hr:Rd w bb oo (bc xs):=I.cC bb oo (by omega);refine RH 5 E I hH hC λa E=>?_;rw[show ((g3+k-1:Nat):Int)-(((s+r)/2:Nat):Int)=((g3+k-1-(s+r)/2:Nat):Int) from by omega]at E;refine RH 4 E I hH hC λa E=>?_;refine QH E (λw hc=>ag E (hc.cell (hr (g3+k-1-(s+r)/2) _ (dO hY)))) hC λa E=>?_;refine RH 0 E I hH hC λa E=>?_;refine SS E (ag E (hr ((s+r)/2) _ (dO lE))) λa E=>?_;refine RH 0 E I hH hC λa E=>?_;refine bg 0 E I (hF.h I λh=>h.tail) (hf:=hF.c) λz a w E I=>?_;refine RN 2 E I λa E=>?_;refine IF 0 E I (λvB a E=>?_) λvB a E=>?_
   ·
    refine RN 3 E I λa E=>?_;exact⟨r-((s+r)/2+1),by omega,(s+r)/2+1,r,⟨rfl,⟨by omega,by omega⟩,by omega,rO,vM⟩,E.ab [0,1,2,3,4,18,19,20,21,22],I⟩
   refine RN 2 E I λa E=>?_;exact⟨(s+r)/2-s,by omega,s,(s+r)/2,⟨rfl,⟨g1,mH⟩,by omega,by omega,by omega⟩,E.ab [0,1,2,3,4,18,19,20,21,22],I⟩
  refine RN 4 E I λa E=>?_;rw[show (g3:Int)+(k:Int)-(s:Int)=((g3+k-s:Nat):Int) from by omega]at E;refine RN 1 E I λa E=>?_;refine b7 (M:=λa w=>∃ zs:List UInt8,zs.length=m∧Fr a 220 [(0,sv bb oo m c),(1,.int .i64 lo),(3,.int .i64 up),(4,kb f us),(18,.int .i64 g3),(20,.int .i64 s),(24,.int .i64 ((g3+k-s:Nat):Int))]∧U W w (g2 bb oo m c zs::L)) ?_ ?_
  ·
   refine BY 5 E I (λbS a E=>?_) λbS a E=>?_
   ·
    refine IF 4 E I (λsg a E=>?_) λsg a E=>?_
    ·
     refine bg 5 E I (rotate I hx (by omega) (by omega) (by omega) hm) λys a w E ⟨hy,I⟩=>?_;refine RN 0 E I λa E=>?_;exact⟨ys,hy,E.ab [0,1,3,4,18,20,24],I⟩
    refine RN 0 E I λa E=>?_;exact⟨xs,hx,E.ab [0,1,3,4,18,20,24],I⟩
   refine RN 5 E I λa E=>?_;exact⟨xs,hx,E.ab [0,1,3,4,18,20,24],I⟩
  clear E;(try clear I);rintro a w ⟨zs,hz,E,I⟩;refine b7 (M:=λa w=>∃ zs:List UInt8,zs.length=m∧Fr a 220 [(0,sv bb oo m c),(3,.int .i64 up),(4,kb f us),(18,.int .i64 g3),(24,.int .i64 ((g3+k-s:Nat):Int))]∧U W w (g2 bb oo m c zs::L)) ?_ ?_
  ·
   refine BY 5 E I (λbS a E=>?_) λbS a E=>?_
   ·
    refine IF 4 E I (λxw a E=>?_) λxw a E=>?_
    ·
     refine bg 5 E I (ih (by omega) hz (by omega) (by omega) (by omega) I) λys a w E ⟨hy,I⟩=>?_;refine RN 0 E I λa E=>?_;exact⟨ys,hy,E.ab [0,3,4,18,24],I⟩
    refine RN 0 E I λa E=>?_;exact⟨zs,hz,E.ab [0,3,4,18,24],I⟩
   refine RN 5 E I λa E=>?_;exact⟨zs,hz,E.ab [0,3,4,18,24],I⟩
  clear E;(try clear I);rintro a w ⟨zs,hz,E,I⟩;refine BY 5 E I (λbS a E=>?_) λbS a E=>?_
  ·
   refine IF 4 E I (λvC a E=>?_) λvC a E=>?_
   ·
    refine bg 5 E I (ih (by omega) hz (by omega) (by omega) (by omega) I) λys a w E ⟨hy,I⟩=>?_;refine RT 0 E I ?_;exact⟨ys,rfl,hy,I⟩
   refine RT 0 E I ?_;exact⟨zs,rfl,hz,I⟩
  refine RT 5 E I ?_;exact⟨zs,rfl,hz,I⟩
theorem Zn (I:U W w (g2 bb oo m c xs::L))(hF:yi W L f us)(hx:xs.length=m)(hm:m≤1000) :
   Calls prog 335 #[sv bb oo m c,.int .i64 m,kb f us] w λe V=>∃ ys:List UInt8,e=.returned (.tuple #[])∧ys.length=m∧U W V (g2 bb oo m c ys::L):=by
 refine EN func335 ntmps335 rfl rfl λa E=>?_;refine RN 7 E I λa E=>?_;refine aR (λμ a w=>∃ (q:Nat) (ys:List UInt8),(μ=m-q∧q≤m∧ys.length=m)∧Fr a 63 [(0,sv bb oo m c),(1,.int .i64 m),(2,kb f us),(6,.int .i64 20),(7,.int .i64 q),(8,.int .i64 ((q+20:Nat):Int))]∧U W w (g2 bb oo m c ys::L)) (m) (⟨0,xs,⟨rfl,Nat.zero_le _,hx⟩,E.ab [0,1,2,6,7,8],I⟩) ?_;clear E I;rintro μ a w ⟨q,ys,⟨rfl,hq,hy⟩,E,I⟩;refine IF 5 E I (λaj a E=>?_) λaj a E=>?_
 ·
  refine bg 5 E I (Ly I hF hy (by omega) hm hq) λzs a w E ⟨hz,I⟩=>?_;refine RN 7 E I λa E=>?_;exact⟨m-(q+20),by omega,q+20,zs,⟨rfl,by omega,hz⟩,E.ab [0,1,2,6,7,8],I⟩
 refine bg 5 E I (Ly I hF hy (bf _) hm hq) λzs a w E ⟨hz,I⟩=>?_;refine RN 0 E I λa E=>?_;refine aR (λμ a w=>∃ (s:Nat) (ys:List UInt8),(μ=m-s∧(1≤s∧s≤2000)∧ys.length=m)∧Fr a 63 [(0,sv bb oo m c),(1,.int .i64 m),(2,kb f us),(6,.int .i64 s)]∧U W w (g2 bb oo m c ys::L)) (m-20) (⟨20,zs,⟨rfl,⟨by decide,by decide⟩,hz⟩,E.ab [0,1,2,6],I⟩) ?_;clear E I;rintro μ a w ⟨s,ys,⟨rfl,⟨nL,dx⟩,hy⟩,E,I⟩;refine IF 5 E I (λao a E=>?_) λao a E=>?_
 ·
  refine RN 3 E I λa E=>?_;rw[show (2:Int)*(s:Int)=((2*s:Nat):Int) from by omega]at E;refine RN 3 E I λa E=>?_;refine aR (λμ a w=>∃ (q:Nat) (ys:List UInt8),(μ=m-q∧q≤m∧ys.length=m)∧Fr a 63 [(0,sv bb oo m c),(1,.int .i64 m),(2,kb f us),(6,.int .i64 s),(7,.int .i64 q),(8,.int .i64 ((q+2*s:Nat):Int))]∧U W w (g2 bb oo m c ys::L)) (m) (⟨0,ys,⟨rfl,Nat.zero_le _,hy⟩,(by rw[Nat.zero_add];exact E.ab [0,1,2,6,7,8]),I⟩) ?_;clear E I;rintro μ a w ⟨q,ys,⟨rfl,hq,hy⟩,E,I⟩;refine IF 5 E I (λay a E=>?_) λay a E=>?_
  ·
   refine RN 6 E I λa E=>?_;rw[show (q:Int)+(s:Int)=((q+s:Nat):Int) from rfl]at E;refine bg 2 E I (LB hF hm _ (bf _) hy (by omega) (by omega) (by omega) I) λzs a w E ⟨hz,I⟩=>?_;refine RN 7 E I λa E=>?_;rw[show ((q+2*s:Nat):Int)+2*(s:Int)=((q+2*s+2*s:Nat):Int) from by omega]at E;refine RN 1 E I λa E=>?_;exact⟨m-(q+2*s),by omega,q+2*s,zs,⟨rfl,by omega,hz⟩,E.ab [0,1,2,6,7,8],I⟩
  refine RN 5 E I λa E=>?_;rw[show (q:Int)+(s:Int)=((q+s:Nat):Int) from rfl]at E;refine IF 5 E I (λbh a E=>?_) λbh a E=>?_
  ·
   refine bg 5 E I (LB hF hm _ (bf _) hy (by omega) (by omega) (bf _) I) λzs a w E ⟨hz,I⟩=>?_;refine RN 2 E I λa E=>?_;rw[show (s:Int)*2=((s*2:Nat):Int) from by omega]at E;refine RN 1 E I λa E=>?_;exact⟨m-s*2,by omega,s*2,zs,⟨rfl,⟨by omega,by omega⟩,hz⟩,E.ab [0,1,2,6],I⟩
  refine RN 2 E I λa E=>?_;rw[show (s:Int)*2=((s*2:Nat):Int) from by omega]at E;refine RN 1 E I λa E=>?_;exact⟨m-s*2,by omega,s*2,ys,⟨rfl,⟨by omega,by omega⟩,hy⟩,E.ab [0,1,2,6],I⟩
 refine RT 0 E I ?_;exact⟨ys,rfl,hy,I⟩
theorem Zo (I:U W w (g2 bb oo m c xs::L))(hF:yi W L f us)(hx:xs.length=m)(hm:m≤1000) :
   Calls prog 327 #[sv bb oo m c,kb f us] w λe V=>∃ ys:List UInt8,e=.returned (.tuple #[])∧ys.length=m∧U W V (g2 bb oo m c ys::L):=by
 refine EN func327 ntmps327 rfl rfl λa E=>?_;refine bg 4 E I (Zn I hF hx hm) λys a w E ⟨hy,I⟩=>?_;refine RT 0 E I ?_;exact⟨ys,rfl,hy,I⟩
theorem Zq {b:Gs}{adT:Option Addr}{cT b3 dr b8 ql:Nat}{d u:UInt8}{g:Nat→Int}:yi W (aa b8 5 [.int .u8 (d.toNat:Nat)]::aa ql 5 [.int .u8 (u.toNat:Nat)]::aa b3 186 (di b adT cT)::aa dr 320 (ints .i64 256 g)::L)
   328 [pt b8,pt ql,pt b3,pt dr]:=by
 refine⟨by kernel_rfl,?_⟩;intro w M x y I hM;have hx:=x.toNat_lt;have hy:=y.toNat_lt;refine EN func328 ntmps328 rfl rfl λa E=>?_;refine RN 4 E I λa E=>?_;refine SS E (ag E ((hM I).bB (b:=b8) rfl)) λa E=>?_;refine RN 0 E I λa E=>?_;refine SS E (ag E ((hM I).bB (b:=ql) rfl)) λa E=>?_;refine RN 0 E I λa E=>?_;refine SS E (B8 E underlying423 Ty.t423 Ty.t5 rfl rfl) λa E=>?_;refine RN 1 E I λa E=>?_;refine aR (λμ a w=>∃ (i:Nat),(μ=2-i∧i≤2)∧Fr a 47 [(0,.int .u8 (x.toNat:Nat)),(1,.int .u8 (y.toNat:Nat)),(4,pt b3),(5,pt dr),(13,.agg #[.int .u8 (d.toNat:Nat),.int .u8 (u.toNat:Nat)]),(14,.int .i64 i)]∧U W w M) (2) (⟨0,⟨rfl,by decide⟩,E.ab [0,1,4,5,13,14],I⟩) ?_;clear E I;rintro μ a w ⟨i,⟨rfl,hi⟩,E,I⟩;refine IF 3 E I (λaj a E=>?_) λaj a E=>?_
 ·
  obtain⟨q,hq⟩:∃ q:UInt8,[Value.int .u8 (d.toNat:Nat),Value.int .u8 (u.toNat:Nat)][i]?=some (.int .u8 (q.toNat:Nat)):=by
   have:i=0∨i=1:=by omega
   rcases this with rfl | rfl
   ·exact⟨d,rfl⟩
   ·exact⟨u,rfl⟩
  refine RN 2 E I λa E=>?_;refine SS E (rM E underlying423 underlying5 rfl Ty.t5 (by omega) hq) λa E=>?_;refine bQ 3 [9] [0,1001,2,3,4,5,7,8,3006,1009,10,11] E I λa w E I hH hC=>?_;refine RH 1 E I hH hC λa E=>?_;refine SS E (ag E ((hM I).bB (b:=b3) rfl)) λa E=>?_;refine RH 2 E I hH hC λa E=>?_;refine E.by (s:=20) (λbS E=>?_) (λbS E=>?_)
  ·
   refine RH 4 E I hH hC λa E=>?_;refine QH E (λw hc=>ag E (hc.cell ((hM I).bB (b:=dr) (fO g hx)))) hC λa E=>?_;refine RH 0 E I hH hC λa E=>?_;refine bE E (cS E rfl (s:=20)) (ag E ((hM I).bB (b:=dr) (fO g hy))) rfl λa E=>?_;refine RH 2 E I hH hC λa E=>?_;refine IF 0 E I (λao a E=>?_) λao a E=>?_
   ·
    refine bQ 1 [5] [0,1,3,4,3002,1005,6,7] E I λa w E I hH hC=>?_;refine RH 4 E I hH hC λa E=>?_;refine QH E (λw hc=>ag E (hc.cell ((hM I).bB (b:=dr) (fO g hy)))) hC λa E=>?_;refine RH 0 E I hH hC λa E=>?_;refine SS E (ag E ((hM I).bB (b:=dr) (fO g hx))) λa E=>?_;refine RH 0 E I hH hC λa E=>?_;refine QP E (λw=>yS E) λa E=>?_;refine RH 1 E I hH hC λa E=>?_;refine RT 0 E I ?_;exact⟨_,rfl,I⟩
   refine IF 8 E I (λay a E=>?_) λay a E=>?_
   ·
    refine IF 5 E I (λbh a E=>?_) λbh a E=>?_
    ·
     refine RT 2 E I ?_;exact⟨_,rfl,I⟩
    refine RT 2 E I ?_;exact⟨_,rfl,I⟩
   refine RN 2 E I λa E=>?_;exact⟨2-(i+1),by omega,i+1,⟨rfl,by omega⟩,E.ab [0,1,4,5,13,14],I⟩
  refine RH 8 E I hH hC λa E=>?_;refine IF 9 E I (λay a E=>?_) λay a E=>?_
  ·
   refine IF 5 E I (λbh a E=>?_) λbh a E=>?_
   ·
    refine RT 2 E I ?_;exact⟨_,rfl,I⟩
   refine RT 2 E I ?_;exact⟨_,rfl,I⟩
  refine RN 2 E I λa E=>?_;exact⟨2-(i+1),by omega,i+1,⟨rfl,by omega⟩,E.ab [0,1,4,5,13,14],I⟩
 refine RT 2 E I ?_;exact⟨_,rfl,I⟩
end
theorem Zr:wj:=by
 refine⟨?_⟩;intro W w L c k cT ad adT past b I hb hk eB jP hp ht;refine EN func310 ntmps310 rfl rfl λa E=>?_;refine BX 1 E I λb3 a w E I=>?_;change U W w (aa b3 186 (di b adT cT)::_) at I;refine bg 4 E I (ye I) λr a w E ⟨hr,I⟩=>?_;obtain rfl:=hr.2 hb;refine RN 1 E I λa E=>?_;replace E:=E.aN 14;refine CL 4 E I (K1 I hb (by omega) jP (λV h=>hp _ h.tail)) λa w E I=>?_;refine AL 0 E I λdr a w E I=>?_;rw[qj]at I;refine SA 0 E I λa w E I=>?_;refine CL 3 E I (K3 I hb (by omega) jP (λV h=>hp _ h.tail.tail) (λV h=>ht _ h.tail.tail)) λa w E I=>?_;refine CL 1 E I (K2 I (by omega) (λV h=>hp _ h.tail.tail)) λa w E I=>?_;refine AL 0 E I λb8 a w E I=>?_;refine AL 0 E I λql a w E I=>?_;refine ST 0 E I (λa w E I=>?_);refine ST 0 E I (λa w E I=>?_);refine RN 5 E I λa E=>?_;replace I:U W w (Sl 5 1 none 0 0 (bc [])::_):=I.bM 5 1 none;refine aR (λμ a w=>∃ (i:Nat) (gY:Option Addr) (cl:Nat) (ys:List UInt8),(μ=256-i∧i≤256∧ys.length=i)∧Fr a 40 [(2,.int .i64 k),(3,pt b3),(7,pt dr),(8,pt b8),(9,pt ql),(10,.slice gY i cl),(23,.int .i64 i)]∧U W w (Sl 5 1 gY i cl (bc ys)::aa b8 5 [.int .u8 ((m4 b past).toNat:Nat)]::aa ql 5 [.int .u8 ((ie past).toNat:Nat)]::aa b3 186 (di b adT cT)::aa dr 320 (ints .i64 256 (gB b past))::L)) (256) (⟨0,none,0,[],⟨rfl,by decide,rfl⟩,E.ab [2,3,7,8,9,10,23],I.sub⟩) ?_;clear E I;rintro μ a w ⟨i,gY,cl,ys,⟨rfl,hi,hy⟩,E,I⟩;refine IF 3 E I (λao a E=>?_) λao a E=>?_
 ·
  refine RN 6 E I λa E=>?_;refine SS E (gg E underlying3 underlying5) λa E=>?_;rw[wrap_u8,show (i:Int)%256=(((UInt8.ofNat i).toNat:Nat):Int) from by rw[UInt8.toNat_ofNat'];omega]at E;refine RN 0 E I λa E=>?_;refine cn E rfl I underlying22 Ty.t5 rfl rfl rfl rfl (by decide) (by decide) λUF a w E I ho=>?_;clear ho;refine RN 0 E I λa E=>?_;refine cI E rfl I underlying22 Ty.t5 rfl rfl I.ai rfl (ep [UInt8.ofNat i]) (by decide) (by decide) (by omega) λIH II a w E I=>?_;rw[show bc ys++_=bc (ys++[UInt8.ofNat i]) from (fH _ [_]).symm]at I;refine RN 3 E I λa E=>?_;exact⟨256-(i+1),by omega,i+1,IH,II,ys++[UInt8.ofNat i],⟨rfl,by omega,by simp[hy]⟩,E.ab [2,3,7,8,9,10,23],I.sub⟩
 refine RN 1 E I λa E=>?_;obtain rfl:i=256:=by omega
 have hA:=E;have yj:=I;obtain⟨bb,oo,rfl,_⟩:=I.bY gY (by omega);have E:=hA;have I:=yj;have cg:=(I.sl (some ⟨bb,oo,none⟩)).2;refine bg 2 E I (Zo I Zq hy (by decide)) λzs a w E ⟨hz,I⟩=>?_;refine RN 5 E I λa E=>?_;rw[show min (max (k:Int) 0) 256=(k:Int) from by omega]at E;refine RT 2 E I ?_;have h1:=I.BR (some ⟨bb,oo,none⟩) 0 k (Nat.zero_le _) (by omega);rw[Nat.sub_zero,Nat.sub_zero,Nat.mul_one,Nat.zero_mul,drop_zero,show (bc zs).take k=bc (zs.take k) from by rw[bc,bc,map_take]]at h1;have hl:(zs.take k).length=k:=by rw[et];omega
 exact⟨_,_,zs.take k,by rw[hl,Nat.sub_zero,Nat.sub_zero],hl,by rw[hl];exact h1.sub⟩
end
end Go.Proofs.YteoldcfapaiobaaGreat
