/- The document's guesses: quintainref12.MayBy, weights, ahead, Rank, Chain. -/
import Derived.Test.YteoldcfapaiobaaGreatE09Core
import Derived.Test.YteoldcfapaiobaaGreatE08Pkt4
import Derived.Test.YteoldcfapaiobaaGreatE01Row
namespace Go.Proofs.YteoldcfapaiobaaGreat
open Tryz
open List (drop_zero getElem?_append_right nil_append drop_eq_nil_of_le ext_getElem getElem_map append_nil map_take range_succ map_singleton getLastD_eq_getLast?)
open Go.RowKit
set_option linter.unusedVariables false
set_option linter.unusedSimpArgs false
set_option maxRecDepth 10000
set_option synthInstance.maxSize 4000
set_option synthInstance.maxHeartbeats 400000
section
def pO (w:Nat→Int)(last drawn:Int)(v u:Nat):Bool:=if (v:Int)=drawn∨(u:Int)=drawn then decide ((v:Int)=drawn) else if w v≠w u then decide (w u<w v) else decide ((v:Int)=last)
def hR (w:Nat→Int)(last drawn:Int):Nat→Nat
 | 0=>0
 | i+1=>if pO w last drawn (i+1) (hR w last drawn i)=true then i+1 else hR w last drawn i
theorem FC (w:Nat→Int)(last drawn:Int):∀ i,hR w last drawn i≤i
 | 0=>a7 _
 | i+1=>by
  rw[hR];split
  ·exact a7 _
  ·exact Nat.le_succ_of_le (FC w last drawn i)
theorem LJ {w:Nat→Int}{last:Int}{d:Nat}:∀ {i},d≤i→hR w last d i=d
 | 0,h=>by rw[hR];omega
 | i+1,h=>by
  rw[hR];by_cases hd:d=i+1
  ·rw[ak]
   ·exact hd.symm
   ·rw[pO,ak (.inl (by omega))];exact dg (by omega)
  ·rw[LJ (i:=i) (by omega),ag];rw[pO,ak (.inr rfl),ct];omega
theorem LK {w:Nat→Int}{last:Nat}:∀ i,(∀ v,v≤i→w v≤w (hR w last (-1) i))∧(hR w last (-1) i=last∨((last≤i→w last<w (hR w last (-1) i))∧∀ v,v<hR w last (-1) i→w v<w (hR w last (-1) i)))
 | 0=>by
  refine⟨λv hv=>by rw[hR,show v=0 from by omega];exact Int.le_refl _,?_⟩;by_cases h:last=0
  ·exact .inl h.symm
  ·exact .inr ⟨λhl=>by omega,λv hv=>by rw[hR]at hv;omega⟩
 | i+1=>by
  obtain⟨h1,h2⟩:=LK (w:=w) (last:=last) i;have hle:=FC w last (-1) i;have h0:¬ (((i+1:Nat):Int) = -1∨((hR w last (-1) i:Nat):Int) = -1):=by omega
  rw[hR];generalize hR w last (-1) i=r at *;rw[pO,ag h0];by_cases hw:w (i+1)=w r
  ·rw[ag (show ¬ w (i+1)≠w r from λh=>h hw)];by_cases hl:i+1=last
   ·rw[ak (dg (by omega))];refine⟨λv hv=>?_,.inl hl⟩;by_cases rF:v=i+1
    ·subst rF;exact Int.le_refl _
    ·rw[hw];exact h1 v (by omega)
   ·rw[ag (by rw[ct];omega)];refine⟨λv hv=>?_,?_⟩
    ·by_cases rF:v=i+1
     ·subst rF;omega
     ·exact h1 v (by omega)
    ·rcases h2 with h2 | ⟨h2,h3⟩
     ·exact .inl h2
     ·exact .inr ⟨λhh=>h2 (by omega),h3⟩
  ·rw[ak hw];by_cases hl:w r<w (i+1)
   ·rw[ak (dg hl)];have hS:∀ v,v<i+1→w v<w (i+1):=λv hv=>by have:=h1 v (by omega);omega
    refine⟨λv hv=>?_,?_⟩
    ·by_cases rF:v=i+1
     ·subst rF;exact Int.le_refl _
     ·have:=hS v (by omega);omega
    ·by_cases ve:last=i+1
     ·exact .inl ve.symm
     ·exact .inr ⟨λhh=>hS last (by omega),hS⟩
   ·rw[ag (by rw[ct];exact hl)];refine⟨λv hv=>?_,?_⟩
    ·by_cases rF:v=i+1
     ·subst rF;omega
     ·exact h1 v (by omega)
    ·rcases h2 with h2 | ⟨h2,h3⟩
     ·exact .inl h2
     ·refine .inr ⟨λhh=>?_,h3⟩;by_cases ve:last=i+1
      ·subst ve;omega
      ·exact h2 (by omega)
def s7 (b:Gs)(past:List UInt8):Int:=if b.kind=3 then ((b.table.getD (past.length%b.table.length) 0).toNat:Int) else -1
theorem Zb {b:Gs}{past:List UInt8}(hb:cX b):hR (gG b past) ((il past).toNat:Nat) (s7 b past) 255=(m9 b past).toNat:=by
 have FA:=lQ (il past);unfold s7 m9;split
 ·have:=lQ (b.table.getD (past.length%b.table.length) 0);exact LJ (by omega)
 ·rw[UInt8.toNat_ofNat'];obtain⟨h1,h2⟩:=LK (w:=gG b past) (last:=(il past).toNat) 255;have hle:=FC (gG b past) ((il past).toNat:Nat) (-1) 255;generalize hR (gG b past) ((il past).toNat:Nat) (-1) 255=r at *;rcases h2 with h2 | ⟨h2,h3⟩
  ·rw[KM λv hv=>by rw[← h2];exact h1 v (by omega),h2];omega
  ·have h4:=(KN (last:=(il past).toNat) (h2 (by omega)) h3 (i:=256) λv hv=>h1 v (by omega)).2 (by omega);rw[h4];omega
def s8 (t:Nat→Bool):List Value:=fn 256 λi=>.bool (t i)
theorem Zc (t:Nat→Bool):(s8 t).length=256:=HY _ _
theorem Zd {t:Nat→Bool}{i:Nat}(h:i<256):(s8 t)[i]?=some (.bool (t i)):=HZ _ h
theorem Ze {t:Nat→Bool}{i:Nat}:(s8 t).set i (.bool true)=s8 λj=>if j=i then true else t j:=by
 rw[s8,H0];exact Cz λj _=>by by_cases h:j=i <;> simp[h]
theorem Zf (m:Nat)(v:Value):List.replicate m v=fn m λ_=>v:=by
 apply ext_getElem (by simp[fn]);intro i h1 h2;simp[fn]
theorem Zg:List.replicate 256 (Value.bool false)=s8 λ_=>false:=Zf 256 _
def qy (t:Nat→Bool):Nat→Nat
 | 0=>0
 | i+1=>qy t i+if t i=true then 1 else 0
theorem LL {t:Nat→Bool}:∀ {i},(∀ v,v<i→t v=true)→qy t i=i
 | 0,_=>rfl
 | i+1,h=>by rw[qy,LL (i:=i) λv hv=>h v (by omega),ak (h i (by omega))]
theorem LM {t:Nat→Bool}{u:Nat}(hu:t u=false):∀ {i},qy (λj=>if j=u then true else t j) i=qy t i+if u<i then 1 else 0
 | 0=>by simp[qy]
 | i+1=>by
  rw[qy,qy,LM hu (i:=i)];by_cases h:i=u
  ·subst h;simp[hu]
  ·by_cases h2:u<i
   ·simp[h,h2,show u<i+1 from by omega];omega
   ·simp[h,h2,show ¬ u<i+1 from by omega]
def j8 (w:Nat→Int)(last drawn:Int)(t:Nat→Bool)(first:Bool)(i:Nat)(fF:Int):Prop :=
 (fF = -1∧∀ v,v<i→t v=true)∨∃ u:Nat,fF=(u:Int)∧u<i∧t u=false∧(first=true→u=hR w last drawn (i-1))
section
variable {w:Nat→Int}{last drawn:Int}{t:Nat→Bool}{f:Bool}{i u:Nat}{fF:Int}
theorem j8.take (h:j8 w last drawn t f i fF)(h0:fF<0)(hi:t i=false)(hf:f=true→∀ v,t v=false):j8 w last drawn t f (i+1) i:=by
 refine .inr ⟨i,rfl,by omega,hi,λjG=>?_⟩;rcases h with ⟨_,h⟩ | ⟨u,h,_⟩
 ·have : i = 0 := by
   rcases Nat.eq_zero_or_pos i with h1 | h1
   ·exact h1
   ·have h2:=h 0 h1;rw[hf jG 0]at h2;cases h2
  subst this;rfl
 ·omega
theorem j8.nat (h:j8 w last drawn t f i fF)(h0:0≤fF):∃ u:Nat,fF=(u:Int)∧u<i∧t u=false∧(f=true→u=hR w last drawn (i-1)):=by
 rcases h with ⟨h,_⟩ | h
 ·omega
 ·exact h
theorem j8.up (hu:u<i∧t u=false∧(f=true→u=hR w last drawn (i-1)))(E:pO w last drawn i u=true)(hi:t i=false):j8 w last drawn t f (i+1) i:=by
 refine .inr ⟨i,rfl,by omega,hi,λhf=>?_⟩;have h1:=hu.2.2 hf;obtain⟨j,rfl⟩:∃ j,i=j+1:=⟨i-1,by omega⟩;rw[Nat.add_sub_cancel]at h1 ⊢;rw[hR,← h1,ak E]
theorem j8.ab (hu:u<i∧t u=false∧(f=true→u=hR w last drawn (i-1)))(E:pO w last drawn i u=false):j8 w last drawn t f (i+1) u:=by
 refine .inr ⟨u,rfl,by omega,hu.2.1,λhf=>?_⟩;have h1:=hu.2.2 hf;obtain⟨j,rfl⟩:∃ j,i=j+1:=⟨i-1,by omega⟩;rw[Nat.add_sub_cancel]at h1 ⊢;rw[hR,← h1,E,ag (by decide)]
theorem j8.skip (h:j8 w last drawn t f i fF)(hi:t i=true)(hf:f=true→∀ v,t v=false):j8 w last drawn t f (i+1) fF:=by
 have oA:f=true→False:=λh=>by rw[hf h i]at hi;cases hi
 rcases h with ⟨h1,h⟩ | ⟨u,h1,h2,h3,_⟩
 ·refine .inl ⟨h1,λv hv=>?_⟩;by_cases Zh:v=i
  ·subst Zh;exact hi
  ·exact h v (by omega)
 ·exact .inr ⟨u,h1,by omega,h3,λh=>(oA h).elim⟩
theorem j8.FD (h:j8 w last drawn t f 256 fF)(hc:qy t 256<256):∃ u:Nat,fF=(u:Int)∧u<256∧t u=false∧(f=true→u=hR w last drawn 255):=by
 rcases h with ⟨_,h⟩ | h
 ·rw[LL h]at hc;omega
 ·exact h
theorem j8.start:j8 w last drawn t f 0 (-1):=.inl ⟨rfl,λv hv=>by omega⟩
end
section
variable {W w:World}{L:List SP}{n c m cT:Nat}{ad adT:Option Addr}{past:List UInt8}{b:Gs}{g:Nat→Int}
theorem FE (I:U W w L):Calls prog 49 #[.agg (di b adT cT).toArray] w λe w'=>∃ r:Bool,e=.returned (.bool r)∧(r=true↔cX b)∧U W w' L:=by
 refine EN func49 ntmps49 rfl rfl λa E=>?_;refine BX 1 E I λb1 a w E I=>?_;change U W w (aa b1 47 (di b adT cT)::_) at I;refine BY 7 E I (λbX a E=>?_) λbX a E=>?_
 ·
  refine RT 27 E I ?_;exact⟨_,rfl,⟨λh=>(by cases h),λh=>by rw[cX]at h;exfalso;omega⟩,I.sub⟩
 refine BY 5 E I (λfa a E=>?_) λfa a E=>?_
 ·
  refine RT 22 E I ?_;exact⟨_,rfl,⟨λh=>(by cases h),λh=>by rw[cX]at h;exfalso;omega⟩,I.sub⟩
 refine BY 5 E I (λm6 a E=>?_) λm6 a E=>?_
 ·
  refine RT 17 E I ?_;exact⟨_,rfl,⟨λh=>(by cases h),λh=>by rw[cX]at h;exfalso;omega⟩,I.sub⟩
 refine BY 5 E I (λtR a E=>?_) λtR a E=>?_
 ·
  refine RT 12 E I ?_;exact⟨_,rfl,⟨λh=>(by cases h),λh=>by rw[cX]at h;exfalso;omega⟩,I.sub⟩
 refine BY 4 E I (λpE a E=>?_) λpE a E=>?_
 ·
  refine IF 5 E I (λaj a E=>?_) λaj a E=>?_
  ·
   refine RT 2 E I ?_;exact⟨_,rfl,⟨λh=>(by cases h),λh=>by rw[cX]at h;exfalso;omega⟩,I.sub⟩
  refine IF 5 E I (λao a E=>?_) λao a E=>?_
  ·
   refine BY 6 E I (λdz a E=>?_) λdz a E=>?_
   ·
    refine RT 6 E I ?_;exact⟨_,rfl,(by rw[ct,cX];omega),I.sub⟩
   refine RT 6 E I ?_;exact⟨_,rfl,⟨λh=>(by cases h),λh=>by rw[cX]at h;exfalso;omega⟩,I.sub⟩
  refine RT 6 E I ?_;exact⟨_,rfl,(by rw[ct,cX];omega),I.sub⟩
 refine IF 11 E I (λao a E=>?_) λao a E=>?_
 ·
  refine BY 6 E I (λdz a E=>?_) λdz a E=>?_
  ·
   refine RT 6 E I ?_;exact⟨_,rfl,(by rw[ct,cX];omega),I.sub⟩
  refine RT 6 E I ?_;exact⟨_,rfl,⟨λh=>(by cases h),λh=>by rw[cX]at h;exfalso;omega⟩,I.sub⟩
 refine RT 6 E I ?_;exact⟨_,rfl,(by rw[ct,cX];omega),I.sub⟩
theorem Zi (I:U W w L)(hb:cX b)(eB:past.length≤4000)(jT:past.length≤c)(hp:∀ w',U W w' L→aX w' ad past.length past) :
   Calls prog 192 #[.agg (di b adT cT).toArray,.slice ad past.length c] w λe w'=>e=.returned (.agg (ints .i64 256 (gG b past)).toArray)∧U W w' L:=by
 simp only[cX]at hb;refine EN func192 ntmps192 rfl rfl λa E=>?_;refine BX 1 E I λb2 a w E I=>?_;change U W w (aa b2 47 (di b adT cT)::_) at I;refine AL 0 E I λb4 a w E I=>?_;rw[qx]at I;refine AL 1 E I λb5 a w E I=>?_;rw[qx]at I;refine BY 6 E I (λbX a E=>?_) λbX a E=>?_
 ·
  refine SA 9 E I λa w E I=>?_;refine RT 0 E I ?_;exact⟨by rw[gG,ag (by omega)],I.sub⟩
 refine IF 6 E I (λaj a E=>?_) λaj a E=>?_
 ·
  refine SA 2 E I λa w E I=>?_;refine RT 0 E I ?_;exact⟨by rw[gG,ak (by omega),yi (by omega)],I.sub⟩
 refine RN 1 E I λa E=>?_;have cd:b.kind=2:=by omega
 obtain⟨o,ho⟩:∃ o:Nat,b.order=(o:Int):=⟨b.order.toNat,by omega⟩;rw[di,ho]at I;have dV:o≤past.length:=by omega
 have kV:gG b past=g4 o past past.length:=by rw[gG,ak cd,ho,Int.toNat_natCast]
 refine RN 6 E I λa E=>?_;rw[show ((past.length:Nat):Int)-(o:Int)=((past.length-o:Nat):Int) from by omega]at E;refine RN 1 E I λa E=>?_;refine SS E (lj E underlying22 underlying5 underlying9 ((show aX w (fl ad (past.length-o) c 1) (past.length-(past.length-o)) (past.drop (past.length-o)) from by have h1:=(hp _ I.tail.tail.tail).ue (lo:=past.length-o) (by omega) jT;rw[c3]at h1;exact h1))) λa E=>?_;refine RN 6 E I λa E=>?_;have Y6:o≤3:=by omega
 refine aO (λμ a w=>∃ (i:Nat),(μ=past.length-i∧o≤i∧i≤past.length)∧Fr a 54 [(1,.slice ad past.length c),(2,pt b2),(4,pt b4),(5,pt b5),(6,.string ⟨(past.drop (past.length-o)).toArray⟩),(7,.int .i64 i)]∧U W w (aa b5 320 (ints .i64 256 (g4 o past i))::aa b4 320 (ints .i64 256 (λ_=>0))::aa b2 47 [.int .i64 b.kind,.int .i64 o,.slice adT b.table.length cT]::L)) (past.length-o) (⟨o,⟨rfl,a7 _,dV⟩,E.ab [1,2,4,5,6,7],by rw[yi (a7 _)];exact I.sub⟩) ?_;clear E I;rintro μ a w ⟨i,⟨rfl,Fy,hi⟩,E,I⟩;refine IF 6 E I (λao a E=>?_) λao a E=>?_
 ·
  have aH:i<past.length:=by omega
  have nu:=AJ o past i past[i].toNat;have qp:=lQ past[i];refine RN 7 E I λa E=>?_;rw[show ((i:Nat):Int)-(o:Int)=((i-o:Nat):Int) from by omega]at E;refine RN 2 E I λa E=>?_;rw[show i-(i-o)=o from by omega]at E;refine SS E (lj E underlying22 underlying5 underlying9 ((hp _ I.tail.tail.tail).yj (lo:=i-o) (n:=o) (by omega) jT)) λa E=>?_;refine RN 1 E I λa E=>?_;refine SS E (r4 E) λa E=>?_;rw[p9]at E;refine IF 0 E I (λay a E=>?_) λay a E=>?_
  ·
   obtain⟨bb,oo,rfl,hr⟩:=(hp _ I.tail.tail.tail).get (by omega);refine RN 3 E I λa E=>?_;refine SS E (ae E (hr i _ (dQ aH))) λa E=>?_;refine RN 1 E I λa E=>?_;refine SS E (ae E (I.bz (fN _ qp))) λa E=>?_;refine ST 2 E I (λa w E I=>?_) (hlt:=(by rw[dd];omega));rw[ints_set]at I;refine RN 3 E I λa E=>?_;exact⟨past.length-(i+1),by omega,i+1,⟨rfl,by omega,by omega⟩,E.ab [1,2,4,5,6,7],by
    rw[show g4 o past (i+1)=λj=>if j=past[i].toNat then g4 o past i past[i].toNat+1 else g4 o past i j from by
     rw[g4,ak ⟨Fy,by rw[yh,← ay]⟩,bn,aE aH];rfl]
    exact I.sub⟩
  refine RN 3 E I λa E=>?_;exact⟨past.length-(i+1),by omega,i+1,⟨rfl,by omega,by omega⟩,E.ab [1,2,4,5,6,7],by
   rw[show g4 o past (i+1)=g4 o past i from by
    rw[g4,ag (λh=>by
     have h2:=h.2;rw[yh]at h2;rw[h2]at ay;cases ay)]]
   exact I.sub⟩
 obtain rfl:i=past.length:=by omega
 refine SA 2 E I λa w E I=>?_;refine RT 0 E I ?_;exact⟨by rw[kV],I.sub⟩
theorem Zj {v u:Nat}{last drawn:Int}(I:U W w L)(hv:v<256)(hu:u<256):Calls prog 193 #[.int .i64 v,.int .i64 u,.agg (ints .i64 256 g).toArray,.int .i64 last,.int .i64 drawn] w λe w'=>e=.returned (.bool (pO g last drawn v u))∧U W w' L:=by
 refine EN func193 ntmps193 rfl rfl λa E=>?_;refine BX 1 E I λdm a w E I=>?_;refine BY 7 E I (λbX a E=>?_) λbX a E=>?_
 ·
  refine RT 10 E I ?_;exact⟨by rw[pO,ak (.inl bX)],I.sub⟩
 refine IF 4 E I (λaj a E=>?_) λaj a E=>?_
 ·
  refine RT 5 E I ?_;exact⟨by rw[pO,ak (.inr aj)],I.sub⟩
 refine RN 2 E I λa E=>?_;have h0:¬ ((v:Int)=drawn∨(u:Int)=drawn):=by omega
 refine bQ 0 [5] [0,1,3,4,3002,1005,6] E I λa w E I hH hC=>?_;refine RH 4 E I hH hC λa E=>?_;refine QH E (λw hc=>ae E (hc.cell (I.bz (fN _ hv)))) hC λa E=>?_;refine RH 0 E I hH hC λa E=>?_;refine SS E (ae E (I.bz (fN _ hu))) λa E=>?_;refine RH 1 E I hH hC λa E=>?_;refine IF 0 E I (λao a E=>?_) λao a E=>?_
 ·
  refine bQ 1 [5] [0,1,3,4,3002,1005,6,7] E I λa w E I hH hC=>?_;refine RH 4 E I hH hC λa E=>?_;refine QH E (λw hc=>ae E (hc.cell (I.bz (fN _ hv)))) hC λa E=>?_;refine RH 0 E I hH hC λa E=>?_;refine SS E (ae E (I.bz (fN _ hu))) λa E=>?_;refine RH 2 E I hH hC λa E=>?_;refine RT 0 E I ?_;exact⟨by rw[pO,ag h0,ak ao],I.sub⟩
 refine RT 5 E I ?_;exact⟨by rw[pO,ag h0,ag (λh=>h ao)],I.sub⟩
set_option maxHeartbeats 1000000 in
theorem LN {k:Nat}(I:U W w L)(hb:cX b)(hk:1≤k∧k≤100000)(eB:past.length≤4000)(jT:past.length≤c)(hp:∀ w',U W w' L→aX w' ad past.length past)(ht:∀ w',U W w' L→aX w' adT b.table.length b.table) :
   Calls prog 160 #[.agg (di b adT cT).toArray,.slice ad past.length c,.int .i64 k] w λe w'=>∃ (av:Option Addr) (c':Nat) (out:List UInt8),e=.returned (.slice av out.length c')∧(out.length=min k 256∧out[0]?=some (m9 b past))∧U W w' (Sl 5 1 av out.length c' (bc out)::L):=by
 have lh:=hb;simp only[cX]at lh;refine EN func160 ntmps160 rfl rfl λa E=>?_;refine BX 1 E I λb3 a w E I=>?_;change U W w (aa b3 47 (di b adT cT)::_) at I;refine bh 4 E I (FE I) λr a w E ⟨hr,I⟩=>?_;rw[hr.2 hb]at E;refine RN 2 E I λa E=>?_;replace E:=E.aM 17;refine RN 3 E I λa E=>?_;rw[bq (by omega)]at E;refine CL 4 E I (Zi I hb eB jT (λw' hw=>hp w' hw.tail)) λa w E I=>?_;refine AL 0 E I λdm a w E I=>?_;rw[qx]at I;refine SA 0 E I λa w E I=>?_;refine RN 3 E I λa E=>?_;have tN:(if 0<past.length then ((past.getD (past.length-1) 0).toNat:Int) else 0)=((il past).toNat:Nat):=by
  split
  ·rw[il,getLastD_eq_getLast?,List.getLast?_eq_getElem?,bn]
  ·rw[il,gW (l:=past) (by omega)];rfl
 refine cc (M:=λa w=>Fr a 86 [(1,.slice ad past.length c),(2,.int .i64 k),(3,pt b3),(7,pt dm),(8,.int .i64 ((il past).toNat:Nat)),(9,.int .i64 (-1))]∧U W w (aa dm 320 (ints .i64 256 (gG b past))::aa b3 47 (di b adT cT)::L)) ?_ ?_
 ·
  refine IF 4 E I (λao a E=>?_) λao a E=>?_
  ·
   obtain⟨bb,oo,rfl,eX⟩:=(hp _ I.tail.tail).get (by omega);rw[ak (by omega)]at tN;refine RN 4 E I λa E=>?_;rw[show ((past.length:Nat):Int)-1=((past.length-1:Nat):Int) from by omega]at E;refine RN 1 E I λa E=>?_;refine SS E (ae E (eX (past.length-1) _ (kX (by omega)))) λa E=>?_;refine SX 0 E I (sU _) λa E=>?_;refine RN 1 E I λa E=>?_;rw[tN]at E;exact⟨E.ab [1,2,3,7,8,9],I⟩
  rw[ag (by omega)]at tN;refine RN 1 E I λa E=>?_;rw[show (0:Int)=((il past).toNat:Nat) from tN]at E;exact⟨E.ab [1,2,3,7,8,9],I⟩
 clear E;(try clear I);rintro a w ⟨E,I⟩;refine cc (M:=λa w=>Fr a 86 [(2,.int .i64 k),(3,pt b3),(7,pt dm),(8,.int .i64 ((il past).toNat:Nat)),(9,.int .i64 (s7 b past))]∧U W w (aa dm 320 (ints .i64 256 (gG b past))::aa b3 47 (di b adT cT)::L)) ?_ ?_
 ·
  refine IF 4 E I (λay a E=>?_) λay a E=>?_
  ·
   refine bQ 0 [5,6,7] [0,2,3,4,3001,1005,1006,1007,8,1009,10,11] E I λa w E I hH hC=>?_;have hA:=E;obtain⟨Y7,Y8,rfl,po⟩:=(ht _ I.tail.tail).get (by omega);have E:=hA;have Fz:past.length%b.table.length<b.table.length:=Nat.mod_lt _ (by omega);refine RH 8 E I hH hC λa E=>?_;rw[nY]at E;refine RH 1 E I hH hC λa E=>?_;refine SS E (ae E (po (past.length%b.table.length) _ (kX Fz))) λa E=>?_;refine RH 0 E I hH hC λa E=>?_;refine QP E (λw=>o3 E underlying5 underlying3 (sU _)) λa E=>?_;refine RH 1 E I hH hC λa E=>?_;rw[s7,ak (by omega)];exact⟨E.ab [2,3,7,8,9],I⟩
  refine RN 0 E I λa E=>?_;rw[s7,ag (by omega)];exact⟨E.ab [2,3,7,8,9],I⟩
 clear E;(try clear I);rintro a w ⟨E,I⟩;refine AL 1 E I λkr a w E I=>?_;rw[Zg]at I;refine RN 3 E I λa E=>?_;refine aO (λμ a w=>∃ (j:Nat) (out:List UInt8) (t:Nat→Bool) (ad2:Option Addr) (c2:Nat),(μ=min k 256-j∧j≤min k 256∧out.length=j∧qy t 256=j∧(j=0→∀ v,t v=false)∧(1≤j→out[0]?=some (m9 b past)))∧Fr a 86 [(2,.int .i64 k),(3,pt b3),(7,pt dm),(8,.int .i64 ((il past).toNat:Nat)),(9,.int .i64 (s7 b past)),(10,pt kr),(11,.slice ad2 out.length c2)]∧U W w (Sl 5 1 ad2 out.length c2 (bc out)::aa kr 322 (s8 t)::aa dm 320 (ints .i64 256 (gG b past))::aa b3 47 (di b adT cT)::L)) (min k 256) (⟨0,[],λ_=>false,none,0,⟨rfl,by omega,rfl,by decide,λ_ _=>rfl,λh=>by omega⟩,E.ab [2,3,7,8,9,10,11],I.bN 5 1 none⟩) ?_;clear E I;rintro μ a w ⟨j,out,t,ad2,c2,⟨rfl,hj,dV,LO,Zk,yx⟩,E,I⟩;refine BY 7 E I (λdz a E=>?_) λdz a E=>?_
 ·
  refine IF 4 E I (λbk a E=>?_) λbk a E=>?_
  ·
   refine RN 5 E I λa E=>?_;refine aO (λμ a w=>∃ (i:Nat) (fF:Int),(μ=256-i∧i≤256∧j8 (gG b past) ((il past).toNat:Nat) (s7 b past) t (decide (j=0)) i fF)∧Fr a 86 [(2,.int .i64 k),(3,pt b3),(7,pt dm),(8,.int .i64 ((il past).toNat:Nat)),(9,.int .i64 (s7 b past)),(10,pt kr),(11,.slice ad2 out.length c2),(12,.int .i64 fF),(13,.int .i64 i)]∧U W w (Sl 5 1 ad2 out.length c2 (bc out)::aa kr 322 (s8 t)::aa dm 320 (ints .i64 256 (gG b past))::aa b3 47 (di b adT cT)::L)) (256) (⟨0, -1,⟨rfl,by omega,j8.start⟩,E.ab [2,3,7,8,9,10,11,12,13],I⟩) ?_;clear E I;rintro μ a w ⟨i,fF,⟨rfl,hi,uC⟩,E,I⟩;refine IF 4 E I (λbO a E=>?_) λbO a E=>?_
   ·
    have AZ:i<256:=by omega
    have oA:decide (j=0)=true→∀ v,t v=false:=λh=>Zk (by simpa using h);refine RN 4 E I λa E=>?_;refine SS E (ae E (I.bz (Zd AZ))) λa E=>?_;refine BY 2 E I (λdz a E=>?_) λdz a E=>?_
    ·
     refine BY 3 E I (λjE a E=>?_) λjE a E=>?_
     ·
      refine RN 14 E I λa E=>?_;exact⟨256-(i+1),by omega,i+1,i,⟨rfl,by omega,uC.take jE dz oA⟩,E.ab [2,3,7,8,9,10,11,12,13],I⟩
     obtain⟨u,rfl,hu⟩:=uC.nat (by omega);refine CL 5 E I (Zj I AZ (by omega)) λa w E I=>?_;refine IF 2 E I (λeE a E=>?_) λeE a E=>?_
     ·
      refine RN 5 E I λa E=>?_;exact⟨256-(i+1),by omega,i+1,i,⟨rfl,by omega,j8.up hu eE dz⟩,E.ab [2,3,7,8,9,10,11,12,13],I⟩
     refine RN 3 E I λa E=>?_;exact⟨256-(i+1),by omega,i+1,u,⟨rfl,by omega,j8.ab hu eE⟩,E.ab [2,3,7,8,9,10,11,12,13],I⟩
    refine RN 15 E I λa E=>?_;exact⟨256-(i+1),by omega,i+1,fF,⟨rfl,by omega,uC.skip dz oA⟩,E.ab [2,3,7,8,9,10,11,12,13],I⟩
   obtain rfl:i=256:=by omega
   obtain⟨u,rfl,Zl,Zm,FF⟩:=uC.FD (by omega);refine ST 3 E I (λa w E I=>?_) (hlt:=(by rw[Zc];omega));rw[Ze]at I;refine SX 2 E I (by rw[wrap_u8];omega) λa E=>?_;rw[show ((u:Nat):Int)=((UInt8.ofNat u).toNat:Int) from by rw[UInt8.toNat_ofNat'];omega]at E;refine RN 0 E I λa E=>?_;refine cr E rfl I underlying22 Ty.t5 rfl rfl rfl rfl (by decide) (by decide) λb83 a w E I ho=>?_;clear ho;refine RN 0 E I λa E=>?_;refine cK E rfl I underlying22 Ty.t5 rfl rfl I.ai rfl (eo [UInt8.ofNat u]) (by decide) (by decide) (by omega) λZn Zo a w E I=>?_;rw[show bc out++_=bc (out++[UInt8.ofNat u]) from (fG _ [_]).symm,show out.length+1=(out++[UInt8.ofNat u]).length from by simp]at I;rw[show out.length+1=(out++[UInt8.ofNat u]).length from by simp]at E;refine RN 1 E I λa E=>?_;exact⟨min k 256-(j+1),by omega,j+1,out++[UInt8.ofNat u],_,Zn,Zo,⟨rfl,by omega,by rw[aL,dV];rfl,by rw[LM Zm,LO,ak Zl],λh=>by omega,λ_=>by
    rcases Nat.eq_zero_or_pos j with h0 | h0
    ·rw[gW (l:=out) (by omega),FF (dg h0),Zb hb];simp
    ·rw[l4 (by omega)];exact yx (by omega)⟩,E.ab [2,3,7,8,9,10,11],I.sub⟩
  refine RT 3 E I ?_;exact⟨ad2,c2,out,rfl,⟨by omega,yx (by omega)⟩,I.sub⟩
 refine RT 8 E I ?_;exact⟨ad2,c2,out,rfl,⟨by omega,yx (by omega)⟩,I.sub⟩
theorem Zq (I:U W w L)(hb:cX b)(eB:past.length≤1001)(jT:past.length≤c)(hn:m≤1000)(hp:∀ w',U W w' L→aX w' ad past.length past)(ht:∀ w',U W w' L→aX w' adT b.table.length b.table) :
   Calls prog 161 #[.agg (di b adT cT).toArray,.slice ad past.length c,.int .i64 m] w λe w'=>∃ av c',e=.returned (.slice av m c')∧U W w' (Sl 5 1 av m c' (bc (j4 b past m))::L):=by
 refine EN func161 ntmps161 rfl rfl λa E=>?_;refine BX 1 E I λb3 a w E I=>?_;change U W w (aa b3 47 (di b adT cT)::_) at I;refine bh 4 E I (FE I) λr a w E ⟨hr,I⟩=>?_;rw[hr.2 hb]at E;refine RN 1 E I λa E=>?_;replace E:=E.aM 13;refine RN 2 E I λa E=>?_;replace I:=I.bN 5 1 none;refine RN 1 E I λa E=>?_;refine g2 E rfl I underlying22 Ty.t5 rfl rfl (by decide) (λh0=>(hp _ I.tail.tail).get h0) (by rw[dt];omega) (eo _) (by omega) λKH KI a w E I=>?_;rw[nil_append,Nat.zero_add]at I;rw[Nat.zero_add]at E;refine RN 6 E I λa E=>?_;refine aO (λμ a w=>∃ (i:Nat) (ad2:Option Addr) (c2:Nat) (fm:Option Addr) (dC:Nat),(μ=m-i∧i≤m)∧Fr a 41 [(2,.int .i64 m),(3,pt b3),(7,.slice ad2 (ef b past i).length c2),(8,.slice fm i dC),(9,.int .i64 i)]∧U W w (Sl 5 1 fm i dC (bc (j4 b past i))::Sl 5 1 ad2 (ef b past i).length c2 (bc (ef b past i))::aa b3 47 (di b adT cT)::L)) (m) (⟨0,KH,KI,none,0,⟨rfl,by omega⟩,E.ab [2,3,7,8,9],by
  have h1:j4 b past 0=[]:=gW (EZ b past 0);rw[h1];exact I.bN 5 1 none⟩) ?_
 clear E I;rintro μ a w ⟨i,ad2,c2,fm,dC,⟨rfl,hi⟩,E,I⟩;refine BY 6 E I (λbX a E=>?_) λbX a E=>?_
 ·
  refine RN 3 E I λa E=>?_;rw[dg (by omega)]at E;refine RN 3 E I λa E=>?_;have cp:=im b past i;have FB:=(I.sl ad2).2;have Zr:i<m:=by omega
  refine jO 2 E I (LN (past:=ef b past i) (k:=1) I hb (by decide) (by omega) FB (λw' hw=>hw.cu ad2 (ef b past i) rfl rfl) (λw' hw=>ht w' hw.tail.tail.tail)) λrk oz out a w E ⟨⟨dV,A4⟩,I⟩=>?_;refine RN 1 E I λa E=>?_;obtain⟨x,rfl⟩:∃ x,out=[x]:=by
   match out,dV with
   | [x],_=>exact⟨x,rfl⟩
  obtain rfl:x=m9 b (ef b past i):=by simpa using A4
  obtain⟨gm,or',rfl,jD⟩:=I.bV rk (by simp);refine SX 3 E I (by simp) λa E=>?_;refine RN 0 E I λa E=>?_;refine SS E (ae E (jD 0 _ rfl)) λa E=>?_;refine RN 0 E I λa E=>?_;refine cr E rfl I underlying22 Ty.t5 rfl rfl rfl rfl (by decide) (by decide) λgH a w E I ho=>?_;clear ho;refine RN 0 E I λa E=>?_;refine cK E rfl I underlying22 Ty.t5 rfl rfl I.ai rfl (eo [m9 b (ef b past i)]) (by decide) (by decide) (by omega) λFG FH a w E I=>?_;rw[show bc (ef b past i)++_=bc (ef b past (i+1)) from (fG _ [_]).symm,show (ef b past i).length+1=(ef b past (i+1)).length from by rw[im,im];omega]at I;rw[show (ef b past i).length+1=(ef b past (i+1)).length from by rw[im,im];omega]at E;refine RN 1 E I λa E=>?_;replace jD:=I.cJ gm or' (by simp);refine SX 2 E I (by simp) λa E=>?_;refine RN 0 E I λa E=>?_;refine SS E (ae E (jD 0 _ rfl)) λa E=>?_;refine RN 0 E I λa E=>?_;refine cr E rfl I underlying22 Ty.t5 rfl rfl rfl rfl (by decide) (by decide) λb38 a w E I ho=>?_;clear ho;refine RN 0 E I λa E=>?_;refine cK E rfl I underlying22 Ty.t5 rfl rfl I.ai rfl (eo [m9 b (ef b past i)]) (by decide) (by decide) (by omega) λZs Zt a w E I=>?_;rw[show bc (j4 b past i)++_=bc (j4 b past (i+1)) from by rw[Yl,uq];exact (fG _ [_]).symm]at I;refine RN 4 E I λa E=>?_;exact⟨m-(i+1),by omega,i+1,FG,FH,Zs,Zt,⟨rfl,by omega⟩,E.ab [2,3,7,8,9],I.sub⟩
 refine RT 7 E I ?_;obtain rfl:i=m:=by omega
 exact⟨_,_,rfl,I.sub⟩
end
end
section
def wz (to:Nat)(l x:List UInt8):Prop:=(∃ t,x=l++t)∧to≤x.length∧x.length≤1001
def nf (X:List (List UInt8))(front to:Nat):List (List UInt8):=(List.range (to-front)).map λi=>bJ X (front+i)
theorem wA (b:Gs)(ls:List (List UInt8))(to:Nat):nf (iS b ls to) (aU ls) to=dq b ls to:=rfl
theorem A5 (X:List (List UInt8))(front to:Nat):(nf X front to).length=to-front:=by simp[nf]
structure yy (to:Nat)(ls X:List (List UInt8)):Prop where
 len:X.length=ls.length
 fit:∀ (j:Nat) (l x:List UInt8),ls[j]?=some l→X[j]?=some x→wz to l x
theorem Zu {b:Gs}{l:List UInt8}{to:Nat}(h:l.length≤1000)(h2:to≤1000):wz to l (nI b l to):=by
 refine⟨⟨j4 b l (to-l.length),?_⟩,Ym b l to,?_⟩
 ·rw[nI,uq]
 ·rw[nI,im];omega
theorem LP {b:Gs}{l:List UInt8}{to:Nat}(h:to≤l.length):nI b l to=l:=by rw[nI,show to-l.length=0 from by omega];rfl
structure wB:Prop where
 Zv:∀ {W w:World} {L:List SP} {c k cT:Nat} {ad adT:Option Addr} {past:List UInt8} {b:Gs},U W w L→cX b→(1≤k∧k≤256)→past.length≤1000→past.length≤c→(∀ w',U W w' L→aX w' ad past.length past)→(∀ w',U W w' L→aX w' adT b.table.length b.table) →
 Calls prog 310 #[.agg (di b adT cT).toArray,.slice ad past.length c,.int .i64 k] w λe w'=>∃ (av:Option Addr) (c':Nat) (out:List UInt8),e=.returned (.slice av out.length c')∧out.length=k∧U W w' (Sl 5 1 av out.length c' (bc out)::L)
section
variable {W w:World}{L:List SP}{c m cT to r:Nat}{ad adT:Option Addr}{past:List UInt8}{b:Gs}
set_option maxHeartbeats 1000000 in
theorem Zw (qz:r=0∨wB)(hr:r≤100000)(I:U W w (Sl 5 1 ad past.length c (bc past)::L))(hb:cX b)(eB:past.length≤1000)(s4:to≤1000)(ht:∀ w',U W w' L→aX w' adT b.table.length b.table) :
   Calls prog 294 #[.slice ad past.length c,.agg (di b adT cT).toArray,.int .i64 r,.int .i64 to] w λe w'=>∃ (av:Option Addr) (c':Nat) (x:List UInt8),e=.returned (.slice av x.length c')∧(wz to past x∧(r=0→x=nI b past to)) ∧
    U W w' (Sl 5 1 av x.length c' (bc x)::L):=by
 have jT:=(I.sl ad).2;refine EN func294 ntmps294 rfl rfl λa E=>?_;refine BX 1 E I λb5 a w E I=>?_;change U W w (aa b5 186 (di b adT cT)::_) at I;refine IF 7 E I (λaj a E=>?_) λaj a E=>?_
 ·
  refine RT 3 E I ?_;exact⟨ad,c,past,rfl,⟨⟨⟨[],by simp⟩,by omega,by omega⟩,λ_=>(LP (by omega)).symm⟩,I.tail⟩
 refine RN 0 E I λa E=>?_;refine cc (M:=λa w=>∃ (ad2:Option Addr) (c2:Nat) (y:List UInt8),((∃ t,y=past++t)∧y.length≤past.length+1∧past.length<to∧(r=0→y=past))∧Fr a 48 [(0,.slice ad2 y.length c2),(3,.int .i64 to),(5,pt b5)]∧U W w (Sl 5 1 ad2 y.length c2 (bc y)::aa b5 186 (di b adT cT)::L)) ?_ ?_
 ·
  refine SX 2 E I (by decide) λa E=>?_;rw[show ((r:Nat):Int).tmod 256=((r%256:Nat):Int) from nY _ 256]at E;refine RN 1 E I λa E=>?_;have yd:r%256<256:=Nat.mod_lt _ (by decide);generalize lO:r%256=r6 at E yd;refine IF 3 E I (λao a E=>?_) λao a E=>?_
  ·
   have Zx:=qz.resolve_left (λh=>by rw[h]at lO;omega);have hp0:=I.drew.tail.tail;refine bQ 0 [] [0,1,2,3,4,5,7,8,9,11,1006,1010,12,1013,1014,1015,16] E I λa w E I hH hC=>?_;refine RH 5 E I hH hC λa E=>?_;refine QP E (λw=>CI E underlying22 Ty.t5 (a7 _) (by omega)) λa E=>?_;rw[qV]at E;refine RH 3 E I hH hC λa E=>?_;rw[show ((r6:Nat):Int)+1=((r6+1:Nat):Int) from by omega]at E;refine RH 2 E I hH hC λa E=>?_;refine jO 0 E I (Zx.Zv I hb (by omega) eB jT (λw' hw=>hw.tail.cu ad past rfl rfl) (λw' hw=>ht w' hw.tail.tail)) λrk oz out a w E ⟨dV,I⟩=>?_;obtain⟨gm,or',rfl,jD⟩:=I.bV rk (by omega);refine RN 1 E I λa E=>?_;refine SS E (ae E (jD r6 _ (dQ (by omega)))) λa E=>?_;refine RN 0 E I λa E=>?_;refine cr E rfl I underlying22 Ty.t5 rfl rfl rfl rfl (by decide) (by decide) λgH a w E I ho=>?_;clear ho;replace I:=I.H6 ad past.length (a7 _);rw[qV,Nat.mul_one,fX (by rw[dt];exact a7 _)]at I;refine RN 0 E I λa E=>?_;refine cK E rfl I underlying22 Ty.t5 rfl rfl I.ai rfl (eo [out[r6]]) (by decide) (by decide) (by omega) λFG FH a w E I=>?_;rw[show bc past++_=bc (past++[out[r6]]) from (fG _ [_]).symm,show past.length+1=(past++[out[r6]]).length from by simp]at I;rw[show past.length+1=(past++[out[r6]]).length from by simp]at E;refine RN 1 E I λa E=>?_;exact⟨FG,FH,past++[out[r6]],⟨⟨_,rfl⟩,by simp,by omega,λh=>by rw[h]at lO;omega⟩,E.ab [0,3,5],I.sub⟩
  have afg:r6=0:=by omega
  refine RN 0 E I λa E=>?_;exact⟨ad,c,past,⟨⟨[],by simp⟩,by omega,by omega,λ_=>rfl⟩,E.ab [0,3,5],I.sub⟩
 clear E;(try clear I);rintro a w ⟨ad2,c2,y,⟨fZ,gA,Zy,k6⟩,E,I⟩;refine RN 1 E I λa E=>?_;have iH:y.length≤to:=by omega
 have oK:=(I.sl ad2).2;refine bQ 0 [] [0,1,2,3,4,5,7,8,9,10,11,1006,1012,1013,14] E I λa w E I hH hC=>?_;refine RH 5 E I hH hC λa E=>?_;refine QP E (λw=>CI E underlying22 Ty.t5 (a7 _) (by omega)) λa E=>?_;rw[qV]at E;refine RH 5 E I hH hC λa E=>?_;rw[show ((to:Nat):Int)-((y.length:Nat):Int)=((to-y.length:Nat):Int) from by omega]at E;refine RH 1 E I hH hC λa E=>?_;refine aY 0 E I (Za (to:=0) (past:=y) (m:=to-y.length) I hb (by omega) oK (by omega) (λw' hw=>hw.cu ad2 y rfl rfl) (λw' hw=>ht w' hw.tail.tail)) λadc Zz a w E I=>?_;replace I:=I.H6 ad2 y.length (a7 _);rw[qV,Nat.mul_one,fX (by rw[dt];exact a7 _)]at I;have FI:=EZ b y (to-y.length);refine RN 0 E I λa E=>?_;refine g2 E rfl I underlying22 Ty.t5 rfl rfl (by decide) (λh0=>(I.tail.cu adc (j4 b y (to-y.length)) rfl FI).get h0) (by rw[dt];omega) (eo _) (by omega) λpH ru a w E I=>?_;rw[← fG,uq,show y.length+(to-y.length)=(ef b y (to-y.length)).length from by rw[im]]at I;rw[show y.length+(to-y.length)=(ef b y (to-y.length)).length from by rw[im]]at E;refine RN 1 E I λa E=>?_;refine RT 0 E I ?_;obtain⟨t,FJ⟩:=fZ;refine⟨pH,ru,_,rfl,⟨⟨⟨t++j4 b y (to-y.length),?_⟩,by rw[im];omega,by rw[im];omega⟩,λh=>?_⟩,I.sub⟩
 ·rw[← uq,FJ,ds]
 ·rw[k6 h,nI]
set_option maxHeartbeats 1000000 in
theorem FK {qb:Nat}{aB:List Nat}{ls:List (List UInt8)}(qz:r=0∨wB)(hr:r≤100000)(I:U W w (Qu qb aB ls::L))(hb:cX b)(h0:ls≠[])(h8:ls.length≤8)(hl:∀ l∈ls,l.length≤1000)(s4:to≤1000)(ht:∀ w',U W w' L→aX w' adT b.table.length b.table) :
   Calls prog 277 #[pt qb,.agg (di b adT cT).toArray,.int .i64 r,.int .i64 to] w λe w'=>∃ (av:Option Addr) (c':Nat) (X:List (List UInt8)),e=.returned (.slice av (to-aU ls) c')∧(yy to ls X∧(r=0→X=iS b ls to)) ∧
    U W w' (cg av (to-aU ls) c' (nf X (aU ls) to)::Qu qb aB ls::L):=by
 refine EN func277 ntmps277 rfl rfl λa E=>?_;refine BX 1 E I λb5 a w E I=>?_;change U W w (aa b5 186 (di b adT cT)::_) at I;refine RN 6 E I λa E=>?_;replace E:=E.aM 21;refine bh 1 E I (yw I) λrG a w E ⟨jD,I⟩=>?_;rw[jD.2 hb]at E;refine RN 3 E I λa E=>?_;replace E:=E.aM 26;refine RN 4 E I λa E=>?_;rw[bq (by omega)]at E;refine RN 3 E I λa E=>?_;rw[bq (by omega)]at E;refine CL 3 E I (rA (I.pick (Qu qb aB ls)) h0 h8) λa w E I=>?_;refine CL 6 E I (E0 I) λa w E I=>?_;refine RN 1 E I λa E=>?_;replace I:=I.bN 22 1 none;replace I:=U.iN (f:=a8) I;refine aO (λμ a w=>∃ (i:Nat) (rG:Nat) (xs:List dY) (nK:Option Addr) (c8:Nat),(μ=ls.length-i∧i≤ls.length∧xs.length=i∧(rG=0∨wB)∧rG≤100000∧(r=0→rG=0)∧(∀ (j:Nat) (l:List UInt8) (x:dY),ls[j]?=some l→xs[j]?=some x→wz to l x.2.2)∧(r=0→xs.map (·.2.2)=(iS b ls to).take i))∧Fr a 84 [(0,pt qb),(2,.int .i64 rG),(3,.int .i64 to),(5,pt b5),(9,.int .i64 (aU ls)),(10,.slice nK i c8),(37,.int .i64 ls.length),(38,.int .i64 i)]∧U W w (Sl 22 1 nK i c8 (xs.map aK)::ah a8 xs::Qu qb aB ls::aa b5 186 (di b adT cT)::L)) (ls.length) (⟨0,r,[],none,0,⟨rfl,by omega,rfl,qz,hr,λh=>h,λj l x _ h=>by simp at h,λ_=>rfl⟩,E.ab [0,2,3,5,9,10,37,38],(I.sub:U W w (Sl 22 1 none 0 0 []::ah a8 []::Qu qb aB ls::aa b5 186 (di b adT cT)::L))⟩) ?_;clear E I;rintro μ a w ⟨i,rG,xs,nK,c8,⟨rfl,hi,bW,LQ,LR,LS,nr,uD⟩,E,I⟩;refine IF 3 E I (λao a E=>?_) λao a E=>?_
 ·
  have aH:i<ls.length:=by omega
  have hlt:=hl _ (uu aH);refine CL 7 E I (sY (I.pick (Qu qb aB ls)) aH) λa w E I=>?_;refine aY 0 E I (Yw I aH hlt) λcY dP a w E I=>?_;refine RN 3 E I λa E=>?_;refine cc (M:=λa w=>∃ k wC:Nat,((k=0∨wB)∧k≤100000∧(wC=0∨wB)∧wC≤100000∧(r=0→k=0∧wC=0))∧Fr a 84 [(0,pt qb),(2,.int .i64 wC),(3,.int .i64 to),(5,pt b5),(9,.int .i64 (aU ls)),(10,.slice nK i c8),(12,.slice cY (ls.getD i []).length dP),(13,.int .i64 k),(37,.int .i64 ls.length),(38,.int .i64 i)]∧U W w (Sl 5 1 cY (ls.getD i []).length dP (bc (ls.getD i []))::Sl 22 1 nK i c8 (xs.map aK)::ah a8 xs::Qu qb aB ls::aa b5 186 (di b adT cT)::L)) ?_ ?_
  ·
   refine IF 5 E I (λay a E=>?_) λay a E=>?_
   ·
    refine RN 3 E I λa E=>?_;exact⟨rG,0,⟨LQ,LR,.inl rfl,by omega,λh=>⟨LS h,rfl⟩⟩,E.ab [0,2,3,5,9,10,12,13,37,38],I.sub⟩
   refine RN 0 E I λa E=>?_;exact⟨0,rG,⟨.inl rfl,by omega,LQ,LR,λh=>⟨rfl,LS h⟩⟩,E.ab [0,2,3,5,9,10,12,13,37,38],I.sub⟩
  clear E;(try clear I);rintro a w ⟨k,wC,⟨gZ,cd,mc,ov,LU⟩,E,I⟩;refine jO 5 E I (Zw gZ cd I hb hlt s4 (λw' hw=>ht w' hw.tail.tail.tail.tail)) λg5 cl x a w E ⟨⟨ZA,FF⟩,I⟩=>?_;refine RN 0 E I λa E=>?_;refine cr E rfl I underlying207 Ty.t22 rfl rfl rfl rfl (by decide) (by decide) λXO a w E I ho=>?_;clear ho;refine RN 0 E I λa E=>?_;refine cK E rfl I underlying207 Ty.t22 rfl rfl I.ai rfl (by simp[Value.oneCell']) (by decide) (by decide) (by omega) λEM EO a w E I=>?_;rw[show List.map aK xs++_=List.map aK (xs++[(g5,cl,x)]) from by rw[cW];rfl]at I;refine RN 3 E I λa E=>?_;have du:=U.jM (f:=a8) (x:=(g5,cl,x)) (I.sub (M:=Sl 5 1 g5 x.length cl (bc x)::ah a8 xs::Sl 22 1 EM (i+1) EO ((xs++[(g5,cl,x)]).map aK)::Qu qb aB ls::aa b5 186 (di b adT cT)::L));refine⟨ls.length-(i+1),by omega,i+1,wC,xs++[(g5,cl,x)],EM,EO,⟨rfl,by omega,by rw[aL,bW];rfl,mc,ov,λh=>(LU h).2,λj l y hj hy=>?_,λh=>?_⟩,E.ab [0,2,3,5,9,10,37,38],du.sub⟩
  ·by_cases gP:j<i
   ·rw[l4 (by omega)]at hy;exact nr j l y hj hy
   ·have ei:=(a2.1 hy).1;rw[aL,jl]at ei;obtain rfl:j=i:=by omega
    rw[getElem?_append_right (by omega),bW,Nat.sub_self]at hy;obtain rfl:(g5,cl,x)=y:=by simpa using hy
    rw[show l=ls.getD j [] from by rw[bn,hj];rfl];exact ZA
  ·rw[cW,uD h,jd (by rw[iS,bd];exact aH)]
   congr 1
   rw[map_singleton,FF (LU h).1];simp[iS,bn,aH]
 obtain rfl:i=ls.length:=by omega
 have ik:yy to ls (xs.map (·.2.2)):=⟨by rw[bd];exact bW,λj l x hj hx=>by
  rw[bm]at hx;obtain⟨y,hy,rfl⟩:=Option.map_eq_some_iff.1 hx;exact nr j l y hj hy⟩
 have mD:r=0→xs.map (·.2.2)=iS b ls to:=λh=>by rw[uD h,fX (by rw[iS,bd];exact a7 _)]
 clear nr uD;have fp:aU ls≤1000:=by
  obtain⟨l,kN,kq⟩:=AG h0;rw[kq];exact hl l kN
 refine RN 6 E I λa E=>?_;replace I:=I.bN 22 1 none;replace I:=U.iN (f:=a8) I;refine aO (λμ a w=>∃ (d:Nat) (zs:List dY) (mE:Option Addr) (mF:Nat),(μ=to-aU ls-d∧d≤to-aU ls∧zs.map (·.2.2)=(List.range d).map λi=>bJ (xs.map (·.2.2)) (aU ls+i))∧Fr a 84 [(3,.int .i64 to),(10,.slice nK ls.length c8),(14,.slice mE d mF),(15,.int .i64 (aU ls+d:Nat))]∧U W w (Sl 22 1 mE d mF (zs.map aK)::ah a8 zs::Sl 22 1 nK ls.length c8 (xs.map aK)::ah a8 xs::Qu qb aB ls::L)) (to-aU ls) (⟨0,[],none,0,⟨rfl,by omega,rfl⟩,by rw[Nat.add_zero];exact E.ab [3,10,14,15],(I.sub:U W w (Sl 22 1 none 0 0 []::ah a8 []::Sl 22 1 nK ls.length c8 (xs.map aK)::ah a8 xs::Qu qb aB ls::L))⟩) ?_;clear E I;rintro μ a w ⟨d,zs,mE,mF,⟨rfl,hd,s9⟩,E,I⟩;refine IF 5 E I (λbk a E=>?_) λbk a E=>?_
 ·
  refine RN 3 E I λa E=>?_;replace I:=I.bN 5 1 none;refine RN 5 E I λa E=>?_;refine aO (λμ a w=>∃ (i:Nat) (iI:Option Addr) (iT:Nat),(μ=ls.length-i∧i≤ls.length)∧Fr a 84 [(3,.int .i64 to),(10,.slice nK ls.length c8),(14,.slice mE d mF),(15,.int .i64 (aU ls+d:Nat)),(16,.slice iI i iT),(65,.slice nK ls.length c8),(66,.int .i64 ls.length),(67,.int .i64 i)]∧U W w (Sl 5 1 iI i iT (bc (fw (xs.map (·.2.2)) (aU ls+d) i))::Sl 22 1 mE d mF (zs.map aK)::ah a8 zs::Sl 22 1 nK ls.length c8 (xs.map aK)::ah a8 xs::Qu qb aB ls::L)) (ls.length) (⟨0,none,0,⟨rfl,by omega⟩,E.ab [3,10,14,15,16,65,66,67],I⟩) ?_;clear E I;rintro μ a w ⟨i,iI,iT,⟨rfl,hi⟩,E,I⟩;refine IF 3 E I (λbO a E=>?_) λbO a E=>?_
  ·
   have aH:i<ls.length:=by omega
   obtain⟨x,hx⟩:∃ x,xs[i]?=some x:=⟨_,aE (by omega)⟩;have A6:=U.ma (xs:=xs) (I.sub (M:=Sl 22 1 nK ls.length c8 (xs.map aK)::ah a8 xs::[]));obtain⟨mw,ox,rfl,fE⟩:=A6.1 (by omega);have yz:=ik.fit i _ x.2.2 (aE aH) (by rw[bm,hx];rfl);obtain⟨lX,ol,gX,gl⟩:=(A6.2 x (bH hx)).get (by have:=yz.2.1;omega);refine RN 3 E I λa E=>?_;refine SS E (ae E (fE i (aK x) (by rw[bm,hx];rfl))) λa E=>?_;refine RN 4 E I λa E=>?_;rw[aK,gX]at E;refine SX 0 E I (by have:=yz.2.1;omega) λa E=>?_;refine RN 0 E I λa E=>?_;refine SS E (ae E (gl (aU ls+d) _ (kX (by have:=yz.2.1;omega)))) λa E=>?_;refine RN 0 E I λa E=>?_;refine cr E rfl I underlying22 Ty.t5 rfl rfl rfl rfl (by decide) (by decide) λb76 a w E I ho=>?_;clear ho;refine RN 0 E I λa E=>?_;refine cK E rfl I underlying22 Ty.t5 rfl rfl I.ai rfl (eo [x.2.2.getD (aU ls+d) 0]) (by decide) (by decide) (by omega) λZB ZC a w E I=>?_;rw[show bc (fw (xs.map (·.2.2)) (aU ls+d) i)++_=bc (fw (xs.map (·.2.2)) (aU ls+d) (i+1)) from by rw[AI (by rw[bd];omega),getElem_map,fG,(a2.1 hx).2]]at I;refine RN 3 E I λa E=>?_;exact⟨ls.length-(i+1),by omega,i+1,ZB,ZC,⟨rfl,by omega⟩,E.ab [3,10,14,15,16,65,66,67],I.sub⟩
  obtain rfl:i=ls.length:=by omega
  have ei:fw (xs.map (·.2.2)) (aU ls+d) ls.length=bJ (xs.map (·.2.2)) (aU ls+d):=by
   conv=>lhs;rw[← ik.len]
   exact AH _ _
  rw[ei]at I;have p8:(bJ (xs.map (·.2.2)) (aU ls+d)).length=ls.length:=by rw[m8];exact ik.len
  refine RN 2 E I λa E=>?_;refine cr E rfl I underlying207 Ty.t22 rfl rfl rfl rfl (by decide) (by decide) λb81 a w E I ho=>?_;clear ho;refine RN 0 E I λa E=>?_;refine cK E rfl I underlying207 Ty.t22 rfl rfl I.ai rfl (by simp[Value.oneCell']) (by decide) (by decide) (by omega) λLV LW a w E I=>?_;rw[show List.map aK zs++_=List.map aK (zs++[(iI,iT,bJ (xs.map (·.2.2)) (aU ls+d))]) from by rw[cW,map_singleton,aK,p8];rfl]at I;refine RN 4 E I λa E=>?_;have du:=U.jM (f:=a8) (x:=(iI,iT,bJ (xs.map (·.2.2)) (aU ls+d))) (by
   rw[a8,p8];exact I.sub (M:=Sl 5 1 iI ls.length iT (bc (bJ (xs.map (·.2.2)) (aU ls+d)))::ah a8 zs::Sl 22 1 LV (d+1) LW ((zs++[(iI,iT,bJ (xs.map (·.2.2)) (aU ls+d))]).map aK)::Sl 22 1 nK ls.length c8 (xs.map aK)::ah a8 xs::Qu qb aB ls::L))
  exact⟨to-aU ls-(d+1),by omega,d+1,zs++[(iI,iT,bJ (xs.map (·.2.2)) (aU ls+d))],LV,LW,⟨rfl,by omega,by rw[cW,s9,range_succ,cW];rfl⟩,by rw[show ((aU ls+(d+1):Nat):Int)=((aU ls+d:Nat):Int)+1 from by omega];exact E.ab [3,10,14,15],du.sub⟩
 obtain rfl:d=to-aU ls:=by omega
 refine RT 3 E I ?_;exact⟨mE,mF,xs.map (·.2.2),rfl,⟨ik,mD⟩,cg.close (xs:=zs) (I.sub (M:=Sl 22 1 mE (to-aU ls) mF (zs.map aK)::ah a8 zs::Qu qb aB ls::L)) s9 (A5 _ _ _)⟩
end
end
section
structure iU where
 pb:Nat
 core:pK
 aq:Option Addr
 cO:Nat
 adT:Option Addr
 cT:Nat
 gs:Gs
abbrev gu (p:Pr)(B:iU)(g:Nat→Int):List Value:=[pt B.core.cb,.string p.title,.slice B.aq p.ops.length B.cO,.int .i64 B.gs.kind,.int .i64 B.gs.order,.slice B.adT B.gs.table.length B.cT]++ints .i32 32 g
theorem LX {w:World}{b:Nat}{p:Pr}{B:iU}{g:Nat→Int}(h:Rd w b 0 (gu p B g)):Rd w b 1 (bP p B.aq B.cO):=h.part 1 2
theorem LY {w:World}{b:Nat}{p:Pr}{B:iU}{g:Nat→Int}(h:Rd w b 0 (gu p B g)):Rd w b 3 (di B.gs B.adT B.cT):=h.part 3 3
theorem yA {w:World}{b:Nat}{p:Pr}{B:iU}{g:Nat→Int}(h:Rd w b 0 (gu p B g)):Rd w b 6 (ints .i32 32 g):=by
 have h1:=h.part 6 32
 rwa [show ((gu p B g).drop 6).take 32=ints .i32 32 g from by
  show (ints .i32 32 g).take 32=_;exact fX (by rw[dd];exact a7 _)]at h1
theorem LZ (p:Pr)(B:iU)(g:Nat→Int):(gu p B g).length=38:=by rw[gu,aL,dd];rfl
theorem ZD (p:Pr)(B:iU)(g g':Nat→Int):cG (gu p B g) 6 (ints .i32 32 g')=gu p B g':=by
 rw[cG,dd,drop_eq_nil_of_le (by rw[LZ];exact a7 _),append_nil,gu,gu]
 congr 1
def aQ (W:World)(B:iU)(p:Pr)(s:Pl):SP:=λh=>cn [aa B.pb 192 (gu p B s.g),az B.core s.k,aA W p B.aq B.cO,Sl 5 1 B.adT B.gs.table.length B.cT (bc B.gs.table)] h
def fz (p:Pr)(gs:Gs)(s:Pl):List UInt8×Nat:=if aD s.k≤aw s.k then lz s else (gn (foldI p (aw s.k) s.g (dq gs s.k.ls (aD s.k))),aD s.k)
section
variable {W w:World}{L R:List SP}{n c i:Nat}{ad:Option Addr}{B:iU}{x:UInt8}{p:Pr}{s:Pl}{bs:List UInt8}
theorem aQ.open (I:U W w (aQ W B p s::L)):U W w (aa B.pb 192 (gu p B s.g)::az B.core s.k::aA W p B.aq B.cO::Sl 5 1 B.adT B.gs.table.length B.cT (bc B.gs.table)::L) :=
 I.open (M:=[_,_,_,_]) λ_ h=>h
theorem aQ.close (I:U W w (aa B.pb 192 (gu p B s.g)::az B.core s.k::aA W p B.aq B.cO::Sl 5 1 B.adT B.gs.table.length B.cT (bc B.gs.table)::L)):U W w (aQ W B p s::L) :=
 U.shut (M:=[_,_,_,_]) I λ_ h=>h
theorem aQ.fold (I:U W w L)(B:iU)(p:Pr)(s:Pl)[kk:fD L [aa B.pb 192 (gu p B s.g),az B.core s.k,aA W p B.aq B.cO,Sl 5 1 B.adT B.gs.table.length B.cT (bc B.gs.table)] R]:U W w (aQ W B p s::R):=aQ.close (I.perm kk.perm)
theorem nL (I:U W w (aQ W B p s::L)):Calls prog 178 #[pt B.pb] w λr w'=>r=.returned (pt B.core.cb)∧U W w' (aQ W B p s::L):=by
 replace I:=aQ.open I;refine EN func178 ntmps178 rfl rfl λa E=>?_;refine RN 6 E I λa E=>?_;replace E:=E.aM 4;refine RT 7 E I ?_;exact⟨rfl,aQ.close I⟩
theorem FL (I:U W w (aQ W B p s::L))(hw:WP p s)(a6:dh p)(aG:p.title.size≤1000000000):Calls prog 99 #[pt B.pb] w λr w'=>r=.returned (.tuple #[])∧U W w' (aQ W B p (ew p s)::L):=by
 refine EN func99 ntmps99 rfl rfl λa E=>?_;refine RN 0 E I λa E=>?_;refine aO (λμ a w=>∃ (i:Nat),(μ=aw s.k-s.k.mr.length-i∧i≤aw s.k-s.k.mr.length)∧Fr a 56 [(0,pt B.pb)]∧U W w (aQ W B p (iw p i s)::L)) (aw s.k-s.k.mr.length) (⟨0,⟨rfl,by omega⟩,E.ab [0],I⟩) ?_;clear E I;rintro μ a w ⟨i,⟨rfl,hi⟩,E,I⟩;obtain⟨j9,eQ,l9⟩:=hw.qw i hi;have eM:iw p (i+1) s=nJ p (iw p i s):=E4 p i s;have CT:=hw.low;have vx:aw (iw p i s).k=aw s.k:=by rw[aw,eQ];rfl
 generalize FM:iw p i s=si at I j9 eQ l9 eM vx;replace I:=aQ.open I;have bD:=j9.wc.k0;have iq:si.k.ls.length≤8:=by rw[j9.wc.ls];exact j9.wc.n.2
 have ZE:aw si.k≤1000:=ft j9.wc.nc j9.wc.lx;refine aV 2 (λw0 w'=>w'.cell? ⟨B.pb,0,none⟩=some (pt B.core.cb)) [4,8] [0,1,2,5,6,7,3003,3008,1004,1009,1010,11] E I λa w E I hH=>?_;have hC:=hH.at w (I.bz (b:=B.pb) rfl);refine RH 6 E I hH hC λa E=>?_;refine QH E (λw hc=>ae E (hc)) hC λa E=>?_;refine QH E (λw hc=>ae E (hc)) hC λa E=>?_;refine RH 0 E I hH hC λa E=>?_;refine CL 0 E I (Lf (I.pick (az B.core si.k))) λa w E I=>?_;replace hC:=hH.at w (I.bz (b:=B.pb) rfl);refine RH 0 E I hH hC λa E=>?_;refine CL 0 E I (oI (I.pick (az B.core si.k))) λa w E I=>?_;obtain⟨D,I,hD⟩:=az.qu I;refine CL 0 E I (rA I bD iq) λa w E I=>?_;refine RN 1 E I λa E=>?_;replace I:=hD _ _ I;replace I:=I.sub (M:=aa B.pb 192 (gu p B si.g)::az B.core si.k::aA W p B.aq B.cO::Sl 5 1 B.adT B.gs.table.length B.cT (bc B.gs.table)::L);refine IF 0 E I (λaj a E=>?_) λaj a E=>?_
 ·
  have qf:si.k.mr.length<aU si.k.ls:=by omega
  have ZF:si.k.mr.length<aw si.k:=qf;refine CL 5 E I (Lf (I.pick (az B.core si.k))) λa w E I=>?_;refine CL 6 E I (oI (I.pick (az B.core si.k))) λa w E I=>?_;refine RN 1 E I λa E=>?_;obtain⟨D,I,hD⟩:=az.qu I;refine aY 0 E I (Yx I bD qf iq) λiI iT a w E I=>?_;refine RN 5 E I λa E=>?_;replace I:=hD _ _ (I.sub (M:=Qu B.core.qb B.core.aB si.k.ls::D::Sl 5 1 iI (bJ si.k.ls si.k.mr.length).length iT (bc (bJ si.k.ls si.k.mr.length))::aa B.pb 192 (gu p B si.g)::aA W p B.aq B.cO::Sl 5 1 B.adT B.gs.table.length B.cT (bc B.gs.table)::L));have ei:=m8 si.k.ls si.k.mr.length;refine aV 1 (λw0 w'=>Rd w' B.pb 0 (gu p B si.g)) [8] [0,1,2,3,5,6,7,9,10,3004,1008,1011,12,13,1014] E I λa w E I hH=>?_;have hC:=hH.at w (I.ai (b:=B.pb));refine RH 9 E I hH hC λa E=>?_;refine QH E (λw hc=>bS E underlying45 rfl Ty.t45 (LX hc)) hC λa E=>?_;refine RH 0 E I hH hC λa E=>?_;refine SS E (bS E underlying183 rfl Ty.t183 (yA hC)) λa E=>?_;refine RH 0 E I hH hC λa E=>?_;refine CL 0 E I (LD (b:=bJ si.k.ls si.k.mr.length) (fr:=si.k.mr.length) (I.pick (aA W p B.aq B.cO)) a6 aG (j9.pJ a6) (by omega) (λw' hw=>(hw.pick (Sl 5 1 iI (bJ si.k.ls si.k.mr.length).length iT (bc (bJ si.k.ls si.k.mr.length)))).cu iI _ rfl rfl)) λa w E I=>?_;refine RN 2 E I λa E=>?_;refine qK E rfl I Ty.t183 tD (by rw[dd,LZ];decide) λa w E I=>?_;rw[ZD]at I;refine aV 0 (λw0 w'=>Rd w' B.pb 0 (gu p B (e0 p si.k.mr.length (bJ si.k.ls si.k.mr.length) si.g))) [7,8] [0,1,2,4,5,6,3003,1007,1008,1009] E I λa w E I hH=>?_;have hC:=hH.at w (I.ai (b:=B.pb));refine RH 6 E I hH hC λa E=>?_;refine QH E (λw hc=>ae E (hc 0 _ rfl)) hC λa E=>?_;refine RH 0 E I hH hC λa E=>?_;refine SS E (bS E underlying183 rfl Ty.t183 (yA hC)) λa E=>?_;refine RH 0 E I hH hC λa E=>?_;refine CL 0 E I (Yi I) λa w E I=>?_;replace hC:=hH.at w (I.ai (b:=B.pb));refine RH 0 E I hH hC λa E=>?_;refine CL 0 E I (YQ (I.pick (az B.core si.k)) j9.wc (by omega) (Ea _)) λa w E I=>?_;refine RN 0 E I λa E=>?_;exact⟨aw s.k-s.k.mr.length-(i+1),by omega,i+1,⟨rfl,by omega⟩,E.ab [0],by
   rw[eM];show U W w (aQ W B p ⟨lu si.k (jk (gn (e0 p si.k.mr.length (bJ si.k.ls si.k.mr.length) si.g))),e0 p si.k.mr.length (bJ si.k.ls si.k.mr.length) si.g⟩::L);exact (aQ.fold I B p ⟨lu si.k (jk (gn (e0 p si.k.mr.length (bJ si.k.ls si.k.mr.length) si.g))),e0 p si.k.mr.length (bJ si.k.ls si.k.mr.length) si.g⟩).sub⟩
 refine RT 0 E I ?_;obtain rfl:i=aw s.k-s.k.mr.length:=by
  have:aU si.k.ls=aw si.k:=rfl;omega
 refine⟨rfl,?_⟩;rw[ew,FM];exact aQ.close I
theorem L1 (I:U W w (aQ W B p s::L))(hw:cw p s)(a6:dh p)(aG:p.title.size≤1000000000):Calls prog 282 #[pt B.pb,.int .u8 (x.toNat:Nat)] w λr w'=>r=.returned (.int .i64 (dE p x s).1)∧U W w' (aQ W B p (dE p x s).2::L):=by
 have h1:=ux x s.k;have ln:=hw.toWP.more (hw.wc.al x) (hw.held.al x) h1.1 h1.2;refine EN func282 ntmps282 rfl rfl λa E=>?_;refine CL 4 E I (nL I) λa w E I=>?_;refine RN 1 E I λa E=>?_;replace I:=aQ.open I;refine CL 0 E I (YS (x:=x) (I.pick (az B.core s.k)) hw.wc) λa w E I=>?_;replace I:=(aQ.fold I B p ⟨(cZ x s.k).2,s.g⟩);refine RN 1 E I λa E=>?_;refine cc (M:=λa w=>Fr a 15 [(5,.int .i64 (dE p x s).1)]∧U W w (aQ W B p (dE p x s).2::L)) ?_ ?_
 ·
  refine IF 3 E I (λaj a E=>?_) λaj a E=>?_
  ·
   refine CL 1 E I (FL I ln a6 aG) λa w E I=>?_;refine RN 0 E I λa E=>?_;exact⟨E.ab [5],I⟩
  refine RN 0 E I λa E=>?_;have he:(dE p x s).2=⟨(cZ x s.k).2,s.g⟩:=by
   show ew p _=_;rw[uw aj];exact hw.ew
  rw[he];exact⟨E.ab [5],I⟩
 clear E;(try clear I);rintro a w ⟨E,I⟩;refine RT 3 E I ?_;exact⟨rfl,I⟩
theorem L2 (I:U W w (aQ W B p s::L))(hw:cw p s)(a6:dh p)(aG:p.title.size≤1000000000)(hb:bs.length≤65536)(hc:bs.length≤c)(hp:∀ w',U W w' L→aX w' ad bs.length bs) :
   Calls prog 284 #[pt B.pb,.slice ad bs.length c] w λr w'=>r=.returned (.int .i64 (dF p bs s).1)∧U W w' (aQ W B p (dF p bs s).2::L):=by
 have h1:=rD bs s.k;have ln:=hw.toWP.more (hw.wc.recv bs).1 ((hw.wc.recv bs).2 hw.held) h1.1 h1.2;refine EN func284 ntmps284 rfl rfl λa E=>?_;refine CL 4 E I (nL I) λa w E I=>?_;refine RN 1 E I λa E=>?_;replace I:=aQ.open I;refine CL 0 E I (Y0 (bs:=bs) (ad:=ad) (c:=c) (I.pick (az B.core s.k)) hw.wc hb hc (λw' dc=>hp w' dc.tail.tail.tail)) λa w E I=>?_;replace I:=(aQ.fold I B p ⟨(dw bs s.k).2,s.g⟩);refine RN 1 E I λa E=>?_;refine cc (M:=λa w=>Fr a 15 [(5,.int .i64 (dF p bs s).1)]∧U W w (aQ W B p (dF p bs s).2::L)) ?_ ?_
 ·
  refine IF 3 E I (λaj a E=>?_) λaj a E=>?_
  ·
   refine CL 1 E I (FL I ln a6 aG) λa w E I=>?_;refine RN 0 E I λa E=>?_;exact⟨E.ab [5],I⟩
  refine RN 0 E I λa E=>?_;have he:(dF p bs s).2=⟨(dw bs s.k).2,s.g⟩:=by
   show ew p _=_;rw[wj aj];exact hw.ew
  rw[he];exact⟨E.ab [5],I⟩
 clear E;(try clear I);rintro a w ⟨E,I⟩;refine RT 3 E I ?_;exact⟨rfl,I⟩
theorem L3 (I:U W w (aQ W B p s::L))(hw:cw p s)(o2:s.k.now≤1000000):Calls prog 285 #[pt B.pb] w λr w'=>∃ ad c,r=.returned (.slice ad (br s.k).1.length c)∧U W w' (cm 124 ad (br s.k).1.length c (br s.k).1::aQ W B p ⟨(br s.k).2,s.g⟩::L):=by
 refine EN func285 ntmps285 rfl rfl λa E=>?_;refine CL 4 E I (nL I) λa w E I=>?_;replace I:=aQ.open I;refine aY 0 E I (YY (I.pick (az B.core s.k)) hw.wc o2) λad c a w E I=>?_;refine RT 1 E I ?_;exact⟨ad,c,rfl,(aQ.fold I B p ⟨(br s.k).2,s.g⟩).sub⟩
theorem L5 (I:U W w (aQ W B p s::L))(hw:cw p s):Calls prog 283 #[pt B.pb] w λr w'=>∃ ad c,r=.returned (.slice ad (cy s.k).1.length c)∧U W w' (cm 124 ad (cy s.k).1.length c (cy s.k).1::aQ W B p ⟨(cy s.k).2,s.g⟩::L):=by
 refine EN func283 ntmps283 rfl rfl λa E=>?_;refine CL 4 E I (nL I) λa w E I=>?_;replace I:=aQ.open I;refine aY 0 E I (YX (I.pick (az B.core s.k)) hw.wc) λad c a w E I=>?_;refine RT 1 E I ?_;exact⟨ad,c,rfl,(aQ.fold I B p ⟨(cy s.k).2,s.g⟩).sub⟩
theorem L6 (I:U W w (aQ W B p s::L)):Calls prog 281 #[pt B.pb] w λr w'=>∃ ad c,r=.returned (.slice ad s.k.ev.length c)∧U W w' (Sl 135 1 ad s.k.ev.length c (s.k.ev.map cA)::aQ W B p ⟨{ s.k with ev:=[] },s.g⟩::L):=by
 refine EN func281 ntmps281 rfl rfl λa E=>?_;refine CL 4 E I (nL I) λa w E I=>?_;replace I:=aQ.open I;refine aY 0 E I (YR (I.pick (az B.core s.k))) λad c a w E I=>?_;refine RT 1 E I ?_;exact⟨ad,c,rfl,(aQ.fold I B p ⟨{ s.k with ev:=[] },s.g⟩).sub⟩
theorem L7 (I:U W w (aQ W B p s::L)):Calls prog 141 #[pt B.pb] w λr w'=>r=.returned (.bool s.k.cl)∧U W w' (aQ W B p s::L):=by
 refine EN func141 ntmps141 rfl rfl λa E=>?_;refine CL 4 E I (nL I) λa w E I=>?_;replace I:=aQ.open I;refine CL 0 E I (yo (I.pick (az B.core s.k))) λa w E I=>?_;refine RT 1 E I ?_;exact⟨rfl,(aQ.fold I B p s).sub⟩
theorem L8 (I:U W w (aQ W B p s::L))(hw:cw p s):Calls prog 273 #[pt B.pb] w λr w'=>∃ ad c,r=.returned (.tuple #[.slice ad 128 c,.int .i64 (lz s).2])∧U W w' (Sl 5 1 ad 128 c (bc (lz s).1)::aQ W B p s::L):=by
 replace I:=aQ.open I;have bD:=hw.wc.k0;have iq:s.k.ls.length≤8:=by rw[hw.wc.ls];exact hw.wc.n.2
 refine EN func273 ntmps273 rfl rfl λa E=>?_;refine RN 7 E I λa E=>?_;replace E:=E.aM 5;refine aV 2 (λw0 w'=>Rd w' B.pb 0 (gu p B s.g)) [4,8] [0,1,2,5,6,7,3003,3008,1004,1009,1010,11,12] E I λa w E I hH=>?_;have hC:=hH.at w (I.ai (b:=B.pb));refine RH 6 E I hH hC λa E=>?_;refine QH E (λw hc=>bS E underlying183 rfl Ty.t183 (yA hc)) hC λa E=>?_;refine QH E (λw hc=>ae E (hc 0 _ rfl)) hC λa E=>?_;refine RH 0 E I hH hC λa E=>?_;refine aY 0 E I (yg I) λad c a w E I=>?_;replace hC:=hH.at w (I.ai (b:=B.pb));refine RH 0 E I hH hC λa E=>?_;refine CL 0 E I (oI (I.pick (az B.core s.k))) λa w E I=>?_;obtain⟨D,I,hD⟩:=az.qu I;refine CL 0 E I (rA I bD iq) λa w E I=>?_;refine RN 2 E I λa E=>?_;replace I:=hD _ _ I;refine RT 0 E I ?_;exact⟨ad,c,rfl,(aQ.fold I B p s).sub (M:=Sl 5 1 ad 128 c (bc (gn s.g))::aQ W B p s::L)⟩
theorem L9 (I:U W w (aQ W B p s::L))(hw:cw p s)(a6:dh p)(aG:p.title.size≤1000000000)(fA:cX B.gs):Calls prog 276 #[pt B.pb] w λr w'=>∃ ad c,r=.returned (.tuple #[.slice ad 128 c,.int .i64 (fz p B.gs s).2])∧U W w' (Sl 5 1 ad 128 c (bc (fz p B.gs s).1)::aQ W B p s::L):=by
 have bD:=hw.wc.k0;have iq:s.k.ls.length≤8:=by rw[hw.wc.ls];exact hw.wc.n.2
 have gS:=hw.wc.lx;have fp:aU s.k.ls≤aD s.k:=hw.wc.nc;refine EN func276 ntmps276 rfl rfl λa E=>?_;refine CL 5 E I (nL I) λa w E I=>?_;replace I:=aQ.open I;refine CL 0 E I (oI (I.pick (az B.core s.k))) λa w E I=>?_;obtain⟨D,I,hD⟩:=az.qu I;refine CL 0 E I (rA I bD iq) λa w E I=>?_;refine RN 1 E I λa E=>?_;replace I:=(aQ.fold (hD _ _ I) B p s);refine RN 5 E I λa E=>?_;replace E:=E.aM 11;refine RN 3 E I λa E=>?_;replace I:=aQ.open I;refine CL 1 E I (s0 (I.pick (az B.core s.k)) hw.wc) λa w E I=>?_;replace I:=(aQ.fold I B p s);refine IF 3 E I (λaj a E=>?_) λaj a E=>?_
 ·
  refine aY 2 E I (L8 I hw) λad c a w E I=>?_;refine RT 4 E I ?_;refine⟨ad,c,?_,?_⟩
  ·rw[fz,ak (by rw[aw];omega)]
  ·rw[fz,ak (by rw[aw];omega)];exact I
 refine RN 1 E I λa E=>?_;replace I:=aQ.open I;refine aV 0 (λw0 w'=>Rd w' B.pb 0 (gu p B s.g)) [7,12,13,17,21,22,23,24,25,29] [0,1,2,4,5,6,8,9,10,11,14,15,16,18,19,20,26,27,28,3003,3007,3012,3017,3021,3029,1013,1022,1023,1024,1025,1030,31,32] E I λa w E I hH=>?_;have hC:=hH.at w (I.ai (b:=B.pb));refine RH 19 E I hH hC λa E=>?_;refine QH E (λw hc=>bS E underlying45 rfl Ty.t45 (LX hc)) hC λa E=>?_;refine QH E (λw hc=>bS E underlying183 rfl Ty.t183 (yA hc)) hC λa E=>?_;refine QH E (λw hc=>ae E (hc 0 _ rfl)) hC λa E=>?_;refine QH E (λw hc=>bS E underlying186 rfl Ty.t186 (LY hc)) hC λa E=>?_;refine QH E (λw hc=>ae E (hc 0 _ rfl)) hC λa E=>?_;refine QH E (λw hc=>ae E (hc 0 _ rfl)) hC λa E=>?_;refine RH 0 E I hH hC λa E=>?_;refine CL 0 E I (oI (I.pick (az B.core s.k))) λa w E I=>?_;replace hC:=hH.at w (I.ai (b:=B.pb));refine RH 0 E I hH hC λa E=>?_;refine CL 0 E I (s0 (I.pick (az B.core s.k)) hw.wc) λa w E I=>?_;replace hC:=hH.at w (I.ai (b:=B.pb));obtain⟨D,I,hD⟩:=az.qu I;refine RH 0 E I hH hC λa E=>?_;refine jO 0 E I (FK (r:=0) (to:=aD s.k) (.inl rfl) (by decide) I fA bD iq hw.wc.na gS (λw' dc=>(dc.pick (Sl 5 1 B.adT B.gs.table.length B.cT (bc B.gs.table))).cu B.adT _ rfl rfl)) λfR gf X a w E ⟨⟨ta,ik⟩,I⟩=>?_;replace hC:=hH.at w (I.ai (b:=B.pb));have mD:=ik rfl;subst mD;rw[wA]at I;have hS:(dq B.gs s.k.ls (aD s.k)).length=aD s.k-aU s.k.ls:=wa _ _ _;have mG:∀ b∈dq B.gs s.k.ls (aD s.k),b.length≤1099511627776:=λb hb=>by
  rw[dq,cV]at hb;obtain⟨i,_,rfl⟩:=hb;rw[m8,iS,bd];omega
 obtain⟨zs,cU,eN,I⟩:=cg.open I;rw[← hS]at E I;refine RH 0 E I hH hC λa E=>?_;refine CL 0 E I (LF (P:=dq B.gs s.k.ls (aD s.k)) (zs:=zs) (fr:=aU s.k.ls) (L:=Sl 22 1 fR (dq B.gs s.k.ls (aD s.k)).length gf (zs.map aK)::ah a8 zs::Qu B.core.qb B.core.aB s.k.ls::D::aa B.pb 192 (gu p B s.g)::Sl 5 1 B.adT B.gs.table.length B.cT (bc B.gs.table)::L) (I.sub (M:=aA W p B.aq B.cO::Sl 22 1 fR (dq B.gs s.k.ls (aD s.k)).length gf (zs.map aK)::ah a8 zs::Qu B.core.qb B.core.aB s.k.ls::D::aa B.pb 192 (gu p B s.g)::Sl 5 1 B.adT B.gs.table.length B.cT (bc B.gs.table)::L)) a6 aG (hw.pJ a6) ⟨by omega,mG⟩ (by omega) cU (λw' dc=>U.ma (dc.sub (M:=Sl 22 1 fR (dq B.gs s.k.ls (aD s.k)).length gf (zs.map aK)::ah a8 zs::[])))) λa w E I=>?_;replace hC:=hH.at w (I.ai (b:=B.pb));refine RH 0 E I hH hC λa E=>?_;refine aY 0 E I (yg I) λad2 c2 a w E I=>?_;replace hC:=hH.at w (I.ai (b:=B.pb));replace I:=hD _ _ (I.sub (M:=Qu B.core.qb B.core.aB s.k.ls::D::Sl 5 1 ad2 128 c2 (bc (gn (foldI p (aU s.k.ls) s.g (dq B.gs s.k.ls (aD s.k)))))::aa B.pb 192 (gu p B s.g)::aA W p B.aq B.cO::Sl 5 1 B.adT B.gs.table.length B.cT (bc B.gs.table)::L));refine RH 0 E I hH hC λa E=>?_;refine CL 0 E I (s0 I hw.wc) λa w E I=>?_;refine RN 2 E I λa E=>?_;refine RT 0 E I ?_;refine⟨ad2,c2,?_,?_⟩
 ·rw[fz,ag (by rw[aw];omega)]
 ·rw[fz,ag (by rw[aw];omega)];exact (aQ.fold I B p s).sub (M:=Sl 5 1 ad2 128 c2 (bc (gn (foldI p (aU s.k.ls) s.g (dq B.gs s.k.ls (aD s.k)))))::aQ W B p s::L)
end
theorem Ma {cf:Cf}(h:eR cf):∃ (n me aJ bt:Nat),cf=⟨n,me,cf.id,aJ,bt,cf.bf,cf.order,cf.cv,cf.workers,cf.room⟩:=by
 obtain⟨⟨h1,h2,h3⟩,⟨h4,h5,h6,h7⟩,h8,h9,eI,jV⟩:=h;simp only[fx] at *;refine⟨cf.n.toNat,cf.me.toNat,cf.aJ.toNat,cf.bt.toNat,?_⟩;rw[Int.toNat_of_nonneg (by omega),Int.toNat_of_nonneg (by omega),Int.toNat_of_nonneg (by omega),Int.toNat_of_nonneg (by omega)]
section
variable {W w:World}{L:List SP}{cP cT n me aJ bt:Nat}{adP adT:Option Addr}{p:Pr}{tb:List UInt8}{cf:Cf}{id bf order cv workers room:Int}
theorem ZG (I:U W w (aA W p adP cP::L))(h:¬ eR cf)(eK:tb.length≤1099511627776)(hT:∀ w',U W w' (aA W p adP cP::L)→aX w' adT tb.length tb) :
   Calls prog 60 #[.agg (bT cf).toArray,.agg (bP p adP cP).toArray,.slice adT tb.length cT] w λr w'=>r=.returned (.tuple #[.pointer none,.int .i64 1])∧U W w' (aA W p adP cP::L):=by
 refine EN func60 ntmps60 rfl rfl λa E=>?_;refine BX 1 E I λb3 a w E I=>?_;change U W w (aa b3 28 (bT cf)::_) at I;refine BX 0 E I λb4 a w E I=>?_;change U W w (aa b4 45 (bP p adP cP)::_) at I;refine RN 2 E I λa E=>?_;refine cc (M:=λa w=>∃ (b8:Nat) (ec:Option Addr) (dD:Nat),Fr a 48 [(3,pt b3),(4,pt b4),(8,pt b8)]∧U W w (aa b8 186 (di ⟨cf.bf,cf.order,tb⟩ ec dD)::Sl 5 1 ec tb.length dD (bc tb)::aa b3 28 (bT cf)::aa b4 45 (bP p adP cP)::aA W p adP cP::L)) ?_ ?_
 ·
  refine aV 0 (λw0 w'=>Rd w' b3 0 (bT cf)) [3,5,7] [0,2,4,3001,3003,2005,6,1007,1008] E I λa w E I hH=>?_;have hC:=hH.at w (I.ai (b:=b3));refine RH 3 E I hH hC λa E=>?_;refine QH E (λw hc=>ae E (hc 5 _ rfl)) hC λa E=>?_;refine QH E (λw hc=>ae E (hc 6 _ rfl)) hC λa E=>?_;refine RH 0 E I hH hC λa E=>?_;refine DN [(5,[6,1007,1008]),(7,[1005,6,1008])] (by kernel_rfl) rfl ⟨⟨_,rfl,?_⟩,⟨_,rfl,?_⟩,trivial⟩
  ·
   refine RH 0 E I hH hC λa E=>?_;refine aY 0 E I (sd (bs:=tb) I (λw' hw=>hT w' hw.sub) eK) λec dD a w E I=>?_;replace hC:=hH.at w (I.ai (b:=b3));refine RH 1 E I hH hC λa E=>?_;refine eV E rfl I Ty.t186 rfl λb8 a w E I ho=>?_;clear ho;replace hC:=hH.at w (I.ai (b:=b3));refine RH 0 E I hH hC λa E=>?_;refine SA 0 E I λa w E I=>?_;refine RN 0 E I λa E=>?_;exact⟨_,ec,dD,E.ab [3,4,8],I.sub (M:=aa b8 186 [.int .i64 cf.bf,.int .i64 cf.order,.slice ec tb.length dD]::Sl 5 1 ec tb.length dD (bc tb)::aa b3 28 (bT cf)::aa b4 45 (bP p adP cP)::aA W p adP cP::L)⟩
  refine RH 0 E I hH hC λa E=>?_;refine eV E rfl I Ty.t186 rfl λb8 a w E I ho=>?_;clear ho;replace hC:=hH.at w (I.ai (b:=b3));refine RH 0 E I hH hC λa E=>?_;refine aY 0 E I (sd (bs:=tb) I (λw' hw=>hT w' hw.sub) eK) λec dD a w E I=>?_;replace hC:=hH.at w (I.ai (b:=b3));refine RH 1 E I hH hC λa E=>?_;refine SA 0 E I λa w E I=>?_;refine RN 0 E I λa E=>?_;exact⟨_,ec,dD,E.ab [3,4,8],I.sub (M:=aa b8 186 [.int .i64 cf.bf,.int .i64 cf.order,.slice ec tb.length dD]::Sl 5 1 ec tb.length dD (bc tb)::aa b3 28 (bT cf)::aa b4 45 (bP p adP cP)::aA W p adP cP::L)⟩
 clear E;(try clear I);rintro a w ⟨b8,ec,dD,E,I⟩;refine CL 2 E I (YO I h) λa w E I=>?_;refine RN 9 E I λa E=>?_;rw[show decide ((1:Int)≠0)=true from rfl]at E;refine RN 1 E I λa E=>?_;replace E:=E.eh 26;refine RT 13 E I ?_;exact⟨rfl,I.sub⟩
theorem ZH (I:U W w (aA W p adP cP::L))(hm:eR ⟨n,me,id,aJ,bt,bf,order,cv,workers,room⟩)(h:¬ (dh p∧cX ⟨bf,order,tb⟩))(aG:p.title.size≤1000000000)(dV:p.ops.length≤1000000000)(eK:tb.length≤1099511627776)(hT:∀ w',U W w' (aA W p adP cP::L)→aX w' adT tb.length tb) :
   Calls prog 60 #[.agg (bT ⟨n,me,id,aJ,bt,bf,order,cv,workers,room⟩).toArray,.agg (bP p adP cP).toArray,.slice adT tb.length cT] w λr w'=>r=.returned (.tuple #[.pointer none,.int .i64 1])∧U W w' (aA W p adP cP::L):=by
 obtain⟨cf,c9⟩:∃ cf:Cf,cf=⟨n,me,id,aJ,bt,bf,order,cv,workers,room⟩:=⟨_,rfl⟩;rw[← c9];have hg:cf.bf=bf∧cf.order=order:=by rw[c9];exact⟨rfl,rfl⟩
 refine EN func60 ntmps60 rfl rfl λa E=>?_;refine BX 1 E I λb3 a w E I=>?_;change U W w (aa b3 28 (bT cf)::_) at I;refine BX 0 E I λb4 a w E I=>?_;change U W w (aa b4 45 (bP p adP cP)::_) at I;refine RN 2 E I λa E=>?_;refine cc (M:=λa w=>∃ (b8:Nat) (ec:Option Addr) (dD:Nat),Fr a 48 [(3,pt b3),(4,pt b4),(8,pt b8)]∧U W w (aa b8 186 (di ⟨cf.bf,cf.order,tb⟩ ec dD)::Sl 5 1 ec tb.length dD (bc tb)::aa b3 28 (bT cf)::aa b4 45 (bP p adP cP)::aA W p adP cP::L)) ?_ ?_
 ·
  refine aV 0 (λw0 w'=>Rd w' b3 0 (bT cf)) [3,5,7] [0,2,4,3001,3003,2005,6,1007,1008] E I λa w E I hH=>?_;have hC:=hH.at w (I.ai (b:=b3));refine RH 3 E I hH hC λa E=>?_;refine QH E (λw hc=>ae E (hc 5 _ rfl)) hC λa E=>?_;refine QH E (λw hc=>ae E (hc 6 _ rfl)) hC λa E=>?_;refine RH 0 E I hH hC λa E=>?_;refine DN [(5,[6,1007,1008]),(7,[1005,6,1008])] (by kernel_rfl) rfl ⟨⟨_,rfl,?_⟩,⟨_,rfl,?_⟩,trivial⟩
  ·
   refine RH 0 E I hH hC λa E=>?_;refine aY 0 E I (sd (bs:=tb) I (λw' hw=>hT w' hw.sub) eK) λec dD a w E I=>?_;replace hC:=hH.at w (I.ai (b:=b3));refine RH 1 E I hH hC λa E=>?_;refine eV E rfl I Ty.t186 rfl λb8 a w E I ho=>?_;clear ho;replace hC:=hH.at w (I.ai (b:=b3));refine RH 0 E I hH hC λa E=>?_;refine SA 0 E I λa w E I=>?_;refine RN 0 E I λa E=>?_;exact⟨_,ec,dD,E.ab [3,4,8],I.sub (M:=aa b8 186 [.int .i64 cf.bf,.int .i64 cf.order,.slice ec tb.length dD]::Sl 5 1 ec tb.length dD (bc tb)::aa b3 28 (bT cf)::aa b4 45 (bP p adP cP)::aA W p adP cP::L)⟩
  refine RH 0 E I hH hC λa E=>?_;refine eV E rfl I Ty.t186 rfl λb8 a w E I ho=>?_;clear ho;replace hC:=hH.at w (I.ai (b:=b3));refine RH 0 E I hH hC λa E=>?_;refine aY 0 E I (sd (bs:=tb) I (λw' hw=>hT w' hw.sub) eK) λec dD a w E I=>?_;replace hC:=hH.at w (I.ai (b:=b3));refine RH 1 E I hH hC λa E=>?_;refine SA 0 E I λa w E I=>?_;refine RN 0 E I λa E=>?_;exact⟨_,ec,dD,E.ab [3,4,8],I.sub (M:=aa b8 186 [.int .i64 cf.bf,.int .i64 cf.order,.slice ec tb.length dD]::Sl 5 1 ec tb.length dD (bc tb)::aa b3 28 (bT cf)::aa b4 45 (bP p adP cP)::aA W p adP cP::L)⟩
 clear E;(try clear I);rintro a w ⟨b8,ec,dD,E,I⟩;refine RN 2 E I λa E=>?_;rw[c9]at E;refine bh 0 E I (Lb I hm) λBc a w E I=>?_;refine RN 9 E I λa E=>?_;rw[show decide ((0:Int)≠0)=false from rfl]at E;refine RN 1 E I λa E=>?_;replace E:=E.aM 26;refine bh 1 E I (DM (I.pick (aA W p adP cP)) aG dV) λrc a w E ⟨jF,I⟩=>?_;refine BY 3 E I (λjE a E=>?_) λjE a E=>?_
 ·
  refine RT 8 E I ?_;exact⟨rfl,I.sub⟩
 refine bh 1 E I (yw I) λZI a w E ⟨fb,I⟩=>?_;refine IF 2 E I (λaj a E=>?_) λaj a E=>?_
 ·
  refine RT 3 E I ?_;exact⟨rfl,I.sub⟩
 exact absurd ⟨jF.1 jE,by have:=fb.1 aj;rw[hg.1,hg.2]at this;exact this⟩ h
theorem Mb (I:U W w (aA W p adP cP::L))(hm:eR ⟨n,me,id,aJ,bt,bf,order,cv,workers,room⟩)(a6:dh p)(fA:cX ⟨bf,order,tb⟩)(aG:p.title.size≤1000000000)(dV:p.ops.length≤1000000000)(eK:tb.length≤1099511627776)(hT:∀ w',U W w' (aA W p adP cP::L)→aX w' adT tb.length tb) :
   Calls prog 60 #[.agg (bT ⟨n,me,id,aJ,bt,bf,order,cv,workers,room⟩).toArray,.agg (bP p adP cP).toArray,.slice adT tb.length cT] w λr w'=>∃ B:iU,r=.returned (.tuple #[pt B.pb,.int .i64 0])∧B.gs=⟨bf,order,tb⟩ ∧
    U W w' (aQ W B p (ey p ⟨n,me,id,aJ,bt,bf,order,cv,workers,room⟩)::aA W p adP cP::L):=by
 obtain⟨cf,c9⟩:∃ cf:Cf,cf=⟨n,me,id,aJ,bt,bf,order,cv,workers,room⟩:=⟨_,rfl⟩;rw[← c9];have hg:cf.bf=bf∧cf.order=order:=by rw[c9];exact⟨rfl,rfl⟩
 have afh:1≤p.ops.length∧p.ops.length≤64:=⟨a6.1.2.1,a6.1.2.2.1⟩;refine EN func60 ntmps60 rfl rfl λa E=>?_;refine BX 1 E I λb3 a w E I=>?_;change U W w (aa b3 28 (bT cf)::_) at I;refine BX 0 E I λb4 a w E I=>?_;change U W w (aa b4 45 (bP p adP cP)::_) at I;refine RN 2 E I λa E=>?_;refine cc (M:=λa w=>∃ (b8:Nat) (ec:Option Addr) (dD:Nat),Fr a 48 [(3,pt b3),(4,pt b4),(8,pt b8)]∧U W w (aa b8 186 (di ⟨cf.bf,cf.order,tb⟩ ec dD)::Sl 5 1 ec tb.length dD (bc tb)::aa b3 28 (bT cf)::aa b4 45 (bP p adP cP)::aA W p adP cP::L)) ?_ ?_
 ·
  refine aV 0 (λw0 w'=>Rd w' b3 0 (bT cf)) [3,5,7] [0,2,4,3001,3003,2005,6,1007,1008] E I λa w E I hH=>?_;have hC:=hH.at w (I.ai (b:=b3));refine RH 3 E I hH hC λa E=>?_;refine QH E (λw hc=>ae E (hc 5 _ rfl)) hC λa E=>?_;refine QH E (λw hc=>ae E (hc 6 _ rfl)) hC λa E=>?_;refine RH 0 E I hH hC λa E=>?_;refine DN [(5,[6,1007,1008]),(7,[1005,6,1008])] (by kernel_rfl) rfl ⟨⟨_,rfl,?_⟩,⟨_,rfl,?_⟩,trivial⟩
  ·
   refine RH 0 E I hH hC λa E=>?_;refine aY 0 E I (sd (bs:=tb) I (λw' hw=>hT w' hw.sub) eK) λec dD a w E I=>?_;replace hC:=hH.at w (I.ai (b:=b3));refine RH 1 E I hH hC λa E=>?_;refine eV E rfl I Ty.t186 rfl λb8 a w E I ho=>?_;clear ho;replace hC:=hH.at w (I.ai (b:=b3));refine RH 0 E I hH hC λa E=>?_;refine SA 0 E I λa w E I=>?_;refine RN 0 E I λa E=>?_;exact⟨_,ec,dD,E.ab [3,4,8],I.sub (M:=aa b8 186 [.int .i64 cf.bf,.int .i64 cf.order,.slice ec tb.length dD]::Sl 5 1 ec tb.length dD (bc tb)::aa b3 28 (bT cf)::aa b4 45 (bP p adP cP)::aA W p adP cP::L)⟩
  refine RH 0 E I hH hC λa E=>?_;refine eV E rfl I Ty.t186 rfl λb8 a w E I ho=>?_;clear ho;replace hC:=hH.at w (I.ai (b:=b3));refine RH 0 E I hH hC λa E=>?_;refine aY 0 E I (sd (bs:=tb) I (λw' hw=>hT w' hw.sub) eK) λec dD a w E I=>?_;replace hC:=hH.at w (I.ai (b:=b3));refine RH 1 E I hH hC λa E=>?_;refine SA 0 E I λa w E I=>?_;refine RN 0 E I λa E=>?_;exact⟨_,ec,dD,E.ab [3,4,8],I.sub (M:=aa b8 186 [.int .i64 cf.bf,.int .i64 cf.order,.slice ec tb.length dD]::Sl 5 1 ec tb.length dD (bc tb)::aa b3 28 (bT cf)::aa b4 45 (bP p adP cP)::aA W p adP cP::L)⟩
 clear E;(try clear I);rintro a w ⟨b8,ec,dD,E,I⟩;refine RN 2 E I λa E=>?_;rw[c9]at E;refine bh 0 E I (Lb I hm) λBc a w E I=>?_;rw[← c9]at I;refine RN 9 E I λa E=>?_;rw[show decide ((0:Int)≠0)=false from rfl]at E;refine RN 1 E I λa E=>?_;replace E:=E.aM 26;refine bh 1 E I (DM (I.pick (aA W p adP cP)) aG dV) λrc a w E ⟨jF,I⟩=>?_;rw[jF.2 a6]at E;refine RN 1 E I λa E=>?_;rw[show (!true)=false from rfl]at E;refine RN 2 E I λa E=>?_;replace E:=E.aM 31;refine bh 1 E I (yw I) λZI a w E ⟨fb,I⟩=>?_;rw[fb.2 (by rw[hg.1,hg.2];exact fA)]at E;refine RN 2 E I λa E=>?_;replace E:=E.aM 35;refine RN 2 E I λa E=>?_;replace I:=I.bN 114 4 none;rw[bP]at I;refine RN 2 E I λa E=>?_;refine g2 E rfl I underlying43 Ty.t114 rfl rfl (by decide) (λh0=>(I.pick (aA W p adP cP)).q6 adP h0) (by rw[ja Dk]) (zk Jb _) (by omega) λob oc a w E I=>?_;rw[nil_append,Nat.zero_add]at I;rw[Nat.zero_add]at E;refine ST 1 E I (λa w E I=>?_);refine RN 0 E I λa E=>?_;replace I:U W w (aa b4 45 [.string p.title,.slice ob p.ops.length oc]::Sl 114 4 ob p.ops.length oc (rows dN p.ops)::_):=I;refine RN 4 E I λa E=>?_;simp only[di]at E;refine BX 1 E I λuE a w E I=>?_;refine RN 1 E I λa E=>?_;replace I:=(I.pick (Sl 114 4 ob p.ops.length oc (rows dN p.ops))).Dn;replace I:U W w (aa uE 192 (gu p ⟨uE,Bc,ob,oc,ec,dD,⟨cf.bf,cf.order,tb⟩⟩ oD)::az Bc (ff cf)::aA W p ob oc::Sl 5 1 ec tb.length dD (bc tb)::aA W p adP cP::L):=by
  have du:U W w (aA W p ob oc::_):=I;have tI:=du.jJ uE;exact U.sub (M:=_::az Bc (ff cf)::aA W p ob oc::Sl 5 1 ec tb.length dD (bc tb)::aA W p adP cP::L) (show U W w (aa uE 192 (gu p ⟨uE,Bc,ob,oc,ec,dD,⟨cf.bf,cf.order,tb⟩⟩ oD)::_) from tI)
 replace I:=aQ.fold I ⟨uE,Bc,ob,oc,ec,dD,⟨cf.bf,cf.order,tb⟩⟩ p ⟨ff cf,oD⟩;refine CL 2 E I (FL I (wo (by rw[c9];exact hm)) a6 aG) λa w E I=>?_;refine RT 4 E I ?_;exact⟨⟨uE,Bc,ob,oc,ec,dD,⟨cf.bf,cf.order,tb⟩⟩,rfl,by rw[hg.1,hg.2],I⟩
end
end
section
structure yB (W:World)(L:List SP)(f:FuncId)(us:List Value):Prop where
 c:g9 prog f=true
 h:∀ {w:World} {M:List SP} {x y:UInt8},U W w M→(∀ {w'},U W w' M→U W w' L)→Calls prog f (List.toArray (.int .u8 (x.toNat:Nat)::.int .u8 (y.toNat:Nat)::us)) w λe w'=>∃ z:Int,e=.returned (.int .i64 z)∧U W w' M
abbrev g7 (bb oo m c:Nat)(xs:List UInt8):SP:=Sl 5 1 (some ⟨bb,oo,none⟩) m c (bc xs)
abbrev sv (bb oo m c:Nat):Value:=.slice (some ⟨bb,oo,none⟩) m c
abbrev km (f:FuncId)(us:List Value):Value:=.func (.func f) #[] us.toArray
theorem tc (bs:List UInt8)(i:Nat)(x:UInt8):(bc bs).set i (.int .u8 (x.toNat:Int))=bc (bs.set i x):=by rw[bc,bc,List.map_set]
theorem A7 {n:Nat}(h:n≤9223372036854775807):IntKind.u64.wrap (n:Int)=n:=by rw[wrap_u64];omega
section
variable {W w:World}{L:List SP}{bb oo m c lo up f n k:Nat}{us:List Value}{xs:List UInt8}
theorem Mc (I:U W w (g7 bb oo m c xs::L))(hF:yB W L f us)(hx:xs.length=m)(hb:up≤m)(hm:m≤1000)(ZJ:lo≤m) :
   Calls prog 340 #[sv bb oo m c,.int .i64 lo,.int .i64 up,km f us] w λe w'=>∃ ys:List UInt8,e=.returned (.tuple #[])∧ys.length=m∧U W w' (g7 bb oo m c ys::L):=by
 refine EN func340 ntmps340 rfl rfl λa E=>?_;refine RN 4 E I λa E=>?_;refine aO (λμ a w=>∃ (i:Nat) (ys:List UInt8),(μ=up-i∧lo<i∧ys.length=m)∧Fr a 53 [(0,sv bb oo m c),(1,.int .i64 lo),(2,.int .i64 up),(3,km f us),(8,.int .i64 i)]∧U W w (g7 bb oo m c ys::L)) (up-(lo+1)) (⟨lo+1,xs,⟨rfl,by omega,hx⟩,E.ab [0,1,2,3,8],I⟩) ?_;clear E I;rintro μ a w ⟨i,ys,⟨rfl,hi,hy⟩,E,I⟩;refine IF 5 E I (λaj a E=>?_) λaj a E=>?_
 ·
  have Zr:i<m:=by omega
  refine RN 4 E I λa E=>?_;refine aO (λμ a w=>∃ (j:Nat) (zs:List UInt8),(μ=j∧j≤i∧zs.length=m)∧Fr a 53 [(0,sv bb oo m c),(1,.int .i64 lo),(2,.int .i64 up),(3,km f us),(8,.int .i64 i),(9,.int .i64 j)]∧U W w (g7 bb oo m c zs::L)) (i) (⟨i,ys,⟨rfl,a7 _,hy⟩,E.ab [0,1,2,3,8,9],I⟩) ?_;clear E I;rintro μ a w ⟨j,zs,⟨xK,hj,hz⟩,E,I⟩;have Md:j<zs.length:=by omega
  have Me:j-1<zs.length:=by omega
  refine bQ 2 [13] [0,1,2,3,4,5,6,7,9,10,11,12,3008,1013,1014,15,16] E I λa w E I hH hC=>?_;have hr:Rd w bb oo (bc zs):=I.cJ bb oo (by omega);refine RH 4 E I hH hC λa E=>?_;refine E.by (s:=21) (λbX E=>?_) (λbX E=>?_)
  ·
   refine RH 7 E I hH hC λa E=>?_;rw[show (j:Int)-1=((j-1:Nat):Int) from by omega]at E;refine RH 1 E I hH hC λa E=>?_;refine QH E (λw hc=>ae E (hc.cell (hr j _ (dQ Md)))) hC λa E=>?_;refine RH 0 E I hH hC λa E=>?_;refine bo E (b7 E rfl (s:=21)) (ae E (hr (j-1) _ (dQ Me))) rfl λa E=>?_;refine RH 0 E I hH hC λa E=>?_;refine bh 0 E I (hF.h I λh=>h.tail) (hf:=hF.c) λz a w E I=>?_;refine RN 2 E I λa E=>?_;refine IF 0 E I (λao a E=>?_) λao a E=>?_
   ·
    refine bQ 1 [13] [0,1,2,3,4,5,6,7,8,10,11,12,3009,1013,14,1015,16,1017] E I λa w E I hH hC=>?_;have hr:Rd w bb oo (bc zs):=I.cJ bb oo (by omega);refine RH 5 E I hH hC λa E=>?_;rw[show (j:Int)-1=((j-1:Nat):Int) from by omega]at E;refine RH 3 E I hH hC λa E=>?_;rw[show (j:Int)-1=((j-1:Nat):Int) from by omega]at E;refine RH 4 E I hH hC λa E=>?_;refine QH E (λw hc=>ae E (hc.cell (hr (j-1) _ (dQ Me)))) hC λa E=>?_;refine RH 0 E I hH hC λa E=>?_;refine SS E (ae E (hr j _ (dQ Md))) λa E=>?_;refine RH 1 E I hH hC λa E=>?_;refine l5 (off:=oo) (k:=j) E rfl I Ty.t5 rfl (by omega) (by rw[dt];omega) λa w E I=>?_;rw[tc]at I;refine RN 1 E I λa E=>?_;refine l5 (off:=oo) (k:=j-1) E rfl I Ty.t5 rfl (by omega) (by rw[dt,bu];omega) λa w E I=>?_;rw[tc]at I;refine RN 2 E I λa E=>?_;rw[show (j:Int)-1=((j-1:Nat):Int) from by omega]at E;refine RN 1 E I λa E=>?_;exact⟨j-1,by omega,j-1,_,⟨rfl,by omega,by simp[hz]⟩,E.ab [0,1,2,3,8,9],I⟩
   refine RN 3 E I λa E=>?_;exact⟨up-(i+1),by omega,i+1,zs,⟨rfl,by omega,hz⟩,E.ab [0,1,2,3,8],I⟩
  refine RH 13 E I hH hC λa E=>?_;refine RN 4 E I λa E=>?_;exact⟨up-(i+1),by omega,i+1,zs,⟨rfl,by omega,hz⟩,E.ab [0,1,2,3,8],I⟩
 refine RT 0 E I ?_;exact⟨ys,rfl,hy,I⟩
theorem FN (I:U W w (g7 bb oo m c xs::L))(hx:xs.length=m)(h1:lo+n≤m)(h2:up+n≤m)(hm:m≤1000) :
   Calls prog 344 #[sv bb oo m c,.int .i64 lo,.int .i64 up,.int .i64 n,km f us] w λe w'=>∃ ys:List UInt8,e=.returned (.tuple #[])∧ys.length=m∧U W w' (g7 bb oo m c ys::L):=by
 refine EN func344 ntmps344 rfl rfl λa E=>?_;refine RN 2 E I λa E=>?_;refine aO (λμ a w=>∃ (i:Nat) (zs:List UInt8),(μ=n-i∧i≤n∧zs.length=m)∧Fr a 38 [(0,sv bb oo m c),(1,.int .i64 lo),(2,.int .i64 up),(3,.int .i64 n),(10,.int .i64 i)]∧U W w (g7 bb oo m c zs::L)) (n) (⟨0,xs,⟨rfl,Nat.zero_le _,hx⟩,E.ab [0,1,2,3,10],I⟩) ?_;clear E I;rintro μ a w ⟨i,zs,⟨rfl,hi,hz⟩,E,I⟩;refine IF 5 E I (λaj a E=>?_) λaj a E=>?_
 ·
  have kN:lo+i<zs.length:=by omega
  have kq:up+i<zs.length:=by omega
  refine bQ 1 [19] [0,1,2,3,4,5,6,7,8,9,10,11,12,14,15,16,17,18,3013,1019,20,1021,22,1023] E I λa w E I hH hC=>?_;have hr:Rd w bb oo (bc zs):=I.cJ bb oo (by omega);refine RH 18 E I hH hC λa E=>?_;refine QH E (λw hc=>ae E (hc.cell (hr (up+i) _ (dQ kq)))) hC λa E=>?_;refine RH 0 E I hH hC λa E=>?_;refine SS E (ae E (hr (lo+i) _ (dQ kN))) λa E=>?_;refine RH 1 E I hH hC λa E=>?_;refine l5 (off:=oo) (k:=lo+i) E rfl I Ty.t5 rfl (by omega) (by rw[dt];omega) λa w E I=>?_;rw[tc]at I;refine RN 1 E I λa E=>?_;refine l5 (off:=oo) (k:=up+i) E rfl I Ty.t5 rfl (by omega) (by rw[dt,bu];omega) λa w E I=>?_;rw[tc]at I;refine RN 3 E I λa E=>?_;exact⟨n-(i+1),by omega,i+1,_,⟨rfl,by omega,by simp[hz]⟩,E.ab [0,1,2,3,10],I⟩
 refine RT 0 E I ?_;exact⟨zs,rfl,hz,I⟩
theorem rotate (I:U W w (g7 bb oo m c xs::L))(hx:xs.length=m)(h1:lo<k)(h2:k<up)(h3:up≤m)(hm:m≤1000) :
   Calls prog 343 #[sv bb oo m c,.int .i64 lo,.int .i64 k,.int .i64 up,km f us] w λe w'=>∃ ys:List UInt8,e=.returned (.tuple #[])∧ys.length=m∧U W w' (g7 bb oo m c ys::L):=by
 refine EN func343 ntmps343 rfl rfl λa E=>?_;refine RN 4 E I λa E=>?_;rw[show (k:Int)-(lo:Int)=((k-lo:Nat):Int) from by omega]at E;refine RN 5 E I λa E=>?_;rw[show (up:Int)-(k:Int)=((up-k:Nat):Int) from by omega]at E;refine RN 2 E I λa E=>?_;refine aO (λμ a w=>∃ (i j:Nat) (zs:List UInt8),(μ=i+j∧(1≤i∧1≤j)∧(i≤k∧k+j≤m)∧zs.length=m)∧Fr a 58 [(0,sv bb oo m c),(2,.int .i64 k),(4,km f us),(10,.int .i64 i),(11,.int .i64 j)]∧U W w (g7 bb oo m c zs::L)) (k-lo+(up-k)) (⟨k-lo,up-k,xs,⟨rfl,⟨by omega,by omega⟩,⟨by omega,by omega⟩,hx⟩,E.ab [0,2,4,10,11],I⟩) ?_;clear E I;rintro μ a w ⟨i,j,zs,⟨rfl,⟨hi,hj⟩,⟨pn,uF⟩,hz⟩,E,I⟩;refine IF 5 E I (λaj a E=>?_) λaj a E=>?_
 ·
  refine IF 4 E I (λao a E=>?_) λao a E=>?_
  ·
   refine RN 5 E I λa E=>?_;rw[show (k:Int)-(i:Int)=((k-i:Nat):Int) from by omega]at E;refine bh 3 E I (FN I hz (by omega) (by omega) hm) λys a w E ⟨hy,I⟩=>?_;refine RN 3 E I λa E=>?_;rw[show (i:Int)-(j:Int)=((i-j:Nat):Int) from by omega]at E;refine RN 1 E I λa E=>?_;exact⟨i-j+j,by omega,i-j,j,ys,⟨rfl,⟨by omega,by omega⟩,⟨by omega,by omega⟩,hy⟩,E.ab [0,2,4,10,11],I⟩
  refine RN 5 E I λa E=>?_;rw[show (k:Int)-(i:Int)=((k-i:Nat):Int) from by omega]at E;refine RN 5 E I λa E=>?_;rw[show (k:Int)+(j:Int)-(i:Int)=((k+j-i:Nat):Int) from by omega]at E;refine bh 2 E I (FN I hz (by omega) (by omega) hm) λys a w E ⟨hy,I⟩=>?_;refine RN 3 E I λa E=>?_;rw[show (j:Int)-(i:Int)=((j-i:Nat):Int) from by omega]at E;refine RN 1 E I λa E=>?_;exact⟨i+(j-i),by omega,i,j-i,ys,⟨rfl,⟨by omega,by omega⟩,⟨by omega,by omega⟩,hy⟩,E.ab [0,2,4,10,11],I⟩
 refine RN 4 E I λa E=>?_;rw[show (k:Int)-(i:Int)=((k-i:Nat):Int) from by omega]at E;refine bh 3 E I (FN I hz (by omega) (by omega) hm) λys a w E ⟨hy,I⟩=>?_;refine RT 0 E I ?_;exact⟨ys,rfl,hy,I⟩
theorem Mf (hF:yB W L f us)(hm:m≤1000):∀ (d:Nat) {w:World} {xs:List UInt8} {lo k up:Nat},up-lo≤d→xs.length=m→lo<k→k<up→up≤m→U W w (g7 bb oo m c xs::L) →
   Calls prog 341 #[sv bb oo m c,.int .i64 lo,.int .i64 k,.int .i64 up,km f us] w λe w'=>∃ ys:List UInt8,e=.returned (.tuple #[])∧ys.length=m∧U W w' (g7 bb oo m c ys::L):=by
 intro d
 induction d with
 | zero=>intro w xs lo k up hd hx h1 h2 h3 I;omega
 | succ d ih =>
  intro w xs lo k up hd hx h1 h2 h3 I;refine EN func341 ntmps341 rfl rfl λa E=>?_;refine RN 5 E I λa E=>?_;rw[show (k:Int)-(lo:Int)=((k-lo:Nat):Int) from by omega]at E;refine IF 1 E I (λaj a E=>?_) λaj a E=>?_
  ·
   refine RN 7 E I λa E=>?_;refine aO (λμ a w=>∃ (i j:Nat),(μ=j-i∧(k≤i∧i≤j)∧j≤up)∧Fr a 220 [(0,sv bb oo m c),(1,.int .i64 lo),(2,.int .i64 k),(4,km f us),(10,.int .i64 i),(11,.int .i64 j)]∧U W w (g7 bb oo m c xs::L)) (up-k) (⟨k,up,⟨rfl,⟨a7 _,by omega⟩,a7 _⟩,E.ab [0,1,2,4,10,11],I⟩) ?_;clear E I;rintro μ a w ⟨i,j,⟨rfl,⟨hi,n1⟩,hj⟩,E,I⟩;refine IF 5 E I (λao a E=>?_) λao a E=>?_
   ·
    have lP:(i+j)/2<xs.length:=by omega
    have ie:lo<xs.length:=by omega
    refine RN 4 E I λa E=>?_;rw[show (i:Int)+(j:Int)=((i+j:Nat):Int) from rfl]at E;refine SX 0 E I (A7 (by omega)) λa E=>?_;refine RN 1 E I λa E=>?_;rw[show (((i+j:Nat):Int).fdiv (2 ^ 1))=(((i+j)/2:Nat):Int) from kS (i+j) 2]at E;refine SX 0 E I (gi (by omega) (by omega)) λa E=>?_;refine bQ 2 [8] [0,1,2,3,5,6,7,3004,1008,1009,10] E I λa w E I hH hC=>?_;have hr:Rd w bb oo (bc xs):=I.cJ bb oo (by omega);refine RH 7 E I hH hC λa E=>?_;refine QH E (λw hc=>ae E (hc.cell (hr ((i+j)/2) _ (dQ lP)))) hC λa E=>?_;refine RH 0 E I hH hC λa E=>?_;refine SS E (ae E (hr lo _ (dQ ie))) λa E=>?_;refine RH 0 E I hH hC λa E=>?_;refine bh 0 E I (hF.h I λh=>h.tail) (hf:=hF.c) λz a w E I=>?_;refine RN 1 E I λa E=>?_;refine IF 0 E I (λay a E=>?_) λay a E=>?_
    ·
     refine RN 3 E I λa E=>?_;exact⟨j-((i+j)/2+1),by omega,(i+j)/2+1,j,⟨rfl,⟨by omega,by omega⟩,hj⟩,E.ab [0,1,2,4,10,11],I⟩
    refine RN 2 E I λa E=>?_;exact⟨(i+j)/2-i,by omega,i,(i+j)/2,⟨rfl,⟨hi,by omega⟩,by omega⟩,E.ab [0,1,2,4,10,11],I⟩
   refine RN 4 E I λa E=>?_;refine aO (λμ a w=>∃ (q:Nat) (zs:List UInt8),(μ=i-q∧lo≤q∧zs.length=m)∧Fr a 220 [(0,sv bb oo m c),(10,.int .i64 i),(13,.int .i64 q)]∧U W w (g7 bb oo m c zs::L)) (i-lo) (⟨lo,xs,⟨rfl,a7 _,hx⟩,E.ab [0,10,13],I⟩) ?_;clear E I;rintro μ a w ⟨q,zs,⟨rfl,hq,hz⟩,E,I⟩;refine RN 5 E I λa E=>?_;rw[show (i:Int)-1=((i-1:Nat):Int) from by omega]at E;refine IF 1 E I (λbk a E=>?_) λbk a E=>?_
   ·
    have cU:q<zs.length:=by omega
    have eN:q+1<zs.length:=by omega
    refine bQ 1 [13] [0,1,2,3,4,5,6,7,8,10,11,12,3009,1013,14,1015,16,1017] E I λa w E I hH hC=>?_;have hr:Rd w bb oo (bc zs):=I.cJ bb oo (by omega);refine RH 12 E I hH hC λa E=>?_;refine QH E (λw hc=>ae E (hc.cell (hr (q+1) _ (dQ eN)))) hC λa E=>?_;refine RH 0 E I hH hC λa E=>?_;refine SS E (ae E (hr q _ (dQ cU))) λa E=>?_;refine RH 1 E I hH hC λa E=>?_;refine l5 (off:=oo) (k:=q) E rfl I Ty.t5 rfl (by omega) (by rw[dt];omega) λa w E I=>?_;rw[tc]at I;refine RN 1 E I λa E=>?_;refine l5 (off:=oo) (k:=q+1) E rfl I Ty.t5 rfl (by omega) (by rw[dt,bu];omega) λa w E I=>?_;rw[tc]at I;refine RN 3 E I λa E=>?_;exact⟨i-(q+1),by omega,q+1,_,⟨rfl,by omega,by simp[hz]⟩,E.ab [0,10,13],I⟩
   refine RT 0 E I ?_;exact⟨zs,rfl,hz,I⟩
  refine RN 5 E I λa E=>?_;rw[show (up:Int)-(k:Int)=((up-k:Nat):Int) from by omega]at E;refine IF 1 E I (λbO a E=>?_) λbO a E=>?_
  ·
   refine RN 7 E I λa E=>?_;refine aO (λμ a w=>∃ (i j:Nat),(μ=j-i∧(lo≤i∧i≤j)∧j≤k)∧Fr a 220 [(0,sv bb oo m c),(2,.int .i64 k),(4,km f us),(14,.int .i64 i),(15,.int .i64 j)]∧U W w (g7 bb oo m c xs::L)) (k-lo) (⟨lo,k,⟨rfl,⟨a7 _,by omega⟩,a7 _⟩,E.ab [0,2,4,14,15],I⟩) ?_;clear E I;rintro μ a w ⟨i,j,⟨rfl,⟨hi,n1⟩,hj⟩,E,I⟩;refine IF 5 E I (λeE a E=>?_) λeE a E=>?_
   ·
    have lP:(i+j)/2<xs.length:=by omega
    have ie:k<xs.length:=by omega
    refine RN 4 E I λa E=>?_;rw[show (i:Int)+(j:Int)=((i+j:Nat):Int) from rfl]at E;refine SX 0 E I (A7 (by omega)) λa E=>?_;refine RN 1 E I λa E=>?_;rw[show (((i+j:Nat):Int).fdiv (2 ^ 1))=(((i+j)/2:Nat):Int) from kS (i+j) 2]at E;refine SX 0 E I (gi (by omega) (by omega)) λa E=>?_;refine bQ 2 [8] [0,1,2,3,5,6,7,3004,1008,1009,10,11] E I λa w E I hH hC=>?_;have hr:Rd w bb oo (bc xs):=I.cJ bb oo (by omega);refine RH 7 E I hH hC λa E=>?_;refine QH E (λw hc=>ae E (hc.cell (hr k _ (dQ ie)))) hC λa E=>?_;refine RH 0 E I hH hC λa E=>?_;refine SS E (ae E (hr ((i+j)/2) _ (dQ lP))) λa E=>?_;refine RH 0 E I hH hC λa E=>?_;refine bh 0 E I (hF.h I λh=>h.tail) (hf:=hF.c) λz a w E I=>?_;refine RN 2 E I λa E=>?_;refine IF 0 E I (λmW a E=>?_) λmW a E=>?_
    ·
     refine RN 3 E I λa E=>?_;exact⟨j-((i+j)/2+1),by omega,(i+j)/2+1,j,⟨rfl,⟨by omega,by omega⟩,hj⟩,E.ab [0,2,4,14,15],I⟩
    refine RN 2 E I λa E=>?_;exact⟨(i+j)/2-i,by omega,i,(i+j)/2,⟨rfl,⟨hi,by omega⟩,by omega⟩,E.ab [0,2,4,14,15],I⟩
   refine RN 4 E I λa E=>?_;refine aO (λμ a w=>∃ (q:Nat) (zs:List UInt8),(μ=q∧q≤k∧zs.length=m)∧Fr a 220 [(0,sv bb oo m c),(14,.int .i64 i),(17,.int .i64 q)]∧U W w (g7 bb oo m c zs::L)) (k) (⟨k,xs,⟨rfl,a7 _,hx⟩,E.ab [0,14,17],I⟩) ?_;clear E I;rintro μ a w ⟨q,zs,⟨xK,hq,hz⟩,E,I⟩;refine IF 5 E I (λmo a E=>?_) λmo a E=>?_
   ·
    have cU:q<zs.length:=by omega
    have eN:q-1<zs.length:=by omega
    refine bQ 1 [13] [0,1,2,3,4,5,6,7,8,10,11,12,3009,1013,14,1015,16,1017] E I λa w E I hH hC=>?_;have hr:Rd w bb oo (bc zs):=I.cJ bb oo (by omega);refine RH 5 E I hH hC λa E=>?_;rw[show (q:Int)-1=((q-1:Nat):Int) from by omega]at E;refine RH 3 E I hH hC λa E=>?_;rw[show (q:Int)-1=((q-1:Nat):Int) from by omega]at E;refine RH 4 E I hH hC λa E=>?_;refine QH E (λw hc=>ae E (hc.cell (hr (q-1) _ (dQ eN)))) hC λa E=>?_;refine RH 0 E I hH hC λa E=>?_;refine SS E (ae E (hr q _ (dQ cU))) λa E=>?_;refine RH 1 E I hH hC λa E=>?_;refine l5 (off:=oo) (k:=q) E rfl I Ty.t5 rfl (by omega) (by rw[dt];omega) λa w E I=>?_;rw[tc]at I;refine RN 1 E I λa E=>?_;refine l5 (off:=oo) (k:=q-1) E rfl I Ty.t5 rfl (by omega) (by rw[dt,bu];omega) λa w E I=>?_;rw[tc]at I;refine RN 2 E I λa E=>?_;rw[show (q:Int)-1=((q-1:Nat):Int) from by omega]at E;refine RN 1 E I λa E=>?_;exact⟨q-1,by omega,q-1,_,⟨rfl,by omega,by simp[hz]⟩,E.ab [0,14,17],I⟩
   refine RT 0 E I ?_;exact⟨zs,rfl,hz,I⟩
  refine RN 4 E I λa E=>?_;rw[show (lo:Int)+(up:Int)=((lo+up:Nat):Int) from rfl]at E;refine SX 0 E I (A7 (by omega)) λa E=>?_;refine RN 1 E I λa E=>?_;rw[show (((lo+up:Nat):Int).fdiv (2 ^ 1))=(((lo+up)/2:Nat):Int) from kS (lo+up) 2]at E;refine SX 0 E I (gi (by omega) (by omega)) λa E=>?_;refine RN 1 E I λa E=>?_;obtain⟨g8,Dx⟩:∃ g8,g8=(lo+up)/2:=⟨_,rfl⟩;rw[← Dx]at E;refine RN 8 E I λa E=>?_;refine cc (M:=λa w=>∃ s r:Nat,((lo≤s∧g8+k≤s+up)∧s≤r∧r≤g8∧r≤k)∧Fr a 220 [(0,sv bb oo m c),(1,.int .i64 lo),(2,.int .i64 k),(3,.int .i64 up),(4,km f us),(18,.int .i64 g8),(19,.int .i64 ((g8:Int)+k)),(20,.int .i64 s),(21,.int .i64 r)]∧U W w (g7 bb oo m c xs::L)) ?_ ?_
  ·
   refine IF 4 E I (λmq a E=>?_) λmq a E=>?_
   ·
    refine RN 4 E I λa E=>?_;rw[show (g8:Int)+(k:Int)-(up:Int)=((g8+k-up:Nat):Int) from by omega]at E;refine RN 3 E I λa E=>?_;exact⟨g8+k-up,g8,⟨⟨by omega,by omega⟩,by omega,by omega,by omega⟩,E.ab [0,1,2,3,4,18,19,20,21],I⟩
   refine RN 5 E I λa E=>?_;exact⟨lo,k,⟨⟨by omega,by omega⟩,by omega,by omega,by omega⟩,E.ab [0,1,2,3,4,18,19,20,21],I⟩
  clear E;(try clear I);rintro a w ⟨wD,A8,⟨⟨nV,du⟩,tI,ZK,pw⟩,E,I⟩;refine RN 3 E I λa E=>?_;rw[show (g8:Int)+(k:Int)-1=((g8+k-1:Nat):Int) from by omega]at E;refine RN 2 E I λa E=>?_;refine aO (λμ a w=>∃ (s r:Nat),(μ=r-s∧(lo≤s∧g8+k≤s+up)∧s≤r∧r≤g8∧r≤k)∧Fr a 220 [(0,sv bb oo m c),(1,.int .i64 lo),(2,.int .i64 k),(3,.int .i64 up),(4,km f us),(18,.int .i64 g8),(19,.int .i64 ((g8:Int)+k)),(20,.int .i64 s),(21,.int .i64 r),(22,.int .i64 ((g8+k-1:Nat):Int))]∧U W w (g7 bb oo m c xs::L)) (A8-wD) (⟨wD,A8,⟨rfl,⟨nV,du⟩,tI,ZK,pw⟩,E.ab [0,1,2,3,4,18,19,20,21,22],I⟩) ?_;clear E I;rintro μ a w ⟨s,r,⟨rfl,⟨g1,iA⟩,l8,lH,oy⟩,E,I⟩;refine IF 5 E I (λjY a E=>?_) λjY a E=>?_
  ·
   have lP:(s+r)/2<xs.length:=by omega
   have ie:g8+k-1-(s+r)/2<xs.length:=by omega
   refine RN 4 E I λa E=>?_;rw[show (s:Int)+(r:Int)=((s+r:Nat):Int) from rfl]at E;refine SX 0 E I (A7 (by omega)) λa E=>?_;refine RN 1 E I λa E=>?_;rw[show (((s+r:Nat):Int).fdiv (2 ^ 1))=(((s+r)/2:Nat):Int) from kS (s+r) 2]at E;refine SX 0 E I (gi (by omega) (by omega)) λa E=>?_;refine bQ 2 [10] [0,1,2,3,4,5,7,8,9,3006,1010,1011,12,13] E I λa w E I hH hC=>?_;have hr:Rd w bb oo (bc xs):=I.cJ bb oo (by omega);refine RH 5 E I hH hC λa E=>?_;rw[show ((g8+k-1:Nat):Int)-(((s+r)/2:Nat):Int)=((g8+k-1-(s+r)/2:Nat):Int) from by omega]at E;refine RH 4 E I hH hC λa E=>?_;refine QH E (λw hc=>ae E (hc.cell (hr (g8+k-1-(s+r)/2) _ (dQ ie)))) hC λa E=>?_;refine RH 0 E I hH hC λa E=>?_;refine SS E (ae E (hr ((s+r)/2) _ (dQ lP))) λa E=>?_;refine RH 0 E I hH hC λa E=>?_;refine bh 0 E I (hF.h I λh=>h.tail) (hf:=hF.c) λz a w E I=>?_;refine RN 2 E I λa E=>?_;refine IF 0 E I (λvK a E=>?_) λvK a E=>?_
   ·
    refine RN 3 E I λa E=>?_;exact⟨r-((s+r)/2+1),by omega,(s+r)/2+1,r,⟨rfl,⟨by omega,by omega⟩,by omega,lH,oy⟩,E.ab [0,1,2,3,4,18,19,20,21,22],I⟩
   refine RN 2 E I λa E=>?_;exact⟨(s+r)/2-s,by omega,s,(s+r)/2,⟨rfl,⟨g1,iA⟩,by omega,by omega,by omega⟩,E.ab [0,1,2,3,4,18,19,20,21,22],I⟩
  refine RN 4 E I λa E=>?_;rw[show (g8:Int)+(k:Int)-(s:Int)=((g8+k-s:Nat):Int) from by omega]at E;refine RN 1 E I λa E=>?_;refine cc (M:=λa w=>∃ zs:List UInt8,zs.length=m∧Fr a 220 [(0,sv bb oo m c),(1,.int .i64 lo),(3,.int .i64 up),(4,km f us),(18,.int .i64 g8),(20,.int .i64 s),(24,.int .i64 ((g8+k-s:Nat):Int))]∧U W w (g7 bb oo m c zs::L)) ?_ ?_
  ·
   refine BY 5 E I (λbX a E=>?_) λbX a E=>?_
   ·
    refine IF 4 E I (λsF a E=>?_) λsF a E=>?_
    ·
     refine bh 5 E I (rotate I hx (by omega) (by omega) (by omega) hm) λys a w E ⟨hy,I⟩=>?_;refine RN 0 E I λa E=>?_;exact⟨ys,hy,E.ab [0,1,3,4,18,20,24],I⟩
    refine RN 0 E I λa E=>?_;exact⟨xs,hx,E.ab [0,1,3,4,18,20,24],I⟩
   refine RN 5 E I λa E=>?_;exact⟨xs,hx,E.ab [0,1,3,4,18,20,24],I⟩
  clear E;(try clear I);rintro a w ⟨zs,hz,E,I⟩;refine cc (M:=λa w=>∃ zs:List UInt8,zs.length=m∧Fr a 220 [(0,sv bb oo m c),(3,.int .i64 up),(4,km f us),(18,.int .i64 g8),(24,.int .i64 ((g8+k-s:Nat):Int))]∧U W w (g7 bb oo m c zs::L)) ?_ ?_
  ·
   refine BY 5 E I (λbX a E=>?_) λbX a E=>?_
   ·
    refine IF 4 E I (λxN a E=>?_) λxN a E=>?_
    ·
     refine bh 5 E I (ih (by omega) hz (by omega) (by omega) (by omega) I) λys a w E ⟨hy,I⟩=>?_;refine RN 0 E I λa E=>?_;exact⟨ys,hy,E.ab [0,3,4,18,24],I⟩
    refine RN 0 E I λa E=>?_;exact⟨zs,hz,E.ab [0,3,4,18,24],I⟩
   refine RN 5 E I λa E=>?_;exact⟨zs,hz,E.ab [0,3,4,18,24],I⟩
  clear E;(try clear I);rintro a w ⟨zs,hz,E,I⟩;refine BY 5 E I (λbX a E=>?_) λbX a E=>?_
  ·
   refine IF 4 E I (λvL a E=>?_) λvL a E=>?_
   ·
    refine bh 5 E I (ih (by omega) hz (by omega) (by omega) (by omega) I) λys a w E ⟨hy,I⟩=>?_;refine RT 0 E I ?_;exact⟨ys,rfl,hy,I⟩
   refine RT 0 E I ?_;exact⟨zs,rfl,hz,I⟩
  refine RT 5 E I ?_;exact⟨zs,rfl,hz,I⟩
theorem ZL (I:U W w (g7 bb oo m c xs::L))(hF:yB W L f us)(hx:xs.length=m)(hm:m≤1000) :
   Calls prog 335 #[sv bb oo m c,.int .i64 m,km f us] w λe w'=>∃ ys:List UInt8,e=.returned (.tuple #[])∧ys.length=m∧U W w' (g7 bb oo m c ys::L):=by
 refine EN func335 ntmps335 rfl rfl λa E=>?_;refine RN 7 E I λa E=>?_;refine aO (λμ a w=>∃ (q:Nat) (ys:List UInt8),(μ=m-q∧q≤m∧ys.length=m)∧Fr a 63 [(0,sv bb oo m c),(1,.int .i64 m),(2,km f us),(6,.int .i64 20),(7,.int .i64 q),(8,.int .i64 ((q+20:Nat):Int))]∧U W w (g7 bb oo m c ys::L)) (m) (⟨0,xs,⟨rfl,Nat.zero_le _,hx⟩,E.ab [0,1,2,6,7,8],I⟩) ?_;clear E I;rintro μ a w ⟨q,ys,⟨rfl,hq,hy⟩,E,I⟩;refine IF 5 E I (λaj a E=>?_) λaj a E=>?_
 ·
  refine bh 5 E I (Mc I hF hy (by omega) hm hq) λzs a w E ⟨hz,I⟩=>?_;refine RN 7 E I λa E=>?_;exact⟨m-(q+20),by omega,q+20,zs,⟨rfl,by omega,hz⟩,E.ab [0,1,2,6,7,8],I⟩
 refine bh 5 E I (Mc I hF hy (a7 _) hm hq) λzs a w E ⟨hz,I⟩=>?_;refine RN 0 E I λa E=>?_;refine aO (λμ a w=>∃ (s:Nat) (ys:List UInt8),(μ=m-s∧(1≤s∧s≤2000)∧ys.length=m)∧Fr a 63 [(0,sv bb oo m c),(1,.int .i64 m),(2,km f us),(6,.int .i64 s)]∧U W w (g7 bb oo m c ys::L)) (m-20) (⟨20,zs,⟨rfl,⟨by decide,by decide⟩,hz⟩,E.ab [0,1,2,6],I⟩) ?_;clear E I;rintro μ a w ⟨s,ys,⟨rfl,⟨nV,du⟩,hy⟩,E,I⟩;refine IF 5 E I (λao a E=>?_) λao a E=>?_
 ·
  refine RN 3 E I λa E=>?_;rw[show (2:Int)*(s:Int)=((2*s:Nat):Int) from by omega]at E;refine RN 3 E I λa E=>?_;refine aO (λμ a w=>∃ (q:Nat) (ys:List UInt8),(μ=m-q∧q≤m∧ys.length=m)∧Fr a 63 [(0,sv bb oo m c),(1,.int .i64 m),(2,km f us),(6,.int .i64 s),(7,.int .i64 q),(8,.int .i64 ((q+2*s:Nat):Int))]∧U W w (g7 bb oo m c ys::L)) (m) (⟨0,ys,⟨rfl,Nat.zero_le _,hy⟩,(by rw[Nat.zero_add];exact E.ab [0,1,2,6,7,8]),I⟩) ?_;clear E I;rintro μ a w ⟨q,ys,⟨rfl,hq,hy⟩,E,I⟩;refine IF 5 E I (λay a E=>?_) λay a E=>?_
  ·
   refine RN 6 E I λa E=>?_;rw[show (q:Int)+(s:Int)=((q+s:Nat):Int) from rfl]at E;refine bh 2 E I (Mf hF hm _ (a7 _) hy (by omega) (by omega) (by omega) I) λzs a w E ⟨hz,I⟩=>?_;refine RN 7 E I λa E=>?_;rw[show ((q+2*s:Nat):Int)+2*(s:Int)=((q+2*s+2*s:Nat):Int) from by omega]at E;refine RN 1 E I λa E=>?_;exact⟨m-(q+2*s),by omega,q+2*s,zs,⟨rfl,by omega,hz⟩,E.ab [0,1,2,6,7,8],I⟩
  refine RN 5 E I λa E=>?_;rw[show (q:Int)+(s:Int)=((q+s:Nat):Int) from rfl]at E;refine IF 5 E I (λbk a E=>?_) λbk a E=>?_
  ·
   refine bh 5 E I (Mf hF hm _ (a7 _) hy (by omega) (by omega) (a7 _) I) λzs a w E ⟨hz,I⟩=>?_;refine RN 2 E I λa E=>?_;rw[show (s:Int)*2=((s*2:Nat):Int) from by omega]at E;refine RN 1 E I λa E=>?_;exact⟨m-s*2,by omega,s*2,zs,⟨rfl,⟨by omega,by omega⟩,hz⟩,E.ab [0,1,2,6],I⟩
  refine RN 2 E I λa E=>?_;rw[show (s:Int)*2=((s*2:Nat):Int) from by omega]at E;refine RN 1 E I λa E=>?_;exact⟨m-s*2,by omega,s*2,ys,⟨rfl,⟨by omega,by omega⟩,hy⟩,E.ab [0,1,2,6],I⟩
 refine RT 0 E I ?_;exact⟨ys,rfl,hy,I⟩
theorem ZM (I:U W w (g7 bb oo m c xs::L))(hF:yB W L f us)(hx:xs.length=m)(hm:m≤1000) :
   Calls prog 327 #[sv bb oo m c,km f us] w λe w'=>∃ ys:List UInt8,e=.returned (.tuple #[])∧ys.length=m∧U W w' (g7 bb oo m c ys::L):=by
 refine EN func327 ntmps327 rfl rfl λa E=>?_;refine bh 4 E I (ZL I hF hx hm) λys a w E ⟨hy,I⟩=>?_;refine RT 0 E I ?_;exact⟨ys,rfl,hy,I⟩
theorem ZN {b:Gs}{adT:Option Addr}{cT b3 dm b8 qA:Nat}{d u:UInt8}{g:Nat→Int}:yB W (aa b8 5 [.int .u8 (d.toNat:Nat)]::aa qA 5 [.int .u8 (u.toNat:Nat)]::aa b3 186 (di b adT cT)::aa dm 320 (ints .i64 256 g)::L)
   328 [pt b8,pt qA,pt b3,pt dm]:=by
 refine⟨by kernel_rfl,?_⟩;intro w M x y I hM;have hx:=x.toNat_lt;have hy:=y.toNat_lt;refine EN func328 ntmps328 rfl rfl λa E=>?_;refine RN 4 E I λa E=>?_;refine SS E (ae E ((hM I).bz (b:=b8) rfl)) λa E=>?_;refine RN 0 E I λa E=>?_;refine SS E (ae E ((hM I).bz (b:=qA) rfl)) λa E=>?_;refine RN 0 E I λa E=>?_;refine SS E (CB E underlying423 Ty.t423 Ty.t5 rfl rfl) λa E=>?_;refine RN 1 E I λa E=>?_;refine aO (λμ a w=>∃ (i:Nat),(μ=2-i∧i≤2)∧Fr a 47 [(0,.int .u8 (x.toNat:Nat)),(1,.int .u8 (y.toNat:Nat)),(4,pt b3),(5,pt dm),(13,.agg #[.int .u8 (d.toNat:Nat),.int .u8 (u.toNat:Nat)]),(14,.int .i64 i)]∧U W w M) (2) (⟨0,⟨rfl,by decide⟩,E.ab [0,1,4,5,13,14],I⟩) ?_;clear E I;rintro μ a w ⟨i,⟨rfl,hi⟩,E,I⟩;refine IF 3 E I (λaj a E=>?_) λaj a E=>?_
 ·
  obtain⟨q,hq⟩:∃ q:UInt8,[Value.int .u8 (d.toNat:Nat),Value.int .u8 (u.toNat:Nat)][i]?=some (.int .u8 (q.toNat:Nat)):=by
   have:i=0∨i=1:=by omega
   rcases this with rfl | rfl
   ·exact⟨d,rfl⟩
   ·exact⟨u,rfl⟩
  refine RN 2 E I λa E=>?_;refine SS E (r5 E underlying423 underlying5 rfl Ty.t5 (by omega) hq) λa E=>?_;refine bQ 3 [9] [0,1001,2,3,4,5,7,8,3006,1009,10,11] E I λa w E I hH hC=>?_;refine RH 1 E I hH hC λa E=>?_;refine SS E (ae E ((hM I).bz (b:=b3) rfl)) λa E=>?_;refine RH 2 E I hH hC λa E=>?_;refine E.by (s:=20) (λbX E=>?_) (λbX E=>?_)
  ·
   refine RH 4 E I hH hC λa E=>?_;refine QH E (λw hc=>ae E (hc.cell ((hM I).bz (b:=dm) (fN g hx)))) hC λa E=>?_;refine RH 0 E I hH hC λa E=>?_;refine bo E (b7 E rfl (s:=20)) (ae E ((hM I).bz (b:=dm) (fN g hy))) rfl λa E=>?_;refine RH 2 E I hH hC λa E=>?_;refine IF 0 E I (λao a E=>?_) λao a E=>?_
   ·
    refine bQ 1 [5] [0,1,3,4,3002,1005,6,7] E I λa w E I hH hC=>?_;refine RH 4 E I hH hC λa E=>?_;refine QH E (λw hc=>ae E (hc.cell ((hM I).bz (b:=dm) (fN g hy)))) hC λa E=>?_;refine RH 0 E I hH hC λa E=>?_;refine SS E (ae E ((hM I).bz (b:=dm) (fN g hx))) λa E=>?_;refine RH 0 E I hH hC λa E=>?_;refine QP E (λw=>zd E) λa E=>?_;refine RH 1 E I hH hC λa E=>?_;refine RT 0 E I ?_;exact⟨_,rfl,I⟩
   refine IF 8 E I (λay a E=>?_) λay a E=>?_
   ·
    refine IF 5 E I (λbk a E=>?_) λbk a E=>?_
    ·
     refine RT 2 E I ?_;exact⟨_,rfl,I⟩
    refine RT 2 E I ?_;exact⟨_,rfl,I⟩
   refine RN 2 E I λa E=>?_;exact⟨2-(i+1),by omega,i+1,⟨rfl,by omega⟩,E.ab [0,1,4,5,13,14],I⟩
  refine RH 8 E I hH hC λa E=>?_;refine IF 9 E I (λay a E=>?_) λay a E=>?_
  ·
   refine IF 5 E I (λbk a E=>?_) λbk a E=>?_
   ·
    refine RT 2 E I ?_;exact⟨_,rfl,I⟩
   refine RT 2 E I ?_;exact⟨_,rfl,I⟩
  refine RN 2 E I λa E=>?_;exact⟨2-(i+1),by omega,i+1,⟨rfl,by omega⟩,E.ab [0,1,4,5,13,14],I⟩
 refine RT 2 E I ?_;exact⟨_,rfl,I⟩
end
theorem ZO:wB:=by
 refine⟨?_⟩;intro W w L c k cT ad adT past b I hb hk eB jT hp ht;refine EN func310 ntmps310 rfl rfl λa E=>?_;refine BX 1 E I λb3 a w E I=>?_;change U W w (aa b3 186 (di b adT cT)::_) at I;refine bh 4 E I (yw I) λr a w E ⟨hr,I⟩=>?_;obtain rfl:=hr.2 hb;refine RN 1 E I λa E=>?_;replace E:=E.aM 14;refine CL 4 E I (LG I hb (by omega) jT (λw' h=>hp _ h.tail)) λa w E I=>?_;refine AL 0 E I λdm a w E I=>?_;rw[qx]at I;refine SA 0 E I λa w E I=>?_;refine CL 3 E I (LI I hb (by omega) jT (λw' h=>hp _ h.tail.tail) (λw' h=>ht _ h.tail.tail)) λa w E I=>?_;refine CL 1 E I (LH I (by omega) (λw' h=>hp _ h.tail.tail)) λa w E I=>?_;refine AL 0 E I λb8 a w E I=>?_;refine AL 0 E I λqA a w E I=>?_;refine ST 0 E I (λa w E I=>?_);refine ST 0 E I (λa w E I=>?_);refine RN 5 E I λa E=>?_;replace I:U W w (Sl 5 1 none 0 0 (bc [])::_):=I.bN 5 1 none;refine aO (λμ a w=>∃ (i:Nat) (g5:Option Addr) (cl:Nat) (ys:List UInt8),(μ=256-i∧i≤256∧ys.length=i)∧Fr a 40 [(2,.int .i64 k),(3,pt b3),(7,pt dm),(8,pt b8),(9,pt qA),(10,.slice g5 i cl),(23,.int .i64 i)]∧U W w (Sl 5 1 g5 i cl (bc ys)::aa b8 5 [.int .u8 ((m9 b past).toNat:Nat)]::aa qA 5 [.int .u8 ((il past).toNat:Nat)]::aa b3 186 (di b adT cT)::aa dm 320 (ints .i64 256 (gG b past))::L)) (256) (⟨0,none,0,[],⟨rfl,by decide,rfl⟩,E.ab [2,3,7,8,9,10,23],I.sub⟩) ?_;clear E I;rintro μ a w ⟨i,g5,cl,ys,⟨rfl,hi,hy⟩,E,I⟩;refine IF 3 E I (λao a E=>?_) λao a E=>?_
 ·
  refine RN 6 E I λa E=>?_;refine SS E (gj E underlying3 underlying5) λa E=>?_;rw[wrap_u8,show (i:Int)%256=(((UInt8.ofNat i).toNat:Nat):Int) from by rw[UInt8.toNat_ofNat'];omega]at E;refine RN 0 E I λa E=>?_;refine cr E rfl I underlying22 Ty.t5 rfl rfl rfl rfl (by decide) (by decide) λVj a w E I ho=>?_;clear ho;refine RN 0 E I λa E=>?_;refine cK E rfl I underlying22 Ty.t5 rfl rfl I.ai rfl (eo [UInt8.ofNat i]) (by decide) (by decide) (by omega) λJh Ji a w E I=>?_;rw[show bc ys++_=bc (ys++[UInt8.ofNat i]) from (fG _ [_]).symm]at I;refine RN 3 E I λa E=>?_;exact⟨256-(i+1),by omega,i+1,Jh,Ji,ys++[UInt8.ofNat i],⟨rfl,by omega,by simp[hy]⟩,E.ab [2,3,7,8,9,10,23],I.sub⟩
 refine RN 1 E I λa E=>?_;obtain rfl:i=256:=by omega
 have hA:=E;have yC:=I;obtain⟨bb,oo,rfl,_⟩:=I.bV g5 (by omega);have E:=hA;have I:=yC;have cp:=(I.sl (some ⟨bb,oo,none⟩)).2;refine bh 2 E I (ZM I ZN hy (by decide)) λzs a w E ⟨hz,I⟩=>?_;refine RN 5 E I λa E=>?_;rw[show min (max (k:Int) 0) 256=(k:Int) from by omega]at E;refine RT 2 E I ?_;have h1:=I.Cm (some ⟨bb,oo,none⟩) 0 k (Nat.zero_le _) (by omega);rw[Nat.sub_zero,Nat.sub_zero,Nat.mul_one,Nat.zero_mul,drop_zero,show (bc zs).take k=bc (zs.take k) from by rw[bc,bc,map_take]]at h1;have hl:(zs.take k).length=k:=by rw[ep];omega
 exact⟨_,_,zs.take k,by rw[hl,Nat.sub_zero,Nat.sub_zero],hl,by rw[hl];exact h1.sub⟩
end
end Go.Proofs.YteoldcfapaiobaaGreat
