/- The document's guesses: quintainref12.MayBy, weights, ahead, Rank, Chain. -/
import Derived.Test.YteoldcfapaiobaaGreatH10Core
import Derived.Test.YteoldcfapaiobaaGreatH08Pkt3
import Derived.Test.YteoldcfapaiobaaGreatH09CoQ
import Derived.Test.YteoldcfapaiobaaGreatH01Row
namespace Go.Proofs.YteoldcfapaiobaaGreat
open Tryz
open List (drop_zero nil_append drop_eq_nil_of_le ext_getElem getElem_map append_nil map_take range_succ map_singleton getLastD_eq_getLast?)
open Go.RowKit
set_option linter.unusedVariables false
set_option linter.unusedSimpArgs false
set_option maxRecDepth 10000
set_option synthInstance.maxSize 4000
set_option synthInstance.maxHeartbeats 400000
section
def qc (w:Nat→Int)(last drawn:Int)(v u:Nat):Bool:=if (v:Int)=drawn∨(u:Int)=drawn then decide ((v:Int)=drawn) else if w v≠w u then decide (w u<w v) else decide ((v:Int)=last)
def hW (w:Nat→Int)(last drawn:Int):Nat→Nat
 | 0=>0
 | i+1=>if qc w last drawn (i+1) (hW w last drawn i)=true then i+1 else hW w last drawn i
theorem GG (w:Nat→Int)(last drawn:Int):∀ i,hW w last drawn i≤i
 | 0=>bh _
 | i+1=>by
  rw[hW];split
  ·exact bh _
  ·exact Nat.le_succ_of_le (GG w last drawn i)
theorem MO {w:Nat→Int}{last:Int}{d:Nat}:∀ {i},d≤i→hW w last d i=d
 | 0,h=>by rw[hW];omega
 | i+1,h=>by
  rw[hW];by_cases hd:d=i+1
  ·rw[ak]
   ·exact hd.symm
   ·rw[qc,ak (.inl (by omega))];exact dp (by omega)
  ·rw[MO (i:=i) (by omega),ag];rw[qc,ak (.inr rfl),ct];omega
theorem MP {w:Nat→Int}{last:Nat}:∀ i,(∀ v,v≤i→w v≤w (hW w last (-1) i))∧(hW w last (-1) i=last∨((last≤i→w last<w (hW w last (-1) i))∧∀ v,v<hW w last (-1) i→w v<w (hW w last (-1) i)))
 | 0=>by
  refine⟨λv hv=>by rw[hW,show v=0 from by omega];exact Int.le_refl _,?_⟩;by_cases h:last=0
  ·exact .inl h.symm
  ·exact .inr ⟨λhl=>by omega,λv hv=>by rw[hW]at hv;omega⟩
 | i+1=>by
  obtain⟨h1,h2⟩:=MP (w:=w) (last:=last) i;have hle:=GG w last (-1) i;have h0:¬ (((i+1:Nat):Int) = -1∨((hW w last (-1) i:Nat):Int) = -1):=by omega
  rw[hW];generalize hW w last (-1) i=r at *;rw[qc,ag h0];by_cases hw:w (i+1)=w r
  ·rw[ag (show ¬ w (i+1)≠w r from λh=>h hw)];by_cases hl:i+1=last
   ·rw[ak (dp (by omega))];refine⟨λv hv=>?_,.inl hl⟩;by_cases so:v=i+1
    ·subst so;exact Int.le_refl _
    ·rw[hw];exact h1 v (by omega)
   ·rw[ag (by rw[ct];omega)];refine⟨λv hv=>?_,?_⟩
    ·by_cases so:v=i+1
     ·subst so;omega
     ·exact h1 v (by omega)
    ·rcases h2 with h2 | ⟨h2,h3⟩
     ·exact .inl h2
     ·exact .inr ⟨λhh=>h2 (by omega),h3⟩
  ·rw[ak hw];by_cases hl:w r<w (i+1)
   ·rw[ak (dp hl)];have hX:∀ v,v<i+1→w v<w (i+1):=λv hv=>by have:=h1 v (by omega);omega
    refine⟨λv hv=>?_,?_⟩
    ·by_cases so:v=i+1
     ·subst so;exact Int.le_refl _
     ·have:=hX v (by omega);omega
    ·by_cases vW:last=i+1
     ·exact .inl vW.symm
     ·exact .inr ⟨λhh=>hX last (by omega),hX⟩
   ·rw[ag (by rw[ct];exact hl)];refine⟨λv hv=>?_,?_⟩
    ·by_cases so:v=i+1
     ·subst so;omega
     ·exact h1 v (by omega)
    ·rcases h2 with h2 | ⟨h2,h3⟩
     ·exact .inl h2
     ·refine .inr ⟨λhh=>?_,h3⟩;by_cases vW:last=i+1
      ·subst vW;omega
      ·exact h2 (by omega)
def tJ (b:Gs)(past:List UInt8):Int:=if b.kind=3 then ((b.table.getD (past.length%b.table.length) 0).toNat:Int) else -1
theorem aae {b:Gs}{past:List UInt8}(hb:cY b):hW (gJ b past) ((iv past).toNat:Nat) (tJ b past) 255=(nv b past).toNat:=by
 have GD:=lK (iv past);unfold tJ nv;split
 ·have:=lK (b.table.getD (past.length%b.table.length) 0);exact MO (by omega)
 ·rw[UInt8.toNat_ofNat'];obtain⟨h1,h2⟩:=MP (w:=gJ b past) (last:=(iv past).toNat) 255;have hle:=GG (gJ b past) ((iv past).toNat:Nat) (-1) 255;generalize hW (gJ b past) ((iv past).toNat:Nat) (-1) 255=r at *;rcases h2 with h2 | ⟨h2,h3⟩
  ·rw[LP λv hv=>by rw[← h2];exact h1 v (by omega),h2];omega
  ·have h4:=(LQ (last:=(iv past).toNat) (h2 (by omega)) h3 (i:=256) λv hv=>h1 v (by omega)).2 (by omega);rw[h4];omega
def tK (t:Nat→Bool):List Value:=fn 256 λi=>.bool (t i)
theorem aaf (t:Nat→Bool):(tK t).length=256:=I0 _ _
theorem aag {t:Nat→Bool}{i:Nat}(h:i<256):(tK t)[i]?=some (.bool (t i)):=I1 _ h
theorem aah {t:Nat→Bool}{i:Nat}:(tK t).set i (.bool true)=tK λj=>if j=i then true else t j:=by
 rw[tK,I2];exact DJ λj _=>by by_cases h:j=i <;> simp[h]
theorem aai (m:Nat)(v:Value):List.replicate m v=fn m λ_=>v:=by
 apply ext_getElem (by simp[fn]);intro i h1 h2;simp[fn]
theorem aaj:List.replicate 256 (Value.bool false)=tK λ_=>false:=aai 256 _
def qW (t:Nat→Bool):Nat→Nat
 | 0=>0
 | i+1=>qW t i+if t i=true then 1 else 0
theorem MQ {t:Nat→Bool}:∀ {i},(∀ v,v<i→t v=true)→qW t i=i
 | 0,_=>rfl
 | i+1,h=>by rw[qW,MQ (i:=i) λv hv=>h v (by omega),ak (h i (by omega))]
theorem MR {t:Nat→Bool}{u:Nat}(hu:t u=false):∀ {i},qW (λj=>if j=u then true else t j) i=qW t i+if u<i then 1 else 0
 | 0=>by simp[qW]
 | i+1=>by
  rw[qW,qW,MR hu (i:=i)];by_cases h:i=u
  ·subst h;simp[hu]
  ·by_cases h2:u<i
   ·simp[h,h2,show u<i+1 from by omega];omega
   ·simp[h,h2,show ¬ u<i+1 from by omega]
def km (w:Nat→Int)(last drawn:Int)(t:Nat→Bool)(first:Bool)(i:Nat)(fQ:Int):Prop :=
 (fQ = -1∧∀ v,v<i→t v=true)∨∃ u:Nat,fQ=(u:Int)∧u<i∧t u=false∧(first=true→u=hW w last drawn (i-1))
section
variable {w:Nat→Int}{last drawn:Int}{t:Nat→Bool}{f:Bool}{i u:Nat}{fQ:Int}
theorem km.take (h:km w last drawn t f i fQ)(h0:fQ<0)(hi:t i=false)(hf:f=true→∀ v,t v=false):km w last drawn t f (i+1) i:=by
 refine .inr ⟨i,rfl,by omega,hi,λjR=>?_⟩;rcases h with ⟨_,h⟩ | ⟨u,h,_⟩
 ·have : i = 0 := by
   rcases lD i with h1 | h1
   ·exact h1
   ·have h2:=h 0 h1;rw[hf jR 0]at h2;cases h2
  subst this;rfl
 ·omega
theorem km.nat (h:km w last drawn t f i fQ)(h0:0≤fQ):∃ u:Nat,fQ=(u:Int)∧u<i∧t u=false∧(f=true→u=hW w last drawn (i-1)):=by
 rcases h with ⟨h,_⟩ | h
 ·omega
 ·exact h
theorem km.up (hu:u<i∧t u=false∧(f=true→u=hW w last drawn (i-1)))(E:qc w last drawn i u=true)(hi:t i=false):km w last drawn t f (i+1) i:=by
 refine .inr ⟨i,rfl,by omega,hi,λhf=>?_⟩;have h1:=hu.2.2 hf;obtain⟨j,rfl⟩:∃ j,i=j+1:=⟨i-1,by omega⟩;rw[yS]at h1 ⊢;rw[hW,← h1,ak E]
theorem km.ab (hu:u<i∧t u=false∧(f=true→u=hW w last drawn (i-1)))(E:qc w last drawn i u=false):km w last drawn t f (i+1) u:=by
 refine .inr ⟨u,rfl,by omega,hu.2.1,λhf=>?_⟩;have h1:=hu.2.2 hf;obtain⟨j,rfl⟩:∃ j,i=j+1:=⟨i-1,by omega⟩;rw[yS]at h1 ⊢;rw[hW,← h1,E,ag (by decide)]
theorem km.skip (h:km w last drawn t f i fQ)(hi:t i=true)(hf:f=true→∀ v,t v=false):km w last drawn t f (i+1) fQ:=by
 have oY:f=true→False:=λh=>by rw[hf h i]at hi;cases hi
 rcases h with ⟨h1,h⟩ | ⟨u,h1,h2,h3,_⟩
 ·refine .inl ⟨h1,λv hv=>?_⟩;by_cases hvi:v=i
  ·subst hvi;exact hi
  ·exact h v (by omega)
 ·exact .inr ⟨u,h1,by omega,h3,λh=>(oY h).elim⟩
theorem km.GH (h:km w last drawn t f 256 fQ)(hc:qW t 256<256):∃ u:Nat,fQ=(u:Int)∧u<256∧t u=false∧(f=true→u=hW w last drawn 255):=by
 rcases h with ⟨_,h⟩ | h
 ·rw[MQ h]at hc;omega
 ·exact h
theorem km.start:km w last drawn t f 0 (-1):=.inl ⟨rfl,λv hv=>by omega⟩
end
section
variable {W w:World}{L:List SP}{n c m cT:Nat}{ad adT:Option Addr}{past:List UInt8}{b:Gs}{g:Nat→Int}
theorem B9 (I:U W w L):Calls prog 49 #[.agg (dr b adT cT).toArray] w λe V=>∃ r:Bool,e=.returned (.bool r)∧(r=true↔cY b)∧U W V L:=by
 refine EN func49 ntmps49 rfl rfl λa E=>?_;refine BX 1 E I λb1 a w E I=>?_;change U W w (aa b1 47 (dr b adT cT)::_) at I;refine BY 7 E I (λbE a E=>?_) λbE a E=>?_
 ·
  refine RT 27 E I ?_;exact⟨_,rfl,⟨λh=>(by cases h),λh=>by rw[cY]at h;exfalso;omega⟩,I.sub⟩
 refine BY 5 E I (λek a E=>?_) λek a E=>?_
 ·
  refine RT 22 E I ?_;exact⟨_,rfl,⟨λh=>(by cases h),λh=>by rw[cY]at h;exfalso;omega⟩,I.sub⟩
 refine BY 5 E I (λkP a E=>?_) λkP a E=>?_
 ·
  refine RT 17 E I ?_;exact⟨_,rfl,⟨λh=>(by cases h),λh=>by rw[cY]at h;exfalso;omega⟩,I.sub⟩
 refine BY 5 E I (λpI a E=>?_) λpI a E=>?_
 ·
  refine RT 12 E I ?_;exact⟨_,rfl,⟨λh=>(by cases h),λh=>by rw[cY]at h;exfalso;omega⟩,I.sub⟩
 refine BY 4 E I (λpY a E=>?_) λpY a E=>?_
 ·
  refine IF 5 E I (λaj a E=>?_) λaj a E=>?_
  ·
   refine RT 2 E I ?_;exact⟨_,rfl,⟨λh=>(by cases h),λh=>by rw[cY]at h;exfalso;omega⟩,I.sub⟩
  refine IF 5 E I (λao a E=>?_) λao a E=>?_
  ·
   refine BY 6 E I (λdk a E=>?_) λdk a E=>?_
   ·
    refine RT 6 E I ?_;exact⟨_,rfl,(by rw[ct,cY];omega),I.sub⟩
   refine RT 6 E I ?_;exact⟨_,rfl,⟨λh=>(by cases h),λh=>by rw[cY]at h;exfalso;omega⟩,I.sub⟩
  refine RT 6 E I ?_;exact⟨_,rfl,(by rw[ct,cY];omega),I.sub⟩
 refine IF 11 E I (λao a E=>?_) λao a E=>?_
 ·
  refine BY 6 E I (λdk a E=>?_) λdk a E=>?_
  ·
   refine RT 6 E I ?_;exact⟨_,rfl,(by rw[ct,cY];omega),I.sub⟩
  refine RT 6 E I ?_;exact⟨_,rfl,⟨λh=>(by cases h),λh=>by rw[cY]at h;exfalso;omega⟩,I.sub⟩
 refine RT 6 E I ?_;exact⟨_,rfl,(by rw[ct,cY];omega),I.sub⟩
theorem aak (I:U W w L)(hb:cY b)(eO:past.length≤4000)(j6:past.length≤c)(hp:∀ V,U W V L→aL V ad past.length past) :
   Calls prog 192 #[.agg (dr b adT cT).toArray,.slice ad past.length c] w λe V=>e=.returned (.agg (ints .i64 256 (gJ b past)).toArray)∧U W V L:=by
 simp only[cY]at hb;refine EN func192 ntmps192 rfl rfl λa E=>?_;refine BX 1 E I λb2 a w E I=>?_;change U W w (aa b2 47 (dr b adT cT)::_) at I;refine AL 0 E I λb4 a w E I=>?_;rw[qV]at I;refine AL 1 E I λb5 a w E I=>?_;rw[qV]at I;refine BY 6 E I (λbE a E=>?_) λbE a E=>?_
 ·
  refine SA 9 E I λa w E I=>?_;refine RT 0 E I ?_;exact⟨by rw[gJ,ag (by omega)],I.sub⟩
 refine IF 6 E I (λaj a E=>?_) λaj a E=>?_
 ·
  refine SA 2 E I λa w E I=>?_;refine RT 0 E I ?_;exact⟨by rw[gJ,ak (by omega),zc (by omega)],I.sub⟩
 refine RN 1 E I λa E=>?_;have ca:b.kind=2:=by omega
 obtain⟨o,ho⟩:∃ o:Nat,b.order=(o:Int):=⟨b.order.toNat,by omega⟩;rw[dr,ho]at I;have dO:o≤past.length:=by omega
 have lh:gJ b past=g6 o past past.length:=by rw[gJ,ak ca,ho,c3]
 refine RN 6 E I λa E=>?_;rw[show ((past.length:Nat):Int)-(o:Int)=((past.length-o:Nat):Int) from by omega]at E;refine RN 1 E I λa E=>?_;refine SS E (ky E underlying22 underlying5 underlying9 ((show aL w (e6 ad (past.length-o) c 1) (past.length-(past.length-o)) (past.drop (past.length-o)) from by have h1:=(hp _ I.tail.tail.tail).uY (lo:=past.length-o) (by omega) j6;rw[c4]at h1;exact h1))) λa E=>?_;refine RN 6 E I λa E=>?_;have ho3:o≤3:=by omega
 refine aQ (λμ a w=>∃ (i:Nat),(μ=past.length-i∧o≤i∧i≤past.length)∧Fr a 54 [(1,.slice ad past.length c),(2,pt b2),(4,pt b4),(5,pt b5),(6,.string ⟨(past.drop (past.length-o)).toArray⟩),(7,.int .i64 i)]∧U W w (aa b5 320 (ints .i64 256 (g6 o past i))::aa b4 320 (ints .i64 256 (λ_=>0))::aa b2 47 [.int .i64 b.kind,.int .i64 o,.slice adT b.table.length cT]::L)) (past.length-o) (⟨o,⟨rfl,bh _,dO⟩,E.ab [1,2,4,5,6,7],by rw[zc (bh _)];exact I.sub⟩) ?_;clear E I;rintro μ a w ⟨i,⟨rfl,GA,hi⟩,E,I⟩;refine IF 6 E I (λao a E=>?_) λao a E=>?_
 ·
  have aF:i<past.length:=by omega
  have nL:=BQ o past i past[i].toNat;have qQ:=lK past[i];refine RN 7 E I λa E=>?_;rw[show ((i:Nat):Int)-(o:Int)=((i-o:Nat):Int) from by omega]at E;refine RN 2 E I λa E=>?_;rw[show i-(i-o)=o from by omega]at E;refine SS E (ky E underlying22 underlying5 underlying9 ((hp _ I.tail.tail.tail).zd (lo:=i-o) (n:=o) (by omega) j6)) λa E=>?_;refine RN 1 E I λa E=>?_;refine SS E (sO E) λa E=>?_;rw[pC]at E;refine IF 0 E I (λay a E=>?_) λay a E=>?_
  ·
   obtain⟨bb,oo,rfl,hr⟩:=(hp _ I.tail.tail.tail).get (by omega);refine RN 3 E I λa E=>?_;refine SS E (ae E (hr i _ (dQ aF))) λa E=>?_;refine RN 1 E I λa E=>?_;refine SS E (ae E (I.bz (fX _ qQ))) λa E=>?_;refine ST 2 E I (λa w E I=>?_) (hlt:=(by rw[di];omega));rw[ints_set]at I;refine RN 3 E I λa E=>?_;exact⟨past.length-(i+1),by omega,i+1,⟨rfl,by omega,by omega⟩,E.ab [1,2,4,5,6,7],by
    rw[show g6 o past (i+1)=λj=>if j=past[i].toNat then g6 o past i past[i].toNat+1 else g6 o past i j from by
     rw[g6,ak ⟨GA,by rw[zb,← ay]⟩,bl,aD aF];rfl]
    exact I.sub⟩
  refine RN 3 E I λa E=>?_;exact⟨past.length-(i+1),by omega,i+1,⟨rfl,by omega,by omega⟩,E.ab [1,2,4,5,6,7],by
   rw[show g6 o past (i+1)=g6 o past i from by
    rw[g6,ag (λh=>by
     have h2:=h.2;rw[zb]at h2;rw[h2]at ay;cases ay)]]
   exact I.sub⟩
 obtain rfl:i=past.length:=by omega
 refine SA 2 E I λa w E I=>?_;refine RT 0 E I ?_;exact⟨by rw[lh],I.sub⟩
theorem aal {v u:Nat}{last drawn:Int}(I:U W w L)(hv:v<256)(hu:u<256):Calls prog 193 #[.int .i64 v,.int .i64 u,.agg (ints .i64 256 g).toArray,.int .i64 last,.int .i64 drawn] w λe V=>e=.returned (.bool (qc g last drawn v u))∧U W V L:=by
 refine EN func193 ntmps193 rfl rfl λa E=>?_;refine BX 1 E I λdv a w E I=>?_;refine BY 7 E I (λbE a E=>?_) λbE a E=>?_
 ·
  refine RT 10 E I ?_;exact⟨by rw[qc,ak (.inl bE)],I.sub⟩
 refine IF 4 E I (λaj a E=>?_) λaj a E=>?_
 ·
  refine RT 5 E I ?_;exact⟨by rw[qc,ak (.inr aj)],I.sub⟩
 refine RN 2 E I λa E=>?_;have h0:¬ ((v:Int)=drawn∨(u:Int)=drawn):=by omega
 refine bW 0 [5] [0,1,3,4,3002,1005,6] E I λa w E I hH hC=>?_;refine RH 4 E I hH hC λa E=>?_;refine QH E (λw hc=>ae E (hc.cell (I.bz (fX _ hv)))) hC λa E=>?_;refine RH 0 E I hH hC λa E=>?_;refine SS E (ae E (I.bz (fX _ hu))) λa E=>?_;refine RH 1 E I hH hC λa E=>?_;refine IF 0 E I (λao a E=>?_) λao a E=>?_
 ·
  refine bW 1 [5] [0,1,3,4,3002,1005,6,7] E I λa w E I hH hC=>?_;refine RH 4 E I hH hC λa E=>?_;refine QH E (λw hc=>ae E (hc.cell (I.bz (fX _ hv)))) hC λa E=>?_;refine RH 0 E I hH hC λa E=>?_;refine SS E (ae E (I.bz (fX _ hu))) λa E=>?_;refine RH 2 E I hH hC λa E=>?_;refine RT 0 E I ?_;exact⟨by rw[qc,ag h0,ak ao],I.sub⟩
 refine RT 5 E I ?_;exact⟨by rw[qc,ag h0,ag (λh=>h ao)],I.sub⟩
set_option maxHeartbeats 1000000 in
theorem MS {k:Nat}(I:U W w L)(hb:cY b)(hk:1≤k∧k≤100000)(eO:past.length≤4000)(j6:past.length≤c)(hp:∀ V,U W V L→aL V ad past.length past)(ht:∀ V,U W V L→aL V adT b.table.length b.table) :
   Calls prog 160 #[.agg (dr b adT cT).toArray,.slice ad past.length c,.int .i64 k] w λe V=>∃ (au:Option Addr) (c':Nat) (out:List UInt8),e=.returned (.slice au out.length c')∧(out.length=min k 256∧out[0]?=some (nv b past))∧U W V (Sl 5 1 au out.length c' (bc out)::L):=by
 have lF:=hb;simp only[cY]at lF;refine EN func160 ntmps160 rfl rfl λa E=>?_;refine BX 1 E I λb3 a w E I=>?_;change U W w (aa b3 47 (dr b adT cT)::_) at I;refine aW 4 E I (B9 I) λr a w E ⟨hr,I⟩=>?_;rw[hr.2 hb]at E;refine RN 2 E I λa E=>?_;replace E:=E.aK 17;refine RN 3 E I λa E=>?_;rw[bn (by omega)]at E;refine CL 4 E I (aak I hb eO j6 (λV hw=>hp V hw.tail)) λa w E I=>?_;refine AL 0 E I λdv a w E I=>?_;rw[qV]at I;refine SA 0 E I λa w E I=>?_;refine RN 3 E I λa E=>?_;have uH:(if 0<past.length then ((past.getD (past.length-1) 0).toNat:Int) else 0)=((iv past).toNat:Nat):=by
  split
  ·rw[iv,getLastD_eq_getLast?,List.getLast?_eq_getElem?,bl]
  ·rw[iv,hG (l:=past) (by omega)];rfl
 refine cc (M:=λa w=>Fr a 86 [(1,.slice ad past.length c),(2,.int .i64 k),(3,pt b3),(7,pt dv),(8,.int .i64 ((iv past).toNat:Nat)),(9,.int .i64 (-1))]∧U W w (aa dv 320 (ints .i64 256 (gJ b past))::aa b3 47 (dr b adT cT)::L)) ?_ ?_
 ·
  refine IF 4 E I (λao a E=>?_) λao a E=>?_
  ·
   obtain⟨bb,oo,rfl,eg⟩:=(hp _ I.tail.tail).get (by omega);rw[ak (by omega)]at uH;refine RN 4 E I λa E=>?_;rw[show ((past.length:Nat):Int)-1=((past.length-1:Nat):Int) from by omega]at E;refine RN 1 E I λa E=>?_;refine SS E (ae E (eg (past.length-1) _ (ll (by omega)))) λa E=>?_;refine SX 0 E I (tz _) λa E=>?_;refine RN 1 E I λa E=>?_;rw[uH]at E;exact⟨E.ab [1,2,3,7,8,9],I⟩
  rw[ag (by omega)]at uH;refine RN 1 E I λa E=>?_;rw[show (0:Int)=((iv past).toNat:Nat) from uH]at E;exact⟨E.ab [1,2,3,7,8,9],I⟩
 clear E;(try clear I);rintro a w ⟨E,I⟩;refine cc (M:=λa w=>Fr a 86 [(2,.int .i64 k),(3,pt b3),(7,pt dv),(8,.int .i64 ((iv past).toNat:Nat)),(9,.int .i64 (tJ b past))]∧U W w (aa dv 320 (ints .i64 256 (gJ b past))::aa b3 47 (dr b adT cT)::L)) ?_ ?_
 ·
  refine IF 4 E I (λay a E=>?_) λay a E=>?_
  ·
   refine bW 0 [5,6,7] [0,2,3,4,3001,1005,1006,1007,8,1009,10,11] E I λa w E I hH hC=>?_;have hA:=E;obtain⟨aaa,aab,rfl,uS⟩:=(ht _ I.tail.tail).get (by omega);have E:=hA;have GC:past.length%b.table.length<b.table.length:=Nat.mod_lt _ (by omega);refine RH 8 E I hH hC λa E=>?_;rw[ot]at E;refine RH 1 E I hH hC λa E=>?_;refine SS E (ae E (uS (past.length%b.table.length) _ (ll GC))) λa E=>?_;refine RH 0 E I hH hC λa E=>?_;refine QP E (λw=>pw E underlying5 underlying3 (tz _)) λa E=>?_;refine RH 1 E I hH hC λa E=>?_;rw[tJ,ak (by omega)];exact⟨E.ab [2,3,7,8,9],I⟩
  refine RN 0 E I λa E=>?_;rw[tJ,ag (by omega)];exact⟨E.ab [2,3,7,8,9],I⟩
 clear E;(try clear I);rintro a w ⟨E,I⟩;refine AL 1 E I λiJ a w E I=>?_;rw[aaj]at I;refine RN 3 E I λa E=>?_;refine aQ (λμ a w=>∃ (j:Nat) (out:List UInt8) (t:Nat→Bool) (ad2:Option Addr) (c2:Nat),(μ=min k 256-j∧j≤min k 256∧out.length=j∧qW t 256=j∧(j=0→∀ v,t v=false)∧(1≤j→out[0]?=some (nv b past)))∧Fr a 86 [(2,.int .i64 k),(3,pt b3),(7,pt dv),(8,.int .i64 ((iv past).toNat:Nat)),(9,.int .i64 (tJ b past)),(10,pt iJ),(11,.slice ad2 out.length c2)]∧U W w (Sl 5 1 ad2 out.length c2 (bc out)::aa iJ 322 (tK t)::aa dv 320 (ints .i64 256 (gJ b past))::aa b3 47 (dr b adT cT)::L)) (min k 256) (⟨0,[],λ_=>false,none,0,⟨rfl,by omega,rfl,by decide,λ_ _=>rfl,λh=>by omega⟩,E.ab [2,3,7,8,9,10,11],I.bR 5 1 none⟩) ?_;clear E I;rintro μ a w ⟨j,out,t,ad2,c2,⟨rfl,hj,dO,MT,hj0,zq⟩,E,I⟩;refine BY 7 E I (λdk a E=>?_) λdk a E=>?_
 ·
  refine IF 4 E I (λbj a E=>?_) λbj a E=>?_
  ·
   refine RN 5 E I λa E=>?_;refine aQ (λμ a w=>∃ (i:Nat) (fQ:Int),(μ=256-i∧i≤256∧km (gJ b past) ((iv past).toNat:Nat) (tJ b past) t (decide (j=0)) i fQ)∧Fr a 86 [(2,.int .i64 k),(3,pt b3),(7,pt dv),(8,.int .i64 ((iv past).toNat:Nat)),(9,.int .i64 (tJ b past)),(10,pt iJ),(11,.slice ad2 out.length c2),(12,.int .i64 fQ),(13,.int .i64 i)]∧U W w (Sl 5 1 ad2 out.length c2 (bc out)::aa iJ 322 (tK t)::aa dv 320 (ints .i64 256 (gJ b past))::aa b3 47 (dr b adT cT)::L)) (256) (⟨0, -1,⟨rfl,by omega,km.start⟩,E.ab [2,3,7,8,9,10,11,12,13],I⟩) ?_;clear E I;rintro μ a w ⟨i,fQ,⟨rfl,hi,Ca⟩,E,I⟩;refine IF 4 E I (λbO a E=>?_) λbO a E=>?_
   ·
    have B8:i<256:=by omega
    have oY:decide (j=0)=true→∀ v,t v=false:=λh=>hj0 (by simpa using h);refine RN 4 E I λa E=>?_;refine SS E (ae E (I.bz (aag B8))) λa E=>?_;refine BY 2 E I (λdk a E=>?_) λdk a E=>?_
    ·
     refine BY 3 E I (λiN a E=>?_) λiN a E=>?_
     ·
      refine RN 14 E I λa E=>?_;exact⟨256-(i+1),by omega,i+1,i,⟨rfl,by omega,Ca.take iN dk oY⟩,E.ab [2,3,7,8,9,10,11,12,13],I⟩
     obtain⟨u,rfl,hu⟩:=Ca.nat (by omega);refine CL 5 E I (aal I B8 (by omega)) λa w E I=>?_;refine IF 2 E I (λeZ a E=>?_) λeZ a E=>?_
     ·
      refine RN 5 E I λa E=>?_;exact⟨256-(i+1),by omega,i+1,i,⟨rfl,by omega,km.up hu eZ dk⟩,E.ab [2,3,7,8,9,10,11,12,13],I⟩
     refine RN 3 E I λa E=>?_;exact⟨256-(i+1),by omega,i+1,u,⟨rfl,by omega,km.ab hu eZ⟩,E.ab [2,3,7,8,9,10,11,12,13],I⟩
    refine RN 15 E I λa E=>?_;exact⟨256-(i+1),by omega,i+1,fQ,⟨rfl,by omega,Ca.skip dk oY⟩,E.ab [2,3,7,8,9,10,11,12,13],I⟩
   obtain rfl:i=256:=by omega
   obtain⟨u,rfl,hu6,htu,GI⟩:=Ca.GH (by omega);refine ST 3 E I (λa w E I=>?_) (hlt:=(by rw[aaf];omega));rw[aah]at I;refine SX 2 E I (by rw[wrap_u8];omega) λa E=>?_;rw[show ((u:Nat):Int)=((UInt8.ofNat u).toNat:Int) from by rw[UInt8.toNat_ofNat'];omega]at E;refine RN 0 E I λa E=>?_;refine cn E rfl I underlying22 Ty.t5 rfl rfl rfl rfl (by decide) (by decide) λb83 a w E I ho=>?_;clear ho;refine RN 0 E I λa E=>?_;refine cK E rfl I underlying22 Ty.t5 rfl rfl I.ai rfl (eF [UInt8.ofNat u]) (by decide) (by decide) (by omega) λaam c84 a w E I=>?_;rw[show bc out++_=bc (out++[UInt8.ofNat u]) from (fR _ [_]).symm,show out.length+1=(out++[UInt8.ofNat u]).length from by simp]at I;rw[show out.length+1=(out++[UInt8.ofNat u]).length from by simp]at E;refine RN 1 E I λa E=>?_;exact⟨min k 256-(j+1),by omega,j+1,out++[UInt8.ofNat u],_,aam,c84,⟨rfl,by omega,by rw[aN,dO];rfl,by rw[MR htu,MT,ak hu6],λh=>by omega,λ_=>by
    rcases lD j with h0 | h0
    ·rw[hG (l:=out) (by omega),GI (dp h0),aae hb];simp
    ·rw[mv (by omega)];exact zq (by omega)⟩,E.ab [2,3,7,8,9,10,11],I.sub⟩
  refine RT 3 E I ?_;exact⟨ad2,c2,out,rfl,⟨by omega,zq (by omega)⟩,I.sub⟩
 refine RT 8 E I ?_;exact⟨ad2,c2,out,rfl,⟨by omega,zq (by omega)⟩,I.sub⟩
theorem aan (I:U W w L)(hb:cY b)(eO:past.length≤1001)(j6:past.length≤c)(hn:m≤1000)(hp:∀ V,U W V L→aL V ad past.length past)(ht:∀ V,U W V L→aL V adT b.table.length b.table) :
   Calls prog 161 #[.agg (dr b adT cT).toArray,.slice ad past.length c,.int .i64 m] w λe V=>∃ au c',e=.returned (.slice au m c')∧U W V (Sl 5 1 au m c' (bc (kh b past m))::L):=by
 refine EN func161 ntmps161 rfl rfl λa E=>?_;refine BX 1 E I λb3 a w E I=>?_;change U W w (aa b3 47 (dr b adT cT)::_) at I;refine aW 4 E I (B9 I) λr a w E ⟨hr,I⟩=>?_;rw[hr.2 hb]at E;refine RN 1 E I λa E=>?_;replace E:=E.aK 13;refine RN 2 E I λa E=>?_;replace I:=I.bR 5 1 none;refine RN 1 E I λa E=>?_;refine g3 E rfl I underlying22 Ty.t5 rfl rfl (by decide) (λh0=>(hp _ I.tail.tail).get h0) (by rw[dt];omega) (eF _) (by omega) λLK LL a w E I=>?_;rw[nil_append,ep]at I;rw[ep]at E;refine RN 6 E I λa E=>?_;refine aQ (λμ a w=>∃ (i:Nat) (ad2:Option Addr) (c2:Nat) (fy:Option Addr) (db:Nat),(μ=m-i∧i≤m)∧Fr a 41 [(2,.int .i64 m),(3,pt b3),(7,.slice ad2 (ey b past i).length c2),(8,.slice fy i db),(9,.int .i64 i)]∧U W w (Sl 5 1 fy i db (bc (kh b past i))::Sl 5 1 ad2 (ey b past i).length c2 (bc (ey b past i))::aa b3 47 (dr b adT cT)::L)) (m) (⟨0,LK,LL,none,0,⟨rfl,by omega⟩,E.ab [2,3,7,8,9],by
  have h1:kh b past 0=[]:=hG (F3 b past 0);rw[h1];exact I.bR 5 1 none⟩) ?_
 clear E I;rintro μ a w ⟨i,ad2,c2,fy,db,⟨rfl,hi⟩,E,I⟩;refine BY 6 E I (λbE a E=>?_) λbE a E=>?_
 ·
  refine RN 3 E I λa E=>?_;rw[dp (by omega)]at E;refine RN 3 E I λa E=>?_;have cm:=iw b past i;have GF:=(I.sl ad2).2;have him:i<m:=by omega
  refine j1 2 E I (MS (past:=ey b past i) (k:=1) I hb (by decide) (by omega) GF (λV hw=>hw.cr ad2 (ey b past i) rfl rfl) (λV hw=>ht V hw.tail.tail.tail)) λr0 oW out a w E ⟨⟨dO,ho0⟩,I⟩=>?_;refine RN 1 E I λa E=>?_;obtain⟨x,rfl⟩:∃ x,out=[x]:=by
   match out,dO with
   | [x],_=>exact⟨x,rfl⟩
  obtain rfl:x=nv b (ey b past i):=by simpa using ho0
  obtain⟨gv,or',rfl,jh⟩:=I.bY r0 (by simp);refine SX 3 E I (by simp) λa E=>?_;refine RN 0 E I λa E=>?_;refine SS E (ae E (jh 0 _ rfl)) λa E=>?_;refine RN 0 E I λa E=>?_;refine cn E rfl I underlying22 Ty.t5 rfl rfl rfl rfl (by decide) (by decide) λgK a w E I ho=>?_;clear ho;refine RN 0 E I λa E=>?_;refine cK E rfl I underlying22 Ty.t5 rfl rfl I.ai rfl (eF [nv b (ey b past i)]) (by decide) (by decide) (by omega) λGJ GK a w E I=>?_;rw[show bc (ey b past i)++_=bc (ey b past (i+1)) from (fR _ [_]).symm,show (ey b past i).length+1=(ey b past (i+1)).length from by rw[iw,iw];omega]at I;rw[show (ey b past i).length+1=(ey b past (i+1)).length from by rw[iw,iw];omega]at E;refine RN 1 E I λa E=>?_;replace jh:=I.cJ gv or' (by simp);refine SX 2 E I (by simp) λa E=>?_;refine RN 0 E I λa E=>?_;refine SS E (ae E (jh 0 _ rfl)) λa E=>?_;refine RN 0 E I λa E=>?_;refine cn E rfl I underlying22 Ty.t5 rfl rfl rfl rfl (by decide) (by decide) λb38 a w E I ho=>?_;clear ho;refine RN 0 E I λa E=>?_;refine cK E rfl I underlying22 Ty.t5 rfl rfl I.ai rfl (eF [nv b (ey b past i)]) (by decide) (by decide) (by omega) λaao c39 a w E I=>?_;rw[show bc (kh b past i)++_=bc (kh b past (i+1)) from by rw[Zo,u9];exact (fR _ [_]).symm]at I;refine RN 4 E I λa E=>?_;exact⟨m-(i+1),by omega,i+1,GJ,GK,aao,c39,⟨rfl,by omega⟩,E.ab [2,3,7,8,9],I.sub⟩
 refine RT 7 E I ?_;obtain rfl:i=m:=by omega
 exact⟨_,_,rfl,I.sub⟩
end
end
section
def xr (to:Nat)(l x:List UInt8):Prop:=(∃ t,x=l++t)∧to≤x.length∧x.length≤1001
def nB (X:List (List UInt8))(front to:Nat):List (List UInt8):=(List.range (to-front)).map λi=>bM X (front+i)
theorem xt (b:Gs)(ls:List (List UInt8))(to:Nat):nB (ji b ls to) (aV ls) to=dx b ls to:=rfl
theorem Cb (X:List (List UInt8))(front to:Nat):(nB X front to).length=to-front:=by simp[nB]
structure zr (to:Nat)(ls X:List (List UInt8)):Prop where
 len:X.length=ls.length
 fit:∀ (j:Nat) (l x:List UInt8),ls[j]?=some l→X[j]?=some x→xr to l x
theorem aap {b:Gs}{l:List UInt8}{to:Nat}(h:l.length≤1000)(h2:to≤1000):xr to l (n0 b l to):=by
 refine⟨⟨kh b l (to-l.length),?_⟩,Zq b l to,?_⟩
 ·rw[n0,u9]
 ·rw[n0,iw];omega
theorem MU {b:Gs}{l:List UInt8}{to:Nat}(h:to≤l.length):n0 b l to=l:=by rw[n0,show to-l.length=0 from by omega];rfl
structure xu:Prop where
 aaq:∀ {W w:World} {L:List SP} {c k cT:Nat} {ad adT:Option Addr} {past:List UInt8} {b:Gs},U W w L→cY b→(1≤k∧k≤256)→past.length≤1000→past.length≤c→(∀ V,U W V L→aL V ad past.length past)→(∀ V,U W V L→aL V adT b.table.length b.table) →
 Calls prog 310 #[.agg (dr b adT cT).toArray,.slice ad past.length c,.int .i64 k] w λe V=>∃ (au:Option Addr) (c':Nat) (out:List UInt8),e=.returned (.slice au out.length c')∧out.length=k∧U W V (Sl 5 1 au out.length c' (bc out)::L)
section
variable {W w:World}{L:List SP}{c m cT to r:Nat}{ad adT:Option Addr}{past:List UInt8}{b:Gs}
set_option maxHeartbeats 1000000 in
theorem aar (sr:r=0∨xu)(hr:r≤100000)(I:U W w (Sl 5 1 ad past.length c (bc past)::L))(hb:cY b)(eO:past.length≤1000)(tG:to≤1000)(ht:∀ V,U W V L→aL V adT b.table.length b.table) :
   Calls prog 294 #[.slice ad past.length c,.agg (dr b adT cT).toArray,.int .i64 r,.int .i64 to] w λe V=>∃ (au:Option Addr) (c':Nat) (x:List UInt8),e=.returned (.slice au x.length c')∧(xr to past x∧(r=0→x=n0 b past to)) ∧
    U W V (Sl 5 1 au x.length c' (bc x)::L):=by
 have j6:=(I.sl ad).2;refine EN func294 ntmps294 rfl rfl λa E=>?_;refine BX 1 E I λb5 a w E I=>?_;change U W w (aa b5 186 (dr b adT cT)::_) at I;refine IF 7 E I (λaj a E=>?_) λaj a E=>?_
 ·
  refine RT 3 E I ?_;exact⟨ad,c,past,rfl,⟨⟨⟨[],by simp⟩,by omega,by omega⟩,λ_=>(MU (by omega)).symm⟩,I.tail⟩
 refine RN 0 E I λa E=>?_;refine cc (M:=λa w=>∃ (ad2:Option Addr) (c2:Nat) (y:List UInt8),((∃ t,y=past++t)∧y.length≤past.length+1∧past.length<to∧(r=0→y=past))∧Fr a 48 [(0,.slice ad2 y.length c2),(3,.int .i64 to),(5,pt b5)]∧U W w (Sl 5 1 ad2 y.length c2 (bc y)::aa b5 186 (dr b adT cT)::L)) ?_ ?_
 ·
  refine SX 2 E I (by decide) λa E=>?_;rw[show ((r:Nat):Int).tmod 256=((r%256:Nat):Int) from ot _ 256]at E;refine RN 1 E I λa E=>?_;have sa:r%256<256:=Nat.mod_lt _ (by decide);generalize l9:r%256=r6 at E sa;refine IF 3 E I (λao a E=>?_) λao a E=>?_
  ·
   have hRk:=sr.resolve_left (λh=>by rw[h]at l9;omega);have hp0:=I.drew.tail.tail;refine bW 0 [] [0,1,2,3,4,5,7,8,9,11,1006,1010,12,1013,1014,1015,16] E I λa w E I hH hC=>?_;refine RH 5 E I hH hC λa E=>?_;refine QP E (λw=>DT E underlying22 Ty.t5 (bh _) (by omega)) λa E=>?_;rw[pB]at E;refine RH 3 E I hH hC λa E=>?_;rw[show ((r6:Nat):Int)+1=((r6+1:Nat):Int) from by omega]at E;refine RH 2 E I hH hC λa E=>?_;refine j1 0 E I (hRk.aaq I hb (by omega) eO j6 (λV hw=>hw.tail.cr ad past rfl rfl) (λV hw=>ht V hw.tail.tail)) λr0 oW out a w E ⟨dO,I⟩=>?_;obtain⟨gv,or',rfl,jh⟩:=I.bY r0 (by omega);refine RN 1 E I λa E=>?_;refine SS E (ae E (jh r6 _ (dQ (by omega)))) λa E=>?_;refine RN 0 E I λa E=>?_;refine cn E rfl I underlying22 Ty.t5 rfl rfl rfl rfl (by decide) (by decide) λgK a w E I ho=>?_;clear ho;replace I:=I.I7 ad past.length (bh _);rw[pB,fD,fO (by rw[dt];exact bh _)]at I;refine RN 0 E I λa E=>?_;refine cK E rfl I underlying22 Ty.t5 rfl rfl I.ai rfl (eF [out[r6]]) (by decide) (by decide) (by omega) λGJ GK a w E I=>?_;rw[show bc past++_=bc (past++[out[r6]]) from (fR _ [_]).symm,show past.length+1=(past++[out[r6]]).length from by simp]at I;rw[show past.length+1=(past++[out[r6]]).length from by simp]at E;refine RN 1 E I λa E=>?_;exact⟨GJ,GK,past++[out[r6]],⟨⟨_,rfl⟩,by simp,by omega,λh=>by rw[h]at l9;omega⟩,E.ab [0,3,5],I.sub⟩
  have agc:r6=0:=by omega
  refine RN 0 E I λa E=>?_;exact⟨ad,c,past,⟨⟨[],by simp⟩,by omega,by omega,λ_=>rfl⟩,E.ab [0,3,5],I.sub⟩
 clear E;(try clear I);rintro a w ⟨ad2,c2,y,⟨ib,kE,hy4,nC⟩,E,I⟩;refine RN 1 E I λa E=>?_;have iS:y.length≤to:=by omega
 have o6:=(I.sl ad2).2;refine bW 0 [] [0,1,2,3,4,5,7,8,9,10,11,1006,1012,1013,14] E I λa w E I hH hC=>?_;refine RH 5 E I hH hC λa E=>?_;refine QP E (λw=>DT E underlying22 Ty.t5 (bh _) (by omega)) λa E=>?_;rw[pB]at E;refine RH 5 E I hH hC λa E=>?_;rw[show ((to:Nat):Int)-((y.length:Nat):Int)=((to-y.length:Nat):Int) from by omega]at E;refine RH 1 E I hH hC λa E=>?_;refine aX 0 E I (aad (to:=0) (past:=y) (m:=to-y.length) I hb (by omega) o6 (by omega) (λV hw=>hw.cr ad2 y rfl rfl) (λV hw=>ht V hw.tail.tail)) λadc aas a w E I=>?_;replace I:=I.I7 ad2 y.length (bh _);rw[pB,fD,fO (by rw[dt];exact bh _)]at I;have GL:=F3 b y (to-y.length);refine RN 0 E I λa E=>?_;refine g3 E rfl I underlying22 Ty.t5 rfl rfl (by decide) (λh0=>(I.tail.cr adc (kh b y (to-y.length)) rfl GL).get h0) (by rw[dt];omega) (eF _) (by omega) λp1 r9 a w E I=>?_;rw[← fR,u9,show y.length+(to-y.length)=(ey b y (to-y.length)).length from by rw[iw]]at I;rw[show y.length+(to-y.length)=(ey b y (to-y.length)).length from by rw[iw]]at E;refine RN 1 E I λa E=>?_;refine RT 0 E I ?_;obtain⟨t,GM⟩:=ib;refine⟨p1,r9,_,rfl,⟨⟨⟨t++kh b y (to-y.length),?_⟩,by rw[iw];omega,by rw[iw];omega⟩,λh=>?_⟩,I.sub⟩
 ·rw[← u9,GM,dA]
 ·rw[nC h,n0]
set_option maxHeartbeats 1000000 in
theorem GN {qb:Nat}{aB:List Nat}{ls:List (List UInt8)}(sr:r=0∨xu)(hr:r≤100000)(I:U W w (Qu qb aB ls::L))(hb:cY b)(h0:ls≠[])(h8:ls.length≤8)(hl:∀ l∈ls,l.length≤1000)(tG:to≤1000)(ht:∀ V,U W V L→aL V adT b.table.length b.table) :
   Calls prog 277 #[pt qb,.agg (dr b adT cT).toArray,.int .i64 r,.int .i64 to] w λe V=>∃ (au:Option Addr) (c':Nat) (X:List (List UInt8)),e=.returned (.slice au (to-aV ls) c')∧(zr to ls X∧(r=0→X=ji b ls to)) ∧
    U W V (cd au (to-aV ls) c' (nB X (aV ls) to)::Qu qb aB ls::L):=by
 refine EN func277 ntmps277 rfl rfl λa E=>?_;refine BX 1 E I λb5 a w E I=>?_;change U W w (aa b5 186 (dr b adT cT)::_) at I;refine RN 6 E I λa E=>?_;replace E:=E.aK 21;refine aW 1 E I (zp I) λrr a w E ⟨jh,I⟩=>?_;rw[jh.2 hb]at E;refine RN 3 E I λa E=>?_;replace E:=E.aK 26;refine RN 4 E I λa E=>?_;rw[bn (by omega)]at E;refine RN 3 E I λa E=>?_;rw[bn (by omega)]at E;refine CL 3 E I (sf (I.pick (Qu qb aB ls)) h0 h8) λa w E I=>?_;refine CL 6 E I (F4 I) λa w E I=>?_;refine RN 1 E I λa E=>?_;replace I:=I.bR 22 1 none;replace I:=U.iZ (f:=ba) I;refine aQ (λμ a w=>∃ (i:Nat) (rr:Nat) (xs:List ef) (n2:Option Addr) (dc:Nat),(μ=ls.length-i∧i≤ls.length∧xs.length=i∧(rr=0∨xu)∧rr≤100000∧(r=0→rr=0)∧(∀ (j:Nat) (l:List UInt8) (x:ef),ls[j]?=some l→xs[j]?=some x→xr to l x.2.2)∧(r=0→xs.map (·.2.2)=(ji b ls to).take i))∧Fr a 84 [(0,pt qb),(2,.int .i64 rr),(3,.int .i64 to),(5,pt b5),(9,.int .i64 (aV ls)),(10,.slice n2 i dc),(37,.int .i64 ls.length),(38,.int .i64 i)]∧U W w (Sl 22 1 n2 i dc (xs.map aM)::ah ba xs::Qu qb aB ls::aa b5 186 (dr b adT cT)::L)) (ls.length) (⟨0,r,[],none,0,⟨rfl,by omega,rfl,sr,hr,λh=>h,λj l x _ h=>by simp at h,λ_=>rfl⟩,E.ab [0,2,3,5,9,10,37,38],(I.sub:U W w (Sl 22 1 none 0 0 []::ah ba []::Qu qb aB ls::aa b5 186 (dr b adT cT)::L))⟩) ?_;clear E I;rintro μ a w ⟨i,rr,xs,n2,dc,⟨rfl,hi,b0,MV,MW,MX,nI,vl⟩,E,I⟩;refine IF 3 E I (λao a E=>?_) λao a E=>?_
 ·
  have aF:i<ls.length:=by omega
  have hlt:=hl _ (vb aF);refine CL 7 E I (tC (I.pick (Qu qb aB ls)) aF) λa w E I=>?_;refine aX 0 E I (ZA I aF hlt) λcX dU a w E I=>?_;refine RN 3 E I λa E=>?_;refine cc (M:=λa w=>∃ k xv:Nat,((k=0∨xu)∧k≤100000∧(xv=0∨xu)∧xv≤100000∧(r=0→k=0∧xv=0))∧Fr a 84 [(0,pt qb),(2,.int .i64 xv),(3,.int .i64 to),(5,pt b5),(9,.int .i64 (aV ls)),(10,.slice n2 i dc),(12,.slice cX (ls.getD i []).length dU),(13,.int .i64 k),(37,.int .i64 ls.length),(38,.int .i64 i)]∧U W w (Sl 5 1 cX (ls.getD i []).length dU (bc (ls.getD i []))::Sl 22 1 n2 i dc (xs.map aM)::ah ba xs::Qu qb aB ls::aa b5 186 (dr b adT cT)::L)) ?_ ?_
  ·
   refine IF 5 E I (λay a E=>?_) λay a E=>?_
   ·
    refine RN 3 E I λa E=>?_;exact⟨rr,0,⟨MV,MW,.inl rfl,by omega,λh=>⟨MX h,rfl⟩⟩,E.ab [0,2,3,5,9,10,12,13,37,38],I.sub⟩
   refine RN 0 E I λa E=>?_;exact⟨0,rr,⟨.inl rfl,by omega,MV,MW,λh=>⟨rfl,MX h⟩⟩,E.ab [0,2,3,5,9,10,12,13,37,38],I.sub⟩
  clear E;(try clear I);rintro a w ⟨k,xv,⟨gZ,ca,mC,oS,MY⟩,E,I⟩;refine j1 5 E I (aar gZ ca I hb hlt tG (λV hw=>ht V hw.tail.tail.tail.tail)) λg7 cl x a w E ⟨⟨hfx,GI⟩,I⟩=>?_;refine RN 0 E I λa E=>?_;refine cn E rfl I underlying207 Ty.t22 rfl rfl rfl rfl (by decide) (by decide) λYT a w E I ho=>?_;clear ho;refine RN 0 E I λa E=>?_;refine cK E rfl I underlying207 Ty.t22 rfl rfl I.ai rfl (by simp[Value.oneCell']) (by decide) (by decide) (by omega) λFQ FR a w E I=>?_;rw[show List.map aM xs++_=List.map aM (xs++[(g7,cl,x)]) from by rw[cS];rfl]at I;refine RN 3 E I λa E=>?_;have cI:=U.jY (f:=ba) (x:=(g7,cl,x)) (I.sub (M:=Sl 5 1 g7 x.length cl (bc x)::ah ba xs::Sl 22 1 FQ (i+1) FR ((xs++[(g7,cl,x)]).map aM)::Qu qb aB ls::aa b5 186 (dr b adT cT)::L));refine⟨ls.length-(i+1),by omega,i+1,xv,xs++[(g7,cl,x)],FQ,FR,⟨rfl,by omega,by rw[aN,b0];rfl,mC,oS,λh=>(MY h).2,λj l y hj hy=>?_,λh=>?_⟩,E.ab [0,2,3,5,9,10,37,38],cI.sub⟩
  ·by_cases gP:j<i
   ·rw[mv (by omega)]at hy;exact nI j l y hj hy
   ·have ea:=(aZ.1 hy).1;rw[aN,jC]at ea;obtain rfl:j=i:=by omega
    rw[pn (by omega),b0,Nat.sub_self]at hy;obtain rfl:(g7,cl,x)=y:=by simpa using hy
    rw[show l=ls.getD j [] from by rw[bl,hj];rfl];exact hfx
  ·rw[cS,vl h,jv (by rw[ji,bf];exact aF)]
   congr 1
   rw[map_singleton,GI (MY h).1];simp[ji,bl,aF]
 obtain rfl:i=ls.length:=by omega
 have iu:zr to ls (xs.map (·.2.2)):=⟨by rw[bf];exact b0,λj l x hj hx=>by
  rw[bm]at hx;obtain⟨y,hy,rfl⟩:=rC.1 hx;exact nI j l y hj hy⟩
 have mU:r=0→xs.map (·.2.2)=ji b ls to:=λh=>by rw[vl h,fO (by rw[ji,bf];exact bh _)]
 clear nI vl;have fA:aV ls≤1000:=by
  obtain⟨l,k7,mF⟩:=BM h0;rw[mF];exact hl l k7
 refine RN 6 E I λa E=>?_;replace I:=I.bR 22 1 none;replace I:=U.iZ (f:=ba) I;refine aQ (λμ a w=>∃ (d:Nat) (zs:List ef) (mV:Option Addr) (mW:Nat),(μ=to-aV ls-d∧d≤to-aV ls∧zs.map (·.2.2)=(List.range d).map λi=>bM (xs.map (·.2.2)) (aV ls+i))∧Fr a 84 [(3,.int .i64 to),(10,.slice n2 ls.length dc),(14,.slice mV d mW),(15,.int .i64 (aV ls+d:Nat))]∧U W w (Sl 22 1 mV d mW (zs.map aM)::ah ba zs::Sl 22 1 n2 ls.length dc (xs.map aM)::ah ba xs::Qu qb aB ls::L)) (to-aV ls) (⟨0,[],none,0,⟨rfl,by omega,rfl⟩,by rw[Nat.add_zero];exact E.ab [3,10,14,15],(I.sub:U W w (Sl 22 1 none 0 0 []::ah ba []::Sl 22 1 n2 ls.length dc (xs.map aM)::ah ba xs::Qu qb aB ls::L))⟩) ?_;clear E I;rintro μ a w ⟨d,zs,mV,mW,⟨rfl,hd,tL⟩,E,I⟩;refine IF 5 E I (λbj a E=>?_) λbj a E=>?_
 ·
  refine RN 3 E I λa E=>?_;replace I:=I.bR 5 1 none;refine RN 5 E I λa E=>?_;refine aQ (λμ a w=>∃ (i:Nat) (iT:Option Addr) (jj:Nat),(μ=ls.length-i∧i≤ls.length)∧Fr a 84 [(3,.int .i64 to),(10,.slice n2 ls.length dc),(14,.slice mV d mW),(15,.int .i64 (aV ls+d:Nat)),(16,.slice iT i jj),(65,.slice n2 ls.length dc),(66,.int .i64 ls.length),(67,.int .i64 i)]∧U W w (Sl 5 1 iT i jj (bc (fF (xs.map (·.2.2)) (aV ls+d) i))::Sl 22 1 mV d mW (zs.map aM)::ah ba zs::Sl 22 1 n2 ls.length dc (xs.map aM)::ah ba xs::Qu qb aB ls::L)) (ls.length) (⟨0,none,0,⟨rfl,by omega⟩,E.ab [3,10,14,15,16,65,66,67],I⟩) ?_;clear E I;rintro μ a w ⟨i,iT,jj,⟨rfl,hi⟩,E,I⟩;refine IF 3 E I (λbO a E=>?_) λbO a E=>?_
  ·
   have aF:i<ls.length:=by omega
   obtain⟨x,hx⟩:∃ x,xs[i]?=some x:=⟨_,aD (by omega)⟩;have Cc:=U.mB (xs:=xs) (I.sub (M:=Sl 22 1 n2 ls.length dc (xs.map aM)::ah ba xs::[]));obtain⟨kK,ox,rfl,eS⟩:=Cc.1 (by omega);have zt:=iu.fit i _ x.2.2 (aD aF) (by rw[bm,hx];rfl);obtain⟨lz,ol,gX,ia⟩:=(Cc.2 x (bH hx)).get (by have:=zt.2.1;omega);refine RN 3 E I λa E=>?_;refine SS E (ae E (eS i (aM x) (by rw[bm,hx];rfl))) λa E=>?_;refine RN 4 E I λa E=>?_;rw[aM,gX]at E;refine SX 0 E I (by have:=zt.2.1;omega) λa E=>?_;refine RN 0 E I λa E=>?_;refine SS E (ae E (ia (aV ls+d) _ (ll (by have:=zt.2.1;omega)))) λa E=>?_;refine RN 0 E I λa E=>?_;refine cn E rfl I underlying22 Ty.t5 rfl rfl rfl rfl (by decide) (by decide) λb76 a w E I ho=>?_;clear ho;refine RN 0 E I λa E=>?_;refine cK E rfl I underlying22 Ty.t5 rfl rfl I.ai rfl (eF [x.2.2.getD (aV ls+d) 0]) (by decide) (by decide) (by omega) λaat c77 a w E I=>?_;rw[show bc (fF (xs.map (·.2.2)) (aV ls+d) i)++_=bc (fF (xs.map (·.2.2)) (aV ls+d) (i+1)) from by rw[BO (by rw[bf];omega),getElem_map,fR,(aZ.1 hx).2]]at I;refine RN 3 E I λa E=>?_;exact⟨ls.length-(i+1),by omega,i+1,aat,c77,⟨rfl,by omega⟩,E.ab [3,10,14,15,16,65,66,67],I.sub⟩
  obtain rfl:i=ls.length:=by omega
  have ea:fF (xs.map (·.2.2)) (aV ls+d) ls.length=bM (xs.map (·.2.2)) (aV ls+d):=by
   conv=>lhs;rw[← iu.len]
   exact BN _ _
  rw[ea]at I;have qz:(bM (xs.map (·.2.2)) (aV ls+d)).length=ls.length:=by rw[nu];exact iu.len
  refine RN 2 E I λa E=>?_;refine cn E rfl I underlying207 Ty.t22 rfl rfl rfl rfl (by decide) (by decide) λb81 a w E I ho=>?_;clear ho;refine RN 0 E I λa E=>?_;refine cK E rfl I underlying207 Ty.t22 rfl rfl I.ai rfl (by simp[Value.oneCell']) (by decide) (by decide) (by omega) λMZ M0 a w E I=>?_;rw[show List.map aM zs++_=List.map aM (zs++[(iT,jj,bM (xs.map (·.2.2)) (aV ls+d))]) from by rw[cS,map_singleton,aM,qz];rfl]at I;refine RN 4 E I λa E=>?_;have cI:=U.jY (f:=ba) (x:=(iT,jj,bM (xs.map (·.2.2)) (aV ls+d))) (by
   rw[ba,qz];exact I.sub (M:=Sl 5 1 iT ls.length jj (bc (bM (xs.map (·.2.2)) (aV ls+d)))::ah ba zs::Sl 22 1 MZ (d+1) M0 ((zs++[(iT,jj,bM (xs.map (·.2.2)) (aV ls+d))]).map aM)::Sl 22 1 n2 ls.length dc (xs.map aM)::ah ba xs::Qu qb aB ls::L))
  exact⟨to-aV ls-(d+1),by omega,d+1,zs++[(iT,jj,bM (xs.map (·.2.2)) (aV ls+d))],MZ,M0,⟨rfl,by omega,by rw[cS,tL,range_succ,cS];rfl⟩,by rw[show ((aV ls+(d+1):Nat):Int)=((aV ls+d:Nat):Int)+1 from by omega];exact E.ab [3,10,14,15],cI.sub⟩
 obtain rfl:d=to-aV ls:=by omega
 refine RT 3 E I ?_;exact⟨mV,mW,xs.map (·.2.2),rfl,⟨iu,mU⟩,cd.close (xs:=zs) (I.sub (M:=Sl 22 1 mV (to-aV ls) mW (zs.map aM)::ah ba zs::Qu qb aB ls::L)) tL (Cb _ _ _)⟩
end
end
section
structure jk where
 pb:Nat
 core:p6
 an:Option Addr
 cO:Nat
 adT:Option Addr
 cT:Nat
 gs:Gs
abbrev gB (p:Pr)(B:jk)(g:Nat→Int):List Value:=[pt B.core.cb,.string p.title,.slice B.an p.ops.length B.cO,.int .i64 B.gs.kind,.int .i64 B.gs.order,.slice B.adT B.gs.table.length B.cT]++ints .i32 32 g
theorem M1 {w:World}{b:Nat}{p:Pr}{B:jk}{g:Nat→Int}(h:Rd w b 0 (gB p B g)):Rd w b 1 (bx p B.an B.cO):=h.part 1 2
theorem M3 {w:World}{b:Nat}{p:Pr}{B:jk}{g:Nat→Int}(h:Rd w b 0 (gB p B g)):Rd w b 3 (dr B.gs B.adT B.cT):=h.part 3 3
theorem zu {w:World}{b:Nat}{p:Pr}{B:jk}{g:Nat→Int}(h:Rd w b 0 (gB p B g)):Rd w b 6 (ints .i32 32 g):=by
 have h1:=h.part 6 32
 rwa [show ((gB p B g).drop 6).take 32=ints .i32 32 g from by
  show (ints .i32 32 g).take 32=_;exact fO (by rw[di];exact bh _)]at h1
theorem M4 (p:Pr)(B:jk)(g:Nat→Int):(gB p B g).length=38:=by rw[gB,aN,di];rfl
theorem aau (p:Pr)(B:jk)(g g':Nat→Int):cD (gB p B g) 6 (ints .i32 32 g')=gB p B g':=by
 rw[cD,di,drop_eq_nil_of_le (by rw[M4];exact bh _),append_nil,gB,gB]
 congr 1
def aP (W:World)(B:jk)(p:Pr)(s:Pl):SP:=λh=>cp [aa B.pb 192 (gB p B s.g),aA B.core s.k,az W p B.an B.cO,Sl 5 1 B.adT B.gs.table.length B.cT (bc B.gs.table)] h
def fH (p:Pr)(gs:Gs)(s:Pl):List UInt8×Nat:=if aH s.k≤aw s.k then lR s else (gw (foldI p (aw s.k) s.g (dx gs s.k.ls (aH s.k))),aH s.k)
section
variable {W w:World}{L R:List SP}{n c i:Nat}{ad:Option Addr}{B:jk}{x:UInt8}{p:Pr}{s:Pl}{bs:List UInt8}
theorem aP.open (I:U W w (aP W B p s::L)):U W w (aa B.pb 192 (gB p B s.g)::aA B.core s.k::az W p B.an B.cO::Sl 5 1 B.adT B.gs.table.length B.cT (bc B.gs.table)::L) :=
 I.open (M:=[_,_,_,_]) λ_ h=>h
theorem aP.close (I:U W w (aa B.pb 192 (gB p B s.g)::aA B.core s.k::az W p B.an B.cO::Sl 5 1 B.adT B.gs.table.length B.cT (bc B.gs.table)::L)):U W w (aP W B p s::L) :=
 U.shut (M:=[_,_,_,_]) I λ_ h=>h
theorem aP.fold (I:U W w L)(B:jk)(p:Pr)(s:Pl)[kk:fN L [aa B.pb 192 (gB p B s.g),aA B.core s.k,az W p B.an B.cO,Sl 5 1 B.adT B.gs.table.length B.cT (bc B.gs.table)] R]:U W w (aP W B p s::R):=aP.close (I.perm kk.perm)
theorem n3 (I:U W w (aP W B p s::L)):Calls prog 178 #[pt B.pb] w λr V=>r=.returned (pt B.core.cb)∧U W V (aP W B p s::L):=by
 replace I:=aP.open I;refine EN func178 ntmps178 rfl rfl λa E=>?_;refine RN 6 E I λa E=>?_;replace E:=E.aK 4;refine RT 7 E I ?_;exact⟨rfl,aP.close I⟩
theorem GO (I:U W w (aP W B p s::L))(hw:WP p s)(a7:dq p)(aE:p.title.size≤1000000000):Calls prog 99 #[pt B.pb] w λr V=>r=.returned (.tuple #[])∧U W V (aP W B p (eL p s)::L):=by
 refine EN func99 ntmps99 rfl rfl λa E=>?_;refine RN 0 E I λa E=>?_;refine aQ (λμ a w=>∃ (i:Nat),(μ=aw s.k-s.k.mr.length-i∧i≤aw s.k-s.k.mr.length)∧Fr a 56 [(0,pt B.pb)]∧U W w (aP W B p (iy p i s)::L)) (aw s.k-s.k.mr.length) (⟨0,⟨rfl,by omega⟩,E.ab [0],I⟩) ?_;clear E I;rintro μ a w ⟨i,⟨rfl,hi⟩,E,I⟩;obtain⟨kn,eD,mA⟩:=hw.qU i hi;have fl:iy p (i+1) s=n1 p (iy p i s):=F8 p i s;have D5:=hw.low;have wy:aw (iy p i s).k=aw s.k:=by rw[aw,eD];rfl
 generalize GP:iy p i s=si at I kn eD mA fl wy;replace I:=aP.open I;have bT:=kn.wc.lr;have iQ:si.k.ls.length≤8:=by rw[kn.wc.ls];exact kn.wc.n.2
 have aav:aw si.k≤1000:=gC kn.wc.ny kn.wc.lO;refine a1 2 (λw0 V=>V.cell? ⟨B.pb,0,none⟩=some (pt B.core.cb)) [4,8] [0,1,2,5,6,7,3003,3008,1004,1009,1010,11] E I λa w E I hH=>?_;have hC:=hH.at w (I.bz (b:=B.pb) rfl);refine RH 6 E I hH hC λa E=>?_;refine QH E (λw hc=>ae E (hc)) hC λa E=>?_;refine QH E (λw hc=>ae E (hc)) hC λa E=>?_;refine RH 0 E I hH hC λa E=>?_;refine CL 0 E I (Mm (I.pick (aA B.core si.k))) λa w E I=>?_;replace hC:=hH.at w (I.bz (b:=B.pb) rfl);refine RH 0 E I hH hC λa E=>?_;refine CL 0 E I (o5 (I.pick (aA B.core si.k))) λa w E I=>?_;obtain⟨D,I,hD⟩:=aA.qu I;refine CL 0 E I (sf I bT iQ) λa w E I=>?_;refine RN 1 E I λa E=>?_;replace I:=hD _ _ I;replace I:=I.sub (M:=aa B.pb 192 (gB p B si.g)::aA B.core si.k::az W p B.an B.cO::Sl 5 1 B.adT B.gs.table.length B.cT (bc B.gs.table)::L);refine IF 0 E I (λaj a E=>?_) λaj a E=>?_
 ·
  have qF:si.k.mr.length<aV si.k.ls:=by omega
  have aaw:si.k.mr.length<aw si.k:=qF;refine CL 5 E I (Mm (I.pick (aA B.core si.k))) λa w E I=>?_;refine CL 6 E I (o5 (I.pick (aA B.core si.k))) λa w E I=>?_;refine RN 1 E I λa E=>?_;obtain⟨D,I,hD⟩:=aA.qu I;refine aX 0 E I (ZB I bT qF iQ) λiT jj a w E I=>?_;refine RN 5 E I λa E=>?_;replace I:=hD _ _ (I.sub (M:=Qu B.core.qb B.core.aB si.k.ls::D::Sl 5 1 iT (bM si.k.ls si.k.mr.length).length jj (bc (bM si.k.ls si.k.mr.length))::aa B.pb 192 (gB p B si.g)::az W p B.an B.cO::Sl 5 1 B.adT B.gs.table.length B.cT (bc B.gs.table)::L));have ea:=nu si.k.ls si.k.mr.length;refine a1 1 (λw0 V=>Rd V B.pb 0 (gB p B si.g)) [8] [0,1,2,3,5,6,7,9,10,3004,1008,1011,12,13,1014] E I λa w E I hH=>?_;have hC:=hH.at w (I.ai (b:=B.pb));refine RH 9 E I hH hC λa E=>?_;refine QH E (λw hc=>bQ E underlying45 rfl Ty.t45 (M1 hc)) hC λa E=>?_;refine RH 0 E I hH hC λa E=>?_;refine SS E (bQ E underlying183 rfl Ty.t183 (zu hC)) λa E=>?_;refine RH 0 E I hH hC λa E=>?_;refine CL 0 E I (MJ (b:=bM si.k.ls si.k.mr.length) (fr:=si.k.mr.length) (I.pick (az W p B.an B.cO)) a7 aE (kn.p5 a7) (by omega) (λV hw=>(hw.pick (Sl 5 1 iT (bM si.k.ls si.k.mr.length).length jj (bc (bM si.k.ls si.k.mr.length)))).cr iT _ rfl rfl)) λa w E I=>?_;refine RN 2 E I λa E=>?_;refine rj E rfl I Ty.t183 uy (by rw[di,M4];decide) λa w E I=>?_;rw[aau]at I;refine a1 0 (λw0 V=>Rd V B.pb 0 (gB p B (fa p si.k.mr.length (bM si.k.ls si.k.mr.length) si.g))) [7,8] [0,1,2,4,5,6,3003,1007,1008,1009] E I λa w E I hH=>?_;have hC:=hH.at w (I.ai (b:=B.pb));refine RH 6 E I hH hC λa E=>?_;refine QH E (λw hc=>ae E (hc 0 _ rfl)) hC λa E=>?_;refine RH 0 E I hH hC λa E=>?_;refine SS E (bQ E underlying183 rfl Ty.t183 (zu hC)) λa E=>?_;refine RH 0 E I hH hC λa E=>?_;refine CL 0 E I (Zl I) λa w E I=>?_;replace hC:=hH.at w (I.ai (b:=B.pb));refine RH 0 E I hH hC λa E=>?_;refine CL 0 E I (ZU (I.pick (aA B.core si.k)) kn.wc (by omega) (Fg _)) λa w E I=>?_;refine RN 0 E I λa E=>?_;exact⟨aw s.k-s.k.mr.length-(i+1),by omega,i+1,⟨rfl,by omega⟩,E.ab [0],by
   rw[fl];show U W w (aP W B p ⟨lN si.k (jB (gw (fa p si.k.mr.length (bM si.k.ls si.k.mr.length) si.g))),fa p si.k.mr.length (bM si.k.ls si.k.mr.length) si.g⟩::L);exact (aP.fold I B p ⟨lN si.k (jB (gw (fa p si.k.mr.length (bM si.k.ls si.k.mr.length) si.g))),fa p si.k.mr.length (bM si.k.ls si.k.mr.length) si.g⟩).sub⟩
 refine RT 0 E I ?_;obtain rfl:i=aw s.k-s.k.mr.length:=by
  have:aV si.k.ls=aw si.k:=rfl;omega
 refine⟨rfl,?_⟩;rw[eL,GP];exact aP.close I
theorem M5 (I:U W w (aP W B p s::L))(hw:cx p s)(a7:dq p)(aE:p.title.size≤1000000000):Calls prog 282 #[pt B.pb,.int .u8 (x.toNat:Nat)] w λr V=>r=.returned (.int .i64 (dK p x s).1)∧U W V (aP W B p (dK p x s).2::L):=by
 have h1:=vf x s.k;have lI:=hw.toWP.more (hw.wc.al x) (hw.held.al x) h1.1 h1.2;refine EN func282 ntmps282 rfl rfl λa E=>?_;refine CL 4 E I (n3 I) λa w E I=>?_;refine RN 1 E I λa E=>?_;replace I:=aP.open I;refine CL 0 E I (ZW (x:=x) (I.pick (aA B.core s.k)) hw.wc) λa w E I=>?_;replace I:=(aP.fold I B p ⟨(cZ x s.k).2,s.g⟩);refine RN 1 E I λa E=>?_;refine cc (M:=λa w=>Fr a 15 [(5,.int .i64 (dK p x s).1)]∧U W w (aP W B p (dK p x s).2::L)) ?_ ?_
 ·
  refine IF 3 E I (λaj a E=>?_) λaj a E=>?_
  ·
   refine CL 1 E I (GO I lI a7 aE) λa w E I=>?_;refine RN 0 E I λa E=>?_;exact⟨E.ab [5],I⟩
  refine RN 0 E I λa E=>?_;have he:(dK p x s).2=⟨(cZ x s.k).2,s.g⟩:=by
   show eL p _=_;rw[vd aj];exact hw.eL
  rw[he];exact⟨E.ab [5],I⟩
 clear E;(try clear I);rintro a w ⟨E,I⟩;refine RT 3 E I ?_;exact⟨rfl,I⟩
theorem M6 (I:U W w (aP W B p s::L))(hw:cx p s)(a7:dq p)(aE:p.title.size≤1000000000)(hb:bs.length≤65536)(hc:bs.length≤c)(hp:∀ V,U W V L→aL V ad bs.length bs) :
   Calls prog 284 #[pt B.pb,.slice ad bs.length c] w λr V=>r=.returned (.int .i64 (dL p bs s).1)∧U W V (aP W B p (dL p bs s).2::L):=by
 have h1:=sj bs s.k;have lI:=hw.toWP.more (hw.wc.recv bs).1 ((hw.wc.recv bs).2 hw.held) h1.1 h1.2;refine EN func284 ntmps284 rfl rfl λa E=>?_;refine CL 4 E I (n3 I) λa w E I=>?_;refine RN 1 E I λa E=>?_;replace I:=aP.open I;refine CL 0 E I (Z4 (bs:=bs) (ad:=ad) (c:=c) (I.pick (aA B.core s.k)) hw.wc hb hc (λV dg=>hp V dg.tail.tail.tail)) λa w E I=>?_;replace I:=(aP.fold I B p ⟨(dC bs s.k).2,s.g⟩);refine RN 1 E I λa E=>?_;refine cc (M:=λa w=>Fr a 15 [(5,.int .i64 (dL p bs s).1)]∧U W w (aP W B p (dL p bs s).2::L)) ?_ ?_
 ·
  refine IF 3 E I (λaj a E=>?_) λaj a E=>?_
  ·
   refine CL 1 E I (GO I lI a7 aE) λa w E I=>?_;refine RN 0 E I λa E=>?_;exact⟨E.ab [5],I⟩
  refine RN 0 E I λa E=>?_;have he:(dL p bs s).2=⟨(dC bs s.k).2,s.g⟩:=by
   show eL p _=_;rw[xi aj];exact hw.eL
  rw[he];exact⟨E.ab [5],I⟩
 clear E;(try clear I);rintro a w ⟨E,I⟩;refine RT 3 E I ?_;exact⟨rfl,I⟩
theorem M7 (I:U W w (aP W B p s::L))(hw:cx p s)(pv:s.k.now≤1000000):Calls prog 285 #[pt B.pb] w λr V=>∃ ad c,r=.returned (.slice ad (bq s.k).1.length c)∧U W V (bU 124 ad (bq s.k).1.length c (bq s.k).1::aP W B p ⟨(bq s.k).2,s.g⟩::L):=by
 refine EN func285 ntmps285 rfl rfl λa E=>?_;refine CL 4 E I (n3 I) λa w E I=>?_;replace I:=aP.open I;refine aX 0 E I (Z2 (I.pick (aA B.core s.k)) hw.wc pv) λad c a w E I=>?_;refine RT 1 E I ?_;exact⟨ad,c,rfl,(aP.fold I B p ⟨(bq s.k).2,s.g⟩).sub⟩
theorem M8 (I:U W w (aP W B p s::L))(hw:cx p s):Calls prog 283 #[pt B.pb] w λr V=>∃ ad c,r=.returned (.slice ad (bF s.k).1.length c)∧U W V (bU 124 ad (bF s.k).1.length c (bF s.k).1::aP W B p ⟨(bF s.k).2,s.g⟩::L):=by
 refine EN func283 ntmps283 rfl rfl λa E=>?_;refine CL 4 E I (n3 I) λa w E I=>?_;replace I:=aP.open I;refine aX 0 E I (Z1 (I.pick (aA B.core s.k)) hw.wc) λad c a w E I=>?_;refine RT 1 E I ?_;exact⟨ad,c,rfl,(aP.fold I B p ⟨(bF s.k).2,s.g⟩).sub⟩
theorem M9 (I:U W w (aP W B p s::L)):Calls prog 281 #[pt B.pb] w λr V=>∃ ad c,r=.returned (.slice ad s.k.ev.length c)∧U W V (Sl 135 1 ad s.k.ev.length c (s.k.ev.map cz)::aP W B p ⟨{ s.k with ev:=[] },s.g⟩::L):=by
 refine EN func281 ntmps281 rfl rfl λa E=>?_;refine CL 4 E I (n3 I) λa w E I=>?_;replace I:=aP.open I;refine aX 0 E I (ZV (I.pick (aA B.core s.k))) λad c a w E I=>?_;refine RT 1 E I ?_;exact⟨ad,c,rfl,(aP.fold I B p ⟨{ s.k with ev:=[] },s.g⟩).sub⟩
theorem Na (I:U W w (aP W B p s::L)):Calls prog 141 #[pt B.pb] w λr V=>r=.returned (.bool s.k.cl)∧U W V (aP W B p s::L):=by
 refine EN func141 ntmps141 rfl rfl λa E=>?_;refine CL 4 E I (n3 I) λa w E I=>?_;replace I:=aP.open I;refine CL 0 E I (zi (I.pick (aA B.core s.k))) λa w E I=>?_;refine RT 1 E I ?_;exact⟨rfl,(aP.fold I B p s).sub⟩
theorem Nb (I:U W w (aP W B p s::L))(hw:cx p s):Calls prog 273 #[pt B.pb] w λr V=>∃ ad c,r=.returned (.tuple #[.slice ad 128 c,.int .i64 (lR s).2])∧U W V (Sl 5 1 ad 128 c (bc (lR s).1)::aP W B p s::L):=by
 replace I:=aP.open I;have bT:=hw.wc.lr;have iQ:s.k.ls.length≤8:=by rw[hw.wc.ls];exact hw.wc.n.2
 refine EN func273 ntmps273 rfl rfl λa E=>?_;refine RN 7 E I λa E=>?_;replace E:=E.aK 5;refine a1 2 (λw0 V=>Rd V B.pb 0 (gB p B s.g)) [4,8] [0,1,2,5,6,7,3003,3008,1004,1009,1010,11,12] E I λa w E I hH=>?_;have hC:=hH.at w (I.ai (b:=B.pb));refine RH 6 E I hH hC λa E=>?_;refine QH E (λw hc=>bQ E underlying183 rfl Ty.t183 (zu hc)) hC λa E=>?_;refine QH E (λw hc=>ae E (hc 0 _ rfl)) hC λa E=>?_;refine RH 0 E I hH hC λa E=>?_;refine aX 0 E I (y9 I) λad c a w E I=>?_;replace hC:=hH.at w (I.ai (b:=B.pb));refine RH 0 E I hH hC λa E=>?_;refine CL 0 E I (o5 (I.pick (aA B.core s.k))) λa w E I=>?_;obtain⟨D,I,hD⟩:=aA.qu I;refine CL 0 E I (sf I bT iQ) λa w E I=>?_;refine RN 2 E I λa E=>?_;replace I:=hD _ _ I;refine RT 0 E I ?_;exact⟨ad,c,rfl,(aP.fold I B p s).sub (M:=Sl 5 1 ad 128 c (bc (gw s.g))::aP W B p s::L)⟩
theorem Nc (I:U W w (aP W B p s::L))(hw:cx p s)(a7:dq p)(aE:p.title.size≤1000000000)(fI:cY B.gs):Calls prog 276 #[pt B.pb] w λr V=>∃ ad c,r=.returned (.tuple #[.slice ad 128 c,.int .i64 (fH p B.gs s).2])∧U W V (Sl 5 1 ad 128 c (bc (fH p B.gs s).1)::aP W B p s::L):=by
 have bT:=hw.wc.lr;have iQ:s.k.ls.length≤8:=by rw[hw.wc.ls];exact hw.wc.n.2
 have gS:=hw.wc.lO;have fA:aV s.k.ls≤aH s.k:=hw.wc.ny;refine EN func276 ntmps276 rfl rfl λa E=>?_;refine CL 5 E I (n3 I) λa w E I=>?_;replace I:=aP.open I;refine CL 0 E I (o5 (I.pick (aA B.core s.k))) λa w E I=>?_;obtain⟨D,I,hD⟩:=aA.qu I;refine CL 0 E I (sf I bT iQ) λa w E I=>?_;refine RN 1 E I λa E=>?_;replace I:=(aP.fold (hD _ _ I) B p s);refine RN 5 E I λa E=>?_;replace E:=E.aK 11;refine RN 3 E I λa E=>?_;replace I:=aP.open I;refine CL 1 E I (tE (I.pick (aA B.core s.k)) hw.wc) λa w E I=>?_;replace I:=(aP.fold I B p s);refine IF 3 E I (λaj a E=>?_) λaj a E=>?_
 ·
  refine aX 2 E I (Nb I hw) λad c a w E I=>?_;refine RT 4 E I ?_;refine⟨ad,c,?_,?_⟩
  ·rw[fH,ak (by rw[aw];omega)]
  ·rw[fH,ak (by rw[aw];omega)];exact I
 refine RN 1 E I λa E=>?_;replace I:=aP.open I;refine a1 0 (λw0 V=>Rd V B.pb 0 (gB p B s.g)) [7,12,13,17,21,22,23,24,25,29] [0,1,2,4,5,6,8,9,10,11,14,15,16,18,19,20,26,27,28,3003,3007,3012,3017,3021,3029,1013,1022,1023,1024,1025,1030,31,32] E I λa w E I hH=>?_;have hC:=hH.at w (I.ai (b:=B.pb));refine RH 19 E I hH hC λa E=>?_;refine QH E (λw hc=>bQ E underlying45 rfl Ty.t45 (M1 hc)) hC λa E=>?_;refine QH E (λw hc=>bQ E underlying183 rfl Ty.t183 (zu hc)) hC λa E=>?_;refine QH E (λw hc=>ae E (hc 0 _ rfl)) hC λa E=>?_;refine QH E (λw hc=>bQ E underlying186 rfl Ty.t186 (M3 hc)) hC λa E=>?_;refine QH E (λw hc=>ae E (hc 0 _ rfl)) hC λa E=>?_;refine QH E (λw hc=>ae E (hc 0 _ rfl)) hC λa E=>?_;refine RH 0 E I hH hC λa E=>?_;refine CL 0 E I (o5 (I.pick (aA B.core s.k))) λa w E I=>?_;replace hC:=hH.at w (I.ai (b:=B.pb));refine RH 0 E I hH hC λa E=>?_;refine CL 0 E I (tE (I.pick (aA B.core s.k)) hw.wc) λa w E I=>?_;replace hC:=hH.at w (I.ai (b:=B.pb));obtain⟨D,I,hD⟩:=aA.qu I;refine RH 0 E I hH hC λa E=>?_;refine j1 0 E I (GN (r:=0) (to:=aH s.k) (.inl rfl) (by decide) I fI bT iQ hw.wc.nx gS (λV dg=>(dg.pick (Sl 5 1 B.adT B.gs.table.length B.cT (bc B.gs.table))).cr B.adT _ rfl rfl)) λgd gm X a w E ⟨⟨tM,iu⟩,I⟩=>?_;replace hC:=hH.at w (I.ai (b:=B.pb));have mU:=iu rfl;subst mU;rw[xt]at I;have hX:(dx B.gs s.k.ls (aH s.k)).length=aH s.k-aV s.k.ls:=xe _ _ _;have mX:∀ b∈dx B.gs s.k.ls (aH s.k),b.length≤1099511627776:=λb hb=>by
  rw[dx,cV]at hb;obtain⟨i,_,rfl⟩:=hb;rw[nu,ji,bf];omega
 obtain⟨zs,cv,ew,I⟩:=cd.open I;rw[← hX]at E I;refine RH 0 E I hH hC λa E=>?_;refine CL 0 E I (MK (P:=dx B.gs s.k.ls (aH s.k)) (zs:=zs) (fr:=aV s.k.ls) (L:=Sl 22 1 gd (dx B.gs s.k.ls (aH s.k)).length gm (zs.map aM)::ah ba zs::Qu B.core.qb B.core.aB s.k.ls::D::aa B.pb 192 (gB p B s.g)::Sl 5 1 B.adT B.gs.table.length B.cT (bc B.gs.table)::L) (I.sub (M:=az W p B.an B.cO::Sl 22 1 gd (dx B.gs s.k.ls (aH s.k)).length gm (zs.map aM)::ah ba zs::Qu B.core.qb B.core.aB s.k.ls::D::aa B.pb 192 (gB p B s.g)::Sl 5 1 B.adT B.gs.table.length B.cT (bc B.gs.table)::L)) a7 aE (hw.p5 a7) ⟨by omega,mX⟩ (by omega) cv (λV dg=>U.mB (dg.sub (M:=Sl 22 1 gd (dx B.gs s.k.ls (aH s.k)).length gm (zs.map aM)::ah ba zs::[])))) λa w E I=>?_;replace hC:=hH.at w (I.ai (b:=B.pb));refine RH 0 E I hH hC λa E=>?_;refine aX 0 E I (y9 I) λad2 c2 a w E I=>?_;replace hC:=hH.at w (I.ai (b:=B.pb));replace I:=hD _ _ (I.sub (M:=Qu B.core.qb B.core.aB s.k.ls::D::Sl 5 1 ad2 128 c2 (bc (gw (foldI p (aV s.k.ls) s.g (dx B.gs s.k.ls (aH s.k)))))::aa B.pb 192 (gB p B s.g)::az W p B.an B.cO::Sl 5 1 B.adT B.gs.table.length B.cT (bc B.gs.table)::L));refine RH 0 E I hH hC λa E=>?_;refine CL 0 E I (tE I hw.wc) λa w E I=>?_;refine RN 2 E I λa E=>?_;refine RT 0 E I ?_;refine⟨ad2,c2,?_,?_⟩
 ·rw[fH,ag (by rw[aw];omega)]
 ·rw[fH,ag (by rw[aw];omega)];exact (aP.fold I B p s).sub (M:=Sl 5 1 ad2 128 c2 (bc (gw (foldI p (aV s.k.ls) s.g (dx B.gs s.k.ls (aH s.k)))))::aP W B p s::L)
end
theorem Nd {cf:Cf}(h:ft cf):∃ (n me aJ bo:Nat),cf=⟨n,me,cf.id,aJ,bo,cf.a8,cf.order,cf.cw,cf.workers,cf.room⟩:=by
 obtain⟨⟨h1,h2,h3⟩,⟨h4,h5,h6,h7⟩,h8,h9,fP,m9⟩:=h;simp only[dE] at *;refine⟨cf.n.toNat,cf.me.toNat,cf.aJ.toNat,cf.bo.toNat,?_⟩;rw[Int.toNat_of_nonneg (by omega),Int.toNat_of_nonneg (by omega),Int.toNat_of_nonneg (by omega),Int.toNat_of_nonneg (by omega)]
section
variable {W w:World}{L:List SP}{cP cT n me aJ bo:Nat}{adP adT:Option Addr}{p:Pr}{tb:List UInt8}{cf:Cf}{id a8 order cw workers room:Int}
theorem aax (I:U W w (az W p adP cP::L))(h:¬ ft cf)(eU:tb.length≤1099511627776)(hT:∀ V,U W V (az W p adP cP::L)→aL V adT tb.length tb) :
   Calls prog 60 #[.agg (bV cf).toArray,.agg (bx p adP cP).toArray,.slice adT tb.length cT] w λr V=>r=.returned (.tuple #[.pointer none,.int .i64 1])∧U W V (az W p adP cP::L):=by
 refine EN func60 ntmps60 rfl rfl λa E=>?_;refine BX 1 E I λb3 a w E I=>?_;change U W w (aa b3 28 (bV cf)::_) at I;refine BX 0 E I λb4 a w E I=>?_;change U W w (aa b4 45 (bx p adP cP)::_) at I;refine RN 2 E I λa E=>?_;refine cc (M:=λa w=>∃ (b8:Nat) (en:Option Addr) (dJ:Nat),Fr a 48 [(3,pt b3),(4,pt b4),(8,pt b8)]∧U W w (aa b8 186 (dr ⟨cf.a8,cf.order,tb⟩ en dJ)::Sl 5 1 en tb.length dJ (bc tb)::aa b3 28 (bV cf)::aa b4 45 (bx p adP cP)::az W p adP cP::L)) ?_ ?_
 ·
  refine a1 0 (λw0 V=>Rd V b3 0 (bV cf)) [3,5,7] [0,2,4,3001,3003,2005,6,1007,1008] E I λa w E I hH=>?_;have hC:=hH.at w (I.ai (b:=b3));refine RH 3 E I hH hC λa E=>?_;refine QH E (λw hc=>ae E (hc 5 _ rfl)) hC λa E=>?_;refine QH E (λw hc=>ae E (hc 6 _ rfl)) hC λa E=>?_;refine RH 0 E I hH hC λa E=>?_;refine DN [(5,[6,1007,1008]),(7,[1005,6,1008])] (by kernel_rfl) rfl ⟨⟨_,rfl,?_⟩,⟨_,rfl,?_⟩,trivial⟩
  ·
   refine RH 0 E I hH hC λa E=>?_;refine aX 0 E I (sW (bs:=tb) I (λV hw=>hT V hw.sub) eU) λen dJ a w E I=>?_;replace hC:=hH.at w (I.ai (b:=b3));refine RH 1 E I hH hC λa E=>?_;refine e5 E rfl I Ty.t186 rfl λb8 a w E I ho=>?_;clear ho;replace hC:=hH.at w (I.ai (b:=b3));refine RH 0 E I hH hC λa E=>?_;refine SA 0 E I λa w E I=>?_;refine RN 0 E I λa E=>?_;exact⟨_,en,dJ,E.ab [3,4,8],I.sub (M:=aa b8 186 [.int .i64 cf.a8,.int .i64 cf.order,.slice en tb.length dJ]::Sl 5 1 en tb.length dJ (bc tb)::aa b3 28 (bV cf)::aa b4 45 (bx p adP cP)::az W p adP cP::L)⟩
  refine RH 0 E I hH hC λa E=>?_;refine e5 E rfl I Ty.t186 rfl λb8 a w E I ho=>?_;clear ho;replace hC:=hH.at w (I.ai (b:=b3));refine RH 0 E I hH hC λa E=>?_;refine aX 0 E I (sW (bs:=tb) I (λV hw=>hT V hw.sub) eU) λen dJ a w E I=>?_;replace hC:=hH.at w (I.ai (b:=b3));refine RH 1 E I hH hC λa E=>?_;refine SA 0 E I λa w E I=>?_;refine RN 0 E I λa E=>?_;exact⟨_,en,dJ,E.ab [3,4,8],I.sub (M:=aa b8 186 [.int .i64 cf.a8,.int .i64 cf.order,.slice en tb.length dJ]::Sl 5 1 en tb.length dJ (bc tb)::aa b3 28 (bV cf)::aa b4 45 (bx p adP cP)::az W p adP cP::L)⟩
 clear E;(try clear I);rintro a w ⟨b8,en,dJ,E,I⟩;refine CL 2 E I (ZS I h) λa w E I=>?_;refine RN 9 E I λa E=>?_;rw[show decide ((1:Int)≠0)=true from rfl]at E;refine RN 1 E I λa E=>?_;replace E:=E.eG 26;refine RT 13 E I ?_;exact⟨rfl,I.sub⟩
theorem aay (I:U W w (az W p adP cP::L))(hm:ft ⟨n,me,id,aJ,bo,a8,order,cw,workers,room⟩)(h:¬ (dq p∧cY ⟨a8,order,tb⟩))(aE:p.title.size≤1000000000)(dO:p.ops.length≤1000000000)(eU:tb.length≤1099511627776)(hT:∀ V,U W V (az W p adP cP::L)→aL V adT tb.length tb) :
   Calls prog 60 #[.agg (bV ⟨n,me,id,aJ,bo,a8,order,cw,workers,room⟩).toArray,.agg (bx p adP cP).toArray,.slice adT tb.length cT] w λr V=>r=.returned (.tuple #[.pointer none,.int .i64 1])∧U W V (az W p adP cP::L):=by
 obtain⟨cf,dd⟩:∃ cf:Cf,cf=⟨n,me,id,aJ,bo,a8,order,cw,workers,room⟩:=⟨_,rfl⟩;rw[← dd];have hg:cf.a8=a8∧cf.order=order:=by rw[dd];exact⟨rfl,rfl⟩
 refine EN func60 ntmps60 rfl rfl λa E=>?_;refine BX 1 E I λb3 a w E I=>?_;change U W w (aa b3 28 (bV cf)::_) at I;refine BX 0 E I λb4 a w E I=>?_;change U W w (aa b4 45 (bx p adP cP)::_) at I;refine RN 2 E I λa E=>?_;refine cc (M:=λa w=>∃ (b8:Nat) (en:Option Addr) (dJ:Nat),Fr a 48 [(3,pt b3),(4,pt b4),(8,pt b8)]∧U W w (aa b8 186 (dr ⟨cf.a8,cf.order,tb⟩ en dJ)::Sl 5 1 en tb.length dJ (bc tb)::aa b3 28 (bV cf)::aa b4 45 (bx p adP cP)::az W p adP cP::L)) ?_ ?_
 ·
  refine a1 0 (λw0 V=>Rd V b3 0 (bV cf)) [3,5,7] [0,2,4,3001,3003,2005,6,1007,1008] E I λa w E I hH=>?_;have hC:=hH.at w (I.ai (b:=b3));refine RH 3 E I hH hC λa E=>?_;refine QH E (λw hc=>ae E (hc 5 _ rfl)) hC λa E=>?_;refine QH E (λw hc=>ae E (hc 6 _ rfl)) hC λa E=>?_;refine RH 0 E I hH hC λa E=>?_;refine DN [(5,[6,1007,1008]),(7,[1005,6,1008])] (by kernel_rfl) rfl ⟨⟨_,rfl,?_⟩,⟨_,rfl,?_⟩,trivial⟩
  ·
   refine RH 0 E I hH hC λa E=>?_;refine aX 0 E I (sW (bs:=tb) I (λV hw=>hT V hw.sub) eU) λen dJ a w E I=>?_;replace hC:=hH.at w (I.ai (b:=b3));refine RH 1 E I hH hC λa E=>?_;refine e5 E rfl I Ty.t186 rfl λb8 a w E I ho=>?_;clear ho;replace hC:=hH.at w (I.ai (b:=b3));refine RH 0 E I hH hC λa E=>?_;refine SA 0 E I λa w E I=>?_;refine RN 0 E I λa E=>?_;exact⟨_,en,dJ,E.ab [3,4,8],I.sub (M:=aa b8 186 [.int .i64 cf.a8,.int .i64 cf.order,.slice en tb.length dJ]::Sl 5 1 en tb.length dJ (bc tb)::aa b3 28 (bV cf)::aa b4 45 (bx p adP cP)::az W p adP cP::L)⟩
  refine RH 0 E I hH hC λa E=>?_;refine e5 E rfl I Ty.t186 rfl λb8 a w E I ho=>?_;clear ho;replace hC:=hH.at w (I.ai (b:=b3));refine RH 0 E I hH hC λa E=>?_;refine aX 0 E I (sW (bs:=tb) I (λV hw=>hT V hw.sub) eU) λen dJ a w E I=>?_;replace hC:=hH.at w (I.ai (b:=b3));refine RH 1 E I hH hC λa E=>?_;refine SA 0 E I λa w E I=>?_;refine RN 0 E I λa E=>?_;exact⟨_,en,dJ,E.ab [3,4,8],I.sub (M:=aa b8 186 [.int .i64 cf.a8,.int .i64 cf.order,.slice en tb.length dJ]::Sl 5 1 en tb.length dJ (bc tb)::aa b3 28 (bV cf)::aa b4 45 (bx p adP cP)::az W p adP cP::L)⟩
 clear E;(try clear I);rintro a w ⟨b8,en,dJ,E,I⟩;refine RN 2 E I λa E=>?_;rw[dd]at E;refine aW 0 E I (Mh I hm) λBc a w E I=>?_;refine RN 9 E I λa E=>?_;rw[show decide ((0:Int)≠0)=false from rfl]at E;refine RN 1 E I λa E=>?_;replace E:=E.aK 26;refine aW 1 E I (EU (I.pick (az W p adP cP)) aE dO) λrc a w E ⟨jQ,I⟩=>?_;refine BY 3 E I (λiN a E=>?_) λiN a E=>?_
 ·
  refine RT 8 E I ?_;exact⟨rfl,I.sub⟩
 refine aW 1 E I (zp I) λaaz a w E ⟨fp,I⟩=>?_;refine IF 2 E I (λaj a E=>?_) λaj a E=>?_
 ·
  refine RT 3 E I ?_;exact⟨rfl,I.sub⟩
 exact absurd ⟨jQ.1 iN,by have:=fp.1 aj;rw[hg.1,hg.2]at this;exact this⟩ h
theorem Nf (I:U W w (az W p adP cP::L))(hm:ft ⟨n,me,id,aJ,bo,a8,order,cw,workers,room⟩)(a7:dq p)(fI:cY ⟨a8,order,tb⟩)(aE:p.title.size≤1000000000)(dO:p.ops.length≤1000000000)(eU:tb.length≤1099511627776)(hT:∀ V,U W V (az W p adP cP::L)→aL V adT tb.length tb) :
   Calls prog 60 #[.agg (bV ⟨n,me,id,aJ,bo,a8,order,cw,workers,room⟩).toArray,.agg (bx p adP cP).toArray,.slice adT tb.length cT] w λr V=>∃ B:jk,r=.returned (.tuple #[pt B.pb,.int .i64 0])∧B.gs=⟨a8,order,tb⟩ ∧
    U W V (aP W B p (eM p ⟨n,me,id,aJ,bo,a8,order,cw,workers,room⟩)::az W p adP cP::L):=by
 obtain⟨cf,dd⟩:∃ cf:Cf,cf=⟨n,me,id,aJ,bo,a8,order,cw,workers,room⟩:=⟨_,rfl⟩;rw[← dd];have hg:cf.a8=a8∧cf.order=order:=by rw[dd];exact⟨rfl,rfl⟩
 have agd:1≤p.ops.length∧p.ops.length≤64:=⟨a7.1.2.1,a7.1.2.2.1⟩;refine EN func60 ntmps60 rfl rfl λa E=>?_;refine BX 1 E I λb3 a w E I=>?_;change U W w (aa b3 28 (bV cf)::_) at I;refine BX 0 E I λb4 a w E I=>?_;change U W w (aa b4 45 (bx p adP cP)::_) at I;refine RN 2 E I λa E=>?_;refine cc (M:=λa w=>∃ (b8:Nat) (en:Option Addr) (dJ:Nat),Fr a 48 [(3,pt b3),(4,pt b4),(8,pt b8)]∧U W w (aa b8 186 (dr ⟨cf.a8,cf.order,tb⟩ en dJ)::Sl 5 1 en tb.length dJ (bc tb)::aa b3 28 (bV cf)::aa b4 45 (bx p adP cP)::az W p adP cP::L)) ?_ ?_
 ·
  refine a1 0 (λw0 V=>Rd V b3 0 (bV cf)) [3,5,7] [0,2,4,3001,3003,2005,6,1007,1008] E I λa w E I hH=>?_;have hC:=hH.at w (I.ai (b:=b3));refine RH 3 E I hH hC λa E=>?_;refine QH E (λw hc=>ae E (hc 5 _ rfl)) hC λa E=>?_;refine QH E (λw hc=>ae E (hc 6 _ rfl)) hC λa E=>?_;refine RH 0 E I hH hC λa E=>?_;refine DN [(5,[6,1007,1008]),(7,[1005,6,1008])] (by kernel_rfl) rfl ⟨⟨_,rfl,?_⟩,⟨_,rfl,?_⟩,trivial⟩
  ·
   refine RH 0 E I hH hC λa E=>?_;refine aX 0 E I (sW (bs:=tb) I (λV hw=>hT V hw.sub) eU) λen dJ a w E I=>?_;replace hC:=hH.at w (I.ai (b:=b3));refine RH 1 E I hH hC λa E=>?_;refine e5 E rfl I Ty.t186 rfl λb8 a w E I ho=>?_;clear ho;replace hC:=hH.at w (I.ai (b:=b3));refine RH 0 E I hH hC λa E=>?_;refine SA 0 E I λa w E I=>?_;refine RN 0 E I λa E=>?_;exact⟨_,en,dJ,E.ab [3,4,8],I.sub (M:=aa b8 186 [.int .i64 cf.a8,.int .i64 cf.order,.slice en tb.length dJ]::Sl 5 1 en tb.length dJ (bc tb)::aa b3 28 (bV cf)::aa b4 45 (bx p adP cP)::az W p adP cP::L)⟩
  refine RH 0 E I hH hC λa E=>?_;refine e5 E rfl I Ty.t186 rfl λb8 a w E I ho=>?_;clear ho;replace hC:=hH.at w (I.ai (b:=b3));refine RH 0 E I hH hC λa E=>?_;refine aX 0 E I (sW (bs:=tb) I (λV hw=>hT V hw.sub) eU) λen dJ a w E I=>?_;replace hC:=hH.at w (I.ai (b:=b3));refine RH 1 E I hH hC λa E=>?_;refine SA 0 E I λa w E I=>?_;refine RN 0 E I λa E=>?_;exact⟨_,en,dJ,E.ab [3,4,8],I.sub (M:=aa b8 186 [.int .i64 cf.a8,.int .i64 cf.order,.slice en tb.length dJ]::Sl 5 1 en tb.length dJ (bc tb)::aa b3 28 (bV cf)::aa b4 45 (bx p adP cP)::az W p adP cP::L)⟩
 clear E;(try clear I);rintro a w ⟨b8,en,dJ,E,I⟩;refine RN 2 E I λa E=>?_;rw[dd]at E;refine aW 0 E I (Mh I hm) λBc a w E I=>?_;rw[← dd]at I;refine RN 9 E I λa E=>?_;rw[show decide ((0:Int)≠0)=false from rfl]at E;refine RN 1 E I λa E=>?_;replace E:=E.aK 26;refine aW 1 E I (EU (I.pick (az W p adP cP)) aE dO) λrc a w E ⟨jQ,I⟩=>?_;rw[jQ.2 a7]at E;refine RN 1 E I λa E=>?_;rw[show (!true)=false from rfl]at E;refine RN 2 E I λa E=>?_;replace E:=E.aK 31;refine aW 1 E I (zp I) λaaz a w E ⟨fp,I⟩=>?_;rw[fp.2 (by rw[hg.1,hg.2];exact fI)]at E;refine RN 2 E I λa E=>?_;replace E:=E.aK 35;refine RN 2 E I λa E=>?_;replace I:=I.bR 114 4 none;rw[bx]at I;refine RN 2 E I λa E=>?_;refine g3 E rfl I underlying43 Ty.t114 rfl rfl (by decide) (λh0=>(I.pick (az W p adP cP)).rN adP h0) (by rw[iG te]) (An J5 _) (by omega) λoG oH a w E I=>?_;rw[nil_append,ep]at I;rw[ep]at E;refine ST 1 E I (λa w E I=>?_);refine RN 0 E I λa E=>?_;replace I:U W w (aa b4 45 [.string p.title,.slice oG p.ops.length oH]::Sl 114 4 oG p.ops.length oH (rows c6 p.ops)::_):=I;refine RN 4 E I λa E=>?_;simp only[dr]at E;refine BX 1 E I λvm a w E I=>?_;refine RN 1 E I λa E=>?_;replace I:=(I.pick (Sl 114 4 oG p.ops.length oH (rows c6 p.ops))).AV;replace I:U W w (aa vm 192 (gB p ⟨vm,Bc,oG,oH,en,dJ,⟨cf.a8,cf.order,tb⟩⟩ o0)::aA Bc (fv cf)::az W p oG oH::Sl 5 1 en tb.length dJ (bc tb)::az W p adP cP::L):=by
  have cI:U W w (az W p oG oH::_):=I;have nQ:=cI.jV vm;exact U.sub (M:=_::aA Bc (fv cf)::az W p oG oH::Sl 5 1 en tb.length dJ (bc tb)::az W p adP cP::L) (show U W w (aa vm 192 (gB p ⟨vm,Bc,oG,oH,en,dJ,⟨cf.a8,cf.order,tb⟩⟩ o0)::_) from nQ)
 replace I:=aP.fold I ⟨vm,Bc,oG,oH,en,dJ,⟨cf.a8,cf.order,tb⟩⟩ p ⟨fv cf,o0⟩;refine CL 2 E I (GO I (xk (by rw[dd];exact hm)) a7 aE) λa w E I=>?_;refine RT 4 E I ?_;exact⟨⟨vm,Bc,oG,oH,en,dJ,⟨cf.a8,cf.order,tb⟩⟩,rfl,by rw[hg.1,hg.2],I⟩
end
end
section
structure zw (W:World)(L:List SP)(f:FuncId)(us:List Value):Prop where
 c:hE prog f=true
 h:∀ {w:World} {M:List SP} {x y:UInt8},U W w M→(∀ {V},U W V M→U W V L)→Calls prog f (List.toArray (.int .u8 (x.toNat:Nat)::.int .u8 (y.toNat:Nat)::us)) w λe V=>∃ z:Int,e=.returned (.int .i64 z)∧U W V M
abbrev ha (bb oo m c:Nat)(xs:List UInt8):SP:=Sl 5 1 (some ⟨bb,oo,none⟩) m c (bc xs)
abbrev sv (bb oo m c:Nat):Value:=.slice (some ⟨bb,oo,none⟩) m c
abbrev kB (f:FuncId)(us:List Value):Value:=.func (.func f) #[] us.toArray
theorem tN (bs:List UInt8)(i:Nat)(x:UInt8):(bc bs).set i (.int .u8 (x.toNat:Int))=bc (bs.set i x):=by rw[bc,bc,jx]
theorem Cd {n:Nat}(h:n≤9223372036854775807):IntKind.u64.wrap (n:Int)=n:=by rw[wrap_u64];omega
section
variable {W w:World}{L:List SP}{bb oo m c lo up f n k:Nat}{us:List Value}{xs:List UInt8}
theorem Ng (I:U W w (ha bb oo m c xs::L))(hF:zw W L f us)(hx:xs.length=m)(hb:up≤m)(hm:m≤1000)(ha0:lo≤m) :
   Calls prog 340 #[sv bb oo m c,.int .i64 lo,.int .i64 up,kB f us] w λe V=>∃ ys:List UInt8,e=.returned (.tuple #[])∧ys.length=m∧U W V (ha bb oo m c ys::L):=by
 refine EN func340 ntmps340 rfl rfl λa E=>?_;refine RN 4 E I λa E=>?_;refine aQ (λμ a w=>∃ (i:Nat) (ys:List UInt8),(μ=up-i∧lo<i∧ys.length=m)∧Fr a 53 [(0,sv bb oo m c),(1,.int .i64 lo),(2,.int .i64 up),(3,kB f us),(8,.int .i64 i)]∧U W w (ha bb oo m c ys::L)) (up-(lo+1)) (⟨lo+1,xs,⟨rfl,by omega,hx⟩,E.ab [0,1,2,3,8],I⟩) ?_;clear E I;rintro μ a w ⟨i,ys,⟨rfl,hi,hy⟩,E,I⟩;refine IF 5 E I (λaj a E=>?_) λaj a E=>?_
 ·
  have him:i<m:=by omega
  refine RN 4 E I λa E=>?_;refine aQ (λμ a w=>∃ (j:Nat) (zs:List UInt8),(μ=j∧j≤i∧zs.length=m)∧Fr a 53 [(0,sv bb oo m c),(1,.int .i64 lo),(2,.int .i64 up),(3,kB f us),(8,.int .i64 i),(9,.int .i64 j)]∧U W w (ha bb oo m c zs::L)) (i) (⟨i,ys,⟨rfl,bh _,hy⟩,E.ab [0,1,2,3,8,9],I⟩) ?_;clear E I;rintro μ a w ⟨j,zs,⟨yG,hj,hz⟩,E,I⟩;have Nh:j<zs.length:=by omega
  have Ni:j-1<zs.length:=by omega
  refine bW 2 [13] [0,1,2,3,4,5,6,7,9,10,11,12,3008,1013,1014,15,16] E I λa w E I hH hC=>?_;have hr:Rd w bb oo (bc zs):=I.cJ bb oo (by omega);refine RH 4 E I hH hC λa E=>?_;refine E.by (s:=21) (λbE E=>?_) (λbE E=>?_)
  ·
   refine RH 7 E I hH hC λa E=>?_;rw[show (j:Int)-1=((j-1:Nat):Int) from by omega]at E;refine RH 1 E I hH hC λa E=>?_;refine QH E (λw hc=>ae E (hc.cell (hr j _ (dQ Nh)))) hC λa E=>?_;refine RH 0 E I hH hC λa E=>?_;refine bu E (cu E rfl (s:=21)) (ae E (hr (j-1) _ (dQ Ni))) rfl λa E=>?_;refine RH 0 E I hH hC λa E=>?_;refine aW 0 E I (hF.h I λh=>h.tail) (hf:=hF.c) λz a w E I=>?_;refine RN 2 E I λa E=>?_;refine IF 0 E I (λao a E=>?_) λao a E=>?_
   ·
    refine bW 1 [13] [0,1,2,3,4,5,6,7,8,10,11,12,3009,1013,14,1015,16,1017] E I λa w E I hH hC=>?_;have hr:Rd w bb oo (bc zs):=I.cJ bb oo (by omega);refine RH 5 E I hH hC λa E=>?_;rw[show (j:Int)-1=((j-1:Nat):Int) from by omega]at E;refine RH 3 E I hH hC λa E=>?_;rw[show (j:Int)-1=((j-1:Nat):Int) from by omega]at E;refine RH 4 E I hH hC λa E=>?_;refine QH E (λw hc=>ae E (hc.cell (hr (j-1) _ (dQ Ni)))) hC λa E=>?_;refine RH 0 E I hH hC λa E=>?_;refine SS E (ae E (hr j _ (dQ Nh))) λa E=>?_;refine RH 1 E I hH hC λa E=>?_;refine mx (off:=oo) (k:=j) E rfl I Ty.t5 rfl (by omega) (by rw[dt];omega) λa w E I=>?_;rw[tN]at I;refine RN 1 E I λa E=>?_;refine mx (off:=oo) (k:=j-1) E rfl I Ty.t5 rfl (by omega) (by rw[dt,bt];omega) λa w E I=>?_;rw[tN]at I;refine RN 2 E I λa E=>?_;rw[show (j:Int)-1=((j-1:Nat):Int) from by omega]at E;refine RN 1 E I λa E=>?_;exact⟨j-1,by omega,j-1,_,⟨rfl,by omega,by simp[hz]⟩,E.ab [0,1,2,3,8,9],I⟩
   refine RN 3 E I λa E=>?_;exact⟨up-(i+1),by omega,i+1,zs,⟨rfl,by omega,hz⟩,E.ab [0,1,2,3,8],I⟩
  refine RH 13 E I hH hC λa E=>?_;refine RN 4 E I λa E=>?_;exact⟨up-(i+1),by omega,i+1,zs,⟨rfl,by omega,hz⟩,E.ab [0,1,2,3,8],I⟩
 refine RT 0 E I ?_;exact⟨ys,rfl,hy,I⟩
theorem GQ (I:U W w (ha bb oo m c xs::L))(hx:xs.length=m)(h1:lo+n≤m)(h2:up+n≤m)(hm:m≤1000) :
   Calls prog 344 #[sv bb oo m c,.int .i64 lo,.int .i64 up,.int .i64 n,kB f us] w λe V=>∃ ys:List UInt8,e=.returned (.tuple #[])∧ys.length=m∧U W V (ha bb oo m c ys::L):=by
 refine EN func344 ntmps344 rfl rfl λa E=>?_;refine RN 2 E I λa E=>?_;refine aQ (λμ a w=>∃ (i:Nat) (zs:List UInt8),(μ=n-i∧i≤n∧zs.length=m)∧Fr a 38 [(0,sv bb oo m c),(1,.int .i64 lo),(2,.int .i64 up),(3,.int .i64 n),(10,.int .i64 i)]∧U W w (ha bb oo m c zs::L)) (n) (⟨0,xs,⟨rfl,Nat.zero_le _,hx⟩,E.ab [0,1,2,3,10],I⟩) ?_;clear E I;rintro μ a w ⟨i,zs,⟨rfl,hi,hz⟩,E,I⟩;refine IF 5 E I (λaj a E=>?_) λaj a E=>?_
 ·
  have k7:lo+i<zs.length:=by omega
  have mF:up+i<zs.length:=by omega
  refine bW 1 [19] [0,1,2,3,4,5,6,7,8,9,10,11,12,14,15,16,17,18,3013,1019,20,1021,22,1023] E I λa w E I hH hC=>?_;have hr:Rd w bb oo (bc zs):=I.cJ bb oo (by omega);refine RH 18 E I hH hC λa E=>?_;refine QH E (λw hc=>ae E (hc.cell (hr (up+i) _ (dQ mF)))) hC λa E=>?_;refine RH 0 E I hH hC λa E=>?_;refine SS E (ae E (hr (lo+i) _ (dQ k7))) λa E=>?_;refine RH 1 E I hH hC λa E=>?_;refine mx (off:=oo) (k:=lo+i) E rfl I Ty.t5 rfl (by omega) (by rw[dt];omega) λa w E I=>?_;rw[tN]at I;refine RN 1 E I λa E=>?_;refine mx (off:=oo) (k:=up+i) E rfl I Ty.t5 rfl (by omega) (by rw[dt,bt];omega) λa w E I=>?_;rw[tN]at I;refine RN 3 E I λa E=>?_;exact⟨n-(i+1),by omega,i+1,_,⟨rfl,by omega,by simp[hz]⟩,E.ab [0,1,2,3,10],I⟩
 refine RT 0 E I ?_;exact⟨zs,rfl,hz,I⟩
theorem rotate (I:U W w (ha bb oo m c xs::L))(hx:xs.length=m)(h1:lo<k)(h2:k<up)(h3:up≤m)(hm:m≤1000) :
   Calls prog 343 #[sv bb oo m c,.int .i64 lo,.int .i64 k,.int .i64 up,kB f us] w λe V=>∃ ys:List UInt8,e=.returned (.tuple #[])∧ys.length=m∧U W V (ha bb oo m c ys::L):=by
 refine EN func343 ntmps343 rfl rfl λa E=>?_;refine RN 4 E I λa E=>?_;rw[show (k:Int)-(lo:Int)=((k-lo:Nat):Int) from by omega]at E;refine RN 5 E I λa E=>?_;rw[show (up:Int)-(k:Int)=((up-k:Nat):Int) from by omega]at E;refine RN 2 E I λa E=>?_;refine aQ (λμ a w=>∃ (i j:Nat) (zs:List UInt8),(μ=i+j∧(1≤i∧1≤j)∧(i≤k∧k+j≤m)∧zs.length=m)∧Fr a 58 [(0,sv bb oo m c),(2,.int .i64 k),(4,kB f us),(10,.int .i64 i),(11,.int .i64 j)]∧U W w (ha bb oo m c zs::L)) (k-lo+(up-k)) (⟨k-lo,up-k,xs,⟨rfl,⟨by omega,by omega⟩,⟨by omega,by omega⟩,hx⟩,E.ab [0,2,4,10,11],I⟩) ?_;clear E I;rintro μ a w ⟨i,j,zs,⟨rfl,⟨hi,hj⟩,⟨pN,vn⟩,hz⟩,E,I⟩;refine IF 5 E I (λaj a E=>?_) λaj a E=>?_
 ·
  refine IF 4 E I (λao a E=>?_) λao a E=>?_
  ·
   refine RN 5 E I λa E=>?_;rw[show (k:Int)-(i:Int)=((k-i:Nat):Int) from by omega]at E;refine aW 3 E I (GQ I hz (by omega) (by omega) hm) λys a w E ⟨hy,I⟩=>?_;refine RN 3 E I λa E=>?_;rw[show (i:Int)-(j:Int)=((i-j:Nat):Int) from by omega]at E;refine RN 1 E I λa E=>?_;exact⟨i-j+j,by omega,i-j,j,ys,⟨rfl,⟨by omega,by omega⟩,⟨by omega,by omega⟩,hy⟩,E.ab [0,2,4,10,11],I⟩
  refine RN 5 E I λa E=>?_;rw[show (k:Int)-(i:Int)=((k-i:Nat):Int) from by omega]at E;refine RN 5 E I λa E=>?_;rw[show (k:Int)+(j:Int)-(i:Int)=((k+j-i:Nat):Int) from by omega]at E;refine aW 2 E I (GQ I hz (by omega) (by omega) hm) λys a w E ⟨hy,I⟩=>?_;refine RN 3 E I λa E=>?_;rw[show (j:Int)-(i:Int)=((j-i:Nat):Int) from by omega]at E;refine RN 1 E I λa E=>?_;exact⟨i+(j-i),by omega,i,j-i,ys,⟨rfl,⟨by omega,by omega⟩,⟨by omega,by omega⟩,hy⟩,E.ab [0,2,4,10,11],I⟩
 refine RN 4 E I λa E=>?_;rw[show (k:Int)-(i:Int)=((k-i:Nat):Int) from by omega]at E;refine aW 3 E I (GQ I hz (by omega) (by omega) hm) λys a w E ⟨hy,I⟩=>?_;refine RT 0 E I ?_;exact⟨ys,rfl,hy,I⟩
theorem Nj (hF:zw W L f us)(hm:m≤1000):∀ (d:Nat) {w:World} {xs:List UInt8} {lo k up:Nat},up-lo≤d→xs.length=m→lo<k→k<up→up≤m→U W w (ha bb oo m c xs::L) →
   Calls prog 341 #[sv bb oo m c,.int .i64 lo,.int .i64 k,.int .i64 up,kB f us] w λe V=>∃ ys:List UInt8,e=.returned (.tuple #[])∧ys.length=m∧U W V (ha bb oo m c ys::L):=by
 intro d
 induction d with
 | zero=>intro w xs lo k up hd hx h1 h2 h3 I;omega
 | succ d ih =>
  intro w xs lo k up hd hx h1 h2 h3 I;refine EN func341 ntmps341 rfl rfl λa E=>?_;refine RN 5 E I λa E=>?_;rw[show (k:Int)-(lo:Int)=((k-lo:Nat):Int) from by omega]at E;refine IF 1 E I (λaj a E=>?_) λaj a E=>?_
  ·
   refine RN 7 E I λa E=>?_;refine aQ (λμ a w=>∃ (i j:Nat),(μ=j-i∧(k≤i∧i≤j)∧j≤up)∧Fr a 220 [(0,sv bb oo m c),(1,.int .i64 lo),(2,.int .i64 k),(4,kB f us),(10,.int .i64 i),(11,.int .i64 j)]∧U W w (ha bb oo m c xs::L)) (up-k) (⟨k,up,⟨rfl,⟨bh _,by omega⟩,bh _⟩,E.ab [0,1,2,4,10,11],I⟩) ?_;clear E I;rintro μ a w ⟨i,j,⟨rfl,⟨hi,oz⟩,hj⟩,E,I⟩;refine IF 5 E I (λao a E=>?_) λao a E=>?_
   ·
    have ma:(i+j)/2<xs.length:=by omega
    have il:lo<xs.length:=by omega
    refine RN 4 E I λa E=>?_;rw[show (i:Int)+(j:Int)=((i+j:Nat):Int) from rfl]at E;refine SX 0 E I (Cd (by omega)) λa E=>?_;refine RN 1 E I λa E=>?_;rw[show (((i+j:Nat):Int).fdiv (2 ^ 1))=(((i+j)/2:Nat):Int) from ld (i+j) 2]at E;refine SX 0 E I (fU (by omega) (by omega)) λa E=>?_;refine bW 2 [8] [0,1,2,3,5,6,7,3004,1008,1009,10] E I λa w E I hH hC=>?_;have hr:Rd w bb oo (bc xs):=I.cJ bb oo (by omega);refine RH 7 E I hH hC λa E=>?_;refine QH E (λw hc=>ae E (hc.cell (hr ((i+j)/2) _ (dQ ma)))) hC λa E=>?_;refine RH 0 E I hH hC λa E=>?_;refine SS E (ae E (hr lo _ (dQ il))) λa E=>?_;refine RH 0 E I hH hC λa E=>?_;refine aW 0 E I (hF.h I λh=>h.tail) (hf:=hF.c) λz a w E I=>?_;refine RN 1 E I λa E=>?_;refine IF 0 E I (λay a E=>?_) λay a E=>?_
    ·
     refine RN 3 E I λa E=>?_;exact⟨j-((i+j)/2+1),by omega,(i+j)/2+1,j,⟨rfl,⟨by omega,by omega⟩,hj⟩,E.ab [0,1,2,4,10,11],I⟩
    refine RN 2 E I λa E=>?_;exact⟨(i+j)/2-i,by omega,i,(i+j)/2,⟨rfl,⟨hi,by omega⟩,by omega⟩,E.ab [0,1,2,4,10,11],I⟩
   refine RN 4 E I λa E=>?_;refine aQ (λμ a w=>∃ (q:Nat) (zs:List UInt8),(μ=i-q∧lo≤q∧zs.length=m)∧Fr a 220 [(0,sv bb oo m c),(10,.int .i64 i),(13,.int .i64 q)]∧U W w (ha bb oo m c zs::L)) (i-lo) (⟨lo,xs,⟨rfl,bh _,hx⟩,E.ab [0,10,13],I⟩) ?_;clear E I;rintro μ a w ⟨q,zs,⟨rfl,hq,hz⟩,E,I⟩;refine RN 5 E I λa E=>?_;rw[show (i:Int)-1=((i-1:Nat):Int) from by omega]at E;refine IF 1 E I (λbj a E=>?_) λbj a E=>?_
   ·
    have cv:q<zs.length:=by omega
    have ew:q+1<zs.length:=by omega
    refine bW 1 [13] [0,1,2,3,4,5,6,7,8,10,11,12,3009,1013,14,1015,16,1017] E I λa w E I hH hC=>?_;have hr:Rd w bb oo (bc zs):=I.cJ bb oo (by omega);refine RH 12 E I hH hC λa E=>?_;refine QH E (λw hc=>ae E (hc.cell (hr (q+1) _ (dQ ew)))) hC λa E=>?_;refine RH 0 E I hH hC λa E=>?_;refine SS E (ae E (hr q _ (dQ cv))) λa E=>?_;refine RH 1 E I hH hC λa E=>?_;refine mx (off:=oo) (k:=q) E rfl I Ty.t5 rfl (by omega) (by rw[dt];omega) λa w E I=>?_;rw[tN]at I;refine RN 1 E I λa E=>?_;refine mx (off:=oo) (k:=q+1) E rfl I Ty.t5 rfl (by omega) (by rw[dt,bt];omega) λa w E I=>?_;rw[tN]at I;refine RN 3 E I λa E=>?_;exact⟨i-(q+1),by omega,q+1,_,⟨rfl,by omega,by simp[hz]⟩,E.ab [0,10,13],I⟩
   refine RT 0 E I ?_;exact⟨zs,rfl,hz,I⟩
  refine RN 5 E I λa E=>?_;rw[show (up:Int)-(k:Int)=((up-k:Nat):Int) from by omega]at E;refine IF 1 E I (λbO a E=>?_) λbO a E=>?_
  ·
   refine RN 7 E I λa E=>?_;refine aQ (λμ a w=>∃ (i j:Nat),(μ=j-i∧(lo≤i∧i≤j)∧j≤k)∧Fr a 220 [(0,sv bb oo m c),(2,.int .i64 k),(4,kB f us),(14,.int .i64 i),(15,.int .i64 j)]∧U W w (ha bb oo m c xs::L)) (k-lo) (⟨lo,k,⟨rfl,⟨bh _,by omega⟩,bh _⟩,E.ab [0,2,4,14,15],I⟩) ?_;clear E I;rintro μ a w ⟨i,j,⟨rfl,⟨hi,oz⟩,hj⟩,E,I⟩;refine IF 5 E I (λeZ a E=>?_) λeZ a E=>?_
   ·
    have ma:(i+j)/2<xs.length:=by omega
    have il:k<xs.length:=by omega
    refine RN 4 E I λa E=>?_;rw[show (i:Int)+(j:Int)=((i+j:Nat):Int) from rfl]at E;refine SX 0 E I (Cd (by omega)) λa E=>?_;refine RN 1 E I λa E=>?_;rw[show (((i+j:Nat):Int).fdiv (2 ^ 1))=(((i+j)/2:Nat):Int) from ld (i+j) 2]at E;refine SX 0 E I (fU (by omega) (by omega)) λa E=>?_;refine bW 2 [8] [0,1,2,3,5,6,7,3004,1008,1009,10,11] E I λa w E I hH hC=>?_;have hr:Rd w bb oo (bc xs):=I.cJ bb oo (by omega);refine RH 7 E I hH hC λa E=>?_;refine QH E (λw hc=>ae E (hc.cell (hr k _ (dQ il)))) hC λa E=>?_;refine RH 0 E I hH hC λa E=>?_;refine SS E (ae E (hr ((i+j)/2) _ (dQ ma))) λa E=>?_;refine RH 0 E I hH hC λa E=>?_;refine aW 0 E I (hF.h I λh=>h.tail) (hf:=hF.c) λz a w E I=>?_;refine RN 2 E I λa E=>?_;refine IF 0 E I (λnf a E=>?_) λnf a E=>?_
    ·
     refine RN 3 E I λa E=>?_;exact⟨j-((i+j)/2+1),by omega,(i+j)/2+1,j,⟨rfl,⟨by omega,by omega⟩,hj⟩,E.ab [0,2,4,14,15],I⟩
    refine RN 2 E I λa E=>?_;exact⟨(i+j)/2-i,by omega,i,(i+j)/2,⟨rfl,⟨hi,by omega⟩,by omega⟩,E.ab [0,2,4,14,15],I⟩
   refine RN 4 E I λa E=>?_;refine aQ (λμ a w=>∃ (q:Nat) (zs:List UInt8),(μ=q∧q≤k∧zs.length=m)∧Fr a 220 [(0,sv bb oo m c),(14,.int .i64 i),(17,.int .i64 q)]∧U W w (ha bb oo m c zs::L)) (k) (⟨k,xs,⟨rfl,bh _,hx⟩,E.ab [0,14,17],I⟩) ?_;clear E I;rintro μ a w ⟨q,zs,⟨yG,hq,hz⟩,E,I⟩;refine IF 5 E I (λmM a E=>?_) λmM a E=>?_
   ·
    have cv:q<zs.length:=by omega
    have ew:q-1<zs.length:=by omega
    refine bW 1 [13] [0,1,2,3,4,5,6,7,8,10,11,12,3009,1013,14,1015,16,1017] E I λa w E I hH hC=>?_;have hr:Rd w bb oo (bc zs):=I.cJ bb oo (by omega);refine RH 5 E I hH hC λa E=>?_;rw[show (q:Int)-1=((q-1:Nat):Int) from by omega]at E;refine RH 3 E I hH hC λa E=>?_;rw[show (q:Int)-1=((q-1:Nat):Int) from by omega]at E;refine RH 4 E I hH hC λa E=>?_;refine QH E (λw hc=>ae E (hc.cell (hr (q-1) _ (dQ ew)))) hC λa E=>?_;refine RH 0 E I hH hC λa E=>?_;refine SS E (ae E (hr q _ (dQ cv))) λa E=>?_;refine RH 1 E I hH hC λa E=>?_;refine mx (off:=oo) (k:=q) E rfl I Ty.t5 rfl (by omega) (by rw[dt];omega) λa w E I=>?_;rw[tN]at I;refine RN 1 E I λa E=>?_;refine mx (off:=oo) (k:=q-1) E rfl I Ty.t5 rfl (by omega) (by rw[dt,bt];omega) λa w E I=>?_;rw[tN]at I;refine RN 2 E I λa E=>?_;rw[show (q:Int)-1=((q-1:Nat):Int) from by omega]at E;refine RN 1 E I λa E=>?_;exact⟨q-1,by omega,q-1,_,⟨rfl,by omega,by simp[hz]⟩,E.ab [0,14,17],I⟩
   refine RT 0 E I ?_;exact⟨zs,rfl,hz,I⟩
  refine RN 4 E I λa E=>?_;rw[show (lo:Int)+(up:Int)=((lo+up:Nat):Int) from rfl]at E;refine SX 0 E I (Cd (by omega)) λa E=>?_;refine RN 1 E I λa E=>?_;rw[show (((lo+up:Nat):Int).fdiv (2 ^ 1))=(((lo+up)/2:Nat):Int) from ld (lo+up) 2]at E;refine SX 0 E I (fU (by omega) (by omega)) λa E=>?_;refine RN 1 E I λa E=>?_;obtain⟨hs,EE⟩:∃ hs,hs=(lo+up)/2:=⟨_,rfl⟩;rw[← EE]at E;refine RN 8 E I λa E=>?_;refine cc (M:=λa w=>∃ s r:Nat,((lo≤s∧hs+k≤s+up)∧s≤r∧r≤hs∧r≤k)∧Fr a 220 [(0,sv bb oo m c),(1,.int .i64 lo),(2,.int .i64 k),(3,.int .i64 up),(4,kB f us),(18,.int .i64 hs),(19,.int .i64 ((hs:Int)+k)),(20,.int .i64 s),(21,.int .i64 r)]∧U W w (ha bb oo m c xs::L)) ?_ ?_
  ·
   refine IF 4 E I (λmN a E=>?_) λmN a E=>?_
   ·
    refine RN 4 E I λa E=>?_;rw[show (hs:Int)+(k:Int)-(up:Int)=((hs+k-up:Nat):Int) from by omega]at E;refine RN 3 E I λa E=>?_;exact⟨hs+k-up,hs,⟨⟨by omega,by omega⟩,by omega,by omega,by omega⟩,E.ab [0,1,2,3,4,18,19,20,21],I⟩
   refine RN 5 E I λa E=>?_;exact⟨lo,k,⟨⟨by omega,by omega⟩,by omega,by omega,by omega⟩,E.ab [0,1,2,3,4,18,19,20,21],I⟩
  clear E;(try clear I);rintro a w ⟨xw,Ce,⟨⟨js,cI⟩,nQ,hs4,pQ⟩,E,I⟩;refine RN 3 E I λa E=>?_;rw[show (hs:Int)+(k:Int)-1=((hs+k-1:Nat):Int) from by omega]at E;refine RN 2 E I λa E=>?_;refine aQ (λμ a w=>∃ (s r:Nat),(μ=r-s∧(lo≤s∧hs+k≤s+up)∧s≤r∧r≤hs∧r≤k)∧Fr a 220 [(0,sv bb oo m c),(1,.int .i64 lo),(2,.int .i64 k),(3,.int .i64 up),(4,kB f us),(18,.int .i64 hs),(19,.int .i64 ((hs:Int)+k)),(20,.int .i64 s),(21,.int .i64 r),(22,.int .i64 ((hs+k-1:Nat):Int))]∧U W w (ha bb oo m c xs::L)) (Ce-xw) (⟨xw,Ce,⟨rfl,⟨js,cI⟩,nQ,hs4,pQ⟩,E.ab [0,1,2,3,4,18,19,20,21,22],I⟩) ?_;clear E I;rintro μ a w ⟨s,r,⟨rfl,⟨g1,jZ⟩,nO,ov,ts⟩,E,I⟩;refine IF 5 E I (λka a E=>?_) λka a E=>?_
  ·
   have ma:(s+r)/2<xs.length:=by omega
   have il:hs+k-1-(s+r)/2<xs.length:=by omega
   refine RN 4 E I λa E=>?_;rw[show (s:Int)+(r:Int)=((s+r:Nat):Int) from rfl]at E;refine SX 0 E I (Cd (by omega)) λa E=>?_;refine RN 1 E I λa E=>?_;rw[show (((s+r:Nat):Int).fdiv (2 ^ 1))=(((s+r)/2:Nat):Int) from ld (s+r) 2]at E;refine SX 0 E I (fU (by omega) (by omega)) λa E=>?_;refine bW 2 [10] [0,1,2,3,4,5,7,8,9,3006,1010,1011,12,13] E I λa w E I hH hC=>?_;have hr:Rd w bb oo (bc xs):=I.cJ bb oo (by omega);refine RH 5 E I hH hC λa E=>?_;rw[show ((hs+k-1:Nat):Int)-(((s+r)/2:Nat):Int)=((hs+k-1-(s+r)/2:Nat):Int) from by omega]at E;refine RH 4 E I hH hC λa E=>?_;refine QH E (λw hc=>ae E (hc.cell (hr (hs+k-1-(s+r)/2) _ (dQ il)))) hC λa E=>?_;refine RH 0 E I hH hC λa E=>?_;refine SS E (ae E (hr ((s+r)/2) _ (dQ ma))) λa E=>?_;refine RH 0 E I hH hC λa E=>?_;refine aW 0 E I (hF.h I λh=>h.tail) (hf:=hF.c) λz a w E I=>?_;refine RN 2 E I λa E=>?_;refine IF 0 E I (λwL a E=>?_) λwL a E=>?_
   ·
    refine RN 3 E I λa E=>?_;exact⟨r-((s+r)/2+1),by omega,(s+r)/2+1,r,⟨rfl,⟨by omega,by omega⟩,by omega,ov,ts⟩,E.ab [0,1,2,3,4,18,19,20,21,22],I⟩
   refine RN 2 E I λa E=>?_;exact⟨(s+r)/2-s,by omega,s,(s+r)/2,⟨rfl,⟨g1,jZ⟩,by omega,by omega,by omega⟩,E.ab [0,1,2,3,4,18,19,20,21,22],I⟩
  refine RN 4 E I λa E=>?_;rw[show (hs:Int)+(k:Int)-(s:Int)=((hs+k-s:Nat):Int) from by omega]at E;refine RN 1 E I λa E=>?_;refine cc (M:=λa w=>∃ zs:List UInt8,zs.length=m∧Fr a 220 [(0,sv bb oo m c),(1,.int .i64 lo),(3,.int .i64 up),(4,kB f us),(18,.int .i64 hs),(20,.int .i64 s),(24,.int .i64 ((hs+k-s:Nat):Int))]∧U W w (ha bb oo m c zs::L)) ?_ ?_
  ·
   refine BY 5 E I (λbE a E=>?_) λbE a E=>?_
   ·
    refine IF 4 E I (λth a E=>?_) λth a E=>?_
    ·
     refine aW 5 E I (rotate I hx (by omega) (by omega) (by omega) hm) λys a w E ⟨hy,I⟩=>?_;refine RN 0 E I λa E=>?_;exact⟨ys,hy,E.ab [0,1,3,4,18,20,24],I⟩
    refine RN 0 E I λa E=>?_;exact⟨xs,hx,E.ab [0,1,3,4,18,20,24],I⟩
   refine RN 5 E I λa E=>?_;exact⟨xs,hx,E.ab [0,1,3,4,18,20,24],I⟩
  clear E;(try clear I);rintro a w ⟨zs,hz,E,I⟩;refine cc (M:=λa w=>∃ zs:List UInt8,zs.length=m∧Fr a 220 [(0,sv bb oo m c),(3,.int .i64 up),(4,kB f us),(18,.int .i64 hs),(24,.int .i64 ((hs+k-s:Nat):Int))]∧U W w (ha bb oo m c zs::L)) ?_ ?_
  ·
   refine BY 5 E I (λbE a E=>?_) λbE a E=>?_
   ·
    refine IF 4 E I (λyJ a E=>?_) λyJ a E=>?_
    ·
     refine aW 5 E I (ih (by omega) hz (by omega) (by omega) (by omega) I) λys a w E ⟨hy,I⟩=>?_;refine RN 0 E I λa E=>?_;exact⟨ys,hy,E.ab [0,3,4,18,24],I⟩
    refine RN 0 E I λa E=>?_;exact⟨zs,hz,E.ab [0,3,4,18,24],I⟩
   refine RN 5 E I λa E=>?_;exact⟨zs,hz,E.ab [0,3,4,18,24],I⟩
  clear E;(try clear I);rintro a w ⟨zs,hz,E,I⟩;refine BY 5 E I (λbE a E=>?_) λbE a E=>?_
  ·
   refine IF 4 E I (λwM a E=>?_) λwM a E=>?_
   ·
    refine aW 5 E I (ih (by omega) hz (by omega) (by omega) (by omega) I) λys a w E ⟨hy,I⟩=>?_;refine RT 0 E I ?_;exact⟨ys,rfl,hy,I⟩
   refine RT 0 E I ?_;exact⟨zs,rfl,hz,I⟩
  refine RT 5 E I ?_;exact⟨zs,rfl,hz,I⟩
theorem aaA (I:U W w (ha bb oo m c xs::L))(hF:zw W L f us)(hx:xs.length=m)(hm:m≤1000) :
   Calls prog 335 #[sv bb oo m c,.int .i64 m,kB f us] w λe V=>∃ ys:List UInt8,e=.returned (.tuple #[])∧ys.length=m∧U W V (ha bb oo m c ys::L):=by
 refine EN func335 ntmps335 rfl rfl λa E=>?_;refine RN 7 E I λa E=>?_;refine aQ (λμ a w=>∃ (q:Nat) (ys:List UInt8),(μ=m-q∧q≤m∧ys.length=m)∧Fr a 63 [(0,sv bb oo m c),(1,.int .i64 m),(2,kB f us),(6,.int .i64 20),(7,.int .i64 q),(8,.int .i64 ((q+20:Nat):Int))]∧U W w (ha bb oo m c ys::L)) (m) (⟨0,xs,⟨rfl,Nat.zero_le _,hx⟩,E.ab [0,1,2,6,7,8],I⟩) ?_;clear E I;rintro μ a w ⟨q,ys,⟨rfl,hq,hy⟩,E,I⟩;refine IF 5 E I (λaj a E=>?_) λaj a E=>?_
 ·
  refine aW 5 E I (Ng I hF hy (by omega) hm hq) λzs a w E ⟨hz,I⟩=>?_;refine RN 7 E I λa E=>?_;exact⟨m-(q+20),by omega,q+20,zs,⟨rfl,by omega,hz⟩,E.ab [0,1,2,6,7,8],I⟩
 refine aW 5 E I (Ng I hF hy (bh _) hm hq) λzs a w E ⟨hz,I⟩=>?_;refine RN 0 E I λa E=>?_;refine aQ (λμ a w=>∃ (s:Nat) (ys:List UInt8),(μ=m-s∧(1≤s∧s≤2000)∧ys.length=m)∧Fr a 63 [(0,sv bb oo m c),(1,.int .i64 m),(2,kB f us),(6,.int .i64 s)]∧U W w (ha bb oo m c ys::L)) (m-20) (⟨20,zs,⟨rfl,⟨by decide,by decide⟩,hz⟩,E.ab [0,1,2,6],I⟩) ?_;clear E I;rintro μ a w ⟨s,ys,⟨rfl,⟨js,cI⟩,hy⟩,E,I⟩;refine IF 5 E I (λao a E=>?_) λao a E=>?_
 ·
  refine RN 3 E I λa E=>?_;rw[show (2:Int)*(s:Int)=((2*s:Nat):Int) from by omega]at E;refine RN 3 E I λa E=>?_;refine aQ (λμ a w=>∃ (q:Nat) (ys:List UInt8),(μ=m-q∧q≤m∧ys.length=m)∧Fr a 63 [(0,sv bb oo m c),(1,.int .i64 m),(2,kB f us),(6,.int .i64 s),(7,.int .i64 q),(8,.int .i64 ((q+2*s:Nat):Int))]∧U W w (ha bb oo m c ys::L)) (m) (⟨0,ys,⟨rfl,Nat.zero_le _,hy⟩,(by rw[ep];exact E.ab [0,1,2,6,7,8]),I⟩) ?_;clear E I;rintro μ a w ⟨q,ys,⟨rfl,hq,hy⟩,E,I⟩;refine IF 5 E I (λay a E=>?_) λay a E=>?_
  ·
   refine RN 6 E I λa E=>?_;rw[show (q:Int)+(s:Int)=((q+s:Nat):Int) from rfl]at E;refine aW 2 E I (Nj hF hm _ (bh _) hy (by omega) (by omega) (by omega) I) λzs a w E ⟨hz,I⟩=>?_;refine RN 7 E I λa E=>?_;rw[show ((q+2*s:Nat):Int)+2*(s:Int)=((q+2*s+2*s:Nat):Int) from by omega]at E;refine RN 1 E I λa E=>?_;exact⟨m-(q+2*s),by omega,q+2*s,zs,⟨rfl,by omega,hz⟩,E.ab [0,1,2,6,7,8],I⟩
  refine RN 5 E I λa E=>?_;rw[show (q:Int)+(s:Int)=((q+s:Nat):Int) from rfl]at E;refine IF 5 E I (λbj a E=>?_) λbj a E=>?_
  ·
   refine aW 5 E I (Nj hF hm _ (bh _) hy (by omega) (by omega) (bh _) I) λzs a w E ⟨hz,I⟩=>?_;refine RN 2 E I λa E=>?_;rw[show (s:Int)*2=((s*2:Nat):Int) from by omega]at E;refine RN 1 E I λa E=>?_;exact⟨m-s*2,by omega,s*2,zs,⟨rfl,⟨by omega,by omega⟩,hz⟩,E.ab [0,1,2,6],I⟩
  refine RN 2 E I λa E=>?_;rw[show (s:Int)*2=((s*2:Nat):Int) from by omega]at E;refine RN 1 E I λa E=>?_;exact⟨m-s*2,by omega,s*2,ys,⟨rfl,⟨by omega,by omega⟩,hy⟩,E.ab [0,1,2,6],I⟩
 refine RT 0 E I ?_;exact⟨ys,rfl,hy,I⟩
theorem aaB (I:U W w (ha bb oo m c xs::L))(hF:zw W L f us)(hx:xs.length=m)(hm:m≤1000) :
   Calls prog 327 #[sv bb oo m c,kB f us] w λe V=>∃ ys:List UInt8,e=.returned (.tuple #[])∧ys.length=m∧U W V (ha bb oo m c ys::L):=by
 refine EN func327 ntmps327 rfl rfl λa E=>?_;refine aW 4 E I (aaA I hF hx hm) λys a w E ⟨hy,I⟩=>?_;refine RT 0 E I ?_;exact⟨ys,rfl,hy,I⟩
theorem aaC {b:Gs}{adT:Option Addr}{cT b3 dv b8 qX:Nat}{d u:UInt8}{g:Nat→Int}:zw W (aa b8 5 [.int .u8 (d.toNat:Nat)]::aa qX 5 [.int .u8 (u.toNat:Nat)]::aa b3 186 (dr b adT cT)::aa dv 320 (ints .i64 256 g)::L)
   328 [pt b8,pt qX,pt b3,pt dv]:=by
 refine⟨by kernel_rfl,?_⟩;intro w M x y I hM;have hx:=x.toNat_lt;have hy:=y.toNat_lt;refine EN func328 ntmps328 rfl rfl λa E=>?_;refine RN 4 E I λa E=>?_;refine SS E (ae E ((hM I).bz (b:=b8) rfl)) λa E=>?_;refine RN 0 E I λa E=>?_;refine SS E (ae E ((hM I).bz (b:=qX) rfl)) λa E=>?_;refine RN 0 E I λa E=>?_;refine SS E (DL E underlying423 Ty.t423 Ty.t5 rfl rfl) λa E=>?_;refine RN 1 E I λa E=>?_;refine aQ (λμ a w=>∃ (i:Nat),(μ=2-i∧i≤2)∧Fr a 47 [(0,.int .u8 (x.toNat:Nat)),(1,.int .u8 (y.toNat:Nat)),(4,pt b3),(5,pt dv),(13,.agg #[.int .u8 (d.toNat:Nat),.int .u8 (u.toNat:Nat)]),(14,.int .i64 i)]∧U W w M) (2) (⟨0,⟨rfl,by decide⟩,E.ab [0,1,4,5,13,14],I⟩) ?_;clear E I;rintro μ a w ⟨i,⟨rfl,hi⟩,E,I⟩;refine IF 3 E I (λaj a E=>?_) λaj a E=>?_
 ·
  obtain⟨q,hq⟩:∃ q:UInt8,[Value.int .u8 (d.toNat:Nat),Value.int .u8 (u.toNat:Nat)][i]?=some (.int .u8 (q.toNat:Nat)):=by
   have:i=0∨i=1:=by omega
   rcases this with rfl | rfl
   ·exact⟨d,rfl⟩
   ·exact⟨u,rfl⟩
  refine RN 2 E I λa E=>?_;refine SS E (sP E underlying423 underlying5 rfl Ty.t5 (by omega) hq) λa E=>?_;refine bW 3 [9] [0,1001,2,3,4,5,7,8,3006,1009,10,11] E I λa w E I hH hC=>?_;refine RH 1 E I hH hC λa E=>?_;refine SS E (ae E ((hM I).bz (b:=b3) rfl)) λa E=>?_;refine RH 2 E I hH hC λa E=>?_;refine E.by (s:=20) (λbE E=>?_) (λbE E=>?_)
  ·
   refine RH 4 E I hH hC λa E=>?_;refine QH E (λw hc=>ae E (hc.cell ((hM I).bz (b:=dv) (fX g hx)))) hC λa E=>?_;refine RH 0 E I hH hC λa E=>?_;refine bu E (cu E rfl (s:=20)) (ae E ((hM I).bz (b:=dv) (fX g hy))) rfl λa E=>?_;refine RH 2 E I hH hC λa E=>?_;refine IF 0 E I (λao a E=>?_) λao a E=>?_
   ·
    refine bW 1 [5] [0,1,3,4,3002,1005,6,7] E I λa w E I hH hC=>?_;refine RH 4 E I hH hC λa E=>?_;refine QH E (λw hc=>ae E (hc.cell ((hM I).bz (b:=dv) (fX g hy)))) hC λa E=>?_;refine RH 0 E I hH hC λa E=>?_;refine SS E (ae E ((hM I).bz (b:=dv) (fX g hx))) λa E=>?_;refine RH 0 E I hH hC λa E=>?_;refine QP E (λw=>xZ E) λa E=>?_;refine RH 1 E I hH hC λa E=>?_;refine RT 0 E I ?_;exact⟨_,rfl,I⟩
   refine IF 8 E I (λay a E=>?_) λay a E=>?_
   ·
    refine IF 5 E I (λbj a E=>?_) λbj a E=>?_
    ·
     refine RT 2 E I ?_;exact⟨_,rfl,I⟩
    refine RT 2 E I ?_;exact⟨_,rfl,I⟩
   refine RN 2 E I λa E=>?_;exact⟨2-(i+1),by omega,i+1,⟨rfl,by omega⟩,E.ab [0,1,4,5,13,14],I⟩
  refine RH 8 E I hH hC λa E=>?_;refine IF 9 E I (λay a E=>?_) λay a E=>?_
  ·
   refine IF 5 E I (λbj a E=>?_) λbj a E=>?_
   ·
    refine RT 2 E I ?_;exact⟨_,rfl,I⟩
   refine RT 2 E I ?_;exact⟨_,rfl,I⟩
  refine RN 2 E I λa E=>?_;exact⟨2-(i+1),by omega,i+1,⟨rfl,by omega⟩,E.ab [0,1,4,5,13,14],I⟩
 refine RT 2 E I ?_;exact⟨_,rfl,I⟩
end
theorem aaD:xu:=by
 refine⟨?_⟩;intro W w L c k cT ad adT past b I hb hk eO j6 hp ht;refine EN func310 ntmps310 rfl rfl λa E=>?_;refine BX 1 E I λb3 a w E I=>?_;change U W w (aa b3 186 (dr b adT cT)::_) at I;refine aW 4 E I (zp I) λr a w E ⟨hr,I⟩=>?_;obtain rfl:=hr.2 hb;refine RN 1 E I λa E=>?_;replace E:=E.aK 14;refine CL 4 E I (ML I hb (by omega) j6 (λV h=>hp _ h.tail)) λa w E I=>?_;refine AL 0 E I λdv a w E I=>?_;rw[qV]at I;refine SA 0 E I λa w E I=>?_;refine CL 3 E I (MN I hb (by omega) j6 (λV h=>hp _ h.tail.tail) (λV h=>ht _ h.tail.tail)) λa w E I=>?_;refine CL 1 E I (MM I (by omega) (λV h=>hp _ h.tail.tail)) λa w E I=>?_;refine AL 0 E I λb8 a w E I=>?_;refine AL 0 E I λqX a w E I=>?_;refine ST 0 E I (λa w E I=>?_);refine ST 0 E I (λa w E I=>?_);refine RN 5 E I λa E=>?_;replace I:U W w (Sl 5 1 none 0 0 (bc [])::_):=I.bR 5 1 none;refine aQ (λμ a w=>∃ (i:Nat) (g7:Option Addr) (cl:Nat) (ys:List UInt8),(μ=256-i∧i≤256∧ys.length=i)∧Fr a 40 [(2,.int .i64 k),(3,pt b3),(7,pt dv),(8,pt b8),(9,pt qX),(10,.slice g7 i cl),(23,.int .i64 i)]∧U W w (Sl 5 1 g7 i cl (bc ys)::aa b8 5 [.int .u8 ((nv b past).toNat:Nat)]::aa qX 5 [.int .u8 ((iv past).toNat:Nat)]::aa b3 186 (dr b adT cT)::aa dv 320 (ints .i64 256 (gJ b past))::L)) (256) (⟨0,none,0,[],⟨rfl,by decide,rfl⟩,E.ab [2,3,7,8,9,10,23],I.sub⟩) ?_;clear E I;rintro μ a w ⟨i,g7,cl,ys,⟨rfl,hi,hy⟩,E,I⟩;refine IF 3 E I (λao a E=>?_) λao a E=>?_
 ·
  refine RN 6 E I λa E=>?_;refine SS E (gr E underlying3 underlying5) λa E=>?_;rw[wrap_u8,show (i:Int)%256=(((UInt8.ofNat i).toNat:Nat):Int) from by rw[UInt8.toNat_ofNat'];omega]at E;refine RN 0 E I λa E=>?_;refine cn E rfl I underlying22 Ty.t5 rfl rfl rfl rfl (by decide) (by decide) λWb a w E I ho=>?_;clear ho;refine RN 0 E I λa E=>?_;refine cK E rfl I underlying22 Ty.t5 rfl rfl I.ai rfl (eF [UInt8.ofNat i]) (by decide) (by decide) (by omega) λKc Kd a w E I=>?_;rw[show bc ys++_=bc (ys++[UInt8.ofNat i]) from (fR _ [_]).symm]at I;refine RN 3 E I λa E=>?_;exact⟨256-(i+1),by omega,i+1,Kc,Kd,ys++[UInt8.ofNat i],⟨rfl,by omega,by simp[hy]⟩,E.ab [2,3,7,8,9,10,23],I.sub⟩
 refine RN 1 E I λa E=>?_;obtain rfl:i=256:=by omega
 have hA:=E;have zx:=I;obtain⟨bb,oo,rfl,_⟩:=I.bY g7 (by omega);have E:=hA;have I:=zx;have cm:=(I.sl (some ⟨bb,oo,none⟩)).2;refine aW 2 E I (aaB I aaC hy (by decide)) λzs a w E ⟨hz,I⟩=>?_;refine RN 5 E I λa E=>?_;rw[show min (max (k:Int) 0) 256=(k:Int) from by omega]at E;refine RT 2 E I ?_;have h1:=I.Dw (some ⟨bb,oo,none⟩) 0 k (Nat.zero_le _) (by omega);rw[Nat.sub_zero,Nat.sub_zero,fD,Nat.zero_mul,drop_zero,show (bc zs).take k=bc (zs.take k) from by rw[bc,bc,map_take]]at h1;have hl:(zs.take k).length=k:=by rw[dH];omega
 exact⟨_,_,zs.take k,by rw[hl,Nat.sub_zero,Nat.sub_zero],hl,by rw[hl];exact h1.sub⟩
end
end Go.Proofs.YteoldcfapaiobaaGreat
