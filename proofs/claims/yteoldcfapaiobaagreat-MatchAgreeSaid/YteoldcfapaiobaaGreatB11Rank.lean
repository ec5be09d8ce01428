/- The document's guesses: quintainref12.MayBy, weights, ahead, Rank, Chain. -/
import Derived.Test.YteoldcfapaiobaaGreatB10Core
import Derived.Test.YteoldcfapaiobaaGreatB08Pkt3
import Derived.Test.YteoldcfapaiobaaGreatB09CoQ
import Derived.Test.YteoldcfapaiobaaGreatB01Row
namespace Go.Proofs.YteoldcfapaiobaaGreat
open Tryz
open List (drop_zero getElem?_append_right nil_append drop_eq_nil_of_le ext_getElem getElem_map append_nil map_take range_succ map_singleton getLastD_eq_getLast?)
open Go.RowKit
set_option linter.unusedVariables false
set_option linter.unusedSimpArgs false
set_option maxRecDepth 10000
set_option synthInstance.maxSize 4000
set_option synthInstance.maxHeartbeats 400000
section
def pD (w:Nat→Int)(last drawn:Int)(v u:Nat):Bool:=if (v:Int)=drawn∨(u:Int)=drawn then decide ((v:Int)=drawn) else if w v≠w u then decide (w u<w v) else decide ((v:Int)=last)
def hJ (w:Nat→Int)(last drawn:Int):Nat→Nat
 | 0=>0
 | i+1=>if pD w last drawn (i+1) (hJ w last drawn i)=true then i+1 else hJ w last drawn i
theorem Ft (w:Nat→Int)(last drawn:Int):∀ i,hJ w last drawn i≤i
 | 0=>bk _
 | i+1=>by
  rw[hJ];split
  ·exact bk _
  ·exact Nat.le_succ_of_le (Ft w last drawn i)
theorem LA {w:Nat→Int}{last:Int}{d:Nat}:∀ {i},d≤i→hJ w last d i=d
 | 0,h=>by rw[hJ];omega
 | i+1,h=>by
  rw[hJ];by_cases hd:d=i+1
  ·rw[al]
   ·exact hd.symm
   ·rw[pD,al (.inl (by omega))];exact dq (by omega)
  ·rw[LA (i:=i) (by omega),ag];rw[pD,al (.inr rfl),cr];omega
theorem LB {w:Nat→Int}{last:Nat}:∀ i,(∀ v,v≤i→w v≤w (hJ w last (-1) i))∧(hJ w last (-1) i=last∨((last≤i→w last<w (hJ w last (-1) i))∧∀ v,v<hJ w last (-1) i→w v<w (hJ w last (-1) i)))
 | 0=>by
  refine⟨λv hv=>by rw[hJ,show v=0 from by omega];exact Int.le_refl _,?_⟩;by_cases h:last=0
  ·exact .inl h.symm
  ·exact .inr ⟨λhl=>by omega,λv hv=>by rw[hJ]at hv;omega⟩
 | i+1=>by
  obtain⟨h1,h2⟩:=LB (w:=w) (last:=last) i;have hle:=Ft w last (-1) i;have h0:¬ (((i+1:Nat):Int) = -1∨((hJ w last (-1) i:Nat):Int) = -1):=by omega
  rw[hJ];generalize hJ w last (-1) i=r at *;rw[pD,ag h0];by_cases hw:w (i+1)=w r
  ·rw[ag (show ¬ w (i+1)≠w r from λh=>h hw)];by_cases hl:i+1=last
   ·rw[al (dq (by omega))];refine⟨λv hv=>?_,.inl hl⟩;by_cases rv:v=i+1
    ·subst rv;exact Int.le_refl _
    ·rw[hw];exact h1 v (by omega)
   ·rw[ag (by rw[cr];omega)];refine⟨λv hv=>?_,?_⟩
    ·by_cases rv:v=i+1
     ·subst rv;omega
     ·exact h1 v (by omega)
    ·rcases h2 with h2 | ⟨h2,h3⟩
     ·exact .inl h2
     ·exact .inr ⟨λhh=>h2 (by omega),h3⟩
  ·rw[al hw];by_cases hl:w r<w (i+1)
   ·rw[al (dq hl)];have hO:∀ v,v<i+1→w v<w (i+1):=λv hv=>by have:=h1 v (by omega);omega
    refine⟨λv hv=>?_,?_⟩
    ·by_cases rv:v=i+1
     ·subst rv;exact Int.le_refl _
     ·have:=hO v (by omega);omega
    ·by_cases u6:last=i+1
     ·exact .inl u6.symm
     ·exact .inr ⟨λhh=>hO last (by omega),hO⟩
   ·rw[ag (by rw[cr];exact hl)];refine⟨λv hv=>?_,?_⟩
    ·by_cases rv:v=i+1
     ·subst rv;omega
     ·exact h1 v (by omega)
    ·rcases h2 with h2 | ⟨h2,h3⟩
     ·exact .inl h2
     ·refine .inr ⟨λhh=>?_,h3⟩;by_cases u6:last=i+1
      ·subst u6;omega
      ·exact h2 (by omega)
def sT (b:Gs)(past:List UInt8):Int:=if b.kind=3 then ((b.table.getD (past.length%b.table.length) 0).toNat:Int) else -1
theorem YV {b:Gs}{past:List UInt8}(hb:cY b):hJ (gB b past) ((ig past).toNat:Nat) (sT b past) 255=(m5 b past).toNat:=by
 have Fq:=lL (ig past);unfold sT m5;split
 ·have:=lL (b.table.getD (past.length%b.table.length) 0);exact LA (by omega)
 ·rw[UInt8.toNat_ofNat'];obtain⟨h1,h2⟩:=LB (w:=gB b past) (last:=(ig past).toNat) 255;have hle:=Ft (gB b past) ((ig past).toNat:Nat) (-1) 255;generalize hJ (gB b past) ((ig past).toNat:Nat) (-1) 255=r at *;rcases h2 with h2 | ⟨h2,h3⟩
  ·rw[KC λv hv=>by rw[← h2];exact h1 v (by omega),h2];omega
  ·have h4:=(KD (last:=(ig past).toNat) (h2 (by omega)) h3 (i:=256) λv hv=>h1 v (by omega)).2 (by omega);rw[h4];omega
def sU (t:Nat→Bool):List Value:=fn 256 λi=>.bool (t i)
theorem YW (t:Nat→Bool):(sU t).length=256:=HN _ _
theorem YX {t:Nat→Bool}{i:Nat}(h:i<256):(sU t)[i]?=some (.bool (t i)):=HO _ h
theorem YY {t:Nat→Bool}{i:Nat}:(sU t).set i (.bool true)=sU λj=>if j=i then true else t j:=by
 rw[sU,HP];exact Cq λj _=>by by_cases h:j=i <;> simp[h]
theorem YZ (m:Nat)(v:Value):List.replicate m v=fn m λ_=>v:=by
 apply ext_getElem (by simp[fn]);intro i h1 h2;simp[fn]
theorem Y0:List.replicate 256 (Value.bool false)=sU λ_=>false:=YZ 256 _
def qn (t:Nat→Bool):Nat→Nat
 | 0=>0
 | i+1=>qn t i+if t i=true then 1 else 0
theorem LC {t:Nat→Bool}:∀ {i},(∀ v,v<i→t v=true)→qn t i=i
 | 0,_=>rfl
 | i+1,h=>by rw[qn,LC (i:=i) λv hv=>h v (by omega),al (h i (by omega))]
theorem LD {t:Nat→Bool}{u:Nat}(hu:t u=false):∀ {i},qn (λj=>if j=u then true else t j) i=qn t i+if u<i then 1 else 0
 | 0=>by simp[qn]
 | i+1=>by
  rw[qn,qn,LD hu (i:=i)];by_cases h:i=u
  ·subst h;simp[hu]
  ·by_cases h2:u<i
   ·simp[h,h2,show u<i+1 from by omega];omega
   ·simp[h,h2,show ¬ u<i+1 from by omega]
def j1 (w:Nat→Int)(last drawn:Int)(t:Nat→Bool)(first:Bool)(i:Nat)(fH:Int):Prop :=
 (fH = -1∧∀ v,v<i→t v=true)∨∃ u:Nat,fH=(u:Int)∧u<i∧t u=false∧(first=true→u=hJ w last drawn (i-1))
section
variable {w:Nat→Int}{last drawn:Int}{t:Nat→Bool}{f:Bool}{i u:Nat}{fH:Int}
theorem j1.take (h:j1 w last drawn t f i fH)(h0:fH<0)(hi:t i=false)(hf:f=true→∀ v,t v=false):j1 w last drawn t f (i+1) i:=by
 refine .inr ⟨i,rfl,by omega,hi,λjz=>?_⟩;rcases h with ⟨_,h⟩ | ⟨u,h,_⟩
 ·have : i = 0 := by
   rcases Nat.eq_zero_or_pos i with h1 | h1
   ·exact h1
   ·have h2:=h 0 h1;rw[hf jz 0]at h2;cases h2
  subst this;rfl
 ·omega
theorem j1.nat (h:j1 w last drawn t f i fH)(h0:0≤fH):∃ u:Nat,fH=(u:Int)∧u<i∧t u=false∧(f=true→u=hJ w last drawn (i-1)):=by
 rcases h with ⟨h,_⟩ | h
 ·omega
 ·exact h
theorem j1.up (hu:u<i∧t u=false∧(f=true→u=hJ w last drawn (i-1)))(E:pD w last drawn i u=true)(hi:t i=false):j1 w last drawn t f (i+1) i:=by
 refine .inr ⟨i,rfl,by omega,hi,λhf=>?_⟩;have h1:=hu.2.2 hf;obtain⟨j,rfl⟩:∃ j,i=j+1:=⟨i-1,by omega⟩;rw[Nat.add_sub_cancel]at h1 ⊢;rw[hJ,← h1,al E]
theorem j1.ab (hu:u<i∧t u=false∧(f=true→u=hJ w last drawn (i-1)))(E:pD w last drawn i u=false):j1 w last drawn t f (i+1) u:=by
 refine .inr ⟨u,rfl,by omega,hu.2.1,λhf=>?_⟩;have h1:=hu.2.2 hf;obtain⟨j,rfl⟩:∃ j,i=j+1:=⟨i-1,by omega⟩;rw[Nat.add_sub_cancel]at h1 ⊢;rw[hJ,← h1,E,ag (by decide)]
theorem j1.skip (h:j1 w last drawn t f i fH)(hi:t i=true)(hf:f=true→∀ v,t v=false):j1 w last drawn t f (i+1) fH:=by
 have oq:f=true→False:=λh=>by rw[hf h i]at hi;cases hi
 rcases h with ⟨h1,h⟩ | ⟨u,h1,h2,h3,_⟩
 ·refine .inl ⟨h1,λv hv=>?_⟩;by_cases Y1:v=i
  ·subst Y1;exact hi
  ·exact h v (by omega)
 ·exact .inr ⟨u,h1,by omega,h3,λh=>(oq h).elim⟩
theorem j1.Fu (h:j1 w last drawn t f 256 fH)(hc:qn t 256<256):∃ u:Nat,fH=(u:Int)∧u<256∧t u=false∧(f=true→u=hJ w last drawn 255):=by
 rcases h with ⟨_,h⟩ | h
 ·rw[LC h]at hc;omega
 ·exact h
theorem j1.start:j1 w last drawn t f 0 (-1):=.inl ⟨rfl,λv hv=>by omega⟩
end
section
variable {W w:World}{L:List SP}{n c m cT:Nat}{ad adT:Option Addr}{past:List UInt8}{b:Gs}{g:Nat→Int}
theorem AQ (I:U W w L):Calls prog 49 #[.agg (dr b adT cT).toArray] w λe V=>∃ r:Bool,e=.returned (.bool r)∧(r=true↔cY b)∧U W V L:=by
 refine EN func49 ntmps49 rfl rfl λa E=>?_;refine BX 1 E I λb1 a w E I=>?_;change U W w (aa b1 47 (dr b adT cT)::_) at I;refine BY 7 E I (λbF a E=>?_) λbF a E=>?_
 ·
  refine RT 27 E I ?_;exact⟨_,rfl,⟨λh=>(by cases h),λh=>by rw[cY]at h;exfalso;omega⟩,I.sub⟩
 refine BY 5 E I (λeh a E=>?_) λeh a E=>?_
 ·
  refine RT 22 E I ?_;exact⟨_,rfl,⟨λh=>(by cases h),λh=>by rw[cY]at h;exfalso;omega⟩,I.sub⟩
 refine BY 5 E I (λkv a E=>?_) λkv a E=>?_
 ·
  refine RT 17 E I ?_;exact⟨_,rfl,⟨λh=>(by cases h),λh=>by rw[cY]at h;exfalso;omega⟩,I.sub⟩
 refine BY 5 E I (λoZ a E=>?_) λoZ a E=>?_
 ·
  refine RT 12 E I ?_;exact⟨_,rfl,⟨λh=>(by cases h),λh=>by rw[cY]at h;exfalso;omega⟩,I.sub⟩
 refine BY 4 E I (λpj a E=>?_) λpj a E=>?_
 ·
  refine IF 5 E I (λaj a E=>?_) λaj a E=>?_
  ·
   refine RT 2 E I ?_;exact⟨_,rfl,⟨λh=>(by cases h),λh=>by rw[cY]at h;exfalso;omega⟩,I.sub⟩
  refine IF 5 E I (λao a E=>?_) λao a E=>?_
  ·
   refine BY 6 E I (λda a E=>?_) λda a E=>?_
   ·
    refine RT 6 E I ?_;exact⟨_,rfl,(by rw[cr,cY];omega),I.sub⟩
   refine RT 6 E I ?_;exact⟨_,rfl,⟨λh=>(by cases h),λh=>by rw[cY]at h;exfalso;omega⟩,I.sub⟩
  refine RT 6 E I ?_;exact⟨_,rfl,(by rw[cr,cY];omega),I.sub⟩
 refine IF 11 E I (λao a E=>?_) λao a E=>?_
 ·
  refine BY 6 E I (λda a E=>?_) λda a E=>?_
  ·
   refine RT 6 E I ?_;exact⟨_,rfl,(by rw[cr,cY];omega),I.sub⟩
  refine RT 6 E I ?_;exact⟨_,rfl,⟨λh=>(by cases h),λh=>by rw[cY]at h;exfalso;omega⟩,I.sub⟩
 refine RT 6 E I ?_;exact⟨_,rfl,(by rw[cr,cY];omega),I.sub⟩
theorem Y2 (I:U W w L)(hb:cY b)(eF:past.length≤4000)(jN:past.length≤c)(hp:∀ V,U W V L→aQ V ad past.length past) :
   Calls prog 192 #[.agg (dr b adT cT).toArray,.slice ad past.length c] w λe V=>e=.returned (.agg (ints .i64 256 (gB b past)).toArray)∧U W V L:=by
 simp only[cY]at hb;refine EN func192 ntmps192 rfl rfl λa E=>?_;refine BX 1 E I λb2 a w E I=>?_;change U W w (aa b2 47 (dr b adT cT)::_) at I;refine AL 0 E I λb4 a w E I=>?_;rw[qm]at I;refine AL 1 E I λb5 a w E I=>?_;rw[qm]at I;refine BY 6 E I (λbF a E=>?_) λbF a E=>?_
 ·
  refine SA 9 E I λa w E I=>?_;refine RT 0 E I ?_;exact⟨by rw[gB,ag (by omega)],I.sub⟩
 refine IF 6 E I (λaj a E=>?_) λaj a E=>?_
 ·
  refine SA 2 E I λa w E I=>?_;refine RT 0 E I ?_;exact⟨by rw[gB,al (by omega),ya (by omega)],I.sub⟩
 refine RN 1 E I λa E=>?_;have ca:b.kind=2:=by omega
 obtain⟨o,ho⟩:∃ o:Nat,b.order=(o:Int):=⟨b.order.toNat,by omega⟩;rw[dr,ho]at I;have cS:o≤past.length:=by omega
 have kV:gB b past=gX o past past.length:=by rw[gB,al ca,ho,Int.toNat_natCast]
 refine RN 6 E I λa E=>?_;rw[show ((past.length:Nat):Int)-(o:Int)=((past.length-o:Nat):Int) from by omega]at E;refine RN 1 E I λa E=>?_;refine SS E (lg E underlying22 underlying5 underlying9 ((show aQ w (fm ad (past.length-o) c 1) (past.length-(past.length-o)) (past.drop (past.length-o)) from by have h1:=(hp _ I.tail.tail.tail).tX (lo:=past.length-o) (by omega) jN;rw[c8]at h1;exact h1))) λa E=>?_;refine RN 6 E I λa E=>?_;have YS:o≤3:=by omega
 refine aP (λμ a w=>∃ (i:Nat),(μ=past.length-i∧o≤i∧i≤past.length)∧Fr a 54 [(1,.slice ad past.length c),(2,pt b2),(4,pt b4),(5,pt b5),(6,.string ⟨(past.drop (past.length-o)).toArray⟩),(7,.int .i64 i)]∧U W w (aa b5 320 (ints .i64 256 (gX o past i))::aa b4 320 (ints .i64 256 (λ_=>0))::aa b2 47 [.int .i64 b.kind,.int .i64 o,.slice adT b.table.length cT]::L)) (past.length-o) (⟨o,⟨rfl,bk _,cS⟩,E.ab [1,2,4,5,6,7],by rw[ya (bk _)];exact I.sub⟩) ?_;clear E I;rintro μ a w ⟨i,⟨rfl,Fo,hi⟩,E,I⟩;refine IF 6 E I (λao a E=>?_) λao a E=>?_
 ·
  have aG:i<past.length:=by omega
  have nn:=Ax o past i past[i].toNat;have qh:=lL past[i];refine RN 7 E I λa E=>?_;rw[show ((i:Nat):Int)-(o:Int)=((i-o:Nat):Int) from by omega]at E;refine RN 2 E I λa E=>?_;rw[show i-(i-o)=o from by omega]at E;refine SS E (lg E underlying22 underlying5 underlying9 ((hp _ I.tail.tail.tail).yb (lo:=i-o) (n:=o) (by omega) jN)) λa E=>?_;refine RN 1 E I λa E=>?_;refine SS E (rS E) λa E=>?_;rw[p0]at E;refine IF 0 E I (λaz a E=>?_) λaz a E=>?_
  ·
   obtain⟨bb,oo,rfl,hr⟩:=(hp _ I.tail.tail.tail).get (by omega);refine RN 3 E I λa E=>?_;refine SS E (ae E (hr i _ (dS aG))) λa E=>?_;refine RN 1 E I λa E=>?_;refine SS E (ae E (I.bz (fO _ qh))) λa E=>?_;refine ST 2 E I (λa w E I=>?_) (hlt:=(by rw[dm];omega));rw[ints_set]at I;refine RN 3 E I λa E=>?_;exact⟨past.length-(i+1),by omega,i+1,⟨rfl,by omega,by omega⟩,E.ab [1,2,4,5,6,7],by
    rw[show gX o past (i+1)=λj=>if j=past[i].toNat then gX o past i past[i].toNat+1 else gX o past i j from by
     rw[gX,al ⟨Fo,by rw[x9,← az]⟩,bl,aF aG];rfl]
    exact I.sub⟩
  refine RN 3 E I λa E=>?_;exact⟨past.length-(i+1),by omega,i+1,⟨rfl,by omega,by omega⟩,E.ab [1,2,4,5,6,7],by
   rw[show gX o past (i+1)=gX o past i from by
    rw[gX,ag (λh=>by
     have h2:=h.2;rw[x9]at h2;rw[h2]at az;cases az)]]
   exact I.sub⟩
 obtain rfl:i=past.length:=by omega
 refine SA 2 E I λa w E I=>?_;refine RT 0 E I ?_;exact⟨by rw[kV],I.sub⟩
theorem Y3 {v u:Nat}{last drawn:Int}(I:U W w L)(hv:v<256)(hu:u<256):Calls prog 193 #[.int .i64 v,.int .i64 u,.agg (ints .i64 256 g).toArray,.int .i64 last,.int .i64 drawn] w λe V=>e=.returned (.bool (pD g last drawn v u))∧U W V L:=by
 refine EN func193 ntmps193 rfl rfl λa E=>?_;refine BX 1 E I λdv a w E I=>?_;refine BY 7 E I (λbF a E=>?_) λbF a E=>?_
 ·
  refine RT 10 E I ?_;exact⟨by rw[pD,al (.inl bF)],I.sub⟩
 refine IF 4 E I (λaj a E=>?_) λaj a E=>?_
 ·
  refine RT 5 E I ?_;exact⟨by rw[pD,al (.inr aj)],I.sub⟩
 refine RN 2 E I λa E=>?_;have h0:¬ ((v:Int)=drawn∨(u:Int)=drawn):=by omega
 refine bS 0 [5] [0,1,3,4,3002,1005,6] E I λa w E I hH hC=>?_;refine RH 4 E I hH hC λa E=>?_;refine QH E (λw hc=>ae E (hc.cell (I.bz (fO _ hv)))) hC λa E=>?_;refine RH 0 E I hH hC λa E=>?_;refine SS E (ae E (I.bz (fO _ hu))) λa E=>?_;refine RH 1 E I hH hC λa E=>?_;refine IF 0 E I (λao a E=>?_) λao a E=>?_
 ·
  refine bS 1 [5] [0,1,3,4,3002,1005,6,7] E I λa w E I hH hC=>?_;refine RH 4 E I hH hC λa E=>?_;refine QH E (λw hc=>ae E (hc.cell (I.bz (fO _ hv)))) hC λa E=>?_;refine RH 0 E I hH hC λa E=>?_;refine SS E (ae E (I.bz (fO _ hu))) λa E=>?_;refine RH 2 E I hH hC λa E=>?_;refine RT 0 E I ?_;exact⟨by rw[pD,ag h0,al ao],I.sub⟩
 refine RT 5 E I ?_;exact⟨by rw[pD,ag h0,ag (λh=>h ao)],I.sub⟩
set_option maxHeartbeats 1000000 in
theorem LF {k:Nat}(I:U W w L)(hb:cY b)(hk:1≤k∧k≤100000)(eF:past.length≤4000)(jN:past.length≤c)(hp:∀ V,U W V L→aQ V ad past.length past)(ht:∀ V,U W V L→aQ V adT b.table.length b.table) :
   Calls prog 160 #[.agg (dr b adT cT).toArray,.slice ad past.length c,.int .i64 k] w λe V=>∃ (av:Option Addr) (c':Nat) (out:List UInt8),e=.returned (.slice av out.length c')∧(out.length=min k 256∧out[0]?=some (m5 b past))∧U W V (Sl 5 1 av out.length c' (bc out)::L):=by
 have lf:=hb;simp only[cY]at lf;refine EN func160 ntmps160 rfl rfl λa E=>?_;refine BX 1 E I λb3 a w E I=>?_;change U W w (aa b3 47 (dr b adT cT)::_) at I;refine aR 4 E I (AQ I) λr a w E ⟨hr,I⟩=>?_;rw[hr.2 hb]at E;refine RN 2 E I λa E=>?_;replace E:=E.aK 17;refine RN 3 E I λa E=>?_;rw[bq (by omega)]at E;refine CL 4 E I (Y2 I hb eF jN (λV hw=>hp V hw.tail)) λa w E I=>?_;refine AL 0 E I λdv a w E I=>?_;rw[qm]at I;refine SA 0 E I λa w E I=>?_;refine RN 3 E I λa E=>?_;have tF:(if 0<past.length then ((past.getD (past.length-1) 0).toNat:Int) else 0)=((ig past).toNat:Nat):=by
  split
  ·rw[ig,getLastD_eq_getLast?,List.getLast?_eq_getElem?,bl]
  ·rw[ig,g5 (l:=past) (by omega)];rfl
 refine cc (M:=λa w=>Fr a 86 [(1,.slice ad past.length c),(2,.int .i64 k),(3,pt b3),(7,pt dv),(8,.int .i64 ((ig past).toNat:Nat)),(9,.int .i64 (-1))]∧U W w (aa dv 320 (ints .i64 256 (gB b past))::aa b3 47 (dr b adT cT)::L)) ?_ ?_
 ·
  refine IF 4 E I (λao a E=>?_) λao a E=>?_
  ·
   obtain⟨bb,oo,rfl,ee⟩:=(hp _ I.tail.tail).get (by omega);rw[al (by omega)]at tF;refine RN 4 E I λa E=>?_;rw[show ((past.length:Nat):Int)-1=((past.length-1:Nat):Int) from by omega]at E;refine RN 1 E I λa E=>?_;refine SS E (ae E (ee (past.length-1) _ (kX (by omega)))) λa E=>?_;refine SX 0 E I (sJ _) λa E=>?_;refine RN 1 E I λa E=>?_;rw[tF]at E;exact⟨E.ab [1,2,3,7,8,9],I⟩
  rw[ag (by omega)]at tF;refine RN 1 E I λa E=>?_;rw[show (0:Int)=((ig past).toNat:Nat) from tF]at E;exact⟨E.ab [1,2,3,7,8,9],I⟩
 clear E;(try clear I);rintro a w ⟨E,I⟩;refine cc (M:=λa w=>Fr a 86 [(2,.int .i64 k),(3,pt b3),(7,pt dv),(8,.int .i64 ((ig past).toNat:Nat)),(9,.int .i64 (sT b past))]∧U W w (aa dv 320 (ints .i64 256 (gB b past))::aa b3 47 (dr b adT cT)::L)) ?_ ?_
 ·
  refine IF 4 E I (λaz a E=>?_) λaz a E=>?_
  ·
   refine bS 0 [5,6,7] [0,2,3,4,3001,1005,1006,1007,8,1009,10,11] E I λa w E I hH hC=>?_;have hA:=E;obtain⟨Ly,Lz,rfl,tR⟩:=(ht _ I.tail.tail).get (by omega);have E:=hA;have Fp:past.length%b.table.length<b.table.length:=Nat.mod_lt _ (by omega);refine RH 8 E I hH hC λa E=>?_;rw[nR]at E;refine RH 1 E I hH hC λa E=>?_;refine SS E (ae E (tR (past.length%b.table.length) _ (kX Fp))) λa E=>?_;refine RH 0 E I hH hC λa E=>?_;refine QP E (λw=>oQ E underlying5 underlying3 (sJ _)) λa E=>?_;refine RH 1 E I hH hC λa E=>?_;rw[sT,al (by omega)];exact⟨E.ab [2,3,7,8,9],I⟩
  refine RN 0 E I λa E=>?_;rw[sT,ag (by omega)];exact⟨E.ab [2,3,7,8,9],I⟩
 clear E;(try clear I);rintro a w ⟨E,I⟩;refine AL 1 E I λkf a w E I=>?_;rw[Y0]at I;refine RN 3 E I λa E=>?_;refine aP (λμ a w=>∃ (j:Nat) (out:List UInt8) (t:Nat→Bool) (ad2:Option Addr) (c2:Nat),(μ=min k 256-j∧j≤min k 256∧out.length=j∧qn t 256=j∧(j=0→∀ v,t v=false)∧(1≤j→out[0]?=some (m5 b past)))∧Fr a 86 [(2,.int .i64 k),(3,pt b3),(7,pt dv),(8,.int .i64 ((ig past).toNat:Nat)),(9,.int .i64 (sT b past)),(10,pt kf),(11,.slice ad2 out.length c2)]∧U W w (Sl 5 1 ad2 out.length c2 (bc out)::aa kf 322 (sU t)::aa dv 320 (ints .i64 256 (gB b past))::aa b3 47 (dr b adT cT)::L)) (min k 256) (⟨0,[],λ_=>false,none,0,⟨rfl,by omega,rfl,by decide,λ_ _=>rfl,λh=>by omega⟩,E.ab [2,3,7,8,9,10,11],I.bO 5 1 none⟩) ?_;clear E I;rintro μ a w ⟨j,out,t,ad2,c2,⟨rfl,hj,cS,LG,Y4,yo⟩,E,I⟩;refine BY 7 E I (λda a E=>?_) λda a E=>?_
 ·
  refine IF 4 E I (λbh a E=>?_) λbh a E=>?_
  ·
   refine RN 5 E I λa E=>?_;refine aP (λμ a w=>∃ (i:Nat) (fH:Int),(μ=256-i∧i≤256∧j1 (gB b past) ((ig past).toNat:Nat) (sT b past) t (decide (j=0)) i fH)∧Fr a 86 [(2,.int .i64 k),(3,pt b3),(7,pt dv),(8,.int .i64 ((ig past).toNat:Nat)),(9,.int .i64 (sT b past)),(10,pt kf),(11,.slice ad2 out.length c2),(12,.int .i64 fH),(13,.int .i64 i)]∧U W w (Sl 5 1 ad2 out.length c2 (bc out)::aa kf 322 (sU t)::aa dv 320 (ints .i64 256 (gB b past))::aa b3 47 (dr b adT cT)::L)) (256) (⟨0, -1,⟨rfl,by omega,j1.start⟩,E.ab [2,3,7,8,9,10,11,12,13],I⟩) ?_;clear E I;rintro μ a w ⟨i,fH,⟨rfl,hi,AR⟩,E,I⟩;refine IF 4 E I (λbQ a E=>?_) λbQ a E=>?_
   ·
    have AP:i<256:=by omega
    have oq:decide (j=0)=true→∀ v,t v=false:=λh=>Y4 (by simpa using h);refine RN 4 E I λa E=>?_;refine SS E (ae E (I.bz (YX AP))) λa E=>?_;refine BY 2 E I (λda a E=>?_) λda a E=>?_
    ·
     refine BY 3 E I (λiB a E=>?_) λiB a E=>?_
     ·
      refine RN 14 E I λa E=>?_;exact⟨256-(i+1),by omega,i+1,i,⟨rfl,by omega,AR.take iB da oq⟩,E.ab [2,3,7,8,9,10,11,12,13],I⟩
     obtain⟨u,rfl,hu⟩:=AR.nat (by omega);refine CL 5 E I (Y3 I AP (by omega)) λa w E I=>?_;refine IF 2 E I (λeT a E=>?_) λeT a E=>?_
     ·
      refine RN 5 E I λa E=>?_;exact⟨256-(i+1),by omega,i+1,i,⟨rfl,by omega,j1.up hu eT da⟩,E.ab [2,3,7,8,9,10,11,12,13],I⟩
     refine RN 3 E I λa E=>?_;exact⟨256-(i+1),by omega,i+1,u,⟨rfl,by omega,j1.ab hu eT⟩,E.ab [2,3,7,8,9,10,11,12,13],I⟩
    refine RN 15 E I λa E=>?_;exact⟨256-(i+1),by omega,i+1,fH,⟨rfl,by omega,AR.skip da oq⟩,E.ab [2,3,7,8,9,10,11,12,13],I⟩
   obtain rfl:i=256:=by omega
   obtain⟨u,rfl,Y5,Y6,Fv⟩:=AR.Fu (by omega);refine ST 3 E I (λa w E I=>?_) (hlt:=(by rw[YW];omega));rw[YY]at I;refine SX 2 E I (by rw[wrap_u8];omega) λa E=>?_;rw[show ((u:Nat):Int)=((UInt8.ofNat u).toNat:Int) from by rw[UInt8.toNat_ofNat'];omega]at E;refine RN 0 E I λa E=>?_;refine cp E rfl I underlying22 Ty.t5 rfl rfl rfl rfl (by decide) (by decide) λb83 a w E I ho=>?_;clear ho;refine RN 0 E I λa E=>?_;refine cQ E rfl I underlying22 Ty.t5 rfl rfl I.ai rfl (ey [UInt8.ofNat u]) (by decide) (by decide) (by omega) λY7 Y8 a w E I=>?_;rw[show bc out++_=bc (out++[UInt8.ofNat u]) from (fI _ [_]).symm,show out.length+1=(out++[UInt8.ofNat u]).length from by simp]at I;rw[show out.length+1=(out++[UInt8.ofNat u]).length from by simp]at E;refine RN 1 E I λa E=>?_;exact⟨min k 256-(j+1),by omega,j+1,out++[UInt8.ofNat u],_,Y7,Y8,⟨rfl,by omega,by rw[aM,cS];rfl,by rw[LD Y6,LG,al Y5],λh=>by omega,λ_=>by
    rcases Nat.eq_zero_or_pos j with h0 | h0
    ·rw[g5 (l:=out) (by omega),Fv (dq h0),YV hb];simp
    ·rw[lX (by omega)];exact yo (by omega)⟩,E.ab [2,3,7,8,9,10,11],I.sub⟩
  refine RT 3 E I ?_;exact⟨ad2,c2,out,rfl,⟨by omega,yo (by omega)⟩,I.sub⟩
 refine RT 8 E I ?_;exact⟨ad2,c2,out,rfl,⟨by omega,yo (by omega)⟩,I.sub⟩
theorem Y9 (I:U W w L)(hb:cY b)(eF:past.length≤1001)(jN:past.length≤c)(hn:m≤1000)(hp:∀ V,U W V L→aQ V ad past.length past)(ht:∀ V,U W V L→aQ V adT b.table.length b.table) :
   Calls prog 161 #[.agg (dr b adT cT).toArray,.slice ad past.length c,.int .i64 m] w λe V=>∃ av c',e=.returned (.slice av m c')∧U W V (Sl 5 1 av m c' (bc (jX b past m))::L):=by
 refine EN func161 ntmps161 rfl rfl λa E=>?_;refine BX 1 E I λb3 a w E I=>?_;change U W w (aa b3 47 (dr b adT cT)::_) at I;refine aR 4 E I (AQ I) λr a w E ⟨hr,I⟩=>?_;rw[hr.2 hb]at E;refine RN 1 E I λa E=>?_;replace E:=E.aK 13;refine RN 2 E I λa E=>?_;replace I:=I.bO 5 1 none;refine RN 1 E I λa E=>?_;refine gU E rfl I underlying22 Ty.t5 rfl rfl (by decide) (λh0=>(hp _ I.tail.tail).get h0) (by rw[dB];omega) (ey _) (by omega) λKw Ky a w E I=>?_;rw[nil_append,Nat.zero_add]at I;rw[Nat.zero_add]at E;refine RN 6 E I λa E=>?_;refine aP (λμ a w=>∃ (i:Nat) (ad2:Option Addr) (c2:Nat) (fo:Option Addr) (c7:Nat),(μ=m-i∧i≤m)∧Fr a 41 [(2,.int .i64 m),(3,pt b3),(7,.slice ad2 (en b past i).length c2),(8,.slice fo i c7),(9,.int .i64 i)]∧U W w (Sl 5 1 fo i c7 (bc (jX b past i))::Sl 5 1 ad2 (en b past i).length c2 (bc (en b past i))::aa b3 47 (dr b adT cT)::L)) (m) (⟨0,Kw,Ky,none,0,⟨rfl,by omega⟩,E.ab [2,3,7,8,9],by
  have h1:jX b past 0=[]:=g5 (ER b past 0);rw[h1];exact I.bO 5 1 none⟩) ?_
 clear E I;rintro μ a w ⟨i,ad2,c2,fo,c7,⟨rfl,hi⟩,E,I⟩;refine BY 6 E I (λbF a E=>?_) λbF a E=>?_
 ·
  refine RN 3 E I λa E=>?_;rw[dq (by omega)]at E;refine RN 3 E I λa E=>?_;have b9:=ij b past i;have Fs:=(I.sl ad2).2;have Za:i<m:=by omega
  refine jI 2 E I (LF (past:=en b past i) (k:=1) I hb (by decide) (by omega) Fs (λV hw=>hw.cu ad2 (en b past i) rfl rfl) (λV hw=>ht V hw.tail.tail.tail)) λq7 oj out a w E ⟨⟨cS,Zb⟩,I⟩=>?_;refine RN 1 E I λa E=>?_;obtain⟨x,rfl⟩:∃ x,out=[x]:=by
   match out,cS with
   | [x],_=>exact⟨x,rfl⟩
  obtain rfl:x=m5 b (en b past i):=by simpa using Zb
  obtain⟨gl,or',rfl,jx⟩:=I.bW q7 (by simp);refine SX 3 E I (by simp) λa E=>?_;refine RN 0 E I λa E=>?_;refine SS E (ae E (jx 0 _ rfl)) λa E=>?_;refine RN 0 E I λa E=>?_;refine cp E rfl I underlying22 Ty.t5 rfl rfl rfl rfl (by decide) (by decide) λgC a w E I ho=>?_;clear ho;refine RN 0 E I λa E=>?_;refine cQ E rfl I underlying22 Ty.t5 rfl rfl I.ai rfl (ey [m5 b (en b past i)]) (by decide) (by decide) (by omega) λFw Fx a w E I=>?_;rw[show bc (en b past i)++_=bc (en b past (i+1)) from (fI _ [_]).symm,show (en b past i).length+1=(en b past (i+1)).length from by rw[ij,ij];omega]at I;rw[show (en b past i).length+1=(en b past (i+1)).length from by rw[ij,ij];omega]at E;refine RN 1 E I λa E=>?_;replace jx:=I.cK gl or' (by simp);refine SX 2 E I (by simp) λa E=>?_;refine RN 0 E I λa E=>?_;refine SS E (ae E (jx 0 _ rfl)) λa E=>?_;refine RN 0 E I λa E=>?_;refine cp E rfl I underlying22 Ty.t5 rfl rfl rfl rfl (by decide) (by decide) λb38 a w E I ho=>?_;clear ho;refine RN 0 E I λa E=>?_;refine cQ E rfl I underlying22 Ty.t5 rfl rfl I.ai rfl (ey [m5 b (en b past i)]) (by decide) (by decide) (by omega) λZc Zd a w E I=>?_;rw[show bc (jX b past i)++_=bc (jX b past (i+1)) from by rw[X7,ug];exact (fI _ [_]).symm]at I;refine RN 4 E I λa E=>?_;exact⟨m-(i+1),by omega,i+1,Fw,Fx,Zc,Zd,⟨rfl,by omega⟩,E.ab [2,3,7,8,9],I.sub⟩
 refine RT 7 E I ?_;obtain rfl:i=m:=by omega
 exact⟨_,_,rfl,I.sub⟩
end
end
section
def wk (to:Nat)(l x:List UInt8):Prop:=(∃ t,x=l++t)∧to≤x.length∧x.length≤1001
def m9 (X:List (List UInt8))(front to:Nat):List (List UInt8):=(List.range (to-front)).map λi=>bL X (front+i)
theorem wm (b:Gs)(ls:List (List UInt8))(to:Nat):m9 (iR b ls to) (aW ls) to=dx b ls to:=rfl
theorem AS (X:List (List UInt8))(front to:Nat):(m9 X front to).length=to-front:=by simp[m9]
structure yp (to:Nat)(ls X:List (List UInt8)):Prop where
 len:X.length=ls.length
 fit:∀ (j:Nat) (l x:List UInt8),ls[j]?=some l→X[j]?=some x→wk to l x
theorem Ze {b:Gs}{l:List UInt8}{to:Nat}(h:l.length≤1000)(h2:to≤1000):wk to l (nD b l to):=by
 refine⟨⟨jX b l (to-l.length),?_⟩,X8 b l to,?_⟩
 ·rw[nD,ug]
 ·rw[nD,ij];omega
theorem LH {b:Gs}{l:List UInt8}{to:Nat}(h:to≤l.length):nD b l to=l:=by rw[nD,show to-l.length=0 from by omega];rfl
structure wo:Prop where
 Zf:∀ {W w:World} {L:List SP} {c k cT:Nat} {ad adT:Option Addr} {past:List UInt8} {b:Gs},U W w L→cY b→(1≤k∧k≤256)→past.length≤1000→past.length≤c→(∀ V,U W V L→aQ V ad past.length past)→(∀ V,U W V L→aQ V adT b.table.length b.table) →
 Calls prog 310 #[.agg (dr b adT cT).toArray,.slice ad past.length c,.int .i64 k] w λe V=>∃ (av:Option Addr) (c':Nat) (out:List UInt8),e=.returned (.slice av out.length c')∧out.length=k∧U W V (Sl 5 1 av out.length c' (bc out)::L)
section
variable {W w:World}{L:List SP}{c m cT to r:Nat}{ad adT:Option Addr}{past:List UInt8}{b:Gs}
set_option maxHeartbeats 1000000 in
theorem Zg (ry:r=0∨wo)(hr:r≤100000)(I:U W w (Sl 5 1 ad past.length c (bc past)::L))(hb:cY b)(eF:past.length≤1000)(sQ:to≤1000)(ht:∀ V,U W V L→aQ V adT b.table.length b.table) :
   Calls prog 294 #[.slice ad past.length c,.agg (dr b adT cT).toArray,.int .i64 r,.int .i64 to] w λe V=>∃ (av:Option Addr) (c':Nat) (x:List UInt8),e=.returned (.slice av x.length c')∧(wk to past x∧(r=0→x=nD b past to)) ∧
    U W V (Sl 5 1 av x.length c' (bc x)::L):=by
 have jN:=(I.sl ad).2;refine EN func294 ntmps294 rfl rfl λa E=>?_;refine BX 1 E I λb5 a w E I=>?_;change U W w (aa b5 186 (dr b adT cT)::_) at I;refine IF 7 E I (λaj a E=>?_) λaj a E=>?_
 ·
  refine RT 3 E I ?_;exact⟨ad,c,past,rfl,⟨⟨⟨[],by simp⟩,by omega,by omega⟩,λ_=>(LH (by omega)).symm⟩,I.tail⟩
 refine RN 0 E I λa E=>?_;refine cc (M:=λa w=>∃ (ad2:Option Addr) (c2:Nat) (y:List UInt8),((∃ t,y=past++t)∧y.length≤past.length+1∧past.length<to∧(r=0→y=past))∧Fr a 48 [(0,.slice ad2 y.length c2),(3,.int .i64 to),(5,pt b5)]∧U W w (Sl 5 1 ad2 y.length c2 (bc y)::aa b5 186 (dr b adT cT)::L)) ?_ ?_
 ·
  refine SX 2 E I (by decide) λa E=>?_;rw[show ((r:Nat):Int).tmod 256=((r%256:Nat):Int) from nR _ 256]at E;refine RN 1 E I λa E=>?_;have ri:r%256<256:=Nat.mod_lt _ (by decide);generalize lJ:r%256=r6 at E ri;refine IF 3 E I (λao a E=>?_) λao a E=>?_
  ·
   have Zh:=ry.resolve_left (λh=>by rw[h]at lJ;omega);have hp0:=I.drew.tail.tail;refine bS 0 [] [0,1,2,3,4,5,7,8,9,11,1006,1010,12,1013,1014,1015,16] E I λa w E I hH hC=>?_;refine RH 5 E I hH hC λa E=>?_;refine QP E (λw=>Cz E underlying22 Ty.t5 (bk _) (by omega)) λa E=>?_;rw[qK]at E;refine RH 3 E I hH hC λa E=>?_;rw[show ((r6:Nat):Int)+1=((r6+1:Nat):Int) from by omega]at E;refine RH 2 E I hH hC λa E=>?_;refine jI 0 E I (Zh.Zf I hb (by omega) eF jN (λV hw=>hw.tail.cu ad past rfl rfl) (λV hw=>ht V hw.tail.tail)) λq7 oj out a w E ⟨cS,I⟩=>?_;obtain⟨gl,or',rfl,jx⟩:=I.bW q7 (by omega);refine RN 1 E I λa E=>?_;refine SS E (ae E (jx r6 _ (dS (by omega)))) λa E=>?_;refine RN 0 E I λa E=>?_;refine cp E rfl I underlying22 Ty.t5 rfl rfl rfl rfl (by decide) (by decide) λgC a w E I ho=>?_;clear ho;replace I:=I.HU ad past.length (bk _);rw[qK,Nat.mul_one,fY (by rw[dB];exact bk _)]at I;refine RN 0 E I λa E=>?_;refine cQ E rfl I underlying22 Ty.t5 rfl rfl I.ai rfl (ey [out[r6]]) (by decide) (by decide) (by omega) λFw Fx a w E I=>?_;rw[show bc past++_=bc (past++[out[r6]]) from (fI _ [_]).symm,show past.length+1=(past++[out[r6]]).length from by simp]at I;rw[show past.length+1=(past++[out[r6]]).length from by simp]at E;refine RN 1 E I λa E=>?_;exact⟨Fw,Fx,past++[out[r6]],⟨⟨_,rfl⟩,by simp,by omega,λh=>by rw[h]at lJ;omega⟩,E.ab [0,3,5],I.sub⟩
  have ae0:r6=0:=by omega
  refine RN 0 E I λa E=>?_;exact⟨ad,c,past,⟨⟨[],by simp⟩,by omega,by omega,λ_=>rfl⟩,E.ab [0,3,5],I.sub⟩
 clear E;(try clear I);rintro a w ⟨ad2,c2,y,⟨hU,kg,Zi,na⟩,E,I⟩;refine RN 1 E I λa E=>?_;have jB:y.length≤to:=by omega
 have oA:=(I.sl ad2).2;refine bS 0 [] [0,1,2,3,4,5,7,8,9,10,11,1006,1012,1013,14] E I λa w E I hH hC=>?_;refine RH 5 E I hH hC λa E=>?_;refine QP E (λw=>Cz E underlying22 Ty.t5 (bk _) (by omega)) λa E=>?_;rw[qK]at E;refine RH 5 E I hH hC λa E=>?_;rw[show ((to:Nat):Int)-((y.length:Nat):Int)=((to-y.length:Nat):Int) from by omega]at E;refine RH 1 E I hH hC λa E=>?_;refine a6 0 E I (YU (to:=0) (past:=y) (m:=to-y.length) I hb (by omega) oA (by omega) (λV hw=>hw.cu ad2 y rfl rfl) (λV hw=>ht V hw.tail.tail)) λadc Zj a w E I=>?_;replace I:=I.HU ad2 y.length (bk _);rw[qK,Nat.mul_one,fY (by rw[dB];exact bk _)]at I;have Fy:=ER b y (to-y.length);refine RN 0 E I λa E=>?_;refine gU E rfl I underlying22 Ty.t5 rfl rfl (by decide) (λh0=>(I.tail.cu adc (jX b y (to-y.length)) rfl Fy).get h0) (by rw[dB];omega) (ey _) (by omega) λpq rh a w E I=>?_;rw[← fI,ug,show y.length+(to-y.length)=(en b y (to-y.length)).length from by rw[ij]]at I;rw[show y.length+(to-y.length)=(en b y (to-y.length)).length from by rw[ij]]at E;refine RN 1 E I λa E=>?_;refine RT 0 E I ?_;obtain⟨t,Fz⟩:=hU;refine⟨pq,rh,_,rfl,⟨⟨⟨t++jX b y (to-y.length),?_⟩,by rw[ij];omega,by rw[ij];omega⟩,λh=>?_⟩,I.sub⟩
 ·rw[← ug,Fz,dA]
 ·rw[na h,nD]
set_option maxHeartbeats 1000000 in
theorem FA {qb:Nat}{aB:List Nat}{ls:List (List UInt8)}(ry:r=0∨wo)(hr:r≤100000)(I:U W w (Qu qb aB ls::L))(hb:cY b)(h0:ls≠[])(h8:ls.length≤8)(hl:∀ l∈ls,l.length≤1000)(sQ:to≤1000)(ht:∀ V,U W V L→aQ V adT b.table.length b.table) :
   Calls prog 277 #[pt qb,.agg (dr b adT cT).toArray,.int .i64 r,.int .i64 to] w λe V=>∃ (av:Option Addr) (c':Nat) (X:List (List UInt8)),e=.returned (.slice av (to-aW ls) c')∧(yp to ls X∧(r=0→X=iR b ls to)) ∧
    U W V (cd av (to-aW ls) c' (m9 X (aW ls) to)::Qu qb aB ls::L):=by
 refine EN func277 ntmps277 rfl rfl λa E=>?_;refine BX 1 E I λb5 a w E I=>?_;change U W w (aa b5 186 (dr b adT cT)::_) at I;refine RN 6 E I λa E=>?_;replace E:=E.aK 21;refine aR 1 E I (yn I) λrz a w E ⟨jx,I⟩=>?_;rw[jx.2 hb]at E;refine RN 3 E I λa E=>?_;replace E:=E.aK 26;refine RN 4 E I λa E=>?_;rw[bq (by omega)]at E;refine RN 3 E I λa E=>?_;rw[bq (by omega)]at E;refine CL 3 E I (rl (I.pick (Qu qb aB ls)) h0 h8) λa w E I=>?_;refine CL 6 E I (ES I) λa w E I=>?_;refine RN 1 E I λa E=>?_;replace I:=I.bO 22 1 none;replace I:=U.iM (f:=ba) I;refine aP (λμ a w=>∃ (i:Nat) (rz:Nat) (xs:List ed) (nF:Option Addr) (df:Nat),(μ=ls.length-i∧i≤ls.length∧xs.length=i∧(rz=0∨wo)∧rz≤100000∧(r=0→rz=0)∧(∀ (j:Nat) (l:List UInt8) (x:ed),ls[j]?=some l→xs[j]?=some x→wk to l x.2.2)∧(r=0→xs.map (·.2.2)=(iR b ls to).take i))∧Fr a 84 [(0,pt qb),(2,.int .i64 rz),(3,.int .i64 to),(5,pt b5),(9,.int .i64 (aW ls)),(10,.slice nF i df),(37,.int .i64 ls.length),(38,.int .i64 i)]∧U W w (Sl 22 1 nF i df (xs.map aL)::ah ba xs::Qu qb aB ls::aa b5 186 (dr b adT cT)::L)) (ls.length) (⟨0,r,[],none,0,⟨rfl,by omega,rfl,ry,hr,λh=>h,λj l x _ h=>by simp at h,λ_=>rfl⟩,E.ab [0,2,3,5,9,10,37,38],(I.sub:U W w (Sl 22 1 none 0 0 []::ah ba []::Qu qb aB ls::aa b5 186 (dr b adT cT)::L))⟩) ?_;clear E I;rintro μ a w ⟨i,rz,xs,nF,df,⟨rfl,hi,b0,LI,LJ,LK,ni,ux⟩,E,I⟩;refine IF 3 E I (λao a E=>?_) λao a E=>?_
 ·
  have aG:i<ls.length:=by omega
  have hlt:=hl _ (ui aG);refine CL 7 E I (sM (I.pick (Qu qb aB ls)) aG) λa w E I=>?_;refine a6 0 E I (Yi I aG hlt) λc1 dR a w E I=>?_;refine RN 3 E I λa E=>?_;refine cc (M:=λa w=>∃ k wq:Nat,((k=0∨wo)∧k≤100000∧(wq=0∨wo)∧wq≤100000∧(r=0→k=0∧wq=0))∧Fr a 84 [(0,pt qb),(2,.int .i64 wq),(3,.int .i64 to),(5,pt b5),(9,.int .i64 (aW ls)),(10,.slice nF i df),(12,.slice c1 (ls.getD i []).length dR),(13,.int .i64 k),(37,.int .i64 ls.length),(38,.int .i64 i)]∧U W w (Sl 5 1 c1 (ls.getD i []).length dR (bc (ls.getD i []))::Sl 22 1 nF i df (xs.map aL)::ah ba xs::Qu qb aB ls::aa b5 186 (dr b adT cT)::L)) ?_ ?_
  ·
   refine IF 5 E I (λaz a E=>?_) λaz a E=>?_
   ·
    refine RN 3 E I λa E=>?_;exact⟨rz,0,⟨LI,LJ,.inl rfl,by omega,λh=>⟨LK h,rfl⟩⟩,E.ab [0,2,3,5,9,10,12,13,37,38],I.sub⟩
   refine RN 0 E I λa E=>?_;exact⟨0,rz,⟨.inl rfl,by omega,LI,LJ,λh=>⟨rfl,LK h⟩⟩,E.ab [0,2,3,5,9,10,12,13,37,38],I.sub⟩
  clear E;(try clear I);rintro a w ⟨k,wq,⟨gS,ca,l7,og,LL⟩,E,I⟩;refine jI 5 E I (Zg gS ca I hb hlt sQ (λV hw=>ht V hw.tail.tail.tail.tail)) λgY cl x a w E ⟨⟨Zk,Fv⟩,I⟩=>?_;refine RN 0 E I λa E=>?_;refine cp E rfl I underlying207 Ty.t22 rfl rfl rfl rfl (by decide) (by decide) λXC a w E I ho=>?_;clear ho;refine RN 0 E I λa E=>?_;refine cQ E rfl I underlying207 Ty.t22 rfl rfl I.ai rfl (by simp[Value.oneCell']) (by decide) (by decide) (by omega) λED EE a w E I=>?_;rw[show List.map aL xs++_=List.map aL (xs++[(gY,cl,x)]) from by rw[cX];rfl]at I;refine RN 3 E I λa E=>?_;have c6:=U.jG (f:=ba) (x:=(gY,cl,x)) (I.sub (M:=Sl 5 1 gY x.length cl (bc x)::ah ba xs::Sl 22 1 ED (i+1) EE ((xs++[(gY,cl,x)]).map aL)::Qu qb aB ls::aa b5 186 (dr b adT cT)::L));refine⟨ls.length-(i+1),by omega,i+1,wq,xs++[(gY,cl,x)],ED,EE,⟨rfl,by omega,by rw[aM,b0];rfl,l7,og,λh=>(LL h).2,λj l y hj hy=>?_,λh=>?_⟩,E.ab [0,2,3,5,9,10,37,38],c6.sub⟩
  ·by_cases gI:j<i
   ·rw[lX (by omega)]at hy;exact ni j l y hj hy
   ·have eH:=(a8.1 hy).1;rw[aM,ji]at eH;obtain rfl:j=i:=by omega
    rw[getElem?_append_right (by omega),b0,Nat.sub_self]at hy;obtain rfl:(gY,cl,x)=y:=by simpa using hy
    rw[show l=ls.getD j [] from by rw[bl,hj];rfl];exact Zk
  ·rw[cX,ux h,iZ (by rw[iR,bg];exact aG)]
   congr 1
   rw[map_singleton,Fv (LL h).1];simp[iR,bl,aG]
 obtain rfl:i=ls.length:=by omega
 have ie:yp to ls (xs.map (·.2.2)):=⟨by rw[bg];exact b0,λj l x hj hx=>by
  rw[bn]at hx;obtain⟨y,hy,rfl⟩:=Option.map_eq_some_iff.1 hx;exact ni j l y hj hy⟩
 have mB:r=0→xs.map (·.2.2)=iR b ls to:=λh=>by rw[ux h,fY (by rw[iR,bg];exact bk _)]
 clear ni ux;have fq:aW ls≤1000:=by
  obtain⟨l,kM,ma⟩:=Au h0;rw[ma];exact hl l kM
 refine RN 6 E I λa E=>?_;replace I:=I.bO 22 1 none;replace I:=U.iM (f:=ba) I;refine aP (λμ a w=>∃ (d:Nat) (zs:List ed) (mC:Option Addr) (mD:Nat),(μ=to-aW ls-d∧d≤to-aW ls∧zs.map (·.2.2)=(List.range d).map λi=>bL (xs.map (·.2.2)) (aW ls+i))∧Fr a 84 [(3,.int .i64 to),(10,.slice nF ls.length df),(14,.slice mC d mD),(15,.int .i64 (aW ls+d:Nat))]∧U W w (Sl 22 1 mC d mD (zs.map aL)::ah ba zs::Sl 22 1 nF ls.length df (xs.map aL)::ah ba xs::Qu qb aB ls::L)) (to-aW ls) (⟨0,[],none,0,⟨rfl,by omega,rfl⟩,by rw[Nat.add_zero];exact E.ab [3,10,14,15],(I.sub:U W w (Sl 22 1 none 0 0 []::ah ba []::Sl 22 1 nF ls.length df (xs.map aL)::ah ba xs::Qu qb aB ls::L))⟩) ?_;clear E I;rintro μ a w ⟨d,zs,mC,mD,⟨rfl,hd,sV⟩,E,I⟩;refine IF 5 E I (λbh a E=>?_) λbh a E=>?_
 ·
  refine RN 3 E I λa E=>?_;replace I:=I.bO 5 1 none;refine RN 5 E I λa E=>?_;refine aP (λμ a w=>∃ (i:Nat) (iG:Option Addr) (iS:Nat),(μ=ls.length-i∧i≤ls.length)∧Fr a 84 [(3,.int .i64 to),(10,.slice nF ls.length df),(14,.slice mC d mD),(15,.int .i64 (aW ls+d:Nat)),(16,.slice iG i iS),(65,.slice nF ls.length df),(66,.int .i64 ls.length),(67,.int .i64 i)]∧U W w (Sl 5 1 iG i iS (bc (fx (xs.map (·.2.2)) (aW ls+d) i))::Sl 22 1 mC d mD (zs.map aL)::ah ba zs::Sl 22 1 nF ls.length df (xs.map aL)::ah ba xs::Qu qb aB ls::L)) (ls.length) (⟨0,none,0,⟨rfl,by omega⟩,E.ab [3,10,14,15,16,65,66,67],I⟩) ?_;clear E I;rintro μ a w ⟨i,iG,iS,⟨rfl,hi⟩,E,I⟩;refine IF 3 E I (λbQ a E=>?_) λbQ a E=>?_
  ·
   have aG:i<ls.length:=by omega
   obtain⟨x,hx⟩:∃ x,xs[i]?=some x:=⟨_,aF (by omega)⟩;have AT:=U.l6 (xs:=xs) (I.sub (M:=Sl 22 1 nF ls.length df (xs.map aL)::ah ba xs::[]));obtain⟨mn,ox,rfl,fG⟩:=AT.1 (by omega);have yq:=ie.fit i _ x.2.2 (aF aG) (by rw[bn,hx];rfl);obtain⟨mI,ol,gQ,hS⟩:=(AT.2 x (bJ hx)).get (by have:=yq.2.1;omega);refine RN 3 E I λa E=>?_;refine SS E (ae E (fG i (aL x) (by rw[bn,hx];rfl))) λa E=>?_;refine RN 4 E I λa E=>?_;rw[aL,gQ]at E;refine SX 0 E I (by have:=yq.2.1;omega) λa E=>?_;refine RN 0 E I λa E=>?_;refine SS E (ae E (hS (aW ls+d) _ (kX (by have:=yq.2.1;omega)))) λa E=>?_;refine RN 0 E I λa E=>?_;refine cp E rfl I underlying22 Ty.t5 rfl rfl rfl rfl (by decide) (by decide) λb76 a w E I ho=>?_;clear ho;refine RN 0 E I λa E=>?_;refine cQ E rfl I underlying22 Ty.t5 rfl rfl I.ai rfl (ey [x.2.2.getD (aW ls+d) 0]) (by decide) (by decide) (by omega) λZl Zm a w E I=>?_;rw[show bc (fx (xs.map (·.2.2)) (aW ls+d) i)++_=bc (fx (xs.map (·.2.2)) (aW ls+d) (i+1)) from by rw[Aw (by rw[bg];omega),getElem_map,fI,(a8.1 hx).2]]at I;refine RN 3 E I λa E=>?_;exact⟨ls.length-(i+1),by omega,i+1,Zl,Zm,⟨rfl,by omega⟩,E.ab [3,10,14,15,16,65,66,67],I.sub⟩
  obtain rfl:i=ls.length:=by omega
  have eH:fx (xs.map (·.2.2)) (aW ls+d) ls.length=bL (xs.map (·.2.2)) (aW ls+d):=by
   conv=>lhs;rw[← ie.len]
   exact Av _ _
  rw[eH]at I;have pZ:(bL (xs.map (·.2.2)) (aW ls+d)).length=ls.length:=by rw[m4];exact ie.len
  refine RN 2 E I λa E=>?_;refine cp E rfl I underlying207 Ty.t22 rfl rfl rfl rfl (by decide) (by decide) λb81 a w E I ho=>?_;clear ho;refine RN 0 E I λa E=>?_;refine cQ E rfl I underlying207 Ty.t22 rfl rfl I.ai rfl (by simp[Value.oneCell']) (by decide) (by decide) (by omega) λLM LN a w E I=>?_;rw[show List.map aL zs++_=List.map aL (zs++[(iG,iS,bL (xs.map (·.2.2)) (aW ls+d))]) from by rw[cX,map_singleton,aL,pZ];rfl]at I;refine RN 4 E I λa E=>?_;have c6:=U.jG (f:=ba) (x:=(iG,iS,bL (xs.map (·.2.2)) (aW ls+d))) (by
   rw[ba,pZ];exact I.sub (M:=Sl 5 1 iG ls.length iS (bc (bL (xs.map (·.2.2)) (aW ls+d)))::ah ba zs::Sl 22 1 LM (d+1) LN ((zs++[(iG,iS,bL (xs.map (·.2.2)) (aW ls+d))]).map aL)::Sl 22 1 nF ls.length df (xs.map aL)::ah ba xs::Qu qb aB ls::L))
  exact⟨to-aW ls-(d+1),by omega,d+1,zs++[(iG,iS,bL (xs.map (·.2.2)) (aW ls+d))],LM,LN,⟨rfl,by omega,by rw[cX,sV,range_succ,cX];rfl⟩,by rw[show ((aW ls+(d+1):Nat):Int)=((aW ls+d:Nat):Int)+1 from by omega];exact E.ab [3,10,14,15],c6.sub⟩
 obtain rfl:d=to-aW ls:=by omega
 refine RT 3 E I ?_;exact⟨mC,mD,xs.map (·.2.2),rfl,⟨ie,mB⟩,cd.close (xs:=zs) (I.sub (M:=Sl 22 1 mC (to-aW ls) mD (zs.map aL)::ah ba zs::Qu qb aB ls::L)) sV (AS _ _ _)⟩
end
end
section
structure iT where
 pb:Nat
 core:pz
 aq:Option Addr
 cO:Nat
 adT:Option Addr
 cT:Nat
 gs:Gs
abbrev gu (p:Pr)(B:iT)(g:Nat→Int):List Value:=[pt B.core.cb,.string p.title,.slice B.aq p.ops.length B.cO,.int .i64 B.gs.kind,.int .i64 B.gs.order,.slice B.adT B.gs.table.length B.cT]++ints .i32 32 g
theorem LO {w:World}{b:Nat}{p:Pr}{B:iT}{g:Nat→Int}(h:Rd w b 0 (gu p B g)):Rd w b 1 (bw p B.aq B.cO):=h.part 1 2
theorem LP {w:World}{b:Nat}{p:Pr}{B:iT}{g:Nat→Int}(h:Rd w b 0 (gu p B g)):Rd w b 3 (dr B.gs B.adT B.cT):=h.part 3 3
theorem yr {w:World}{b:Nat}{p:Pr}{B:iT}{g:Nat→Int}(h:Rd w b 0 (gu p B g)):Rd w b 6 (ints .i32 32 g):=by
 have h1:=h.part 6 32
 rwa [show ((gu p B g).drop 6).take 32=ints .i32 32 g from by
  show (ints .i32 32 g).take 32=_;exact fY (by rw[dm];exact bk _)]at h1
theorem LQ (p:Pr)(B:iT)(g:Nat→Int):(gu p B g).length=38:=by rw[gu,aM,dm];rfl
theorem Zn (p:Pr)(B:iT)(g g':Nat→Int):cD (gu p B g) 6 (ints .i32 32 g')=gu p B g':=by
 rw[cD,dm,drop_eq_nil_of_le (by rw[LQ];exact bk _),append_nil,gu,gu]
 congr 1
def aO (W:World)(B:iT)(p:Pr)(s:Pl):SP:=λh=>cn [aa B.pb 192 (gu p B s.g),aA B.core s.k,ay W p B.aq B.cO,Sl 5 1 B.adT B.gs.table.length B.cT (bc B.gs.table)] h
def fz (p:Pr)(gs:Gs)(s:Pl):List UInt8×Nat:=if aI s.k≤aw s.k then lx s else (gm (foldI p (aw s.k) s.g (dx gs s.k.ls (aI s.k))),aI s.k)
section
variable {W w:World}{L R:List SP}{n c i:Nat}{ad:Option Addr}{B:iT}{x:UInt8}{p:Pr}{s:Pl}{bs:List UInt8}
theorem aO.open (I:U W w (aO W B p s::L)):U W w (aa B.pb 192 (gu p B s.g)::aA B.core s.k::ay W p B.aq B.cO::Sl 5 1 B.adT B.gs.table.length B.cT (bc B.gs.table)::L) :=
 I.open (M:=[_,_,_,_]) λ_ h=>h
theorem aO.close (I:U W w (aa B.pb 192 (gu p B s.g)::aA B.core s.k::ay W p B.aq B.cO::Sl 5 1 B.adT B.gs.table.length B.cT (bc B.gs.table)::L)):U W w (aO W B p s::L) :=
 U.shut (M:=[_,_,_,_]) I λ_ h=>h
theorem aO.fold (I:U W w L)(B:iT)(p:Pr)(s:Pl)[kk:fE L [aa B.pb 192 (gu p B s.g),aA B.core s.k,ay W p B.aq B.cO,Sl 5 1 B.adT B.gs.table.length B.cT (bc B.gs.table)] R]:U W w (aO W B p s::R):=aO.close (I.perm kk.perm)
theorem nG (I:U W w (aO W B p s::L)):Calls prog 178 #[pt B.pb] w λr V=>r=.returned (pt B.core.cb)∧U W V (aO W B p s::L):=by
 replace I:=aO.open I;refine EN func178 ntmps178 rfl rfl λa E=>?_;refine RN 6 E I λa E=>?_;replace E:=E.aK 4;refine RT 7 E I ?_;exact⟨rfl,aO.close I⟩
theorem FB (I:U W w (aO W B p s::L))(hw:WP p s)(a7:db p)(aC:p.title.size≤1000000000):Calls prog 99 #[pt B.pb] w λr V=>r=.returned (.tuple #[])∧U W V (aO W B p (eC p s)::L):=by
 refine EN func99 ntmps99 rfl rfl λa E=>?_;refine RN 0 E I λa E=>?_;refine aP (λμ a w=>∃ (i:Nat),(μ=aw s.k-s.k.mr.length-i∧i≤aw s.k-s.k.mr.length)∧Fr a 56 [(0,pt B.pb)]∧U W w (aO W B p (il p i s)::L)) (aw s.k-s.k.mr.length) (⟨0,⟨rfl,by omega⟩,E.ab [0],I⟩) ?_;clear E I;rintro μ a w ⟨i,⟨rfl,hi⟩,E,I⟩;obtain⟨j2,e6,l4⟩:=hw.ql i hi;have fb:il p (i+1) s=nE p (il p i s):=EW p i s;have CI:=hw.low;have vp:aw (il p i s).k=aw s.k:=by rw[aw,e6];rfl
 generalize FC:il p i s=si at I j2 e6 l4 fb vp;replace I:=aO.open I;have bP:=j2.wc.k0;have iE:si.k.ls.length≤8:=by rw[j2.wc.ls];exact j2.wc.n.2
 have Zo:aw si.k≤1000:=gF j2.wc.m7 j2.wc.lr;refine aY 2 (λw0 V=>V.cell? ⟨B.pb,0,none⟩=some (pt B.core.cb)) [4,8] [0,1,2,5,6,7,3003,3008,1004,1009,1010,11] E I λa w E I hH=>?_;have hC:=hH.at w (I.bz (b:=B.pb) rfl);refine RH 6 E I hH hC λa E=>?_;refine QH E (λw hc=>ae E (hc)) hC λa E=>?_;refine QH E (λw hc=>ae E (hc)) hC λa E=>?_;refine RH 0 E I hH hC λa E=>?_;refine CL 0 E I (K5 (I.pick (aA B.core si.k))) λa w E I=>?_;replace hC:=hH.at w (I.bz (b:=B.pb) rfl);refine RH 0 E I hH hC λa E=>?_;refine CL 0 E I (oy (I.pick (aA B.core si.k))) λa w E I=>?_;obtain⟨D,I,hD⟩:=aA.qu I;refine CL 0 E I (rl I bP iE) λa w E I=>?_;refine RN 1 E I λa E=>?_;replace I:=hD _ _ I;replace I:=I.sub (M:=aa B.pb 192 (gu p B si.g)::aA B.core si.k::ay W p B.aq B.cO::Sl 5 1 B.adT B.gs.table.length B.cT (bc B.gs.table)::L);refine IF 0 E I (λaj a E=>?_) λaj a E=>?_
 ·
  have p6:si.k.mr.length<aW si.k.ls:=by omega
  have Zq:si.k.mr.length<aw si.k:=p6;refine CL 5 E I (K5 (I.pick (aA B.core si.k))) λa w E I=>?_;refine CL 6 E I (oy (I.pick (aA B.core si.k))) λa w E I=>?_;refine RN 1 E I λa E=>?_;obtain⟨D,I,hD⟩:=aA.qu I;refine a6 0 E I (Yj I bP p6 iE) λiG iS a w E I=>?_;refine RN 5 E I λa E=>?_;replace I:=hD _ _ (I.sub (M:=Qu B.core.qb B.core.aB si.k.ls::D::Sl 5 1 iG (bL si.k.ls si.k.mr.length).length iS (bc (bL si.k.ls si.k.mr.length))::aa B.pb 192 (gu p B si.g)::ay W p B.aq B.cO::Sl 5 1 B.adT B.gs.table.length B.cT (bc B.gs.table)::L));have eH:=m4 si.k.ls si.k.mr.length;refine aY 1 (λw0 V=>Rd V B.pb 0 (gu p B si.g)) [8] [0,1,2,3,5,6,7,9,10,3004,1008,1011,12,13,1014] E I λa w E I hH=>?_;have hC:=hH.at w (I.ai (b:=B.pb));refine RH 9 E I hH hC λa E=>?_;refine QH E (λw hc=>bR E underlying45 rfl Ty.t45 (LO hc)) hC λa E=>?_;refine RH 0 E I hH hC λa E=>?_;refine SS E (bR E underlying183 rfl Ty.t183 (yr hC)) λa E=>?_;refine RH 0 E I hH hC λa E=>?_;refine CL 0 E I (Lr (b:=bL si.k.ls si.k.mr.length) (fr:=si.k.mr.length) (I.pick (ay W p B.aq B.cO)) a7 aC (j2.py a7) (by omega) (λV hw=>(hw.pick (Sl 5 1 iG (bL si.k.ls si.k.mr.length).length iS (bc (bL si.k.ls si.k.mr.length)))).cu iG _ rfl rfl)) λa w E I=>?_;refine RN 2 E I λa E=>?_;refine qy E rfl I Ty.t183 tv (by rw[dm,LQ];decide) λa w E I=>?_;rw[Zn]at I;refine aY 0 (λw0 V=>Rd V B.pb 0 (gu p B (e0 p si.k.mr.length (bL si.k.ls si.k.mr.length) si.g))) [7,8] [0,1,2,4,5,6,3003,1007,1008,1009] E I λa w E I hH=>?_;have hC:=hH.at w (I.ai (b:=B.pb));refine RH 6 E I hH hC λa E=>?_;refine QH E (λw hc=>ae E (hc 0 _ rfl)) hC λa E=>?_;refine RH 0 E I hH hC λa E=>?_;refine SS E (bR E underlying183 rfl Ty.t183 (yr hC)) λa E=>?_;refine RH 0 E I hH hC λa E=>?_;refine CL 0 E I (X4 I) λa w E I=>?_;replace hC:=hH.at w (I.ai (b:=B.pb));refine RH 0 E I hH hC λa E=>?_;refine CL 0 E I (YC (I.pick (aA B.core si.k)) j2.wc (by omega) (D2 _)) λa w E I=>?_;refine RN 0 E I λa E=>?_;exact⟨aw s.k-s.k.mr.length-(i+1),by omega,i+1,⟨rfl,by omega⟩,E.ab [0],by
   rw[fb];show U W w (aO W B p ⟨lq si.k (jh (gm (e0 p si.k.mr.length (bL si.k.ls si.k.mr.length) si.g))),e0 p si.k.mr.length (bL si.k.ls si.k.mr.length) si.g⟩::L);exact (aO.fold I B p ⟨lq si.k (jh (gm (e0 p si.k.mr.length (bL si.k.ls si.k.mr.length) si.g))),e0 p si.k.mr.length (bL si.k.ls si.k.mr.length) si.g⟩).sub⟩
 refine RT 0 E I ?_;obtain rfl:i=aw s.k-s.k.mr.length:=by
  have:aW si.k.ls=aw si.k:=rfl;omega
 refine⟨rfl,?_⟩;rw[eC,FC];exact aO.close I
theorem LR (I:U W w (aO W B p s::L))(hw:cv p s)(a7:db p)(aC:p.title.size≤1000000000):Calls prog 282 #[pt B.pb,.int .u8 (x.toNat:Nat)] w λr V=>r=.returned (.int .i64 (dH p x s).1)∧U W V (aO W B p (dH p x s).2::L):=by
 have h1:=uo x s.k;have lk:=hw.toWP.more (hw.wc.ak x) (hw.held.ak x) h1.1 h1.2;refine EN func282 ntmps282 rfl rfl λa E=>?_;refine CL 4 E I (nG I) λa w E I=>?_;refine RN 1 E I λa E=>?_;replace I:=aO.open I;refine CL 0 E I (YE (x:=x) (I.pick (aA B.core s.k)) hw.wc) λa w E I=>?_;replace I:=(aO.fold I B p ⟨(c3 x s.k).2,s.g⟩);refine RN 1 E I λa E=>?_;refine cc (M:=λa w=>Fr a 15 [(5,.int .i64 (dH p x s).1)]∧U W w (aO W B p (dH p x s).2::L)) ?_ ?_
 ·
  refine IF 3 E I (λaj a E=>?_) λaj a E=>?_
  ·
   refine CL 1 E I (FB I lk a7 aC) λa w E I=>?_;refine RN 0 E I λa E=>?_;exact⟨E.ab [5],I⟩
  refine RN 0 E I λa E=>?_;have he:(dH p x s).2=⟨(c3 x s.k).2,s.g⟩:=by
   show eC p _=_;rw[uk aj];exact hw.eC
  rw[he];exact⟨E.ab [5],I⟩
 clear E;(try clear I);rintro a w ⟨E,I⟩;refine RT 3 E I ?_;exact⟨rfl,I⟩
theorem LS (I:U W w (aO W B p s::L))(hw:cv p s)(a7:db p)(aC:p.title.size≤1000000000)(hb:bs.length≤65536)(hc:bs.length≤c)(hp:∀ V,U W V L→aQ V ad bs.length bs) :
   Calls prog 284 #[pt B.pb,.slice ad bs.length c] w λr V=>r=.returned (.int .i64 (dI p bs s).1)∧U W V (aO W B p (dI p bs s).2::L):=by
 have h1:=rr bs s.k;have lk:=hw.toWP.more (hw.wc.recv bs).1 ((hw.wc.recv bs).2 hw.held) h1.1 h1.2;refine EN func284 ntmps284 rfl rfl λa E=>?_;refine CL 4 E I (nG I) λa w E I=>?_;refine RN 1 E I λa E=>?_;replace I:=aO.open I;refine CL 0 E I (YM (bs:=bs) (ad:=ad) (c:=c) (I.pick (aA B.core s.k)) hw.wc hb hc (λV cJ=>hp V cJ.tail.tail.tail)) λa w E I=>?_;replace I:=(aO.fold I B p ⟨(dD bs s.k).2,s.g⟩);refine RN 1 E I λa E=>?_;refine cc (M:=λa w=>Fr a 15 [(5,.int .i64 (dI p bs s).1)]∧U W w (aO W B p (dI p bs s).2::L)) ?_ ?_
 ·
  refine IF 3 E I (λaj a E=>?_) λaj a E=>?_
  ·
   refine CL 1 E I (FB I lk a7 aC) λa w E I=>?_;refine RN 0 E I λa E=>?_;exact⟨E.ab [5],I⟩
  refine RN 0 E I λa E=>?_;have he:(dI p bs s).2=⟨(dD bs s.k).2,s.g⟩:=by
   show eC p _=_;rw[v7 aj];exact hw.eC
  rw[he];exact⟨E.ab [5],I⟩
 clear E;(try clear I);rintro a w ⟨E,I⟩;refine RT 3 E I ?_;exact⟨rfl,I⟩
theorem LU (I:U W w (aO W B p s::L))(hw:cv p s)(oP:s.k.now≤1000000):Calls prog 285 #[pt B.pb] w λr V=>∃ ad c,r=.returned (.slice ad (bo s.k).1.length c)∧U W V (ct 124 ad (bo s.k).1.length c (bo s.k).1::aO W B p ⟨(bo s.k).2,s.g⟩::L):=by
 refine EN func285 ntmps285 rfl rfl λa E=>?_;refine CL 4 E I (nG I) λa w E I=>?_;replace I:=aO.open I;refine a6 0 E I (YK (I.pick (aA B.core s.k)) hw.wc oP) λad c a w E I=>?_;refine RT 1 E I ?_;exact⟨ad,c,rfl,(aO.fold I B p ⟨(bo s.k).2,s.g⟩).sub⟩
theorem LV (I:U W w (aO W B p s::L))(hw:cv p s):Calls prog 283 #[pt B.pb] w λr V=>∃ ad c,r=.returned (.slice ad (bG s.k).1.length c)∧U W V (ct 124 ad (bG s.k).1.length c (bG s.k).1::aO W B p ⟨(bG s.k).2,s.g⟩::L):=by
 refine EN func283 ntmps283 rfl rfl λa E=>?_;refine CL 4 E I (nG I) λa w E I=>?_;replace I:=aO.open I;refine a6 0 E I (YJ (I.pick (aA B.core s.k)) hw.wc) λad c a w E I=>?_;refine RT 1 E I ?_;exact⟨ad,c,rfl,(aO.fold I B p ⟨(bG s.k).2,s.g⟩).sub⟩
theorem LW (I:U W w (aO W B p s::L)):Calls prog 281 #[pt B.pb] w λr V=>∃ ad c,r=.returned (.slice ad s.k.ev.length c)∧U W V (Sl 135 1 ad s.k.ev.length c (s.k.ev.map cz)::aO W B p ⟨{ s.k with ev:=[] },s.g⟩::L):=by
 refine EN func281 ntmps281 rfl rfl λa E=>?_;refine CL 4 E I (nG I) λa w E I=>?_;replace I:=aO.open I;refine a6 0 E I (YD (I.pick (aA B.core s.k))) λad c a w E I=>?_;refine RT 1 E I ?_;exact⟨ad,c,rfl,(aO.fold I B p ⟨{ s.k with ev:=[] },s.g⟩).sub⟩
theorem LX (I:U W w (aO W B p s::L)):Calls prog 141 #[pt B.pb] w λr V=>r=.returned (.bool s.k.cl)∧U W V (aO W B p s::L):=by
 refine EN func141 ntmps141 rfl rfl λa E=>?_;refine CL 4 E I (nG I) λa w E I=>?_;replace I:=aO.open I;refine CL 0 E I (yg (I.pick (aA B.core s.k))) λa w E I=>?_;refine RT 1 E I ?_;exact⟨rfl,(aO.fold I B p s).sub⟩
theorem LY (I:U W w (aO W B p s::L))(hw:cv p s):Calls prog 273 #[pt B.pb] w λr V=>∃ ad c,r=.returned (.tuple #[.slice ad 128 c,.int .i64 (lx s).2])∧U W V (Sl 5 1 ad 128 c (bc (lx s).1)::aO W B p s::L):=by
 replace I:=aO.open I;have bP:=hw.wc.k0;have iE:s.k.ls.length≤8:=by rw[hw.wc.ls];exact hw.wc.n.2
 refine EN func273 ntmps273 rfl rfl λa E=>?_;refine RN 7 E I λa E=>?_;replace E:=E.aK 5;refine aY 2 (λw0 V=>Rd V B.pb 0 (gu p B s.g)) [4,8] [0,1,2,5,6,7,3003,3008,1004,1009,1010,11,12] E I λa w E I hH=>?_;have hC:=hH.at w (I.ai (b:=B.pb));refine RH 6 E I hH hC λa E=>?_;refine QH E (λw hc=>bR E underlying183 rfl Ty.t183 (yr hc)) hC λa E=>?_;refine QH E (λw hc=>ae E (hc 0 _ rfl)) hC λa E=>?_;refine RH 0 E I hH hC λa E=>?_;refine a6 0 E I (x8 I) λad c a w E I=>?_;replace hC:=hH.at w (I.ai (b:=B.pb));refine RH 0 E I hH hC λa E=>?_;refine CL 0 E I (oy (I.pick (aA B.core s.k))) λa w E I=>?_;obtain⟨D,I,hD⟩:=aA.qu I;refine CL 0 E I (rl I bP iE) λa w E I=>?_;refine RN 2 E I λa E=>?_;replace I:=hD _ _ I;refine RT 0 E I ?_;exact⟨ad,c,rfl,(aO.fold I B p s).sub (M:=Sl 5 1 ad 128 c (bc (gm s.g))::aO W B p s::L)⟩
theorem LZ (I:U W w (aO W B p s::L))(hw:cv p s)(a7:db p)(aC:p.title.size≤1000000000)(fA:cY B.gs):Calls prog 276 #[pt B.pb] w λr V=>∃ ad c,r=.returned (.tuple #[.slice ad 128 c,.int .i64 (fz p B.gs s).2])∧U W V (Sl 5 1 ad 128 c (bc (fz p B.gs s).1)::aO W B p s::L):=by
 have bP:=hw.wc.k0;have iE:s.k.ls.length≤8:=by rw[hw.wc.ls];exact hw.wc.n.2
 have gL:=hw.wc.lr;have fq:aW s.k.ls≤aI s.k:=hw.wc.m7;refine EN func276 ntmps276 rfl rfl λa E=>?_;refine CL 5 E I (nG I) λa w E I=>?_;replace I:=aO.open I;refine CL 0 E I (oy (I.pick (aA B.core s.k))) λa w E I=>?_;obtain⟨D,I,hD⟩:=aA.qu I;refine CL 0 E I (rl I bP iE) λa w E I=>?_;refine RN 1 E I λa E=>?_;replace I:=(aO.fold (hD _ _ I) B p s);refine RN 5 E I λa E=>?_;replace E:=E.aK 11;refine RN 3 E I λa E=>?_;replace I:=aO.open I;refine CL 1 E I (sO (I.pick (aA B.core s.k)) hw.wc) λa w E I=>?_;replace I:=(aO.fold I B p s);refine IF 3 E I (λaj a E=>?_) λaj a E=>?_
 ·
  refine a6 2 E I (LY I hw) λad c a w E I=>?_;refine RT 4 E I ?_;refine⟨ad,c,?_,?_⟩
  ·rw[fz,al (by rw[aw];omega)]
  ·rw[fz,al (by rw[aw];omega)];exact I
 refine RN 1 E I λa E=>?_;replace I:=aO.open I;refine aY 0 (λw0 V=>Rd V B.pb 0 (gu p B s.g)) [7,12,13,17,21,22,23,24,25,29] [0,1,2,4,5,6,8,9,10,11,14,15,16,18,19,20,26,27,28,3003,3007,3012,3017,3021,3029,1013,1022,1023,1024,1025,1030,31,32] E I λa w E I hH=>?_;have hC:=hH.at w (I.ai (b:=B.pb));refine RH 19 E I hH hC λa E=>?_;refine QH E (λw hc=>bR E underlying45 rfl Ty.t45 (LO hc)) hC λa E=>?_;refine QH E (λw hc=>bR E underlying183 rfl Ty.t183 (yr hc)) hC λa E=>?_;refine QH E (λw hc=>ae E (hc 0 _ rfl)) hC λa E=>?_;refine QH E (λw hc=>bR E underlying186 rfl Ty.t186 (LP hc)) hC λa E=>?_;refine QH E (λw hc=>ae E (hc 0 _ rfl)) hC λa E=>?_;refine QH E (λw hc=>ae E (hc 0 _ rfl)) hC λa E=>?_;refine RH 0 E I hH hC λa E=>?_;refine CL 0 E I (oy (I.pick (aA B.core s.k))) λa w E I=>?_;replace hC:=hH.at w (I.ai (b:=B.pb));refine RH 0 E I hH hC λa E=>?_;refine CL 0 E I (sO (I.pick (aA B.core s.k)) hw.wc) λa w E I=>?_;replace hC:=hH.at w (I.ai (b:=B.pb));obtain⟨D,I,hD⟩:=aA.qu I;refine RH 0 E I hH hC λa E=>?_;refine jI 0 E I (FA (r:=0) (to:=aI s.k) (.inl rfl) (by decide) I fA bP iE hw.wc.m6 gL (λV cJ=>(cJ.pick (Sl 5 1 B.adT B.gs.table.length B.cT (bc B.gs.table))).cu B.adT _ rfl rfl)) λfT gd X a w E ⟨⟨sW,ie⟩,I⟩=>?_;replace hC:=hH.at w (I.ai (b:=B.pb));have mB:=ie rfl;subst mB;rw[wm]at I;have hO:(dx B.gs s.k.ls (aI s.k)).length=aI s.k-aW s.k.ls:=vW _ _ _;have mE:∀ b∈dx B.gs s.k.ls (aI s.k),b.length≤1099511627776:=λb hb=>by
  rw[dx,c0]at hb;obtain⟨i,_,rfl⟩:=hb;rw[m4,iR,bg];omega
 obtain⟨zs,cW,eQ,I⟩:=cd.open I;rw[← hO]at E I;refine RH 0 E I hH hC λa E=>?_;refine CL 0 E I (Ls (P:=dx B.gs s.k.ls (aI s.k)) (zs:=zs) (fr:=aW s.k.ls) (L:=Sl 22 1 fT (dx B.gs s.k.ls (aI s.k)).length gd (zs.map aL)::ah ba zs::Qu B.core.qb B.core.aB s.k.ls::D::aa B.pb 192 (gu p B s.g)::Sl 5 1 B.adT B.gs.table.length B.cT (bc B.gs.table)::L) (I.sub (M:=ay W p B.aq B.cO::Sl 22 1 fT (dx B.gs s.k.ls (aI s.k)).length gd (zs.map aL)::ah ba zs::Qu B.core.qb B.core.aB s.k.ls::D::aa B.pb 192 (gu p B s.g)::Sl 5 1 B.adT B.gs.table.length B.cT (bc B.gs.table)::L)) a7 aC (hw.py a7) ⟨by omega,mE⟩ (by omega) cW (λV cJ=>U.l6 (cJ.sub (M:=Sl 22 1 fT (dx B.gs s.k.ls (aI s.k)).length gd (zs.map aL)::ah ba zs::[])))) λa w E I=>?_;replace hC:=hH.at w (I.ai (b:=B.pb));refine RH 0 E I hH hC λa E=>?_;refine a6 0 E I (x8 I) λad2 c2 a w E I=>?_;replace hC:=hH.at w (I.ai (b:=B.pb));replace I:=hD _ _ (I.sub (M:=Qu B.core.qb B.core.aB s.k.ls::D::Sl 5 1 ad2 128 c2 (bc (gm (foldI p (aW s.k.ls) s.g (dx B.gs s.k.ls (aI s.k)))))::aa B.pb 192 (gu p B s.g)::ay W p B.aq B.cO::Sl 5 1 B.adT B.gs.table.length B.cT (bc B.gs.table)::L));refine RH 0 E I hH hC λa E=>?_;refine CL 0 E I (sO I hw.wc) λa w E I=>?_;refine RN 2 E I λa E=>?_;refine RT 0 E I ?_;refine⟨ad2,c2,?_,?_⟩
 ·rw[fz,ag (by rw[aw];omega)]
 ·rw[fz,ag (by rw[aw];omega)];exact (aO.fold I B p s).sub (M:=Sl 5 1 ad2 128 c2 (bc (gm (foldI p (aW s.k.ls) s.g (dx B.gs s.k.ls (aI s.k)))))::aO W B p s::L)
end
theorem FD {cf:Cf}(h:eO cf):∃ (n me aE bm:Nat),cf=⟨n,me,cf.id,aE,bm,cf.aX,cf.order,cf.cm,cf.workers,cf.room⟩:=by
 obtain⟨⟨h1,h2,h3⟩,⟨h4,h5,h6,h7⟩,h8,h9,fF,mQ⟩:=h;simp only[dE] at *;refine⟨cf.n.toNat,cf.me.toNat,cf.aE.toNat,cf.bm.toNat,?_⟩;rw[Int.toNat_of_nonneg (by omega),Int.toNat_of_nonneg (by omega),Int.toNat_of_nonneg (by omega),Int.toNat_of_nonneg (by omega)]
section
variable {W w:World}{L:List SP}{cP cT n me aE bm:Nat}{adP adT:Option Addr}{p:Pr}{tb:List UInt8}{cf:Cf}{id aX order cm workers room:Int}
theorem L1 (I:U W w (ay W p adP cP::L))(h:¬ eO cf)(de:tb.length≤1099511627776)(hT:∀ V,U W V (ay W p adP cP::L)→aQ V adT tb.length tb) :
   Calls prog 60 #[.agg (br cf).toArray,.agg (bw p adP cP).toArray,.slice adT tb.length cT] w λr V=>r=.returned (.tuple #[.pointer none,.int .i64 1])∧U W V (ay W p adP cP::L):=by
 refine EN func60 ntmps60 rfl rfl λa E=>?_;refine BX 1 E I λb3 a w E I=>?_;change U W w (aa b3 28 (br cf)::_) at I;refine BX 0 E I λb4 a w E I=>?_;change U W w (aa b4 45 (bw p adP cP)::_) at I;refine RN 2 E I λa E=>?_;refine cc (M:=λa w=>∃ (b8:Nat) (ei:Option Addr) (dg:Nat),Fr a 48 [(3,pt b3),(4,pt b4),(8,pt b8)]∧U W w (aa b8 186 (dr ⟨cf.aX,cf.order,tb⟩ ei dg)::Sl 5 1 ei tb.length dg (bc tb)::aa b3 28 (br cf)::aa b4 45 (bw p adP cP)::ay W p adP cP::L)) ?_ ?_
 ·
  refine aY 0 (λw0 V=>Rd V b3 0 (br cf)) [3,5,7] [0,2,4,3001,3003,2005,6,1007,1008] E I λa w E I hH=>?_;have hC:=hH.at w (I.ai (b:=b3));refine RH 3 E I hH hC λa E=>?_;refine QH E (λw hc=>ae E (hc 5 _ rfl)) hC λa E=>?_;refine QH E (λw hc=>ae E (hc 6 _ rfl)) hC λa E=>?_;refine RH 0 E I hH hC λa E=>?_;refine DN [(5,[6,1007,1008]),(7,[1005,6,1008])] (by kernel_rfl) rfl ⟨⟨_,rfl,?_⟩,⟨_,rfl,?_⟩,trivial⟩
  ·
   refine RH 0 E I hH hC λa E=>?_;refine a6 0 E I (r4 (bs:=tb) I (λV hw=>hT V hw.sub) de) λei dg a w E I=>?_;replace hC:=hH.at w (I.ai (b:=b3));refine RH 1 E I hH hC λa E=>?_;refine eW E rfl I Ty.t186 rfl λb8 a w E I ho=>?_;clear ho;replace hC:=hH.at w (I.ai (b:=b3));refine RH 0 E I hH hC λa E=>?_;refine SA 0 E I λa w E I=>?_;refine RN 0 E I λa E=>?_;exact⟨_,ei,dg,E.ab [3,4,8],I.sub (M:=aa b8 186 [.int .i64 cf.aX,.int .i64 cf.order,.slice ei tb.length dg]::Sl 5 1 ei tb.length dg (bc tb)::aa b3 28 (br cf)::aa b4 45 (bw p adP cP)::ay W p adP cP::L)⟩
  refine RH 0 E I hH hC λa E=>?_;refine eW E rfl I Ty.t186 rfl λb8 a w E I ho=>?_;clear ho;replace hC:=hH.at w (I.ai (b:=b3));refine RH 0 E I hH hC λa E=>?_;refine a6 0 E I (r4 (bs:=tb) I (λV hw=>hT V hw.sub) de) λei dg a w E I=>?_;replace hC:=hH.at w (I.ai (b:=b3));refine RH 1 E I hH hC λa E=>?_;refine SA 0 E I λa w E I=>?_;refine RN 0 E I λa E=>?_;exact⟨_,ei,dg,E.ab [3,4,8],I.sub (M:=aa b8 186 [.int .i64 cf.aX,.int .i64 cf.order,.slice ei tb.length dg]::Sl 5 1 ei tb.length dg (bc tb)::aa b3 28 (br cf)::aa b4 45 (bw p adP cP)::ay W p adP cP::L)⟩
 clear E;(try clear I);rintro a w ⟨b8,ei,dg,E,I⟩;refine CL 2 E I (YA I h) λa w E I=>?_;refine RN 9 E I λa E=>?_;rw[show decide ((1:Int)≠0)=true from rfl]at E;refine RN 1 E I λa E=>?_;replace E:=E.dX 26;refine RT 13 E I ?_;exact⟨rfl,I.sub⟩
theorem L2 (I:U W w (ay W p adP cP::L))(hm:eO ⟨n,me,id,aE,bm,aX,order,cm,workers,room⟩)(h:¬ (db p∧cY ⟨aX,order,tb⟩))(aC:p.title.size≤1000000000)(cS:p.ops.length≤1000000000)(de:tb.length≤1099511627776)(hT:∀ V,U W V (ay W p adP cP::L)→aQ V adT tb.length tb) :
   Calls prog 60 #[.agg (br ⟨n,me,id,aE,bm,aX,order,cm,workers,room⟩).toArray,.agg (bw p adP cP).toArray,.slice adT tb.length cT] w λr V=>r=.returned (.tuple #[.pointer none,.int .i64 1])∧U W V (ay W p adP cP::L):=by
 obtain⟨cf,cw⟩:∃ cf:Cf,cf=⟨n,me,id,aE,bm,aX,order,cm,workers,room⟩:=⟨_,rfl⟩;rw[← cw];have hg:cf.aX=aX∧cf.order=order:=by rw[cw];exact⟨rfl,rfl⟩
 refine EN func60 ntmps60 rfl rfl λa E=>?_;refine BX 1 E I λb3 a w E I=>?_;change U W w (aa b3 28 (br cf)::_) at I;refine BX 0 E I λb4 a w E I=>?_;change U W w (aa b4 45 (bw p adP cP)::_) at I;refine RN 2 E I λa E=>?_;refine cc (M:=λa w=>∃ (b8:Nat) (ei:Option Addr) (dg:Nat),Fr a 48 [(3,pt b3),(4,pt b4),(8,pt b8)]∧U W w (aa b8 186 (dr ⟨cf.aX,cf.order,tb⟩ ei dg)::Sl 5 1 ei tb.length dg (bc tb)::aa b3 28 (br cf)::aa b4 45 (bw p adP cP)::ay W p adP cP::L)) ?_ ?_
 ·
  refine aY 0 (λw0 V=>Rd V b3 0 (br cf)) [3,5,7] [0,2,4,3001,3003,2005,6,1007,1008] E I λa w E I hH=>?_;have hC:=hH.at w (I.ai (b:=b3));refine RH 3 E I hH hC λa E=>?_;refine QH E (λw hc=>ae E (hc 5 _ rfl)) hC λa E=>?_;refine QH E (λw hc=>ae E (hc 6 _ rfl)) hC λa E=>?_;refine RH 0 E I hH hC λa E=>?_;refine DN [(5,[6,1007,1008]),(7,[1005,6,1008])] (by kernel_rfl) rfl ⟨⟨_,rfl,?_⟩,⟨_,rfl,?_⟩,trivial⟩
  ·
   refine RH 0 E I hH hC λa E=>?_;refine a6 0 E I (r4 (bs:=tb) I (λV hw=>hT V hw.sub) de) λei dg a w E I=>?_;replace hC:=hH.at w (I.ai (b:=b3));refine RH 1 E I hH hC λa E=>?_;refine eW E rfl I Ty.t186 rfl λb8 a w E I ho=>?_;clear ho;replace hC:=hH.at w (I.ai (b:=b3));refine RH 0 E I hH hC λa E=>?_;refine SA 0 E I λa w E I=>?_;refine RN 0 E I λa E=>?_;exact⟨_,ei,dg,E.ab [3,4,8],I.sub (M:=aa b8 186 [.int .i64 cf.aX,.int .i64 cf.order,.slice ei tb.length dg]::Sl 5 1 ei tb.length dg (bc tb)::aa b3 28 (br cf)::aa b4 45 (bw p adP cP)::ay W p adP cP::L)⟩
  refine RH 0 E I hH hC λa E=>?_;refine eW E rfl I Ty.t186 rfl λb8 a w E I ho=>?_;clear ho;replace hC:=hH.at w (I.ai (b:=b3));refine RH 0 E I hH hC λa E=>?_;refine a6 0 E I (r4 (bs:=tb) I (λV hw=>hT V hw.sub) de) λei dg a w E I=>?_;replace hC:=hH.at w (I.ai (b:=b3));refine RH 1 E I hH hC λa E=>?_;refine SA 0 E I λa w E I=>?_;refine RN 0 E I λa E=>?_;exact⟨_,ei,dg,E.ab [3,4,8],I.sub (M:=aa b8 186 [.int .i64 cf.aX,.int .i64 cf.order,.slice ei tb.length dg]::Sl 5 1 ei tb.length dg (bc tb)::aa b3 28 (br cf)::aa b4 45 (bw p adP cP)::ay W p adP cP::L)⟩
 clear E;(try clear I);rintro a w ⟨b8,ei,dg,E,I⟩;refine RN 2 E I λa E=>?_;rw[cw]at E;refine aR 0 E I (K1 I hm) λBc a w E I=>?_;refine RN 9 E I λa E=>?_;rw[show decide ((0:Int)≠0)=false from rfl]at E;refine RN 1 E I λa E=>?_;replace E:=E.aK 26;refine aR 1 E I (DE (I.pick (ay W p adP cP)) aC cS) λrc a w E ⟨jy,I⟩=>?_;refine BY 3 E I (λiB a E=>?_) λiB a E=>?_
 ·
  refine RT 8 E I ?_;exact⟨rfl,I.sub⟩
 refine aR 1 E I (yn I) λZr a w E ⟨fe,I⟩=>?_;refine IF 2 E I (λaj a E=>?_) λaj a E=>?_
 ·
  refine RT 3 E I ?_;exact⟨rfl,I.sub⟩
 exact absurd ⟨jy.1 iB,by have:=fe.1 aj;rw[hg.1,hg.2]at this;exact this⟩ h
theorem L3 (I:U W w (ay W p adP cP::L))(hm:eO ⟨n,me,id,aE,bm,aX,order,cm,workers,room⟩)(a7:db p)(fA:cY ⟨aX,order,tb⟩)(aC:p.title.size≤1000000000)(cS:p.ops.length≤1000000000)(de:tb.length≤1099511627776)(hT:∀ V,U W V (ay W p adP cP::L)→aQ V adT tb.length tb) :
   Calls prog 60 #[.agg (br ⟨n,me,id,aE,bm,aX,order,cm,workers,room⟩).toArray,.agg (bw p adP cP).toArray,.slice adT tb.length cT] w λr V=>∃ B:iT,r=.returned (.tuple #[pt B.pb,.int .i64 0])∧B.gs=⟨aX,order,tb⟩ ∧
    U W V (aO W B p (eD p ⟨n,me,id,aE,bm,aX,order,cm,workers,room⟩)::ay W p adP cP::L):=by
 obtain⟨cf,cw⟩:∃ cf:Cf,cf=⟨n,me,id,aE,bm,aX,order,cm,workers,room⟩:=⟨_,rfl⟩;rw[← cw];have hg:cf.aX=aX∧cf.order=order:=by rw[cw];exact⟨rfl,rfl⟩
 have ae1:1≤p.ops.length∧p.ops.length≤64:=⟨a7.1.2.1,a7.1.2.2.1⟩;refine EN func60 ntmps60 rfl rfl λa E=>?_;refine BX 1 E I λb3 a w E I=>?_;change U W w (aa b3 28 (br cf)::_) at I;refine BX 0 E I λb4 a w E I=>?_;change U W w (aa b4 45 (bw p adP cP)::_) at I;refine RN 2 E I λa E=>?_;refine cc (M:=λa w=>∃ (b8:Nat) (ei:Option Addr) (dg:Nat),Fr a 48 [(3,pt b3),(4,pt b4),(8,pt b8)]∧U W w (aa b8 186 (dr ⟨cf.aX,cf.order,tb⟩ ei dg)::Sl 5 1 ei tb.length dg (bc tb)::aa b3 28 (br cf)::aa b4 45 (bw p adP cP)::ay W p adP cP::L)) ?_ ?_
 ·
  refine aY 0 (λw0 V=>Rd V b3 0 (br cf)) [3,5,7] [0,2,4,3001,3003,2005,6,1007,1008] E I λa w E I hH=>?_;have hC:=hH.at w (I.ai (b:=b3));refine RH 3 E I hH hC λa E=>?_;refine QH E (λw hc=>ae E (hc 5 _ rfl)) hC λa E=>?_;refine QH E (λw hc=>ae E (hc 6 _ rfl)) hC λa E=>?_;refine RH 0 E I hH hC λa E=>?_;refine DN [(5,[6,1007,1008]),(7,[1005,6,1008])] (by kernel_rfl) rfl ⟨⟨_,rfl,?_⟩,⟨_,rfl,?_⟩,trivial⟩
  ·
   refine RH 0 E I hH hC λa E=>?_;refine a6 0 E I (r4 (bs:=tb) I (λV hw=>hT V hw.sub) de) λei dg a w E I=>?_;replace hC:=hH.at w (I.ai (b:=b3));refine RH 1 E I hH hC λa E=>?_;refine eW E rfl I Ty.t186 rfl λb8 a w E I ho=>?_;clear ho;replace hC:=hH.at w (I.ai (b:=b3));refine RH 0 E I hH hC λa E=>?_;refine SA 0 E I λa w E I=>?_;refine RN 0 E I λa E=>?_;exact⟨_,ei,dg,E.ab [3,4,8],I.sub (M:=aa b8 186 [.int .i64 cf.aX,.int .i64 cf.order,.slice ei tb.length dg]::Sl 5 1 ei tb.length dg (bc tb)::aa b3 28 (br cf)::aa b4 45 (bw p adP cP)::ay W p adP cP::L)⟩
  refine RH 0 E I hH hC λa E=>?_;refine eW E rfl I Ty.t186 rfl λb8 a w E I ho=>?_;clear ho;replace hC:=hH.at w (I.ai (b:=b3));refine RH 0 E I hH hC λa E=>?_;refine a6 0 E I (r4 (bs:=tb) I (λV hw=>hT V hw.sub) de) λei dg a w E I=>?_;replace hC:=hH.at w (I.ai (b:=b3));refine RH 1 E I hH hC λa E=>?_;refine SA 0 E I λa w E I=>?_;refine RN 0 E I λa E=>?_;exact⟨_,ei,dg,E.ab [3,4,8],I.sub (M:=aa b8 186 [.int .i64 cf.aX,.int .i64 cf.order,.slice ei tb.length dg]::Sl 5 1 ei tb.length dg (bc tb)::aa b3 28 (br cf)::aa b4 45 (bw p adP cP)::ay W p adP cP::L)⟩
 clear E;(try clear I);rintro a w ⟨b8,ei,dg,E,I⟩;refine RN 2 E I λa E=>?_;rw[cw]at E;refine aR 0 E I (K1 I hm) λBc a w E I=>?_;rw[← cw]at I;refine RN 9 E I λa E=>?_;rw[show decide ((0:Int)≠0)=false from rfl]at E;refine RN 1 E I λa E=>?_;replace E:=E.aK 26;refine aR 1 E I (DE (I.pick (ay W p adP cP)) aC cS) λrc a w E ⟨jy,I⟩=>?_;rw[jy.2 a7]at E;refine RN 1 E I λa E=>?_;rw[show (!true)=false from rfl]at E;refine RN 2 E I λa E=>?_;replace E:=E.aK 31;refine aR 1 E I (yn I) λZr a w E ⟨fe,I⟩=>?_;rw[fe.2 (by rw[hg.1,hg.2];exact fA)]at E;refine RN 2 E I λa E=>?_;replace E:=E.aK 35;refine RN 2 E I λa E=>?_;replace I:=I.bO 114 4 none;rw[bw]at I;refine RN 2 E I λa E=>?_;refine gU E rfl I underlying43 Ty.t114 rfl rfl (by decide) (λh0=>(I.pick (ay W p adP cP)).qT adP h0) (by rw[iY Da]) (y8 I0 _) (by omega) λnY nZ a w E I=>?_;rw[nil_append,Nat.zero_add]at I;rw[Nat.zero_add]at E;refine ST 1 E I (λa w E I=>?_);refine RN 0 E I λa E=>?_;replace I:U W w (aa b4 45 [.string p.title,.slice nY p.ops.length nZ]::Sl 114 4 nY p.ops.length nZ (rows dP p.ops)::_):=I;refine RN 4 E I λa E=>?_;simp only[dr]at E;refine BX 1 E I λuy a w E I=>?_;refine RN 1 E I λa E=>?_;replace I:=(I.pick (Sl 114 4 nY p.ops.length nZ (rows dP p.ops))).Dc;replace I:U W w (aa uy 192 (gu p ⟨uy,Bc,nY,nZ,ei,dg,⟨cf.aX,cf.order,tb⟩⟩ ou)::aA Bc (fh cf)::ay W p nY nZ::Sl 5 1 ei tb.length dg (bc tb)::ay W p adP cP::L):=by
  have c6:U W w (ay W p nY nZ::_):=I;have nu:=c6.jD uy;exact U.sub (M:=_::aA Bc (fh cf)::ay W p nY nZ::Sl 5 1 ei tb.length dg (bc tb)::ay W p adP cP::L) (show U W w (aa uy 192 (gu p ⟨uy,Bc,nY,nZ,ei,dg,⟨cf.aX,cf.order,tb⟩⟩ ou)::_) from nu)
 replace I:=aO.fold I ⟨uy,Bc,nY,nZ,ei,dg,⟨cf.aX,cf.order,tb⟩⟩ p ⟨fh cf,ou⟩;refine CL 2 E I (FB I (wa (by rw[cw];exact hm)) a7 aC) λa w E I=>?_;refine RT 4 E I ?_;exact⟨⟨uy,Bc,nY,nZ,ei,dg,⟨cf.aX,cf.order,tb⟩⟩,rfl,by rw[hg.1,hg.2],I⟩
end
end
section
structure yt (W:World)(L:List SP)(f:FuncId)(us:List Value):Prop where
 c:g4 prog f=true
 h:∀ {w:World} {M:List SP} {x y:UInt8},U W w M→(∀ {V},U W V M→U W V L)→Calls prog f (List.toArray (.int .u8 (x.toNat:Nat)::.int .u8 (y.toNat:Nat)::us)) w λe V=>∃ z:Int,e=.returned (.int .i64 z)∧U W V M
abbrev g2 (bb oo m c:Nat)(xs:List UInt8):SP:=Sl 5 1 (some ⟨bb,oo,none⟩) m c (bc xs)
abbrev sv (bb oo m c:Nat):Value:=.slice (some ⟨bb,oo,none⟩) m c
abbrev kc (f:FuncId)(us:List Value):Value:=.func (.func f) #[] us.toArray
theorem sX (bs:List UInt8)(i:Nat)(x:UInt8):(bc bs).set i (.int .u8 (x.toNat:Int))=bc (bs.set i x):=by rw[bc,bc,List.map_set]
theorem AU {n:Nat}(h:n≤9223372036854775807):IntKind.u64.wrap (n:Int)=n:=by rw[wrap_u64];omega
section
variable {W w:World}{L:List SP}{bb oo m c lo up f n k:Nat}{us:List Value}{xs:List UInt8}
theorem L5 (I:U W w (g2 bb oo m c xs::L))(hF:yt W L f us)(hx:xs.length=m)(hb:up≤m)(hm:m≤1000)(Zs:lo≤m) :
   Calls prog 340 #[sv bb oo m c,.int .i64 lo,.int .i64 up,kc f us] w λe V=>∃ ys:List UInt8,e=.returned (.tuple #[])∧ys.length=m∧U W V (g2 bb oo m c ys::L):=by
 refine EN func340 ntmps340 rfl rfl λa E=>?_;refine RN 4 E I λa E=>?_;refine aP (λμ a w=>∃ (i:Nat) (ys:List UInt8),(μ=up-i∧lo<i∧ys.length=m)∧Fr a 53 [(0,sv bb oo m c),(1,.int .i64 lo),(2,.int .i64 up),(3,kc f us),(8,.int .i64 i)]∧U W w (g2 bb oo m c ys::L)) (up-(lo+1)) (⟨lo+1,xs,⟨rfl,by omega,hx⟩,E.ab [0,1,2,3,8],I⟩) ?_;clear E I;rintro μ a w ⟨i,ys,⟨rfl,hi,hy⟩,E,I⟩;refine IF 5 E I (λaj a E=>?_) λaj a E=>?_
 ·
  have Za:i<m:=by omega
  refine RN 4 E I λa E=>?_;refine aP (λμ a w=>∃ (j:Nat) (zs:List UInt8),(μ=j∧j≤i∧zs.length=m)∧Fr a 53 [(0,sv bb oo m c),(1,.int .i64 lo),(2,.int .i64 up),(3,kc f us),(8,.int .i64 i),(9,.int .i64 j)]∧U W w (g2 bb oo m c zs::L)) (i) (⟨i,ys,⟨rfl,bk _,hy⟩,E.ab [0,1,2,3,8,9],I⟩) ?_;clear E I;rintro μ a w ⟨j,zs,⟨xB,hj,hz⟩,E,I⟩;have L6:j<zs.length:=by omega
  have L7:j-1<zs.length:=by omega
  refine bS 2 [13] [0,1,2,3,4,5,6,7,9,10,11,12,3008,1013,1014,15,16] E I λa w E I hH hC=>?_;have hr:Rd w bb oo (bc zs):=I.cK bb oo (by omega);refine RH 4 E I hH hC λa E=>?_;refine E.by (s:=21) (λbF E=>?_) (λbF E=>?_)
  ·
   refine RH 7 E I hH hC λa E=>?_;rw[show (j:Int)-1=((j-1:Nat):Int) from by omega]at E;refine RH 1 E I hH hC λa E=>?_;refine QH E (λw hc=>ae E (hc.cell (hr j _ (dS L6)))) hC λa E=>?_;refine RH 0 E I hH hC λa E=>?_;refine bC E (cI E rfl (s:=21)) (ae E (hr (j-1) _ (dS L7))) rfl λa E=>?_;refine RH 0 E I hH hC λa E=>?_;refine aR 0 E I (hF.h I λh=>h.tail) (hf:=hF.c) λz a w E I=>?_;refine RN 2 E I λa E=>?_;refine IF 0 E I (λao a E=>?_) λao a E=>?_
   ·
    refine bS 1 [13] [0,1,2,3,4,5,6,7,8,10,11,12,3009,1013,14,1015,16,1017] E I λa w E I hH hC=>?_;have hr:Rd w bb oo (bc zs):=I.cK bb oo (by omega);refine RH 5 E I hH hC λa E=>?_;rw[show (j:Int)-1=((j-1:Nat):Int) from by omega]at E;refine RH 3 E I hH hC λa E=>?_;rw[show (j:Int)-1=((j-1:Nat):Int) from by omega]at E;refine RH 4 E I hH hC λa E=>?_;refine QH E (λw hc=>ae E (hc.cell (hr (j-1) _ (dS L7)))) hC λa E=>?_;refine RH 0 E I hH hC λa E=>?_;refine SS E (ae E (hr j _ (dS L6))) λa E=>?_;refine RH 1 E I hH hC λa E=>?_;refine lY (off:=oo) (k:=j) E rfl I Ty.t5 rfl (by omega) (by rw[dB];omega) λa w E I=>?_;rw[sX]at I;refine RN 1 E I λa E=>?_;refine lY (off:=oo) (k:=j-1) E rfl I Ty.t5 rfl (by omega) (by rw[dB,bu];omega) λa w E I=>?_;rw[sX]at I;refine RN 2 E I λa E=>?_;rw[show (j:Int)-1=((j-1:Nat):Int) from by omega]at E;refine RN 1 E I λa E=>?_;exact⟨j-1,by omega,j-1,_,⟨rfl,by omega,by simp[hz]⟩,E.ab [0,1,2,3,8,9],I⟩
   refine RN 3 E I λa E=>?_;exact⟨up-(i+1),by omega,i+1,zs,⟨rfl,by omega,hz⟩,E.ab [0,1,2,3,8],I⟩
  refine RH 13 E I hH hC λa E=>?_;refine RN 4 E I λa E=>?_;exact⟨up-(i+1),by omega,i+1,zs,⟨rfl,by omega,hz⟩,E.ab [0,1,2,3,8],I⟩
 refine RT 0 E I ?_;exact⟨ys,rfl,hy,I⟩
theorem FE (I:U W w (g2 bb oo m c xs::L))(hx:xs.length=m)(h1:lo+n≤m)(h2:up+n≤m)(hm:m≤1000) :
   Calls prog 344 #[sv bb oo m c,.int .i64 lo,.int .i64 up,.int .i64 n,kc f us] w λe V=>∃ ys:List UInt8,e=.returned (.tuple #[])∧ys.length=m∧U W V (g2 bb oo m c ys::L):=by
 refine EN func344 ntmps344 rfl rfl λa E=>?_;refine RN 2 E I λa E=>?_;refine aP (λμ a w=>∃ (i:Nat) (zs:List UInt8),(μ=n-i∧i≤n∧zs.length=m)∧Fr a 38 [(0,sv bb oo m c),(1,.int .i64 lo),(2,.int .i64 up),(3,.int .i64 n),(10,.int .i64 i)]∧U W w (g2 bb oo m c zs::L)) (n) (⟨0,xs,⟨rfl,Nat.zero_le _,hx⟩,E.ab [0,1,2,3,10],I⟩) ?_;clear E I;rintro μ a w ⟨i,zs,⟨rfl,hi,hz⟩,E,I⟩;refine IF 5 E I (λaj a E=>?_) λaj a E=>?_
 ·
  have kM:lo+i<zs.length:=by omega
  have ma:up+i<zs.length:=by omega
  refine bS 1 [19] [0,1,2,3,4,5,6,7,8,9,10,11,12,14,15,16,17,18,3013,1019,20,1021,22,1023] E I λa w E I hH hC=>?_;have hr:Rd w bb oo (bc zs):=I.cK bb oo (by omega);refine RH 18 E I hH hC λa E=>?_;refine QH E (λw hc=>ae E (hc.cell (hr (up+i) _ (dS ma)))) hC λa E=>?_;refine RH 0 E I hH hC λa E=>?_;refine SS E (ae E (hr (lo+i) _ (dS kM))) λa E=>?_;refine RH 1 E I hH hC λa E=>?_;refine lY (off:=oo) (k:=lo+i) E rfl I Ty.t5 rfl (by omega) (by rw[dB];omega) λa w E I=>?_;rw[sX]at I;refine RN 1 E I λa E=>?_;refine lY (off:=oo) (k:=up+i) E rfl I Ty.t5 rfl (by omega) (by rw[dB,bu];omega) λa w E I=>?_;rw[sX]at I;refine RN 3 E I λa E=>?_;exact⟨n-(i+1),by omega,i+1,_,⟨rfl,by omega,by simp[hz]⟩,E.ab [0,1,2,3,10],I⟩
 refine RT 0 E I ?_;exact⟨zs,rfl,hz,I⟩
theorem rotate (I:U W w (g2 bb oo m c xs::L))(hx:xs.length=m)(h1:lo<k)(h2:k<up)(h3:up≤m)(hm:m≤1000) :
   Calls prog 343 #[sv bb oo m c,.int .i64 lo,.int .i64 k,.int .i64 up,kc f us] w λe V=>∃ ys:List UInt8,e=.returned (.tuple #[])∧ys.length=m∧U W V (g2 bb oo m c ys::L):=by
 refine EN func343 ntmps343 rfl rfl λa E=>?_;refine RN 4 E I λa E=>?_;rw[show (k:Int)-(lo:Int)=((k-lo:Nat):Int) from by omega]at E;refine RN 5 E I λa E=>?_;rw[show (up:Int)-(k:Int)=((up-k:Nat):Int) from by omega]at E;refine RN 2 E I λa E=>?_;refine aP (λμ a w=>∃ (i j:Nat) (zs:List UInt8),(μ=i+j∧(1≤i∧1≤j)∧(i≤k∧k+j≤m)∧zs.length=m)∧Fr a 58 [(0,sv bb oo m c),(2,.int .i64 k),(4,kc f us),(10,.int .i64 i),(11,.int .i64 j)]∧U W w (g2 bb oo m c zs::L)) (k-lo+(up-k)) (⟨k-lo,up-k,xs,⟨rfl,⟨by omega,by omega⟩,⟨by omega,by omega⟩,hx⟩,E.ab [0,2,4,10,11],I⟩) ?_;clear E I;rintro μ a w ⟨i,j,zs,⟨rfl,⟨hi,hj⟩,⟨o5,uz⟩,hz⟩,E,I⟩;refine IF 5 E I (λaj a E=>?_) λaj a E=>?_
 ·
  refine IF 4 E I (λao a E=>?_) λao a E=>?_
  ·
   refine RN 5 E I λa E=>?_;rw[show (k:Int)-(i:Int)=((k-i:Nat):Int) from by omega]at E;refine aR 3 E I (FE I hz (by omega) (by omega) hm) λys a w E ⟨hy,I⟩=>?_;refine RN 3 E I λa E=>?_;rw[show (i:Int)-(j:Int)=((i-j:Nat):Int) from by omega]at E;refine RN 1 E I λa E=>?_;exact⟨i-j+j,by omega,i-j,j,ys,⟨rfl,⟨by omega,by omega⟩,⟨by omega,by omega⟩,hy⟩,E.ab [0,2,4,10,11],I⟩
  refine RN 5 E I λa E=>?_;rw[show (k:Int)-(i:Int)=((k-i:Nat):Int) from by omega]at E;refine RN 5 E I λa E=>?_;rw[show (k:Int)+(j:Int)-(i:Int)=((k+j-i:Nat):Int) from by omega]at E;refine aR 2 E I (FE I hz (by omega) (by omega) hm) λys a w E ⟨hy,I⟩=>?_;refine RN 3 E I λa E=>?_;rw[show (j:Int)-(i:Int)=((j-i:Nat):Int) from by omega]at E;refine RN 1 E I λa E=>?_;exact⟨i+(j-i),by omega,i,j-i,ys,⟨rfl,⟨by omega,by omega⟩,⟨by omega,by omega⟩,hy⟩,E.ab [0,2,4,10,11],I⟩
 refine RN 4 E I λa E=>?_;rw[show (k:Int)-(i:Int)=((k-i:Nat):Int) from by omega]at E;refine aR 3 E I (FE I hz (by omega) (by omega) hm) λys a w E ⟨hy,I⟩=>?_;refine RT 0 E I ?_;exact⟨ys,rfl,hy,I⟩
theorem L8 (hF:yt W L f us)(hm:m≤1000):∀ (d:Nat) {w:World} {xs:List UInt8} {lo k up:Nat},up-lo≤d→xs.length=m→lo<k→k<up→up≤m→U W w (g2 bb oo m c xs::L) →
   Calls prog 341 #[sv bb oo m c,.int .i64 lo,.int .i64 k,.int .i64 up,kc f us] w λe V=>∃ ys:List UInt8,e=.returned (.tuple #[])∧ys.length=m∧U W V (g2 bb oo m c ys::L):=by
 intro d
 induction d with
 | zero=>intro w xs lo k up hd hx h1 h2 h3 I;omega
 | succ d ih =>
  intro w xs lo k up hd hx h1 h2 h3 I;refine EN func341 ntmps341 rfl rfl λa E=>?_;refine RN 5 E I λa E=>?_;rw[show (k:Int)-(lo:Int)=((k-lo:Nat):Int) from by omega]at E;refine IF 1 E I (λaj a E=>?_) λaj a E=>?_
  ·
   refine RN 7 E I λa E=>?_;refine aP (λμ a w=>∃ (i j:Nat),(μ=j-i∧(k≤i∧i≤j)∧j≤up)∧Fr a 220 [(0,sv bb oo m c),(1,.int .i64 lo),(2,.int .i64 k),(4,kc f us),(10,.int .i64 i),(11,.int .i64 j)]∧U W w (g2 bb oo m c xs::L)) (up-k) (⟨k,up,⟨rfl,⟨bk _,by omega⟩,bk _⟩,E.ab [0,1,2,4,10,11],I⟩) ?_;clear E I;rintro μ a w ⟨i,j,⟨rfl,⟨hi,nU⟩,hj⟩,E,I⟩;refine IF 5 E I (λao a E=>?_) λao a E=>?_
   ·
    have lK:(i+j)/2<xs.length:=by omega
    have ia:lo<xs.length:=by omega
    refine RN 4 E I λa E=>?_;rw[show (i:Int)+(j:Int)=((i+j:Nat):Int) from rfl]at E;refine SX 0 E I (AU (by omega)) λa E=>?_;refine RN 1 E I λa E=>?_;rw[show (((i+j:Nat):Int).fdiv (2 ^ 1))=(((i+j)/2:Nat):Int) from kS (i+j) 2]at E;refine SX 0 E I (gi (by omega) (by omega)) λa E=>?_;refine bS 2 [8] [0,1,2,3,5,6,7,3004,1008,1009,10] E I λa w E I hH hC=>?_;have hr:Rd w bb oo (bc xs):=I.cK bb oo (by omega);refine RH 7 E I hH hC λa E=>?_;refine QH E (λw hc=>ae E (hc.cell (hr ((i+j)/2) _ (dS lK)))) hC λa E=>?_;refine RH 0 E I hH hC λa E=>?_;refine SS E (ae E (hr lo _ (dS ia))) λa E=>?_;refine RH 0 E I hH hC λa E=>?_;refine aR 0 E I (hF.h I λh=>h.tail) (hf:=hF.c) λz a w E I=>?_;refine RN 1 E I λa E=>?_;refine IF 0 E I (λaz a E=>?_) λaz a E=>?_
    ·
     refine RN 3 E I λa E=>?_;exact⟨j-((i+j)/2+1),by omega,(i+j)/2+1,j,⟨rfl,⟨by omega,by omega⟩,hj⟩,E.ab [0,1,2,4,10,11],I⟩
    refine RN 2 E I λa E=>?_;exact⟨(i+j)/2-i,by omega,i,(i+j)/2,⟨rfl,⟨hi,by omega⟩,by omega⟩,E.ab [0,1,2,4,10,11],I⟩
   refine RN 4 E I λa E=>?_;refine aP (λμ a w=>∃ (q:Nat) (zs:List UInt8),(μ=i-q∧lo≤q∧zs.length=m)∧Fr a 220 [(0,sv bb oo m c),(10,.int .i64 i),(13,.int .i64 q)]∧U W w (g2 bb oo m c zs::L)) (i-lo) (⟨lo,xs,⟨rfl,bk _,hx⟩,E.ab [0,10,13],I⟩) ?_;clear E I;rintro μ a w ⟨q,zs,⟨rfl,hq,hz⟩,E,I⟩;refine RN 5 E I λa E=>?_;rw[show (i:Int)-1=((i-1:Nat):Int) from by omega]at E;refine IF 1 E I (λbh a E=>?_) λbh a E=>?_
   ·
    have cW:q<zs.length:=by omega
    have eQ:q+1<zs.length:=by omega
    refine bS 1 [13] [0,1,2,3,4,5,6,7,8,10,11,12,3009,1013,14,1015,16,1017] E I λa w E I hH hC=>?_;have hr:Rd w bb oo (bc zs):=I.cK bb oo (by omega);refine RH 12 E I hH hC λa E=>?_;refine QH E (λw hc=>ae E (hc.cell (hr (q+1) _ (dS eQ)))) hC λa E=>?_;refine RH 0 E I hH hC λa E=>?_;refine SS E (ae E (hr q _ (dS cW))) λa E=>?_;refine RH 1 E I hH hC λa E=>?_;refine lY (off:=oo) (k:=q) E rfl I Ty.t5 rfl (by omega) (by rw[dB];omega) λa w E I=>?_;rw[sX]at I;refine RN 1 E I λa E=>?_;refine lY (off:=oo) (k:=q+1) E rfl I Ty.t5 rfl (by omega) (by rw[dB,bu];omega) λa w E I=>?_;rw[sX]at I;refine RN 3 E I λa E=>?_;exact⟨i-(q+1),by omega,q+1,_,⟨rfl,by omega,by simp[hz]⟩,E.ab [0,10,13],I⟩
   refine RT 0 E I ?_;exact⟨zs,rfl,hz,I⟩
  refine RN 5 E I λa E=>?_;rw[show (up:Int)-(k:Int)=((up-k:Nat):Int) from by omega]at E;refine IF 1 E I (λbQ a E=>?_) λbQ a E=>?_
  ·
   refine RN 7 E I λa E=>?_;refine aP (λμ a w=>∃ (i j:Nat),(μ=j-i∧(lo≤i∧i≤j)∧j≤k)∧Fr a 220 [(0,sv bb oo m c),(2,.int .i64 k),(4,kc f us),(14,.int .i64 i),(15,.int .i64 j)]∧U W w (g2 bb oo m c xs::L)) (k-lo) (⟨lo,k,⟨rfl,⟨bk _,by omega⟩,bk _⟩,E.ab [0,2,4,14,15],I⟩) ?_;clear E I;rintro μ a w ⟨i,j,⟨rfl,⟨hi,nU⟩,hj⟩,E,I⟩;refine IF 5 E I (λeT a E=>?_) λeT a E=>?_
   ·
    have lK:(i+j)/2<xs.length:=by omega
    have ia:k<xs.length:=by omega
    refine RN 4 E I λa E=>?_;rw[show (i:Int)+(j:Int)=((i+j:Nat):Int) from rfl]at E;refine SX 0 E I (AU (by omega)) λa E=>?_;refine RN 1 E I λa E=>?_;rw[show (((i+j:Nat):Int).fdiv (2 ^ 1))=(((i+j)/2:Nat):Int) from kS (i+j) 2]at E;refine SX 0 E I (gi (by omega) (by omega)) λa E=>?_;refine bS 2 [8] [0,1,2,3,5,6,7,3004,1008,1009,10,11] E I λa w E I hH hC=>?_;have hr:Rd w bb oo (bc xs):=I.cK bb oo (by omega);refine RH 7 E I hH hC λa E=>?_;refine QH E (λw hc=>ae E (hc.cell (hr k _ (dS ia)))) hC λa E=>?_;refine RH 0 E I hH hC λa E=>?_;refine SS E (ae E (hr ((i+j)/2) _ (dS lK))) λa E=>?_;refine RH 0 E I hH hC λa E=>?_;refine aR 0 E I (hF.h I λh=>h.tail) (hf:=hF.c) λz a w E I=>?_;refine RN 2 E I λa E=>?_;refine IF 0 E I (λmU a E=>?_) λmU a E=>?_
    ·
     refine RN 3 E I λa E=>?_;exact⟨j-((i+j)/2+1),by omega,(i+j)/2+1,j,⟨rfl,⟨by omega,by omega⟩,hj⟩,E.ab [0,2,4,14,15],I⟩
    refine RN 2 E I λa E=>?_;exact⟨(i+j)/2-i,by omega,i,(i+j)/2,⟨rfl,⟨hi,by omega⟩,by omega⟩,E.ab [0,2,4,14,15],I⟩
   refine RN 4 E I λa E=>?_;refine aP (λμ a w=>∃ (q:Nat) (zs:List UInt8),(μ=q∧q≤k∧zs.length=m)∧Fr a 220 [(0,sv bb oo m c),(14,.int .i64 i),(17,.int .i64 q)]∧U W w (g2 bb oo m c zs::L)) (k) (⟨k,xs,⟨rfl,bk _,hx⟩,E.ab [0,14,17],I⟩) ?_;clear E I;rintro μ a w ⟨q,zs,⟨xB,hq,hz⟩,E,I⟩;refine IF 5 E I (λml a E=>?_) λml a E=>?_
   ·
    have cW:q<zs.length:=by omega
    have eQ:q-1<zs.length:=by omega
    refine bS 1 [13] [0,1,2,3,4,5,6,7,8,10,11,12,3009,1013,14,1015,16,1017] E I λa w E I hH hC=>?_;have hr:Rd w bb oo (bc zs):=I.cK bb oo (by omega);refine RH 5 E I hH hC λa E=>?_;rw[show (q:Int)-1=((q-1:Nat):Int) from by omega]at E;refine RH 3 E I hH hC λa E=>?_;rw[show (q:Int)-1=((q-1:Nat):Int) from by omega]at E;refine RH 4 E I hH hC λa E=>?_;refine QH E (λw hc=>ae E (hc.cell (hr (q-1) _ (dS eQ)))) hC λa E=>?_;refine RH 0 E I hH hC λa E=>?_;refine SS E (ae E (hr q _ (dS cW))) λa E=>?_;refine RH 1 E I hH hC λa E=>?_;refine lY (off:=oo) (k:=q) E rfl I Ty.t5 rfl (by omega) (by rw[dB];omega) λa w E I=>?_;rw[sX]at I;refine RN 1 E I λa E=>?_;refine lY (off:=oo) (k:=q-1) E rfl I Ty.t5 rfl (by omega) (by rw[dB,bu];omega) λa w E I=>?_;rw[sX]at I;refine RN 2 E I λa E=>?_;rw[show (q:Int)-1=((q-1:Nat):Int) from by omega]at E;refine RN 1 E I λa E=>?_;exact⟨q-1,by omega,q-1,_,⟨rfl,by omega,by simp[hz]⟩,E.ab [0,14,17],I⟩
   refine RT 0 E I ?_;exact⟨zs,rfl,hz,I⟩
  refine RN 4 E I λa E=>?_;rw[show (lo:Int)+(up:Int)=((lo+up:Nat):Int) from rfl]at E;refine SX 0 E I (AU (by omega)) λa E=>?_;refine RN 1 E I λa E=>?_;rw[show (((lo+up:Nat):Int).fdiv (2 ^ 1))=(((lo+up)/2:Nat):Int) from kS (lo+up) 2]at E;refine SX 0 E I (gi (by omega) (by omega)) λa E=>?_;refine RN 1 E I λa E=>?_;obtain⟨g3,Dp⟩:∃ g3,g3=(lo+up)/2:=⟨_,rfl⟩;rw[← Dp]at E;refine RN 8 E I λa E=>?_;refine cc (M:=λa w=>∃ s r:Nat,((lo≤s∧g3+k≤s+up)∧s≤r∧r≤g3∧r≤k)∧Fr a 220 [(0,sv bb oo m c),(1,.int .i64 lo),(2,.int .i64 k),(3,.int .i64 up),(4,kc f us),(18,.int .i64 g3),(19,.int .i64 ((g3:Int)+k)),(20,.int .i64 s),(21,.int .i64 r)]∧U W w (g2 bb oo m c xs::L)) ?_ ?_
  ·
   refine IF 4 E I (λmm a E=>?_) λmm a E=>?_
   ·
    refine RN 4 E I λa E=>?_;rw[show (g3:Int)+(k:Int)-(up:Int)=((g3+k-up:Nat):Int) from by omega]at E;refine RN 3 E I λa E=>?_;exact⟨g3+k-up,g3,⟨⟨by omega,by omega⟩,by omega,by omega,by omega⟩,E.ab [0,1,2,3,4,18,19,20,21],I⟩
   refine RN 5 E I λa E=>?_;exact⟨lo,k,⟨⟨by omega,by omega⟩,by omega,by omega,by omega⟩,E.ab [0,1,2,3,4,18,19,20,21],I⟩
  clear E;(try clear I);rintro a w ⟨wu,AV,⟨⟨kF,c6⟩,nu,Zt,o9⟩,E,I⟩;refine RN 3 E I λa E=>?_;rw[show (g3:Int)+(k:Int)-1=((g3+k-1:Nat):Int) from by omega]at E;refine RN 2 E I λa E=>?_;refine aP (λμ a w=>∃ (s r:Nat),(μ=r-s∧(lo≤s∧g3+k≤s+up)∧s≤r∧r≤g3∧r≤k)∧Fr a 220 [(0,sv bb oo m c),(1,.int .i64 lo),(2,.int .i64 k),(3,.int .i64 up),(4,kc f us),(18,.int .i64 g3),(19,.int .i64 ((g3:Int)+k)),(20,.int .i64 s),(21,.int .i64 r),(22,.int .i64 ((g3+k-1:Nat):Int))]∧U W w (g2 bb oo m c xs::L)) (AV-wu) (⟨wu,AV,⟨rfl,⟨kF,c6⟩,nu,Zt,o9⟩,E.ab [0,1,2,3,4,18,19,20,21,22],I⟩) ?_;clear E I;rintro μ a w ⟨s,r,⟨rfl,⟨g1,kH⟩,nr,pY,vO⟩,E,I⟩;refine IF 5 E I (λjR a E=>?_) λjR a E=>?_
  ·
   have lK:(s+r)/2<xs.length:=by omega
   have ia:g3+k-1-(s+r)/2<xs.length:=by omega
   refine RN 4 E I λa E=>?_;rw[show (s:Int)+(r:Int)=((s+r:Nat):Int) from rfl]at E;refine SX 0 E I (AU (by omega)) λa E=>?_;refine RN 1 E I λa E=>?_;rw[show (((s+r:Nat):Int).fdiv (2 ^ 1))=(((s+r)/2:Nat):Int) from kS (s+r) 2]at E;refine SX 0 E I (gi (by omega) (by omega)) λa E=>?_;refine bS 2 [10] [0,1,2,3,4,5,7,8,9,3006,1010,1011,12,13] E I λa w E I hH hC=>?_;have hr:Rd w bb oo (bc xs):=I.cK bb oo (by omega);refine RH 5 E I hH hC λa E=>?_;rw[show ((g3+k-1:Nat):Int)-(((s+r)/2:Nat):Int)=((g3+k-1-(s+r)/2:Nat):Int) from by omega]at E;refine RH 4 E I hH hC λa E=>?_;refine QH E (λw hc=>ae E (hc.cell (hr (g3+k-1-(s+r)/2) _ (dS ia)))) hC λa E=>?_;refine RH 0 E I hH hC λa E=>?_;refine SS E (ae E (hr ((s+r)/2) _ (dS lK))) λa E=>?_;refine RH 0 E I hH hC λa E=>?_;refine aR 0 E I (hF.h I λh=>h.tail) (hf:=hF.c) λz a w E I=>?_;refine RN 2 E I λa E=>?_;refine IF 0 E I (λvD a E=>?_) λvD a E=>?_
   ·
    refine RN 3 E I λa E=>?_;exact⟨r-((s+r)/2+1),by omega,(s+r)/2+1,r,⟨rfl,⟨by omega,by omega⟩,by omega,pY,vO⟩,E.ab [0,1,2,3,4,18,19,20,21,22],I⟩
   refine RN 2 E I λa E=>?_;exact⟨(s+r)/2-s,by omega,s,(s+r)/2,⟨rfl,⟨g1,kH⟩,by omega,by omega,by omega⟩,E.ab [0,1,2,3,4,18,19,20,21,22],I⟩
  refine RN 4 E I λa E=>?_;rw[show (g3:Int)+(k:Int)-(s:Int)=((g3+k-s:Nat):Int) from by omega]at E;refine RN 1 E I λa E=>?_;refine cc (M:=λa w=>∃ zs:List UInt8,zs.length=m∧Fr a 220 [(0,sv bb oo m c),(1,.int .i64 lo),(3,.int .i64 up),(4,kc f us),(18,.int .i64 g3),(20,.int .i64 s),(24,.int .i64 ((g3+k-s:Nat):Int))]∧U W w (g2 bb oo m c zs::L)) ?_ ?_
  ·
   refine BY 5 E I (λbF a E=>?_) λbF a E=>?_
   ·
    refine IF 4 E I (λsr a E=>?_) λsr a E=>?_
    ·
     refine aR 5 E I (rotate I hx (by omega) (by omega) (by omega) hm) λys a w E ⟨hy,I⟩=>?_;refine RN 0 E I λa E=>?_;exact⟨ys,hy,E.ab [0,1,3,4,18,20,24],I⟩
    refine RN 0 E I λa E=>?_;exact⟨xs,hx,E.ab [0,1,3,4,18,20,24],I⟩
   refine RN 5 E I λa E=>?_;exact⟨xs,hx,E.ab [0,1,3,4,18,20,24],I⟩
  clear E;(try clear I);rintro a w ⟨zs,hz,E,I⟩;refine cc (M:=λa w=>∃ zs:List UInt8,zs.length=m∧Fr a 220 [(0,sv bb oo m c),(3,.int .i64 up),(4,kc f us),(18,.int .i64 g3),(24,.int .i64 ((g3+k-s:Nat):Int))]∧U W w (g2 bb oo m c zs::L)) ?_ ?_
  ·
   refine BY 5 E I (λbF a E=>?_) λbF a E=>?_
   ·
    refine IF 4 E I (λxE a E=>?_) λxE a E=>?_
    ·
     refine aR 5 E I (ih (by omega) hz (by omega) (by omega) (by omega) I) λys a w E ⟨hy,I⟩=>?_;refine RN 0 E I λa E=>?_;exact⟨ys,hy,E.ab [0,3,4,18,24],I⟩
    refine RN 0 E I λa E=>?_;exact⟨zs,hz,E.ab [0,3,4,18,24],I⟩
   refine RN 5 E I λa E=>?_;exact⟨zs,hz,E.ab [0,3,4,18,24],I⟩
  clear E;(try clear I);rintro a w ⟨zs,hz,E,I⟩;refine BY 5 E I (λbF a E=>?_) λbF a E=>?_
  ·
   refine IF 4 E I (λvE a E=>?_) λvE a E=>?_
   ·
    refine aR 5 E I (ih (by omega) hz (by omega) (by omega) (by omega) I) λys a w E ⟨hy,I⟩=>?_;refine RT 0 E I ?_;exact⟨ys,rfl,hy,I⟩
   refine RT 0 E I ?_;exact⟨zs,rfl,hz,I⟩
  refine RT 5 E I ?_;exact⟨zs,rfl,hz,I⟩
theorem Zu (I:U W w (g2 bb oo m c xs::L))(hF:yt W L f us)(hx:xs.length=m)(hm:m≤1000) :
   Calls prog 335 #[sv bb oo m c,.int .i64 m,kc f us] w λe V=>∃ ys:List UInt8,e=.returned (.tuple #[])∧ys.length=m∧U W V (g2 bb oo m c ys::L):=by
 refine EN func335 ntmps335 rfl rfl λa E=>?_;refine RN 7 E I λa E=>?_;refine aP (λμ a w=>∃ (q:Nat) (ys:List UInt8),(μ=m-q∧q≤m∧ys.length=m)∧Fr a 63 [(0,sv bb oo m c),(1,.int .i64 m),(2,kc f us),(6,.int .i64 20),(7,.int .i64 q),(8,.int .i64 ((q+20:Nat):Int))]∧U W w (g2 bb oo m c ys::L)) (m) (⟨0,xs,⟨rfl,Nat.zero_le _,hx⟩,E.ab [0,1,2,6,7,8],I⟩) ?_;clear E I;rintro μ a w ⟨q,ys,⟨rfl,hq,hy⟩,E,I⟩;refine IF 5 E I (λaj a E=>?_) λaj a E=>?_
 ·
  refine aR 5 E I (L5 I hF hy (by omega) hm hq) λzs a w E ⟨hz,I⟩=>?_;refine RN 7 E I λa E=>?_;exact⟨m-(q+20),by omega,q+20,zs,⟨rfl,by omega,hz⟩,E.ab [0,1,2,6,7,8],I⟩
 refine aR 5 E I (L5 I hF hy (bk _) hm hq) λzs a w E ⟨hz,I⟩=>?_;refine RN 0 E I λa E=>?_;refine aP (λμ a w=>∃ (s:Nat) (ys:List UInt8),(μ=m-s∧(1≤s∧s≤2000)∧ys.length=m)∧Fr a 63 [(0,sv bb oo m c),(1,.int .i64 m),(2,kc f us),(6,.int .i64 s)]∧U W w (g2 bb oo m c ys::L)) (m-20) (⟨20,zs,⟨rfl,⟨by decide,by decide⟩,hz⟩,E.ab [0,1,2,6],I⟩) ?_;clear E I;rintro μ a w ⟨s,ys,⟨rfl,⟨kF,c6⟩,hy⟩,E,I⟩;refine IF 5 E I (λao a E=>?_) λao a E=>?_
 ·
  refine RN 3 E I λa E=>?_;rw[show (2:Int)*(s:Int)=((2*s:Nat):Int) from by omega]at E;refine RN 3 E I λa E=>?_;refine aP (λμ a w=>∃ (q:Nat) (ys:List UInt8),(μ=m-q∧q≤m∧ys.length=m)∧Fr a 63 [(0,sv bb oo m c),(1,.int .i64 m),(2,kc f us),(6,.int .i64 s),(7,.int .i64 q),(8,.int .i64 ((q+2*s:Nat):Int))]∧U W w (g2 bb oo m c ys::L)) (m) (⟨0,ys,⟨rfl,Nat.zero_le _,hy⟩,(by rw[Nat.zero_add];exact E.ab [0,1,2,6,7,8]),I⟩) ?_;clear E I;rintro μ a w ⟨q,ys,⟨rfl,hq,hy⟩,E,I⟩;refine IF 5 E I (λaz a E=>?_) λaz a E=>?_
  ·
   refine RN 6 E I λa E=>?_;rw[show (q:Int)+(s:Int)=((q+s:Nat):Int) from rfl]at E;refine aR 2 E I (L8 hF hm _ (bk _) hy (by omega) (by omega) (by omega) I) λzs a w E ⟨hz,I⟩=>?_;refine RN 7 E I λa E=>?_;rw[show ((q+2*s:Nat):Int)+2*(s:Int)=((q+2*s+2*s:Nat):Int) from by omega]at E;refine RN 1 E I λa E=>?_;exact⟨m-(q+2*s),by omega,q+2*s,zs,⟨rfl,by omega,hz⟩,E.ab [0,1,2,6,7,8],I⟩
  refine RN 5 E I λa E=>?_;rw[show (q:Int)+(s:Int)=((q+s:Nat):Int) from rfl]at E;refine IF 5 E I (λbh a E=>?_) λbh a E=>?_
  ·
   refine aR 5 E I (L8 hF hm _ (bk _) hy (by omega) (by omega) (bk _) I) λzs a w E ⟨hz,I⟩=>?_;refine RN 2 E I λa E=>?_;rw[show (s:Int)*2=((s*2:Nat):Int) from by omega]at E;refine RN 1 E I λa E=>?_;exact⟨m-s*2,by omega,s*2,zs,⟨rfl,⟨by omega,by omega⟩,hz⟩,E.ab [0,1,2,6],I⟩
  refine RN 2 E I λa E=>?_;rw[show (s:Int)*2=((s*2:Nat):Int) from by omega]at E;refine RN 1 E I λa E=>?_;exact⟨m-s*2,by omega,s*2,ys,⟨rfl,⟨by omega,by omega⟩,hy⟩,E.ab [0,1,2,6],I⟩
 refine RT 0 E I ?_;exact⟨ys,rfl,hy,I⟩
theorem Zv (I:U W w (g2 bb oo m c xs::L))(hF:yt W L f us)(hx:xs.length=m)(hm:m≤1000) :
   Calls prog 327 #[sv bb oo m c,kc f us] w λe V=>∃ ys:List UInt8,e=.returned (.tuple #[])∧ys.length=m∧U W V (g2 bb oo m c ys::L):=by
 refine EN func327 ntmps327 rfl rfl λa E=>?_;refine aR 4 E I (Zu I hF hx hm) λys a w E ⟨hy,I⟩=>?_;refine RT 0 E I ?_;exact⟨ys,rfl,hy,I⟩
theorem Zw {b:Gs}{adT:Option Addr}{cT b3 dv b8 qo:Nat}{d u:UInt8}{g:Nat→Int}:yt W (aa b8 5 [.int .u8 (d.toNat:Nat)]::aa qo 5 [.int .u8 (u.toNat:Nat)]::aa b3 186 (dr b adT cT)::aa dv 320 (ints .i64 256 g)::L)
   328 [pt b8,pt qo,pt b3,pt dv]:=by
 refine⟨by kernel_rfl,?_⟩;intro w M x y I hM;have hx:=x.toNat_lt;have hy:=y.toNat_lt;refine EN func328 ntmps328 rfl rfl λa E=>?_;refine RN 4 E I λa E=>?_;refine SS E (ae E ((hM I).bz (b:=b8) rfl)) λa E=>?_;refine RN 0 E I λa E=>?_;refine SS E (ae E ((hM I).bz (b:=qo) rfl)) λa E=>?_;refine RN 0 E I λa E=>?_;refine SS E (Cs E underlying423 Ty.t423 Ty.t5 rfl rfl) λa E=>?_;refine RN 1 E I λa E=>?_;refine aP (λμ a w=>∃ (i:Nat),(μ=2-i∧i≤2)∧Fr a 47 [(0,.int .u8 (x.toNat:Nat)),(1,.int .u8 (y.toNat:Nat)),(4,pt b3),(5,pt dv),(13,.agg #[.int .u8 (d.toNat:Nat),.int .u8 (u.toNat:Nat)]),(14,.int .i64 i)]∧U W w M) (2) (⟨0,⟨rfl,by decide⟩,E.ab [0,1,4,5,13,14],I⟩) ?_;clear E I;rintro μ a w ⟨i,⟨rfl,hi⟩,E,I⟩;refine IF 3 E I (λaj a E=>?_) λaj a E=>?_
 ·
  obtain⟨q,hq⟩:∃ q:UInt8,[Value.int .u8 (d.toNat:Nat),Value.int .u8 (u.toNat:Nat)][i]?=some (.int .u8 (q.toNat:Nat)):=by
   have:i=0∨i=1:=by omega
   rcases this with rfl | rfl
   ·exact⟨d,rfl⟩
   ·exact⟨u,rfl⟩
  refine RN 2 E I λa E=>?_;refine SS E (rT E underlying423 underlying5 rfl Ty.t5 (by omega) hq) λa E=>?_;refine bS 3 [9] [0,1001,2,3,4,5,7,8,3006,1009,10,11] E I λa w E I hH hC=>?_;refine RH 1 E I hH hC λa E=>?_;refine SS E (ae E ((hM I).bz (b:=b3) rfl)) λa E=>?_;refine RH 2 E I hH hC λa E=>?_;refine E.by (s:=20) (λbF E=>?_) (λbF E=>?_)
  ·
   refine RH 4 E I hH hC λa E=>?_;refine QH E (λw hc=>ae E (hc.cell ((hM I).bz (b:=dv) (fO g hx)))) hC λa E=>?_;refine RH 0 E I hH hC λa E=>?_;refine bC E (cI E rfl (s:=20)) (ae E ((hM I).bz (b:=dv) (fO g hy))) rfl λa E=>?_;refine RH 2 E I hH hC λa E=>?_;refine IF 0 E I (λao a E=>?_) λao a E=>?_
   ·
    refine bS 1 [5] [0,1,3,4,3002,1005,6,7] E I λa w E I hH hC=>?_;refine RH 4 E I hH hC λa E=>?_;refine QH E (λw hc=>ae E (hc.cell ((hM I).bz (b:=dv) (fO g hy)))) hC λa E=>?_;refine RH 0 E I hH hC λa E=>?_;refine SS E (ae E ((hM I).bz (b:=dv) (fO g hx))) λa E=>?_;refine RH 0 E I hH hC λa E=>?_;refine QP E (λw=>wV E) λa E=>?_;refine RH 1 E I hH hC λa E=>?_;refine RT 0 E I ?_;exact⟨_,rfl,I⟩
   refine IF 8 E I (λaz a E=>?_) λaz a E=>?_
   ·
    refine IF 5 E I (λbh a E=>?_) λbh a E=>?_
    ·
     refine RT 2 E I ?_;exact⟨_,rfl,I⟩
    refine RT 2 E I ?_;exact⟨_,rfl,I⟩
   refine RN 2 E I λa E=>?_;exact⟨2-(i+1),by omega,i+1,⟨rfl,by omega⟩,E.ab [0,1,4,5,13,14],I⟩
  refine RH 8 E I hH hC λa E=>?_;refine IF 9 E I (λaz a E=>?_) λaz a E=>?_
  ·
   refine IF 5 E I (λbh a E=>?_) λbh a E=>?_
   ·
    refine RT 2 E I ?_;exact⟨_,rfl,I⟩
   refine RT 2 E I ?_;exact⟨_,rfl,I⟩
  refine RN 2 E I λa E=>?_;exact⟨2-(i+1),by omega,i+1,⟨rfl,by omega⟩,E.ab [0,1,4,5,13,14],I⟩
 refine RT 2 E I ?_;exact⟨_,rfl,I⟩
end
theorem Zx:wo:=by
 refine⟨?_⟩;intro W w L c k cT ad adT past b I hb hk eF jN hp ht;refine EN func310 ntmps310 rfl rfl λa E=>?_;refine BX 1 E I λb3 a w E I=>?_;change U W w (aa b3 186 (dr b adT cT)::_) at I;refine aR 4 E I (yn I) λr a w E ⟨hr,I⟩=>?_;obtain rfl:=hr.2 hb;refine RN 1 E I λa E=>?_;replace E:=E.aK 14;refine CL 4 E I (Lt I hb (by omega) jN (λV h=>hp _ h.tail)) λa w E I=>?_;refine AL 0 E I λdv a w E I=>?_;rw[qm]at I;refine SA 0 E I λa w E I=>?_;refine CL 3 E I (Lw I hb (by omega) jN (λV h=>hp _ h.tail.tail) (λV h=>ht _ h.tail.tail)) λa w E I=>?_;refine CL 1 E I (Lu I (by omega) (λV h=>hp _ h.tail.tail)) λa w E I=>?_;refine AL 0 E I λb8 a w E I=>?_;refine AL 0 E I λqo a w E I=>?_;refine ST 0 E I (λa w E I=>?_);refine ST 0 E I (λa w E I=>?_);refine RN 5 E I λa E=>?_;replace I:U W w (Sl 5 1 none 0 0 (bc [])::_):=I.bO 5 1 none;refine aP (λμ a w=>∃ (i:Nat) (gY:Option Addr) (cl:Nat) (ys:List UInt8),(μ=256-i∧i≤256∧ys.length=i)∧Fr a 40 [(2,.int .i64 k),(3,pt b3),(7,pt dv),(8,pt b8),(9,pt qo),(10,.slice gY i cl),(23,.int .i64 i)]∧U W w (Sl 5 1 gY i cl (bc ys)::aa b8 5 [.int .u8 ((m5 b past).toNat:Nat)]::aa qo 5 [.int .u8 ((ig past).toNat:Nat)]::aa b3 186 (dr b adT cT)::aa dv 320 (ints .i64 256 (gB b past))::L)) (256) (⟨0,none,0,[],⟨rfl,by decide,rfl⟩,E.ab [2,3,7,8,9,10,23],I.sub⟩) ?_;clear E I;rintro μ a w ⟨i,gY,cl,ys,⟨rfl,hi,hy⟩,E,I⟩;refine IF 3 E I (λao a E=>?_) λao a E=>?_
 ·
  refine RN 6 E I λa E=>?_;refine SS E (gj E underlying3 underlying5) λa E=>?_;rw[wrap_u8,show (i:Int)%256=(((UInt8.ofNat i).toNat:Nat):Int) from by rw[UInt8.toNat_ofNat'];omega]at E;refine RN 0 E I λa E=>?_;refine cp E rfl I underlying22 Ty.t5 rfl rfl rfl rfl (by decide) (by decide) λUZ a w E I ho=>?_;clear ho;refine RN 0 E I λa E=>?_;refine cQ E rfl I underlying22 Ty.t5 rfl rfl I.ai rfl (ey [UInt8.ofNat i]) (by decide) (by decide) (by omega) λI5 I6 a w E I=>?_;rw[show bc ys++_=bc (ys++[UInt8.ofNat i]) from (fI _ [_]).symm]at I;refine RN 3 E I λa E=>?_;exact⟨256-(i+1),by omega,i+1,I5,I6,ys++[UInt8.ofNat i],⟨rfl,by omega,by simp[hy]⟩,E.ab [2,3,7,8,9,10,23],I.sub⟩
 refine RN 1 E I λa E=>?_;obtain rfl:i=256:=by omega
 have hA:=E;have yu:=I;obtain⟨bb,oo,rfl,_⟩:=I.bW gY (by omega);have E:=hA;have I:=yu;have b9:=(I.sl (some ⟨bb,oo,none⟩)).2;refine aR 2 E I (Zv I Zw hy (by decide)) λzs a w E ⟨hz,I⟩=>?_;refine RN 5 E I λa E=>?_;rw[show min (max (k:Int) 0) 256=(k:Int) from by omega]at E;refine RT 2 E I ?_;have h1:=I.Cc (some ⟨bb,oo,none⟩) 0 k (Nat.zero_le _) (by omega);rw[Nat.sub_zero,Nat.sub_zero,Nat.mul_one,Nat.zero_mul,drop_zero,show (bc zs).take k=bc (zs.take k) from by rw[bc,bc,map_take]]at h1;have hl:(zs.take k).length=k:=by rw[ez];omega
 exact⟨_,_,zs.take k,by rw[hl,Nat.sub_zero,Nat.sub_zero],hl,by rw[hl];exact h1.sub⟩
end
end Go.Proofs.YteoldcfapaiobaaGreat
