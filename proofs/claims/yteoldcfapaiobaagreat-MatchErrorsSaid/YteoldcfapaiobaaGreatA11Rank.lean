/- The document's guesses: quintainref12.MayBy, weights, ahead, Rank, Chain. -/
import Derived.Test.YteoldcfapaiobaaGreatA10Core
import Derived.Test.YteoldcfapaiobaaGreatA08Pkt3
import Derived.Test.YteoldcfapaiobaaGreatA09CoQ
import Derived.Test.YteoldcfapaiobaaGreatA01Row
namespace Go.Proofs.YteoldcfapaiobaaGreat
open Tryz
open List (drop_zero getElem?_append_right nil_append drop_eq_nil_of_le ext_getElem getElem_map append_nil map_take range_succ map_singleton getLastD_eq_getLast?)
open Go.RowKit
set_option linter.unusedVariables false
set_option linter.unusedSimpArgs false
set_option maxRecDepth 10000
set_option synthInstance.maxSize 4000
set_option synthInstance.maxHeartbeats 400000
section
def pv (w:Nat→Int)(last drawn:Int)(v u:Nat):Bool:=if (v:Int)=drawn∨(u:Int)=drawn then decide ((v:Int)=drawn) else if w v≠w u then decide (w u<w v) else decide ((v:Int)=last)
def hJ (w:Nat→Int)(last drawn:Int):Nat→Nat
 | 0=>0
 | i+1=>if pv w last drawn (i+1) (hJ w last drawn i)=true then i+1 else hJ w last drawn i
theorem EO (w:Nat→Int)(last drawn:Int):∀ i,hJ w last drawn i≤i
 | 0=>bh _
 | i+1=>by
  rw[hJ];split
  ·exact bh _
  ·exact Nat.le_succ_of_le (EO w last drawn i)
theorem KR {w:Nat→Int}{last:Int}{d:Nat}:∀ {i},d≤i→hJ w last d i=d
 | 0,h=>by rw[hJ];omega
 | i+1,h=>by
  rw[hJ];by_cases hd:d=i+1
  ·rw[al]
   ·exact hd.symm
   ·rw[pv,al (.inl (by omega))];exact dd (by omega)
  ·rw[KR (i:=i) (by omega),ae];rw[pv,al (.inr rfl),cn];omega
theorem KS {w:Nat→Int}{last:Nat}:∀ i,(∀ v,v≤i→w v≤w (hJ w last (-1) i))∧(hJ w last (-1) i=last∨((last≤i→w last<w (hJ w last (-1) i))∧∀ v,v<hJ w last (-1) i→w v<w (hJ w last (-1) i)))
 | 0=>by
  refine⟨λv hv=>by rw[hJ,show v=0 from by omega];exact Int.le_refl _,?_⟩;by_cases h:last=0
  ·exact .inl h.symm
  ·exact .inr ⟨λhl=>by omega,λv hv=>by rw[hJ]at hv;omega⟩
 | i+1=>by
  obtain⟨h1,h2⟩:=KS (w:=w) (last:=last) i;have hle:=EO w last (-1) i;have h0:¬ (((i+1:Nat):Int) = -1∨((hJ w last (-1) i:Nat):Int) = -1):=by omega
  rw[hJ];generalize hJ w last (-1) i=r at *;rw[pv,ae h0];by_cases hw:w (i+1)=w r
  ·rw[ae (show ¬ w (i+1)≠w r from λh=>h hw)];by_cases hl:i+1=last
   ·rw[al (dd (by omega))];refine⟨λv hv=>?_,.inl hl⟩;by_cases q8:v=i+1
    ·subst q8;exact Int.le_refl _
    ·rw[hw];exact h1 v (by omega)
   ·rw[ae (by rw[cn];omega)];refine⟨λv hv=>?_,?_⟩
    ·by_cases q8:v=i+1
     ·subst q8;omega
     ·exact h1 v (by omega)
    ·rcases h2 with h2 | ⟨h2,h3⟩
     ·exact .inl h2
     ·exact .inr ⟨λhh=>h2 (by omega),h3⟩
  ·rw[al hw];by_cases hl:w r<w (i+1)
   ·rw[al (dd hl)];have hO:∀ v,v<i+1→w v<w (i+1):=λv hv=>by have:=h1 v (by omega);omega
    refine⟨λv hv=>?_,?_⟩
    ·by_cases q8:v=i+1
     ·subst q8;exact Int.le_refl _
     ·have:=hO v (by omega);omega
    ·by_cases uP:last=i+1
     ·exact .inl uP.symm
     ·exact .inr ⟨λhh=>hO last (by omega),hO⟩
   ·rw[ae (by rw[cn];exact hl)];refine⟨λv hv=>?_,?_⟩
    ·by_cases q8:v=i+1
     ·subst q8;omega
     ·exact h1 v (by omega)
    ·rcases h2 with h2 | ⟨h2,h3⟩
     ·exact .inl h2
     ·refine .inr ⟨λhh=>?_,h3⟩;by_cases uP:last=i+1
      ·subst uP;omega
      ·exact h2 (by omega)
def sL (b:Gs)(past:List UInt8):Int:=if b.kind=3 then ((b.table.getD (past.length%b.table.length) 0).toNat:Int) else -1
theorem Yf {b:Gs}{past:List UInt8}(hb:c1 b):hJ (gB b past) ((ic past).toNat:Nat) (sL b past) 255=(mX b past).toNat:=by
 have EL:=lz (ic past);unfold sL mX;split
 ·have:=lz (b.table.getD (past.length%b.table.length) 0);exact KR (by omega)
 ·rw[UInt8.toNat_ofNat'];obtain⟨h1,h2⟩:=KS (w:=gB b past) (last:=(ic past).toNat) 255;have hle:=EO (gB b past) ((ic past).toNat:Nat) (-1) 255;generalize hJ (gB b past) ((ic past).toNat:Nat) (-1) 255=r at *;rcases h2 with h2 | ⟨h2,h3⟩
  ·rw[JX λv hv=>by rw[← h2];exact h1 v (by omega),h2];omega
  ·have h4:=(JY (last:=(ic past).toNat) (h2 (by omega)) h3 (i:=256) λv hv=>h1 v (by omega)).2 (by omega);rw[h4];omega
def sM (t:Nat→Bool):List Value:=fn 256 λi=>.bool (t i)
theorem Yg (t:Nat→Bool):(sM t).length=256:=He _ _
theorem Yh {t:Nat→Bool}{i:Nat}(h:i<256):(sM t)[i]?=some (.bool (t i)):=Hf _ h
theorem Yi {t:Nat→Bool}{i:Nat}:(sM t).set i (.bool true)=sM λj=>if j=i then true else t j:=by
 rw[sM,Hg];exact BJ λj _=>by by_cases h:j=i <;> simp[h]
theorem Yj (m:Nat)(v:Value):List.replicate m v=fn m λ_=>v:=by
 apply ext_getElem (by simp[fn]);intro i h1 h2;simp[fn]
theorem Yk:List.replicate 256 (Value.bool false)=sM λ_=>false:=Yj 256 _
def p8 (t:Nat→Bool):Nat→Nat
 | 0=>0
 | i+1=>p8 t i+if t i=true then 1 else 0
theorem KT {t:Nat→Bool}:∀ {i},(∀ v,v<i→t v=true)→p8 t i=i
 | 0,_=>rfl
 | i+1,h=>by rw[p8,KT (i:=i) λv hv=>h v (by omega),al (h i (by omega))]
theorem KU {t:Nat→Bool}{u:Nat}(hu:t u=false):∀ {i},p8 (λj=>if j=u then true else t j) i=p8 t i+if u<i then 1 else 0
 | 0=>by simp[p8]
 | i+1=>by
  rw[p8,p8,KU hu (i:=i)];by_cases h:i=u
  ·subst h;simp[hu]
  ·by_cases h2:u<i
   ·simp[h,h2,show u<i+1 from by omega];omega
   ·simp[h,h2,show ¬ u<i+1 from by omega]
def jX (w:Nat→Int)(last drawn:Int)(t:Nat→Bool)(first:Bool)(i:Nat)(fH:Int):Prop :=
 (fH = -1∧∀ v,v<i→t v=true)∨∃ u:Nat,fH=(u:Int)∧u<i∧t u=false∧(first=true→u=hJ w last drawn (i-1))
section
variable {w:Nat→Int}{last drawn:Int}{t:Nat→Bool}{f:Bool}{i u:Nat}{fH:Int}
theorem jX.take (h:jX w last drawn t f i fH)(h0:fH<0)(hi:t i=false)(hf:f=true→∀ v,t v=false):jX w last drawn t f (i+1) i:=by
 refine .inr ⟨i,rfl,by omega,hi,λjt=>?_⟩;rcases h with ⟨_,h⟩ | ⟨u,h,_⟩
 ·have : i = 0 := by
   rcases Nat.eq_zero_or_pos i with h1 | h1
   ·exact h1
   ·have h2:=h 0 h1;rw[hf jt 0]at h2;cases h2
  subst this;rfl
 ·omega
theorem jX.nat (h:jX w last drawn t f i fH)(h0:0≤fH):∃ u:Nat,fH=(u:Int)∧u<i∧t u=false∧(f=true→u=hJ w last drawn (i-1)):=by
 rcases h with ⟨h,_⟩ | h
 ·omega
 ·exact h
theorem jX.up (hu:u<i∧t u=false∧(f=true→u=hJ w last drawn (i-1)))(E:pv w last drawn i u=true)(hi:t i=false):jX w last drawn t f (i+1) i:=by
 refine .inr ⟨i,rfl,by omega,hi,λhf=>?_⟩;have h1:=hu.2.2 hf;obtain⟨j,rfl⟩:∃ j,i=j+1:=⟨i-1,by omega⟩;rw[Nat.add_sub_cancel]at h1 ⊢;rw[hJ,← h1,al E]
theorem jX.ab (hu:u<i∧t u=false∧(f=true→u=hJ w last drawn (i-1)))(E:pv w last drawn i u=false):jX w last drawn t f (i+1) u:=by
 refine .inr ⟨u,rfl,by omega,hu.2.1,λhf=>?_⟩;have h1:=hu.2.2 hf;obtain⟨j,rfl⟩:∃ j,i=j+1:=⟨i-1,by omega⟩;rw[Nat.add_sub_cancel]at h1 ⊢;rw[hJ,← h1,E,ae (by decide)]
theorem jX.skip (h:jX w last drawn t f i fH)(hi:t i=true)(hf:f=true→∀ v,t v=false):jX w last drawn t f (i+1) fH:=by
 have n4:f=true→False:=λh=>by rw[hf h i]at hi;cases hi
 rcases h with ⟨h1,h⟩ | ⟨u,h1,h2,h3,_⟩
 ·refine .inl ⟨h1,λv hv=>?_⟩;by_cases Yl:v=i
  ·subst Yl;exact hi
  ·exact h v (by omega)
 ·exact .inr ⟨u,h1,by omega,h3,λh=>(n4 h).elim⟩
theorem jX.EP (h:jX w last drawn t f 256 fH)(hc:p8 t 256<256):∃ u:Nat,fH=(u:Int)∧u<256∧t u=false∧(f=true→u=hJ w last drawn 255):=by
 rcases h with ⟨_,h⟩ | h
 ·rw[KT h]at hc;omega
 ·exact h
theorem jX.start:jX w last drawn t f 0 (-1):=.inl ⟨rfl,λv hv=>by omega⟩
end
section
variable {W w:World}{L:List SP}{n c m cT:Nat}{ad adT:Option Addr}{past:List UInt8}{b:Gs}{g:Nat→Int}
theorem ER (I:V W w L):Calls prog 49 #[.agg (dk b adT cT).toArray] w λe w'=>∃ r:Bool,e=.returned (.bool r)∧(r=true↔c1 b)∧V W w' L:=by
 refine EN func49 ntmps49 rfl rfl λa E=>?_;refine BX 1 E I λb1 a w E I=>?_;change V W w (aa b1 47 (dk b adT cT)::_) at I;refine BY 7 E I (λbP a E=>?_) λbP a E=>?_
 ·
  refine RT 27 E I ?_;exact⟨_,rfl,⟨λh=>(by cases h),λh=>by rw[c1]at h;exfalso;omega⟩,I.sub⟩
 refine BY 5 E I (λfb a E=>?_) λfb a E=>?_
 ·
  refine RT 22 E I ?_;exact⟨_,rfl,⟨λh=>(by cases h),λh=>by rw[c1]at h;exfalso;omega⟩,I.sub⟩
 refine BY 5 E I (λmU a E=>?_) λmU a E=>?_
 ·
  refine RT 17 E I ?_;exact⟨_,rfl,⟨λh=>(by cases h),λh=>by rw[c1]at h;exfalso;omega⟩,I.sub⟩
 refine BY 5 E I (λtt a E=>?_) λtt a E=>?_
 ·
  refine RT 12 E I ?_;exact⟨_,rfl,⟨λh=>(by cases h),λh=>by rw[c1]at h;exfalso;omega⟩,I.sub⟩
 refine BY 4 E I (λo9 a E=>?_) λo9 a E=>?_
 ·
  refine IF 5 E I (λaj a E=>?_) λaj a E=>?_
  ·
   refine RT 2 E I ?_;exact⟨_,rfl,⟨λh=>(by cases h),λh=>by rw[c1]at h;exfalso;omega⟩,I.sub⟩
  refine IF 5 E I (λan a E=>?_) λan a E=>?_
  ·
   refine BY 6 E I (λdE a E=>?_) λdE a E=>?_
   ·
    refine RT 6 E I ?_;exact⟨_,rfl,(by rw[cn,c1];omega),I.sub⟩
   refine RT 6 E I ?_;exact⟨_,rfl,⟨λh=>(by cases h),λh=>by rw[c1]at h;exfalso;omega⟩,I.sub⟩
  refine RT 6 E I ?_;exact⟨_,rfl,(by rw[cn,c1];omega),I.sub⟩
 refine IF 11 E I (λan a E=>?_) λan a E=>?_
 ·
  refine BY 6 E I (λdE a E=>?_) λdE a E=>?_
  ·
   refine RT 6 E I ?_;exact⟨_,rfl,(by rw[cn,c1];omega),I.sub⟩
  refine RT 6 E I ?_;exact⟨_,rfl,⟨λh=>(by cases h),λh=>by rw[c1]at h;exfalso;omega⟩,I.sub⟩
 refine RT 6 E I ?_;exact⟨_,rfl,(by rw[cn,c1];omega),I.sub⟩
theorem Ym (I:V W w L)(hb:c1 b)(eE:past.length≤4000)(jJ:past.length≤c)(hp:∀ w',V W w' L→a6 w' ad past.length past) :
   Calls prog 192 #[.agg (dk b adT cT).toArray,.slice ad past.length c] w λe w'=>e=.returned (.agg (ints .i64 256 (gB b past)).toArray)∧V W w' L:=by
 simp only[c1]at hb;refine EN func192 ntmps192 rfl rfl λa E=>?_;refine BX 1 E I λb2 a w E I=>?_;change V W w (aa b2 47 (dk b adT cT)::_) at I;refine AL 0 E I λb4 a w E I=>?_;rw[p7]at I;refine AL 1 E I λb5 a w E I=>?_;rw[p7]at I;refine BY 6 E I (λbP a E=>?_) λbP a E=>?_
 ·
  refine SA 9 E I λa w E I=>?_;refine RT 0 E I ?_;exact⟨by rw[gB,ae (by omega)],I.sub⟩
 refine IF 6 E I (λaj a E=>?_) λaj a E=>?_
 ·
  refine SA 2 E I λa w E I=>?_;refine RT 0 E I ?_;exact⟨by rw[gB,al (by omega),xJ (by omega)],I.sub⟩
 refine RN 1 E I λa E=>?_;have cc:b.kind=2:=by omega
 obtain⟨o,ho⟩:∃ o:Nat,b.order=(o:Int):=⟨b.order.toNat,by omega⟩;rw[dk,ho]at I;have dX:o≤past.length:=by omega
 have kF:gB b past=gY o past past.length:=by rw[gB,al cc,ho,Int.toNat_natCast]
 refine RN 6 E I λa E=>?_;rw[show ((past.length:Nat):Int)-(o:Int)=((past.length-o:Nat):Int) from by omega]at E;refine RN 1 E I λa E=>?_;refine SS E (lP E underlying22 underlying5 underlying9 ((show a6 w (fm ad (past.length-o) c 1) (past.length-(past.length-o)) (past.drop (past.length-o)) from by have h1:=(hp _ I.tail.tail.tail).tH (lo:=past.length-o) (by omega) jJ;rw[c7]at h1;exact h1))) λa E=>?_;refine RN 6 E I λa E=>?_;have Ya:o≤3:=by omega
 refine aS (λμ a w=>∃ (i:Nat),(μ=past.length-i∧o≤i∧i≤past.length)∧Fr a 54 [(1,.slice ad past.length c),(2,pt b2),(4,pt b4),(5,pt b5),(6,.string ⟨(past.drop (past.length-o)).toArray⟩),(7,.int .i64 i)]∧V W w (aa b5 320 (ints .i64 256 (gY o past i))::aa b4 320 (ints .i64 256 (λ_=>0))::aa b2 47 [.int .i64 b.kind,.int .i64 o,.slice adT b.table.length cT]::L)) (past.length-o) (⟨o,⟨rfl,bh _,dX⟩,E.ab [1,2,4,5,6,7],by rw[xJ (bh _)];exact I.sub⟩) ?_;clear E I;rintro μ a w ⟨i,⟨rfl,EJ,hi⟩,E,I⟩;refine IF 6 E I (λan a E=>?_) λan a E=>?_
 ·
  have aJ:i<past.length:=by omega
  have m8:=zZ o past i past[i].toNat;have p1:=lz past[i];refine RN 7 E I λa E=>?_;rw[show ((i:Nat):Int)-(o:Int)=((i-o:Nat):Int) from by omega]at E;refine RN 2 E I λa E=>?_;rw[show i-(i-o)=o from by omega]at E;refine SS E (lP E underlying22 underlying5 underlying9 ((hp _ I.tail.tail.tail).xK (lo:=i-o) (n:=o) (by omega) jJ)) λa E=>?_;refine RN 1 E I λa E=>?_;refine SS E (rH E) λa E=>?_;rw[qy]at E;refine IF 0 E I (λay a E=>?_) λay a E=>?_
  ·
   obtain⟨bb,oo,rfl,hr⟩:=(hp _ I.tail.tail.tail).get (by omega);refine RN 3 E I λa E=>?_;refine SS E (ag E (hr i _ (dR aJ))) λa E=>?_;refine RN 1 E I λa E=>?_;refine SS E (ag E (I.bu (fO _ p1))) λa E=>?_;refine ST 2 E I (λa w E I=>?_) (hlt:=(by rw[di];omega));rw[ints_set]at I;refine RN 3 E I λa E=>?_;exact⟨past.length-(i+1),by omega,i+1,⟨rfl,by omega,by omega⟩,E.ab [1,2,4,5,6,7],by
    rw[show gY o past (i+1)=λj=>if j=past[i].toNat then gY o past i past[i].toNat+1 else gY o past i j from by
     rw[gY,al ⟨EJ,by rw[xI,← ay]⟩,bl,aO aJ];rfl]
    exact I.sub⟩
  refine RN 3 E I λa E=>?_;exact⟨past.length-(i+1),by omega,i+1,⟨rfl,by omega,by omega⟩,E.ab [1,2,4,5,6,7],by
   rw[show gY o past (i+1)=gY o past i from by
    rw[gY,ae (λh=>by
     have h2:=h.2;rw[xI]at h2;rw[h2]at ay;cases ay)]]
   exact I.sub⟩
 obtain rfl:i=past.length:=by omega
 refine SA 2 E I λa w E I=>?_;refine RT 0 E I ?_;exact⟨by rw[kF],I.sub⟩
theorem Yn {v u:Nat}{last drawn:Int}(I:V W w L)(hv:v<256)(hu:u<256):Calls prog 193 #[.int .i64 v,.int .i64 u,.agg (ints .i64 256 g).toArray,.int .i64 last,.int .i64 drawn] w λe w'=>e=.returned (.bool (pv g last drawn v u))∧V W w' L:=by
 refine EN func193 ntmps193 rfl rfl λa E=>?_;refine BX 1 E I λdq a w E I=>?_;refine BY 7 E I (λbP a E=>?_) λbP a E=>?_
 ·
  refine RT 10 E I ?_;exact⟨by rw[pv,al (.inl bP)],I.sub⟩
 refine IF 4 E I (λaj a E=>?_) λaj a E=>?_
 ·
  refine RT 5 E I ?_;exact⟨by rw[pv,al (.inr aj)],I.sub⟩
 refine RN 2 E I λa E=>?_;have h0:¬ ((v:Int)=drawn∨(u:Int)=drawn):=by omega
 refine bL 0 [5] [0,1,3,4,3002,1005,6] E I λa w E I hH U=>?_;refine RH 4 E I hH U λa E=>?_;refine QH E (λw hc=>ag E (hc.cell (I.bu (fO _ hv)))) U λa E=>?_;refine RH 0 E I hH U λa E=>?_;refine SS E (ag E (I.bu (fO _ hu))) λa E=>?_;refine RH 1 E I hH U λa E=>?_;refine IF 0 E I (λan a E=>?_) λan a E=>?_
 ·
  refine bL 1 [5] [0,1,3,4,3002,1005,6,7] E I λa w E I hH U=>?_;refine RH 4 E I hH U λa E=>?_;refine QH E (λw hc=>ag E (hc.cell (I.bu (fO _ hv)))) U λa E=>?_;refine RH 0 E I hH U λa E=>?_;refine SS E (ag E (I.bu (fO _ hu))) λa E=>?_;refine RH 2 E I hH U λa E=>?_;refine RT 0 E I ?_;exact⟨by rw[pv,ae h0,al an],I.sub⟩
 refine RT 5 E I ?_;exact⟨by rw[pv,ae h0,ae (λh=>h an)],I.sub⟩
set_option maxHeartbeats 1000000 in
theorem KV {k:Nat}(I:V W w L)(hb:c1 b)(hk:1≤k∧k≤100000)(eE:past.length≤4000)(jJ:past.length≤c)(hp:∀ w',V W w' L→a6 w' ad past.length past)(ht:∀ w',V W w' L→a6 w' adT b.table.length b.table) :
   Calls prog 160 #[.agg (dk b adT cT).toArray,.slice ad past.length c,.int .i64 k] w λe w'=>∃ (av:Option Addr) (c':Nat) (out:List UInt8),e=.returned (.slice av out.length c')∧(out.length=min k 256∧out[0]?=some (mX b past))∧V W w' (Sl 5 1 av out.length c' (bc out)::L):=by
 have kV:=hb;simp only[c1]at kV;refine EN func160 ntmps160 rfl rfl λa E=>?_;refine BX 1 E I λb3 a w E I=>?_;change V W w (aa b3 47 (dk b adT cT)::_) at I;refine bd 4 E I (ER I) λr a w E ⟨hr,I⟩=>?_;rw[hr.2 hb]at E;refine RN 2 E I λa E=>?_;replace E:=E.aN 17;refine RN 3 E I λa E=>?_;rw[bq (by omega)]at E;refine CL 4 E I (Ym I hb eE jJ (λw' hw=>hp w' hw.tail)) λa w E I=>?_;refine AL 0 E I λdq a w E I=>?_;rw[p7]at I;refine SA 0 E I λa w E I=>?_;refine RN 3 E I λa E=>?_;have tn:(if 0<past.length then ((past.getD (past.length-1) 0).toNat:Int) else 0)=((ic past).toNat:Nat):=by
  split
  ·rw[ic,getLastD_eq_getLast?,List.getLast?_eq_getElem?,bl]
  ·rw[ic,g6 (l:=past) (by omega)];rfl
 refine bZ (M:=λa w=>Fr a 86 [(1,.slice ad past.length c),(2,.int .i64 k),(3,pt b3),(7,pt dq),(8,.int .i64 ((ic past).toNat:Nat)),(9,.int .i64 (-1))]∧V W w (aa dq 320 (ints .i64 256 (gB b past))::aa b3 47 (dk b adT cT)::L)) ?_ ?_
 ·
  refine IF 4 E I (λan a E=>?_) λan a E=>?_
  ·
   obtain⟨bb,oo,rfl,eU⟩:=(hp _ I.tail.tail).get (by omega);rw[al (by omega)]at tn;refine RN 4 E I λa E=>?_;rw[show ((past.length:Nat):Int)-1=((past.length-1:Nat):Int) from by omega]at E;refine RN 1 E I λa E=>?_;refine SS E (ag E (eU (past.length-1) _ (kH (by omega)))) λa E=>?_;refine SX 0 E I (sB _) λa E=>?_;refine RN 1 E I λa E=>?_;rw[tn]at E;exact⟨E.ab [1,2,3,7,8,9],I⟩
  rw[ae (by omega)]at tn;refine RN 1 E I λa E=>?_;rw[show (0:Int)=((ic past).toNat:Nat) from tn]at E;exact⟨E.ab [1,2,3,7,8,9],I⟩
 clear E;(try clear I);rintro a w ⟨E,I⟩;refine bZ (M:=λa w=>Fr a 86 [(2,.int .i64 k),(3,pt b3),(7,pt dq),(8,.int .i64 ((ic past).toNat:Nat)),(9,.int .i64 (sL b past))]∧V W w (aa dq 320 (ints .i64 256 (gB b past))::aa b3 47 (dk b adT cT)::L)) ?_ ?_
 ·
  refine IF 4 E I (λay a E=>?_) λay a E=>?_
  ·
   refine bL 0 [5,6,7] [0,2,3,4,3001,1005,1006,1007,8,1009,10,11] E I λa w E I hH U=>?_;have hA:=E;obtain⟨Yb,Yc,rfl,oX⟩:=(ht _ I.tail.tail).get (by omega);have E:=hA;have EK:past.length%b.table.length<b.table.length:=Nat.mod_lt _ (by omega);refine RH 8 E I hH U λa E=>?_;rw[nH]at E;refine RH 1 E I hH U λa E=>?_;refine SS E (ag E (oX (past.length%b.table.length) _ (kH EK))) λa E=>?_;refine RH 0 E I hH U λa E=>?_;refine QP E (λw=>oJ E underlying5 underlying3 (sB _)) λa E=>?_;refine RH 1 E I hH U λa E=>?_;rw[sL,al (by omega)];exact⟨E.ab [2,3,7,8,9],I⟩
  refine RN 0 E I λa E=>?_;rw[sL,ae (by omega)];exact⟨E.ab [2,3,7,8,9],I⟩
 clear E;(try clear I);rintro a w ⟨E,I⟩;refine AL 1 E I λj9 a w E I=>?_;rw[Yk]at I;refine RN 3 E I λa E=>?_;refine aS (λμ a w=>∃ (j:Nat) (out:List UInt8) (t:Nat→Bool) (ad2:Option Addr) (c2:Nat),(μ=min k 256-j∧j≤min k 256∧out.length=j∧p8 t 256=j∧(j=0→∀ v,t v=false)∧(1≤j→out[0]?=some (mX b past)))∧Fr a 86 [(2,.int .i64 k),(3,pt b3),(7,pt dq),(8,.int .i64 ((ic past).toNat:Nat)),(9,.int .i64 (sL b past)),(10,pt j9),(11,.slice ad2 out.length c2)]∧V W w (Sl 5 1 ad2 out.length c2 (bc out)::aa j9 322 (sM t)::aa dq 320 (ints .i64 256 (gB b past))::aa b3 47 (dk b adT cT)::L)) (min k 256) (⟨0,[],λ_=>false,none,0,⟨rfl,by omega,rfl,by decide,λ_ _=>rfl,λh=>by omega⟩,E.ab [2,3,7,8,9,10,11],I.bH 5 1 none⟩) ?_;clear E I;rintro μ a w ⟨j,out,t,ad2,c2,⟨rfl,hj,dX,KW,Yo,ES⟩,E,I⟩;refine BY 7 E I (λdE a E=>?_) λdE a E=>?_
 ·
  refine IF 4 E I (λbg a E=>?_) λbg a E=>?_
  ·
   refine RN 5 E I λa E=>?_;refine aS (λμ a w=>∃ (i:Nat) (fH:Int),(μ=256-i∧i≤256∧jX (gB b past) ((ic past).toNat:Nat) (sL b past) t (decide (j=0)) i fH)∧Fr a 86 [(2,.int .i64 k),(3,pt b3),(7,pt dq),(8,.int .i64 ((ic past).toNat:Nat)),(9,.int .i64 (sL b past)),(10,pt j9),(11,.slice ad2 out.length c2),(12,.int .i64 fH),(13,.int .i64 i)]∧V W w (Sl 5 1 ad2 out.length c2 (bc out)::aa j9 322 (sM t)::aa dq 320 (ints .i64 256 (gB b past))::aa b3 47 (dk b adT cT)::L)) (256) (⟨0, -1,⟨rfl,by omega,jX.start⟩,E.ab [2,3,7,8,9,10,11,12,13],I⟩) ?_;clear E I;rintro μ a w ⟨i,fH,⟨rfl,hi,uc⟩,E,I⟩;refine IF 4 E I (λbM a E=>?_) λbM a E=>?_
   ·
    have Ak:i<256:=by omega
    have n4:decide (j=0)=true→∀ v,t v=false:=λh=>Yo (by simpa using h);refine RN 4 E I λa E=>?_;refine SS E (ag E (I.bu (Yh Ak))) λa E=>?_;refine BY 2 E I (λdE a E=>?_) λdE a E=>?_
    ·
     refine BY 3 E I (λjr a E=>?_) λjr a E=>?_
     ·
      refine RN 14 E I λa E=>?_;exact⟨256-(i+1),by omega,i+1,i,⟨rfl,by omega,uc.take jr dE n4⟩,E.ab [2,3,7,8,9,10,11,12,13],I⟩
     obtain⟨u,rfl,hu⟩:=uc.nat (by omega);refine CL 5 E I (Yn I Ak (by omega)) λa w E I=>?_;refine IF 2 E I (λeP a E=>?_) λeP a E=>?_
     ·
      refine RN 5 E I λa E=>?_;exact⟨256-(i+1),by omega,i+1,i,⟨rfl,by omega,jX.up hu eP dE⟩,E.ab [2,3,7,8,9,10,11,12,13],I⟩
     refine RN 3 E I λa E=>?_;exact⟨256-(i+1),by omega,i+1,u,⟨rfl,by omega,jX.ab hu eP⟩,E.ab [2,3,7,8,9,10,11,12,13],I⟩
    refine RN 15 E I λa E=>?_;exact⟨256-(i+1),by omega,i+1,fH,⟨rfl,by omega,uc.skip dE n4⟩,E.ab [2,3,7,8,9,10,11,12,13],I⟩
   obtain rfl:i=256:=by omega
   obtain⟨u,rfl,Yp,Yq,ET⟩:=uc.EP (by omega);refine ST 3 E I (λa w E I=>?_) (hlt:=(by rw[Yg];omega));rw[Yi]at I;refine SX 2 E I (by rw[wrap_u8];omega) λa E=>?_;rw[show ((u:Nat):Int)=((UInt8.ofNat u).toNat:Int) from by rw[UInt8.toNat_ofNat'];omega]at E;refine RN 0 E I λa E=>?_;refine cm E rfl I underlying22 Ty.t5 rfl rfl rfl rfl (by decide) (by decide) λb83 a w E I ho=>?_;clear ho;refine RN 0 E I λa E=>?_;refine cJ E rfl I underlying22 Ty.t5 rfl rfl I.ai rfl (ek [UInt8.ofNat u]) (by decide) (by decide) (by omega) λYr Ys a w E I=>?_;rw[show bc out++_=bc (out++[UInt8.ofNat u]) from (fI _ [_]).symm,show out.length+1=(out++[UInt8.ofNat u]).length from by simp]at I;rw[show out.length+1=(out++[UInt8.ofNat u]).length from by simp]at E;refine RN 1 E I λa E=>?_;exact⟨min k 256-(j+1),by omega,j+1,out++[UInt8.ofNat u],_,Yr,Ys,⟨rfl,by omega,by rw[aK,dX];rfl,by rw[KU Yq,KW,al Yp],λh=>by omega,λ_=>by
    rcases Nat.eq_zero_or_pos j with h0 | h0
    ·rw[g6 (l:=out) (by omega),ET (dd h0),Yf hb];simp
    ·rw[lM (by omega)];exact ES (by omega)⟩,E.ab [2,3,7,8,9,10,11],I.sub⟩
  refine RT 3 E I ?_;exact⟨ad2,c2,out,rfl,⟨by omega,ES (by omega)⟩,I.sub⟩
 refine RT 8 E I ?_;exact⟨ad2,c2,out,rfl,⟨by omega,ES (by omega)⟩,I.sub⟩
theorem Yt (I:V W w L)(hb:c1 b)(eE:past.length≤1001)(jJ:past.length≤c)(hn:m≤1000)(hp:∀ w',V W w' L→a6 w' ad past.length past)(ht:∀ w',V W w' L→a6 w' adT b.table.length b.table) :
   Calls prog 161 #[.agg (dk b adT cT).toArray,.slice ad past.length c,.int .i64 m] w λe w'=>∃ av c',e=.returned (.slice av m c')∧V W w' (Sl 5 1 av m c' (bc (jT b past m))::L):=by
 refine EN func161 ntmps161 rfl rfl λa E=>?_;refine BX 1 E I λb3 a w E I=>?_;change V W w (aa b3 47 (dk b adT cT)::_) at I;refine bd 4 E I (ER I) λr a w E ⟨hr,I⟩=>?_;rw[hr.2 hb]at E;refine RN 1 E I λa E=>?_;replace E:=E.aN 13;refine RN 2 E I λa E=>?_;replace I:=I.bH 5 1 none;refine RN 1 E I λa E=>?_;refine gW E rfl I underlying22 Ty.t5 rfl rfl (by decide) (λh0=>(hp _ I.tail.tail).get h0) (by rw[dx];omega) (ek _) (by omega) λJS JT a w E I=>?_;rw[nil_append,Nat.zero_add]at I;rw[Nat.zero_add]at E;refine RN 6 E I λa E=>?_;refine aS (λμ a w=>∃ (i:Nat) (ad2:Option Addr) (c2:Nat) (fo:Option Addr) (dz:Nat),(μ=m-i∧i≤m)∧Fr a 41 [(2,.int .i64 m),(3,pt b3),(7,.slice ad2 (eg b past i).length c2),(8,.slice fo i dz),(9,.int .i64 i)]∧V W w (Sl 5 1 fo i dz (bc (jT b past i))::Sl 5 1 ad2 (eg b past i).length c2 (bc (eg b past i))::aa b3 47 (dk b adT cT)::L)) (m) (⟨0,JS,JT,none,0,⟨rfl,by omega⟩,E.ab [2,3,7,8,9],by
  have h1:jT b past 0=[]:=g6 (D9 b past 0);rw[h1];exact I.bH 5 1 none⟩) ?_
 clear E I;rintro μ a w ⟨i,ad2,c2,fo,dz,⟨rfl,hi⟩,E,I⟩;refine BY 6 E I (λbP a E=>?_) λbP a E=>?_
 ·
  refine RN 3 E I λa E=>?_;rw[dd (by omega)]at E;refine RN 3 E I λa E=>?_;have cd:=ie b past i;have EM:=(I.sl ad2).2;have Yu:i<m:=by omega
  refine jD 2 E I (KV (past:=eg b past i) (k:=1) I hb (by decide) (by omega) EM (λw' hw=>hw.cF ad2 (eg b past i) rfl rfl) (λw' hw=>ht w' hw.tail.tail.tail)) λqS n3 out a w E ⟨⟨dX,Yv⟩,I⟩=>?_;refine RN 1 E I λa E=>?_;obtain⟨x,rfl⟩:∃ x,out=[x]:=by
   match out,dX with
   | [x],_=>exact⟨x,rfl⟩
  obtain rfl:x=mX b (eg b past i):=by simpa using Yv
  obtain⟨gg,or',rfl,jo⟩:=I.bY qS (by simp);refine SX 3 E I (by simp) λa E=>?_;refine RN 0 E I λa E=>?_;refine SS E (ag E (jo 0 _ rfl)) λa E=>?_;refine RN 0 E I λa E=>?_;refine cm E rfl I underlying22 Ty.t5 rfl rfl rfl rfl (by decide) (by decide) λgC a w E I ho=>?_;clear ho;refine RN 0 E I λa E=>?_;refine cJ E rfl I underlying22 Ty.t5 rfl rfl I.ai rfl (ek [mX b (eg b past i)]) (by decide) (by decide) (by omega) λEU EV a w E I=>?_;rw[show bc (eg b past i)++_=bc (eg b past (i+1)) from (fI _ [_]).symm,show (eg b past i).length+1=(eg b past (i+1)).length from by rw[ie,ie];omega]at I;rw[show (eg b past i).length+1=(eg b past (i+1)).length from by rw[ie,ie];omega]at E;refine RN 1 E I λa E=>?_;replace jo:=I.cX gg or' (by simp);refine SX 2 E I (by simp) λa E=>?_;refine RN 0 E I λa E=>?_;refine SS E (ag E (jo 0 _ rfl)) λa E=>?_;refine RN 0 E I λa E=>?_;refine cm E rfl I underlying22 Ty.t5 rfl rfl rfl rfl (by decide) (by decide) λb38 a w E I ho=>?_;clear ho;refine RN 0 E I λa E=>?_;refine cJ E rfl I underlying22 Ty.t5 rfl rfl I.ai rfl (ek [mX b (eg b past i)]) (by decide) (by decide) (by omega) λYw Yx a w E I=>?_;rw[show bc (jT b past i)++_=bc (jT b past (i+1)) from by rw[Xo,tS];exact (fI _ [_]).symm]at I;refine RN 4 E I λa E=>?_;exact⟨m-(i+1),by omega,i+1,EU,EV,Yw,Yx,⟨rfl,by omega⟩,E.ab [2,3,7,8,9],I.sub⟩
 refine RT 7 E I ?_;obtain rfl:i=m:=by omega
 exact⟨_,_,rfl,I.sub⟩
end
end
section
def vR (to:Nat)(l x:List UInt8):Prop:=(∃ t,x=l++t)∧to≤x.length∧x.length≤1001
def m0 (X:List (List UInt8))(front to:Nat):List (List UInt8):=(List.range (to-front)).map λi=>cp X (front+i)
theorem vS (b:Gs)(ls:List (List UInt8))(to:Nat):m0 (iN b ls to) (aU ls) to=ds b ls to:=rfl
theorem Al (X:List (List UInt8))(front to:Nat):(m0 X front to).length=to-front:=by simp[m0]
structure xX (to:Nat)(ls X:List (List UInt8)):Prop where
 len:X.length=ls.length
 fit:∀ (j:Nat) (l x:List UInt8),ls[j]?=some l→X[j]?=some x→vR to l x
theorem Yy {b:Gs}{l:List UInt8}{to:Nat}(h:l.length≤1000)(h2:to≤1000):vR to l (np b l to):=by
 refine⟨⟨jT b l (to-l.length),?_⟩,Xp b l to,?_⟩
 ·rw[np,tS]
 ·rw[np,ie];omega
theorem KX {b:Gs}{l:List UInt8}{to:Nat}(h:to≤l.length):np b l to=l:=by rw[np,show to-l.length=0 from by omega];rfl
structure vT:Prop where
 Yz:∀ {W w:World} {L:List SP} {c k cT:Nat} {ad adT:Option Addr} {past:List UInt8} {b:Gs},V W w L→c1 b→(1≤k∧k≤256)→past.length≤1000→past.length≤c→(∀ w',V W w' L→a6 w' ad past.length past)→(∀ w',V W w' L→a6 w' adT b.table.length b.table) →
 Calls prog 310 #[.agg (dk b adT cT).toArray,.slice ad past.length c,.int .i64 k] w λe w'=>∃ (av:Option Addr) (c':Nat) (out:List UInt8),e=.returned (.slice av out.length c')∧out.length=k∧V W w' (Sl 5 1 av out.length c' (bc out)::L)
section
variable {W w:World}{L:List SP}{c m cT to r:Nat}{ad adT:Option Addr}{past:List UInt8}{b:Gs}
set_option maxHeartbeats 1000000 in
theorem YA (q9:r=0∨vT)(hr:r≤100000)(I:V W w (Sl 5 1 ad past.length c (bc past)::L))(hb:c1 b)(eE:past.length≤1000)(sI:to≤1000)(ht:∀ w',V W w' L→a6 w' adT b.table.length b.table) :
   Calls prog 294 #[.slice ad past.length c,.agg (dk b adT cT).toArray,.int .i64 r,.int .i64 to] w λe w'=>∃ (av:Option Addr) (c':Nat) (x:List UInt8),e=.returned (.slice av x.length c')∧(vR to past x∧(r=0→x=np b past to)) ∧
    V W w' (Sl 5 1 av x.length c' (bc x)::L):=by
 have jJ:=(I.sl ad).2;refine EN func294 ntmps294 rfl rfl λa E=>?_;refine BX 1 E I λb5 a w E I=>?_;change V W w (aa b5 186 (dk b adT cT)::_) at I;refine IF 7 E I (λaj a E=>?_) λaj a E=>?_
 ·
  refine RT 3 E I ?_;exact⟨ad,c,past,rfl,⟨⟨⟨[],by simp⟩,by omega,by omega⟩,λ_=>(KX (by omega)).symm⟩,I.tail⟩
 refine RN 0 E I λa E=>?_;refine bZ (M:=λa w=>∃ (ad2:Option Addr) (c2:Nat) (y:List UInt8),((∃ t,y=past++t)∧y.length≤past.length+1∧past.length<to∧(r=0→y=past))∧Fr a 48 [(0,.slice ad2 y.length c2),(3,.int .i64 to),(5,pt b5)]∧V W w (Sl 5 1 ad2 y.length c2 (bc y)::aa b5 186 (dk b adT cT)::L)) ?_ ?_
 ·
  refine SX 2 E I (by decide) λa E=>?_;rw[show ((r:Nat):Int).tmod 256=((r%256:Nat):Int) from nH _ 256]at E;refine RN 1 E I λa E=>?_;have xE:r%256<256:=Nat.mod_lt _ (by decide);generalize n1:r%256=r6 at E xE;refine IF 3 E I (λan a E=>?_) λan a E=>?_
  ·
   have YB:=q9.resolve_left (λh=>by rw[h]at n1;omega);have hp0:=I.drew.tail.tail;refine bL 0 [] [0,1,2,3,4,5,7,8,9,11,1006,1010,12,1013,1014,1015,16] E I λa w E I hH U=>?_;refine RH 5 E I hH U λa E=>?_;refine QP E (λw=>BU E underlying22 Ty.t5 (bh _) (by omega)) λa E=>?_;rw[qw]at E;refine RH 3 E I hH U λa E=>?_;rw[show ((r6:Nat):Int)+1=((r6+1:Nat):Int) from by omega]at E;refine RH 2 E I hH U λa E=>?_;refine jD 0 E I (YB.Yz I hb (by omega) eE jJ (λw' hw=>hw.tail.cF ad past rfl rfl) (λw' hw=>ht w' hw.tail.tail)) λqS n3 out a w E ⟨dX,I⟩=>?_;obtain⟨gg,or',rfl,jo⟩:=I.bY qS (by omega);refine RN 1 E I λa E=>?_;refine SS E (ag E (jo r6 _ (dR (by omega)))) λa E=>?_;refine RN 0 E I λa E=>?_;refine cm E rfl I underlying22 Ty.t5 rfl rfl rfl rfl (by decide) (by decide) λgC a w E I ho=>?_;clear ho;replace I:=I.Hl ad past.length (bh _);rw[qw,Nat.mul_one,fX (by rw[dx];exact bh _)]at I;refine RN 0 E I λa E=>?_;refine cJ E rfl I underlying22 Ty.t5 rfl rfl I.ai rfl (ek [out[r6]]) (by decide) (by decide) (by omega) λEU EV a w E I=>?_;rw[show bc past++_=bc (past++[out[r6]]) from (fI _ [_]).symm,show past.length+1=(past++[out[r6]]).length from by simp]at I;rw[show past.length+1=(past++[out[r6]]).length from by simp]at E;refine RN 1 E I λa E=>?_;exact⟨EU,EV,past++[out[r6]],⟨⟨_,rfl⟩,by simp,by omega,λh=>by rw[h]at n1;omega⟩,E.ab [0,3,5],I.sub⟩
  have aeg:r6=0:=by omega
  refine RN 0 E I λa E=>?_;exact⟨ad,c,past,⟨⟨[],by simp⟩,by omega,by omega,λ_=>rfl⟩,E.ab [0,3,5],I.sub⟩
 clear E;(try clear I);rintro a w ⟨ad2,c2,y,⟨jI,lX,YC,ra⟩,E,I⟩;refine RN 1 E I λa E=>?_;have jY:y.length≤to:=by omega
 have om:=(I.sl ad2).2;refine bL 0 [] [0,1,2,3,4,5,7,8,9,10,11,1006,1012,1013,14] E I λa w E I hH U=>?_;refine RH 5 E I hH U λa E=>?_;refine QP E (λw=>BU E underlying22 Ty.t5 (bh _) (by omega)) λa E=>?_;rw[qw]at E;refine RH 5 E I hH U λa E=>?_;rw[show ((to:Nat):Int)-((y.length:Nat):Int)=((to-y.length:Nat):Int) from by omega]at E;refine RH 1 E I hH U λa E=>?_;refine a2 0 E I (Ye (to:=0) (past:=y) (m:=to-y.length) I hb (by omega) om (by omega) (λw' hw=>hw.cF ad2 y rfl rfl) (λw' hw=>ht w' hw.tail.tail)) λadc YD a w E I=>?_;replace I:=I.Hl ad2 y.length (bh _);rw[qw,Nat.mul_one,fX (by rw[dx];exact bh _)]at I;have EW:=D9 b y (to-y.length);refine RN 0 E I λa E=>?_;refine gW E rfl I underlying22 Ty.t5 rfl rfl (by decide) (λh0=>(I.tail.cF adc (jT b y (to-y.length)) rfl EW).get h0) (by rw[dx];omega) (ek _) (by omega) λpd qX a w E I=>?_;rw[← fI,tS,show y.length+(to-y.length)=(eg b y (to-y.length)).length from by rw[ie]]at I;rw[show y.length+(to-y.length)=(eg b y (to-y.length)).length from by rw[ie]]at E;refine RN 1 E I λa E=>?_;refine RT 0 E I ?_;obtain⟨t,EX⟩:=jI;refine⟨pd,qX,_,rfl,⟨⟨⟨t++jT b y (to-y.length),?_⟩,by rw[ie];omega,by rw[ie];omega⟩,λh=>?_⟩,I.sub⟩
 ·rw[← tS,EX,dw]
 ·rw[ra h,np]
set_option maxHeartbeats 1000000 in
theorem EY {qb:Nat}{aB:List Nat}{ls:List (List UInt8)}(q9:r=0∨vT)(hr:r≤100000)(I:V W w (Qu qb aB ls::L))(hb:c1 b)(h0:ls≠[])(h8:ls.length≤8)(hl:∀ l∈ls,l.length≤1000)(sI:to≤1000)(ht:∀ w',V W w' L→a6 w' adT b.table.length b.table) :
   Calls prog 277 #[pt qb,.agg (dk b adT cT).toArray,.int .i64 r,.int .i64 to] w λe w'=>∃ (av:Option Addr) (c':Nat) (X:List (List UInt8)),e=.returned (.slice av (to-aU ls) c')∧(xX to ls X∧(r=0→X=iN b ls to)) ∧
    V W w' (b0 av (to-aU ls) c' (m0 X (aU ls) to)::Qu qb aB ls::L):=by
 refine EN func277 ntmps277 rfl rfl λa E=>?_;refine BX 1 E I λb5 a w E I=>?_;change V W w (aa b5 186 (dk b adT cT)::_) at I;refine RN 6 E I λa E=>?_;replace E:=E.aN 21;refine bd 1 E I (xW I) λrr a w E ⟨jo,I⟩=>?_;rw[jo.2 hb]at E;refine RN 3 E I λa E=>?_;replace E:=E.aN 26;refine RN 4 E I λa E=>?_;rw[bq (by omega)]at E;refine RN 3 E I λa E=>?_;rw[bq (by omega)]at E;refine CL 3 E I (q3 (I.pick (Qu qb aB ls)) h0 h8) λa w E I=>?_;refine CL 6 E I (Ea I) λa w E I=>?_;refine RN 1 E I λa E=>?_;replace I:=I.bH 22 1 none;replace I:=V.iG (f:=a7) I;refine aS (λμ a w=>∃ (i:Nat) (rr:Nat) (xs:List ea) (nt:Option Addr) (de:Nat),(μ=ls.length-i∧i≤ls.length∧xs.length=i∧(rr=0∨vT)∧rr≤100000∧(r=0→rr=0)∧(∀ (j:Nat) (l:List UInt8) (x:ea),ls[j]?=some l→xs[j]?=some x→vR to l x.2.2)∧(r=0→xs.map (·.2.2)=(iN b ls to).take i))∧Fr a 84 [(0,pt qb),(2,.int .i64 rr),(3,.int .i64 to),(5,pt b5),(9,.int .i64 (aU ls)),(10,.slice nt i de),(37,.int .i64 ls.length),(38,.int .i64 i)]∧V W w (Sl 22 1 nt i de (xs.map aI)::ah a7 xs::Qu qb aB ls::aa b5 186 (dk b adT cT)::L)) (ls.length) (⟨0,r,[],none,0,⟨rfl,by omega,rfl,q9,hr,λh=>h,λj l x _ h=>by simp at h,λ_=>rfl⟩,E.ab [0,2,3,5,9,10,37,38],(I.sub:V W w (Sl 22 1 none 0 0 []::ah a7 []::Qu qb aB ls::aa b5 186 (dk b adT cT)::L))⟩) ?_;clear E I;rintro μ a w ⟨i,rr,xs,nt,de,⟨rfl,hi,ch,KY,KZ,K0,m6,ud⟩,E,I⟩;refine IF 3 E I (λan a E=>?_) λan a E=>?_
 ·
  have aJ:i<ls.length:=by omega
  have hlt:=hl _ (tU aJ);refine CL 7 E I (sE (I.pick (Qu qb aB ls)) aJ) λa w E I=>?_;refine a2 0 E I (Xz I aJ hlt) λc0 dQ a w E I=>?_;refine RN 3 E I λa E=>?_;refine bZ (M:=λa w=>∃ k vU:Nat,((k=0∨vT)∧k≤100000∧(vU=0∨vT)∧vU≤100000∧(r=0→k=0∧vU=0))∧Fr a 84 [(0,pt qb),(2,.int .i64 vU),(3,.int .i64 to),(5,pt b5),(9,.int .i64 (aU ls)),(10,.slice nt i de),(12,.slice c0 (ls.getD i []).length dQ),(13,.int .i64 k),(37,.int .i64 ls.length),(38,.int .i64 i)]∧V W w (Sl 5 1 c0 (ls.getD i []).length dQ (bc (ls.getD i []))::Sl 22 1 nt i de (xs.map aI)::ah a7 xs::Qu qb aB ls::aa b5 186 (dk b adT cT)::L)) ?_ ?_
  ·
   refine IF 5 E I (λay a E=>?_) λay a E=>?_
   ·
    refine RN 3 E I λa E=>?_;exact⟨rr,0,⟨KY,KZ,.inl rfl,by omega,λh=>⟨K0 h,rfl⟩⟩,E.ab [0,2,3,5,9,10,12,13,37,38],I.sub⟩
   refine RN 0 E I λa E=>?_;exact⟨0,rr,⟨.inl rfl,by omega,KY,KZ,λh=>⟨rfl,K0 h⟩⟩,E.ab [0,2,3,5,9,10,12,13,37,38],I.sub⟩
  clear E;(try clear I);rintro a w ⟨k,vU,⟨gV,cc,mE,n0,K1⟩,E,I⟩;refine jD 5 E I (YA gV cc I hb hlt sI (λw' hw=>ht w' hw.tail.tail.tail.tail)) λgZ cl x a w E ⟨⟨YE,ET⟩,I⟩=>?_;refine RN 0 E I λa E=>?_;refine cm E rfl I underlying207 Ty.t22 rfl rfl rfl rfl (by decide) (by decide) λWN a w E I ho=>?_;clear ho;refine RN 0 E I λa E=>?_;refine cJ E rfl I underlying207 Ty.t22 rfl rfl I.ai rfl (by simp[Value.oneCell']) (by decide) (by decide) (by omega) λDY DZ a w E I=>?_;rw[show List.map aI xs++_=List.map aI (xs++[(gZ,cl,x)]) from by rw[cU];rfl]at I;refine RN 3 E I λa E=>?_;have dy:=V.jB (f:=a7) (x:=(gZ,cl,x)) (I.sub (M:=Sl 5 1 gZ x.length cl (bc x)::ah a7 xs::Sl 22 1 DY (i+1) DZ ((xs++[(gZ,cl,x)]).map aI)::Qu qb aB ls::aa b5 186 (dk b adT cT)::L));refine⟨ls.length-(i+1),by omega,i+1,vU,xs++[(gZ,cl,x)],DY,DZ,⟨rfl,by omega,by rw[aK,ch];rfl,mE,n0,λh=>(K1 h).2,λj l y hj hy=>?_,λh=>?_⟩,E.ab [0,2,3,5,9,10,37,38],dy.sub⟩
  ·by_cases gI:j<i
   ·rw[lM (by omega)]at hy;exact m6 j l y hj hy
   ·have eO:=(a1.1 hy).1;rw[aK,ja]at eO;obtain rfl:j=i:=by omega
    rw[getElem?_append_right (by omega),ch,Nat.sub_self]at hy;obtain rfl:(gZ,cl,x)=y:=by simpa using hy
    rw[show l=ls.getD j [] from by rw[bl,hj];rfl];exact YE
  ·rw[cU,ud h,iU (by rw[iN,bf];exact aJ)]
   congr 1
   rw[map_singleton,ET (K1 h).1];simp[iN,bl,aJ]
 obtain rfl:i=ls.length:=by omega
 have ib:xX to ls (xs.map (·.2.2)):=⟨by rw[bf];exact ch,λj l x hj hx=>by
  rw[bn]at hx;obtain⟨y,hy,rfl⟩:=Option.map_eq_some_iff.1 hx;exact m6 j l y hj hy⟩
 have mj:r=0→xs.map (·.2.2)=iN b ls to:=λh=>by rw[ud h,fX (by rw[iN,bf];exact bh _)]
 clear m6 ud;have fq:aU ls≤1000:=by
  obtain⟨l,kx,lV⟩:=zW h0;rw[lV];exact hl l kx
 refine RN 6 E I λa E=>?_;replace I:=I.bH 22 1 none;replace I:=V.iG (f:=a7) I;refine aS (λμ a w=>∃ (d:Nat) (zs:List ea) (ml:Option Addr) (mm:Nat),(μ=to-aU ls-d∧d≤to-aU ls∧zs.map (·.2.2)=(List.range d).map λi=>cp (xs.map (·.2.2)) (aU ls+i))∧Fr a 84 [(3,.int .i64 to),(10,.slice nt ls.length de),(14,.slice ml d mm),(15,.int .i64 (aU ls+d:Nat))]∧V W w (Sl 22 1 ml d mm (zs.map aI)::ah a7 zs::Sl 22 1 nt ls.length de (xs.map aI)::ah a7 xs::Qu qb aB ls::L)) (to-aU ls) (⟨0,[],none,0,⟨rfl,by omega,rfl⟩,by rw[Nat.add_zero];exact E.ab [3,10,14,15],(I.sub:V W w (Sl 22 1 none 0 0 []::ah a7 []::Sl 22 1 nt ls.length de (xs.map aI)::ah a7 xs::Qu qb aB ls::L))⟩) ?_;clear E I;rintro μ a w ⟨d,zs,ml,mm,⟨rfl,hd,sN⟩,E,I⟩;refine IF 5 E I (λbg a E=>?_) λbg a E=>?_
 ·
  refine RN 3 E I λa E=>?_;replace I:=I.bH 5 1 none;refine RN 5 E I λa E=>?_;refine aS (λμ a w=>∃ (i:Nat) (iB:Option Addr) (jf:Nat),(μ=ls.length-i∧i≤ls.length)∧Fr a 84 [(3,.int .i64 to),(10,.slice nt ls.length de),(14,.slice ml d mm),(15,.int .i64 (aU ls+d:Nat)),(16,.slice iB i jf),(65,.slice nt ls.length de),(66,.int .i64 ls.length),(67,.int .i64 i)]∧V W w (Sl 5 1 iB i jf (bc (fu (xs.map (·.2.2)) (aU ls+d) i))::Sl 22 1 ml d mm (zs.map aI)::ah a7 zs::Sl 22 1 nt ls.length de (xs.map aI)::ah a7 xs::Qu qb aB ls::L)) (ls.length) (⟨0,none,0,⟨rfl,by omega⟩,E.ab [3,10,14,15,16,65,66,67],I⟩) ?_;clear E I;rintro μ a w ⟨i,iB,jf,⟨rfl,hi⟩,E,I⟩;refine IF 3 E I (λbM a E=>?_) λbM a E=>?_
  ·
   have aJ:i<ls.length:=by omega
   obtain⟨x,hx⟩:∃ x,xs[i]?=some x:=⟨_,aO (by omega)⟩;have Am:=V.lS (xs:=xs) (I.sub (M:=Sl 22 1 nt ls.length de (xs.map aI)::ah a7 xs::[]));obtain⟨l9,ox,rfl,fG⟩:=Am.1 (by omega);have xY:=ib.fit i _ x.2.2 (aO aJ) (by rw[bn,hx];rfl);obtain⟨mx,ol,gT,iK⟩:=(Am.2 x (bE hx)).get (by have:=xY.2.1;omega);refine RN 3 E I λa E=>?_;refine SS E (ag E (fG i (aI x) (by rw[bn,hx];rfl))) λa E=>?_;refine RN 4 E I λa E=>?_;rw[aI,gT]at E;refine SX 0 E I (by have:=xY.2.1;omega) λa E=>?_;refine RN 0 E I λa E=>?_;refine SS E (ag E (iK (aU ls+d) _ (kH (by have:=xY.2.1;omega)))) λa E=>?_;refine RN 0 E I λa E=>?_;refine cm E rfl I underlying22 Ty.t5 rfl rfl rfl rfl (by decide) (by decide) λb76 a w E I ho=>?_;clear ho;refine RN 0 E I λa E=>?_;refine cJ E rfl I underlying22 Ty.t5 rfl rfl I.ai rfl (ek [x.2.2.getD (aU ls+d) 0]) (by decide) (by decide) (by omega) λYF YG a w E I=>?_;rw[show bc (fu (xs.map (·.2.2)) (aU ls+d) i)++_=bc (fu (xs.map (·.2.2)) (aU ls+d) (i+1)) from by rw[zY (by rw[bf];omega),getElem_map,fI,(a1.1 hx).2]]at I;refine RN 3 E I λa E=>?_;exact⟨ls.length-(i+1),by omega,i+1,YF,YG,⟨rfl,by omega⟩,E.ab [3,10,14,15,16,65,66,67],I.sub⟩
  obtain rfl:i=ls.length:=by omega
  have eO:fu (xs.map (·.2.2)) (aU ls+d) ls.length=cp (xs.map (·.2.2)) (aU ls+d):=by
   conv=>lhs;rw[← ib.len]
   exact zX _ _
  rw[eO]at I;have pN:(cp (xs.map (·.2.2)) (aU ls+d)).length=ls.length:=by rw[mW];exact ib.len
  refine RN 2 E I λa E=>?_;refine cm E rfl I underlying207 Ty.t22 rfl rfl rfl rfl (by decide) (by decide) λb81 a w E I ho=>?_;clear ho;refine RN 0 E I λa E=>?_;refine cJ E rfl I underlying207 Ty.t22 rfl rfl I.ai rfl (by simp[Value.oneCell']) (by decide) (by decide) (by omega) λK2 K3 a w E I=>?_;rw[show List.map aI zs++_=List.map aI (zs++[(iB,jf,cp (xs.map (·.2.2)) (aU ls+d))]) from by rw[cU,map_singleton,aI,pN];rfl]at I;refine RN 4 E I λa E=>?_;have dy:=V.jB (f:=a7) (x:=(iB,jf,cp (xs.map (·.2.2)) (aU ls+d))) (by
   rw[a7,pN];exact I.sub (M:=Sl 5 1 iB ls.length jf (bc (cp (xs.map (·.2.2)) (aU ls+d)))::ah a7 zs::Sl 22 1 K2 (d+1) K3 ((zs++[(iB,jf,cp (xs.map (·.2.2)) (aU ls+d))]).map aI)::Sl 22 1 nt ls.length de (xs.map aI)::ah a7 xs::Qu qb aB ls::L))
  exact⟨to-aU ls-(d+1),by omega,d+1,zs++[(iB,jf,cp (xs.map (·.2.2)) (aU ls+d))],K2,K3,⟨rfl,by omega,by rw[cU,sN,range_succ,cU];rfl⟩,by rw[show ((aU ls+(d+1):Nat):Int)=((aU ls+d:Nat):Int)+1 from by omega];exact E.ab [3,10,14,15],dy.sub⟩
 obtain rfl:d=to-aU ls:=by omega
 refine RT 3 E I ?_;exact⟨ml,mm,xs.map (·.2.2),rfl,⟨ib,mj⟩,b0.close (xs:=zs) (I.sub (M:=Sl 22 1 ml (to-aU ls) mm (zs.map aI)::ah a7 zs::Qu qb aB ls::L)) sN (Al _ _ _)⟩
end
end
section
structure iO where
 pb:Nat
 core:pj
 ao:Option Addr
 cO:Nat
 adT:Option Addr
 cT:Nat
 gs:Gs
abbrev gl (p:Pr)(B:iO)(g:Nat→Int):List Value:=[pt B.core.cb,.string p.title,.slice B.ao p.ops.length B.cO,.int .i64 B.gs.kind,.int .i64 B.gs.order,.slice B.adT B.gs.table.length B.cT]++ints .i32 32 g
theorem K4 {w:World}{b:Nat}{p:Pr}{B:iO}{g:Nat→Int}(h:Rd w b 0 (gl p B g)):Rd w b 1 (bJ p B.ao B.cO):=h.part 1 2
theorem K5 {w:World}{b:Nat}{p:Pr}{B:iO}{g:Nat→Int}(h:Rd w b 0 (gl p B g)):Rd w b 3 (dk B.gs B.adT B.cT):=h.part 3 3
theorem xZ {w:World}{b:Nat}{p:Pr}{B:iO}{g:Nat→Int}(h:Rd w b 0 (gl p B g)):Rd w b 6 (ints .i32 32 g):=by
 have h1:=h.part 6 32
 rwa [show ((gl p B g).drop 6).take 32=ints .i32 32 g from by
  show (ints .i32 32 g).take 32=_;exact fX (by rw[di];exact bh _)]at h1
theorem K6 (p:Pr)(B:iO)(g:Nat→Int):(gl p B g).length=38:=by rw[gl,aK,di];rfl
theorem YH (p:Pr)(B:iO)(g g':Nat→Int):cC (gl p B g) 6 (ints .i32 32 g')=gl p B g':=by
 rw[cC,di,drop_eq_nil_of_le (by rw[K6];exact bh _),append_nil,gl,gl]
 congr 1
def aM (W:World)(B:iO)(p:Pr)(s:Pl):SP:=λh=>ck [aa B.pb 192 (gl p B s.g),az B.core s.k,aA W p B.ao B.cO,Sl 5 1 B.adT B.gs.table.length B.cT (bc B.gs.table)] h
def fx (p:Pr)(gs:Gs)(s:Pl):List UInt8×Nat:=if aF s.k≤ax s.k then la s else (gh (foldI p (ax s.k) s.g (ds gs s.k.ls (aF s.k))),aF s.k)
section
variable {W w:World}{L R:List SP}{n c i:Nat}{ad:Option Addr}{B:iO}{x:UInt8}{p:Pr}{s:Pl}{bs:List UInt8}
theorem aM.open (I:V W w (aM W B p s::L)):V W w (aa B.pb 192 (gl p B s.g)::az B.core s.k::aA W p B.ao B.cO::Sl 5 1 B.adT B.gs.table.length B.cT (bc B.gs.table)::L) :=
 I.open (M:=[_,_,_,_]) λ_ h=>h
theorem aM.close (I:V W w (aa B.pb 192 (gl p B s.g)::az B.core s.k::aA W p B.ao B.cO::Sl 5 1 B.adT B.gs.table.length B.cT (bc B.gs.table)::L)):V W w (aM W B p s::L) :=
 V.shut (M:=[_,_,_,_]) I λ_ h=>h
theorem aM.fold (I:V W w L)(B:iO)(p:Pr)(s:Pl)[kk:fD L [aa B.pb 192 (gl p B s.g),az B.core s.k,aA W p B.ao B.cO,Sl 5 1 B.adT B.gs.table.length B.cT (bc B.gs.table)] R]:V W w (aM W B p s::R):=aM.close (I.perm kk.perm)
theorem nu (I:V W w (aM W B p s::L)):Calls prog 178 #[pt B.pb] w λr w'=>r=.returned (pt B.core.cb)∧V W w' (aM W B p s::L):=by
 replace I:=aM.open I;refine EN func178 ntmps178 rfl rfl λa E=>?_;refine RN 6 E I λa E=>?_;replace E:=E.aN 4;refine RT 7 E I ?_;exact⟨rfl,aM.close I⟩
theorem EZ (I:V W w (aM W B p s::L))(hw:WP p s)(aZ:dj p)(aE:p.title.size≤1000000000):Calls prog 99 #[pt B.pb] w λr w'=>r=.returned (.tuple #[])∧V W w' (aM W B p (ey p s)::L):=by
 refine EN func99 ntmps99 rfl rfl λa E=>?_;refine RN 0 E I λa E=>?_;refine aS (λμ a w=>∃ (i:Nat),(μ=ax s.k-s.k.mr.length-i∧i≤ax s.k-s.k.mr.length)∧Fr a 56 [(0,pt B.pb)]∧V W w (aM W B p (ik p i s)::L)) (ax s.k-s.k.mr.length) (⟨0,⟨rfl,by omega⟩,E.ab [0],I⟩) ?_;clear E I;rintro μ a w ⟨i,⟨rfl,hi⟩,E,I⟩;obtain⟨jZ,ff,lR⟩:=hw.p6 i hi;have e8:ik p (i+1) s=nr p (ik p i s):=Ee p i s;have B4:=hw.low;have u6:ax (ik p i s).k=ax s.k:=by rw[ax,ff];rfl
 generalize E0:ik p i s=si at I jZ ff lR e8 u6;replace I:=aM.open I;have bN:=jZ.wc.kL;have iz:si.k.ls.length≤8:=by rw[jZ.wc.ls];exact jZ.wc.n.2
 have YI:ax si.k≤1000:=gO jZ.wc.nq jZ.wc.lG;refine aY 2 (λw0 w'=>w'.cell? ⟨B.pb,0,none⟩=some (pt B.core.cb)) [4,8] [0,1,2,5,6,7,3003,3008,1004,1009,1010,11] E I λa w E I hH=>?_;have U:=hH.at w (I.bu (b:=B.pb) rfl);refine RH 6 E I hH U λa E=>?_;refine QH E (λw hc=>ag E (hc)) U λa E=>?_;refine QH E (λw hc=>ag E (hc)) U λa E=>?_;refine RH 0 E I hH U λa E=>?_;refine CL 0 E I (Kq (I.pick (az B.core si.k))) λa w E I=>?_;replace U:=hH.at w (I.bu (b:=B.pb) rfl);refine RH 0 E I hH U λa E=>?_;refine CL 0 E I (oh (I.pick (az B.core si.k))) λa w E I=>?_;obtain⟨D,I,hD⟩:=az.qu I;refine CL 0 E I (q3 I bN iz) λa w E I=>?_;refine RN 1 E I λa E=>?_;replace I:=hD _ _ I;replace I:=I.sub (M:=aa B.pb 192 (gl p B si.g)::az B.core si.k::aA W p B.ao B.cO::Sl 5 1 B.adT B.gs.table.length B.cT (bc B.gs.table)::L);refine IF 0 E I (λaj a E=>?_) λaj a E=>?_
 ·
  have pS:si.k.mr.length<aU si.k.ls:=by omega
  have YJ:si.k.mr.length<ax si.k:=pS;refine CL 5 E I (Kq (I.pick (az B.core si.k))) λa w E I=>?_;refine CL 6 E I (oh (I.pick (az B.core si.k))) λa w E I=>?_;refine RN 1 E I λa E=>?_;obtain⟨D,I,hD⟩:=az.qu I;refine a2 0 E I (XA I bN pS iz) λiB jf a w E I=>?_;refine RN 5 E I λa E=>?_;replace I:=hD _ _ (I.sub (M:=Qu B.core.qb B.core.aB si.k.ls::D::Sl 5 1 iB (cp si.k.ls si.k.mr.length).length jf (bc (cp si.k.ls si.k.mr.length))::aa B.pb 192 (gl p B si.g)::aA W p B.ao B.cO::Sl 5 1 B.adT B.gs.table.length B.cT (bc B.gs.table)::L));have eO:=mW si.k.ls si.k.mr.length;refine aY 1 (λw0 w'=>Rd w' B.pb 0 (gl p B si.g)) [8] [0,1,2,3,5,6,7,9,10,3004,1008,1011,12,13,1014] E I λa w E I hH=>?_;have U:=hH.at w (I.ai (b:=B.pb));refine RH 9 E I hH U λa E=>?_;refine QH E (λw hc=>bO E underlying45 rfl Ty.t45 (K4 hc)) U λa E=>?_;refine RH 0 E I hH U λa E=>?_;refine SS E (bO E underlying183 rfl Ty.t183 (xZ U)) λa E=>?_;refine RH 0 E I hH U λa E=>?_;refine CL 0 E I (KM (b:=cp si.k.ls si.k.mr.length) (fr:=si.k.mr.length) (I.pick (aA W p B.ao B.cO)) aZ aE (jZ.ph aZ) (by omega) (λw' hw=>(hw.pick (Sl 5 1 iB (cp si.k.ls si.k.mr.length).length jf (bc (cp si.k.ls si.k.mr.length)))).cF iB _ rfl rfl)) λa w E I=>?_;refine RN 2 E I λa E=>?_;refine qj E rfl I Ty.t183 td (by rw[di,K6];decide) λa w E I=>?_;rw[YH]at I;refine aY 0 (λw0 w'=>Rd w' B.pb 0 (gl p B (eY p si.k.mr.length (cp si.k.ls si.k.mr.length) si.g))) [7,8] [0,1,2,4,5,6,3003,1007,1008,1009] E I λa w E I hH=>?_;have U:=hH.at w (I.ai (b:=B.pb));refine RH 6 E I hH U λa E=>?_;refine QH E (λw hc=>ag E (hc 0 _ rfl)) U λa E=>?_;refine RH 0 E I hH U λa E=>?_;refine SS E (bO E underlying183 rfl Ty.t183 (xZ U)) λa E=>?_;refine RH 0 E I hH U λa E=>?_;refine CL 0 E I (Xl I) λa w E I=>?_;replace U:=hH.at w (I.ai (b:=B.pb));refine RH 0 E I hH U λa E=>?_;refine CL 0 E I (XU (I.pick (az B.core si.k)) jZ.wc (by omega) (Dk _)) λa w E I=>?_;refine RN 0 E I λa E=>?_;exact⟨ax s.k-s.k.mr.length-(i+1),by omega,i+1,⟨rfl,by omega⟩,E.ab [0],by
   rw[e8];show V W w (aM W B p ⟨k7 si.k (iZ (gh (eY p si.k.mr.length (cp si.k.ls si.k.mr.length) si.g))),eY p si.k.mr.length (cp si.k.ls si.k.mr.length) si.g⟩::L);exact (aM.fold I B p ⟨k7 si.k (iZ (gh (eY p si.k.mr.length (cp si.k.ls si.k.mr.length) si.g))),eY p si.k.mr.length (cp si.k.ls si.k.mr.length) si.g⟩).sub⟩
 refine RT 0 E I ?_;obtain rfl:i=ax s.k-s.k.mr.length:=by
  have:aU si.k.ls=ax si.k:=rfl;omega
 refine⟨rfl,?_⟩;rw[ey,E0];exact aM.close I
theorem K7 (I:V W w (aM W B p s::L))(hw:cx p s)(aZ:dj p)(aE:p.title.size≤1000000000):Calls prog 282 #[pt B.pb,.int .u8 (x.toNat:Nat)] w λr w'=>r=.returned (.int .i64 (dI p x s).1)∧V W w' (aM W B p (dI p x s).2::L):=by
 have h1:=tX x s.k;have kY:=hw.toWP.more (hw.wc.ak x) (hw.held.ak x) h1.1 h1.2;refine EN func282 ntmps282 rfl rfl λa E=>?_;refine CL 4 E I (nu I) λa w E I=>?_;refine RN 1 E I λa E=>?_;replace I:=aM.open I;refine CL 0 E I (XW (x:=x) (I.pick (az B.core s.k)) hw.wc) λa w E I=>?_;replace I:=(aM.fold I B p ⟨(c3 x s.k).2,s.g⟩);refine RN 1 E I λa E=>?_;refine bZ (M:=λa w=>Fr a 15 [(5,.int .i64 (dI p x s).1)]∧V W w (aM W B p (dI p x s).2::L)) ?_ ?_
 ·
  refine IF 3 E I (λaj a E=>?_) λaj a E=>?_
  ·
   refine CL 1 E I (EZ I kY aZ aE) λa w E I=>?_;refine RN 0 E I λa E=>?_;exact⟨E.ab [5],I⟩
  refine RN 0 E I λa E=>?_;have he:(dI p x s).2=⟨(c3 x s.k).2,s.g⟩:=by
   show ey p _=_;rw[tW aj];exact hw.ey
  rw[he];exact⟨E.ab [5],I⟩
 clear E;(try clear I);rintro a w ⟨E,I⟩;refine RT 3 E I ?_;exact⟨rfl,I⟩
theorem K8 (I:V W w (aM W B p s::L))(hw:cx p s)(aZ:dj p)(aE:p.title.size≤1000000000)(hb:bs.length≤65536)(hc:bs.length≤c)(hp:∀ w',V W w' L→a6 w' ad bs.length bs) :
   Calls prog 284 #[pt B.pb,.slice ad bs.length c] w λr w'=>r=.returned (.int .i64 (dJ p bs s).1)∧V W w' (aM W B p (dJ p bs s).2::L):=by
 have h1:=q6 bs s.k;have kY:=hw.toWP.more (hw.wc.recv bs).1 ((hw.wc.recv bs).2 hw.held) h1.1 h1.2;refine EN func284 ntmps284 rfl rfl λa E=>?_;refine CL 4 E I (nu I) λa w E I=>?_;refine RN 1 E I λa E=>?_;replace I:=aM.open I;refine CL 0 E I (X4 (bs:=bs) (ad:=ad) (c:=c) (I.pick (az B.core s.k)) hw.wc hb hc (λw' dh=>hp w' dh.tail.tail.tail)) λa w E I=>?_;replace I:=(aM.fold I B p ⟨(dB bs s.k).2,s.g⟩);refine RN 1 E I λa E=>?_;refine bZ (M:=λa w=>Fr a 15 [(5,.int .i64 (dJ p bs s).1)]∧V W w (aM W B p (dJ p bs s).2::L)) ?_ ?_
 ·
  refine IF 3 E I (λaj a E=>?_) λaj a E=>?_
  ·
   refine CL 1 E I (EZ I kY aZ aE) λa w E I=>?_;refine RN 0 E I λa E=>?_;exact⟨E.ab [5],I⟩
  refine RN 0 E I λa E=>?_;have he:(dJ p bs s).2=⟨(dB bs s.k).2,s.g⟩:=by
   show ey p _=_;rw[vJ aj];exact hw.ey
  rw[he];exact⟨E.ab [5],I⟩
 clear E;(try clear I);rintro a w ⟨E,I⟩;refine RT 3 E I ?_;exact⟨rfl,I⟩
theorem K9 (I:V W w (aM W B p s::L))(hw:cx p s)(oI:s.k.now≤1000000):Calls prog 285 #[pt B.pb] w λr w'=>∃ ad c,r=.returned (.slice ad (bm s.k).1.length c)∧V W w' (cv 124 ad (bm s.k).1.length c (bm s.k).1::aM W B p ⟨(bm s.k).2,s.g⟩::L):=by
 refine EN func285 ntmps285 rfl rfl λa E=>?_;refine CL 4 E I (nu I) λa w E I=>?_;replace I:=aM.open I;refine a2 0 E I (X2 (I.pick (az B.core s.k)) hw.wc oI) λad c a w E I=>?_;refine RT 1 E I ?_;exact⟨ad,c,rfl,(aM.fold I B p ⟨(bm s.k).2,s.g⟩).sub⟩
theorem La (I:V W w (aM W B p s::L))(hw:cx p s):Calls prog 283 #[pt B.pb] w λr w'=>∃ ad c,r=.returned (.slice ad (cu s.k).1.length c)∧V W w' (cv 124 ad (cu s.k).1.length c (cu s.k).1::aM W B p ⟨(cu s.k).2,s.g⟩::L):=by
 refine EN func283 ntmps283 rfl rfl λa E=>?_;refine CL 4 E I (nu I) λa w E I=>?_;replace I:=aM.open I;refine a2 0 E I (X1 (I.pick (az B.core s.k)) hw.wc) λad c a w E I=>?_;refine RT 1 E I ?_;exact⟨ad,c,rfl,(aM.fold I B p ⟨(cu s.k).2,s.g⟩).sub⟩
theorem Lb (I:V W w (aM W B p s::L)):Calls prog 281 #[pt B.pb] w λr w'=>∃ ad c,r=.returned (.slice ad s.k.ev.length c)∧V W w' (Sl 135 1 ad s.k.ev.length c (s.k.ev.map cy)::aM W B p ⟨{ s.k with ev:=[] },s.g⟩::L):=by
 refine EN func281 ntmps281 rfl rfl λa E=>?_;refine CL 4 E I (nu I) λa w E I=>?_;replace I:=aM.open I;refine a2 0 E I (XV (I.pick (az B.core s.k))) λad c a w E I=>?_;refine RT 1 E I ?_;exact⟨ad,c,rfl,(aM.fold I B p ⟨{ s.k with ev:=[] },s.g⟩).sub⟩
theorem Lc (I:V W w (aM W B p s::L)):Calls prog 141 #[pt B.pb] w λr w'=>r=.returned (.bool s.k.cl)∧V W w' (aM W B p s::L):=by
 refine EN func141 ntmps141 rfl rfl λa E=>?_;refine CL 4 E I (nu I) λa w E I=>?_;replace I:=aM.open I;refine CL 0 E I (xP (I.pick (az B.core s.k))) λa w E I=>?_;refine RT 1 E I ?_;exact⟨rfl,(aM.fold I B p s).sub⟩
theorem Ld (I:V W w (aM W B p s::L))(hw:cx p s):Calls prog 273 #[pt B.pb] w λr w'=>∃ ad c,r=.returned (.tuple #[.slice ad 128 c,.int .i64 (la s).2])∧V W w' (Sl 5 1 ad 128 c (bc (la s).1)::aM W B p s::L):=by
 replace I:=aM.open I;have bN:=hw.wc.kL;have iz:s.k.ls.length≤8:=by rw[hw.wc.ls];exact hw.wc.n.2
 refine EN func273 ntmps273 rfl rfl λa E=>?_;refine RN 7 E I λa E=>?_;replace E:=E.aN 5;refine aY 2 (λw0 w'=>Rd w' B.pb 0 (gl p B s.g)) [4,8] [0,1,2,5,6,7,3003,3008,1004,1009,1010,11,12] E I λa w E I hH=>?_;have U:=hH.at w (I.ai (b:=B.pb));refine RH 6 E I hH U λa E=>?_;refine QH E (λw hc=>bO E underlying183 rfl Ty.t183 (xZ hc)) U λa E=>?_;refine QH E (λw hc=>ag E (hc 0 _ rfl)) U λa E=>?_;refine RH 0 E I hH U λa E=>?_;refine a2 0 E I (xH I) λad c a w E I=>?_;replace U:=hH.at w (I.ai (b:=B.pb));refine RH 0 E I hH U λa E=>?_;refine CL 0 E I (oh (I.pick (az B.core s.k))) λa w E I=>?_;obtain⟨D,I,hD⟩:=az.qu I;refine CL 0 E I (q3 I bN iz) λa w E I=>?_;refine RN 2 E I λa E=>?_;replace I:=hD _ _ I;refine RT 0 E I ?_;exact⟨ad,c,rfl,(aM.fold I B p s).sub (M:=Sl 5 1 ad 128 c (bc (gh s.g))::aM W B p s::L)⟩
theorem Le (I:V W w (aM W B p s::L))(hw:cx p s)(aZ:dj p)(aE:p.title.size≤1000000000)(fy:c1 B.gs):Calls prog 276 #[pt B.pb] w λr w'=>∃ ad c,r=.returned (.tuple #[.slice ad 128 c,.int .i64 (fx p B.gs s).2])∧V W w' (Sl 5 1 ad 128 c (bc (fx p B.gs s).1)::aM W B p s::L):=by
 have bN:=hw.wc.kL;have iz:s.k.ls.length≤8:=by rw[hw.wc.ls];exact hw.wc.n.2
 have gL:=hw.wc.lG;have fq:aU s.k.ls≤aF s.k:=hw.wc.nq;refine EN func276 ntmps276 rfl rfl λa E=>?_;refine CL 5 E I (nu I) λa w E I=>?_;replace I:=aM.open I;refine CL 0 E I (oh (I.pick (az B.core s.k))) λa w E I=>?_;obtain⟨D,I,hD⟩:=az.qu I;refine CL 0 E I (q3 I bN iz) λa w E I=>?_;refine RN 1 E I λa E=>?_;replace I:=(aM.fold (hD _ _ I) B p s);refine RN 5 E I λa E=>?_;replace E:=E.aN 11;refine RN 3 E I λa E=>?_;replace I:=aM.open I;refine CL 1 E I (sG (I.pick (az B.core s.k)) hw.wc) λa w E I=>?_;replace I:=(aM.fold I B p s);refine IF 3 E I (λaj a E=>?_) λaj a E=>?_
 ·
  refine a2 2 E I (Ld I hw) λad c a w E I=>?_;refine RT 4 E I ?_;refine⟨ad,c,?_,?_⟩
  ·rw[fx,al (by rw[ax];omega)]
  ·rw[fx,al (by rw[ax];omega)];exact I
 refine RN 1 E I λa E=>?_;replace I:=aM.open I;refine aY 0 (λw0 w'=>Rd w' B.pb 0 (gl p B s.g)) [7,12,13,17,21,22,23,24,25,29] [0,1,2,4,5,6,8,9,10,11,14,15,16,18,19,20,26,27,28,3003,3007,3012,3017,3021,3029,1013,1022,1023,1024,1025,1030,31,32] E I λa w E I hH=>?_;have U:=hH.at w (I.ai (b:=B.pb));refine RH 19 E I hH U λa E=>?_;refine QH E (λw hc=>bO E underlying45 rfl Ty.t45 (K4 hc)) U λa E=>?_;refine QH E (λw hc=>bO E underlying183 rfl Ty.t183 (xZ hc)) U λa E=>?_;refine QH E (λw hc=>ag E (hc 0 _ rfl)) U λa E=>?_;refine QH E (λw hc=>bO E underlying186 rfl Ty.t186 (K5 hc)) U λa E=>?_;refine QH E (λw hc=>ag E (hc 0 _ rfl)) U λa E=>?_;refine QH E (λw hc=>ag E (hc 0 _ rfl)) U λa E=>?_;refine RH 0 E I hH U λa E=>?_;refine CL 0 E I (oh (I.pick (az B.core s.k))) λa w E I=>?_;replace U:=hH.at w (I.ai (b:=B.pb));refine RH 0 E I hH U λa E=>?_;refine CL 0 E I (sG (I.pick (az B.core s.k)) hw.wc) λa w E I=>?_;replace U:=hH.at w (I.ai (b:=B.pb));obtain⟨D,I,hD⟩:=az.qu I;refine RH 0 E I hH U λa E=>?_;refine jD 0 E I (EY (r:=0) (to:=aF s.k) (.inl rfl) (by decide) I fy bN iz hw.wc.mY gL (λw' dh=>(dh.pick (Sl 5 1 B.adT B.gs.table.length B.cT (bc B.gs.table))).cF B.adT _ rfl rfl)) λfS ga X a w E ⟨⟨sO,ib⟩,I⟩=>?_;replace U:=hH.at w (I.ai (b:=B.pb));have mj:=ib rfl;subst mj;rw[vS]at I;have hO:(ds B.gs s.k.ls (aF s.k)).length=aF s.k-aU s.k.ls:=vF _ _ _;have mn:∀ b∈ds B.gs s.k.ls (aF s.k),b.length≤1099511627776:=λb hb=>by
  rw[ds,c8]at hb;obtain⟨i,_,rfl⟩:=hb;rw[mW,iN,bf];omega
 obtain⟨zs,c5,eN,I⟩:=b0.open I;rw[← hO]at E I;refine RH 0 E I hH U λa E=>?_;refine CL 0 E I (KN (P:=ds B.gs s.k.ls (aF s.k)) (zs:=zs) (fr:=aU s.k.ls) (L:=Sl 22 1 fS (ds B.gs s.k.ls (aF s.k)).length ga (zs.map aI)::ah a7 zs::Qu B.core.qb B.core.aB s.k.ls::D::aa B.pb 192 (gl p B s.g)::Sl 5 1 B.adT B.gs.table.length B.cT (bc B.gs.table)::L) (I.sub (M:=aA W p B.ao B.cO::Sl 22 1 fS (ds B.gs s.k.ls (aF s.k)).length ga (zs.map aI)::ah a7 zs::Qu B.core.qb B.core.aB s.k.ls::D::aa B.pb 192 (gl p B s.g)::Sl 5 1 B.adT B.gs.table.length B.cT (bc B.gs.table)::L)) aZ aE (hw.ph aZ) ⟨by omega,mn⟩ (by omega) c5 (λw' dh=>V.lS (dh.sub (M:=Sl 22 1 fS (ds B.gs s.k.ls (aF s.k)).length ga (zs.map aI)::ah a7 zs::[])))) λa w E I=>?_;replace U:=hH.at w (I.ai (b:=B.pb));refine RH 0 E I hH U λa E=>?_;refine a2 0 E I (xH I) λad2 c2 a w E I=>?_;replace U:=hH.at w (I.ai (b:=B.pb));replace I:=hD _ _ (I.sub (M:=Qu B.core.qb B.core.aB s.k.ls::D::Sl 5 1 ad2 128 c2 (bc (gh (foldI p (aU s.k.ls) s.g (ds B.gs s.k.ls (aF s.k)))))::aa B.pb 192 (gl p B s.g)::aA W p B.ao B.cO::Sl 5 1 B.adT B.gs.table.length B.cT (bc B.gs.table)::L));refine RH 0 E I hH U λa E=>?_;refine CL 0 E I (sG I hw.wc) λa w E I=>?_;refine RN 2 E I λa E=>?_;refine RT 0 E I ?_;refine⟨ad2,c2,?_,?_⟩
 ·rw[fx,ae (by rw[ax];omega)]
 ·rw[fx,ae (by rw[ax];omega)];exact (aM.fold I B p s).sub (M:=Sl 5 1 ad2 128 c2 (bc (gh (foldI p (aU s.k.ls) s.g (ds B.gs s.k.ls (aF s.k)))))::aM W B p s::L)
end
theorem Lf {cf:Cf}(h:fg cf):∃ (n me aH bo:Nat),cf=⟨n,me,cf.id,aH,bo,cf.ba,cf.order,cf.cr,cf.workers,cf.room⟩:=by
 obtain⟨⟨h1,h2,h3⟩,⟨h4,h5,h6,h7⟩,h8,h9,fF,mH⟩:=h;simp only[fv] at *;refine⟨cf.n.toNat,cf.me.toNat,cf.aH.toNat,cf.bo.toNat,?_⟩;rw[Int.toNat_of_nonneg (by omega),Int.toNat_of_nonneg (by omega),Int.toNat_of_nonneg (by omega),Int.toNat_of_nonneg (by omega)]
section
variable {W w:World}{L:List SP}{cP cT n me aH bo:Nat}{adP adT:Option Addr}{p:Pr}{tb:List UInt8}{cf:Cf}{id ba order cr workers room:Int}
theorem YK (I:V W w (aA W p adP cP::L))(h:¬ fg cf)(eL:tb.length≤1099511627776)(hT:∀ w',V W w' (aA W p adP cP::L)→a6 w' adT tb.length tb) :
   Calls prog 60 #[.agg (b7 cf).toArray,.agg (bJ p adP cP).toArray,.slice adT tb.length cT] w λr w'=>r=.returned (.tuple #[.pointer none,.int .i64 1])∧V W w' (aA W p adP cP::L):=by
 refine EN func60 ntmps60 rfl rfl λa E=>?_;refine BX 1 E I λb3 a w E I=>?_;change V W w (aa b3 28 (b7 cf)::_) at I;refine BX 0 E I λb4 a w E I=>?_;change V W w (aa b4 45 (bJ p adP cP)::_) at I;refine RN 2 E I λa E=>?_;refine bZ (M:=λa w=>∃ (b8:Nat) (ed:Option Addr) (dH:Nat),Fr a 48 [(3,pt b3),(4,pt b4),(8,pt b8)]∧V W w (aa b8 186 (dk ⟨cf.ba,cf.order,tb⟩ ed dH)::Sl 5 1 ed tb.length dH (bc tb)::aa b3 28 (b7 cf)::aa b4 45 (bJ p adP cP)::aA W p adP cP::L)) ?_ ?_
 ·
  refine aY 0 (λw0 w'=>Rd w' b3 0 (b7 cf)) [3,5,7] [0,2,4,3001,3003,2005,6,1007,1008] E I λa w E I hH=>?_;have U:=hH.at w (I.ai (b:=b3));refine RH 3 E I hH U λa E=>?_;refine QH E (λw hc=>ag E (hc 5 _ rfl)) U λa E=>?_;refine QH E (λw hc=>ag E (hc 6 _ rfl)) U λa E=>?_;refine RH 0 E I hH U λa E=>?_;refine DN [(5,[6,1007,1008]),(7,[1005,6,1008])] (by kernel_rfl) rfl ⟨⟨_,rfl,?_⟩,⟨_,rfl,?_⟩,trivial⟩
  ·
   refine RH 0 E I hH U λa E=>?_;refine a2 0 E I (rP (bs:=tb) I (λw' hw=>hT w' hw.sub) eL) λed dH a w E I=>?_;replace U:=hH.at w (I.ai (b:=b3));refine RH 1 E I hH U λa E=>?_;refine eS E rfl I Ty.t186 rfl λb8 a w E I ho=>?_;clear ho;replace U:=hH.at w (I.ai (b:=b3));refine RH 0 E I hH U λa E=>?_;refine SA 0 E I λa w E I=>?_;refine RN 0 E I λa E=>?_;exact⟨_,ed,dH,E.ab [3,4,8],I.sub (M:=aa b8 186 [.int .i64 cf.ba,.int .i64 cf.order,.slice ed tb.length dH]::Sl 5 1 ed tb.length dH (bc tb)::aa b3 28 (b7 cf)::aa b4 45 (bJ p adP cP)::aA W p adP cP::L)⟩
  refine RH 0 E I hH U λa E=>?_;refine eS E rfl I Ty.t186 rfl λb8 a w E I ho=>?_;clear ho;replace U:=hH.at w (I.ai (b:=b3));refine RH 0 E I hH U λa E=>?_;refine a2 0 E I (rP (bs:=tb) I (λw' hw=>hT w' hw.sub) eL) λed dH a w E I=>?_;replace U:=hH.at w (I.ai (b:=b3));refine RH 1 E I hH U λa E=>?_;refine SA 0 E I λa w E I=>?_;refine RN 0 E I λa E=>?_;exact⟨_,ed,dH,E.ab [3,4,8],I.sub (M:=aa b8 186 [.int .i64 cf.ba,.int .i64 cf.order,.slice ed tb.length dH]::Sl 5 1 ed tb.length dH (bc tb)::aa b3 28 (b7 cf)::aa b4 45 (bJ p adP cP)::aA W p adP cP::L)⟩
 clear E;(try clear I);rintro a w ⟨b8,ed,dH,E,I⟩;refine CL 2 E I (XS I h) λa w E I=>?_;refine RN 9 E I λa E=>?_;rw[show decide ((1:Int)≠0)=true from rfl]at E;refine RN 1 E I λa E=>?_;replace E:=E.eo 26;refine RT 13 E I ?_;exact⟨rfl,I.sub⟩
theorem YL (I:V W w (aA W p adP cP::L))(hm:fg ⟨n,me,id,aH,bo,ba,order,cr,workers,room⟩)(h:¬ (dj p∧c1 ⟨ba,order,tb⟩))(aE:p.title.size≤1000000000)(dX:p.ops.length≤1000000000)(eL:tb.length≤1099511627776)(hT:∀ w',V W w' (aA W p adP cP::L)→a6 w' adT tb.length tb) :
   Calls prog 60 #[.agg (b7 ⟨n,me,id,aH,bo,ba,order,cr,workers,room⟩).toArray,.agg (bJ p adP cP).toArray,.slice adT tb.length cT] w λr w'=>r=.returned (.tuple #[.pointer none,.int .i64 1])∧V W w' (aA W p adP cP::L):=by
 obtain⟨cf,df⟩:∃ cf:Cf,cf=⟨n,me,id,aH,bo,ba,order,cr,workers,room⟩:=⟨_,rfl⟩;rw[← df];have hg:cf.ba=ba∧cf.order=order:=by rw[df];exact⟨rfl,rfl⟩
 refine EN func60 ntmps60 rfl rfl λa E=>?_;refine BX 1 E I λb3 a w E I=>?_;change V W w (aa b3 28 (b7 cf)::_) at I;refine BX 0 E I λb4 a w E I=>?_;change V W w (aa b4 45 (bJ p adP cP)::_) at I;refine RN 2 E I λa E=>?_;refine bZ (M:=λa w=>∃ (b8:Nat) (ed:Option Addr) (dH:Nat),Fr a 48 [(3,pt b3),(4,pt b4),(8,pt b8)]∧V W w (aa b8 186 (dk ⟨cf.ba,cf.order,tb⟩ ed dH)::Sl 5 1 ed tb.length dH (bc tb)::aa b3 28 (b7 cf)::aa b4 45 (bJ p adP cP)::aA W p adP cP::L)) ?_ ?_
 ·
  refine aY 0 (λw0 w'=>Rd w' b3 0 (b7 cf)) [3,5,7] [0,2,4,3001,3003,2005,6,1007,1008] E I λa w E I hH=>?_;have U:=hH.at w (I.ai (b:=b3));refine RH 3 E I hH U λa E=>?_;refine QH E (λw hc=>ag E (hc 5 _ rfl)) U λa E=>?_;refine QH E (λw hc=>ag E (hc 6 _ rfl)) U λa E=>?_;refine RH 0 E I hH U λa E=>?_;refine DN [(5,[6,1007,1008]),(7,[1005,6,1008])] (by kernel_rfl) rfl ⟨⟨_,rfl,?_⟩,⟨_,rfl,?_⟩,trivial⟩
  ·
   refine RH 0 E I hH U λa E=>?_;refine a2 0 E I (rP (bs:=tb) I (λw' hw=>hT w' hw.sub) eL) λed dH a w E I=>?_;replace U:=hH.at w (I.ai (b:=b3));refine RH 1 E I hH U λa E=>?_;refine eS E rfl I Ty.t186 rfl λb8 a w E I ho=>?_;clear ho;replace U:=hH.at w (I.ai (b:=b3));refine RH 0 E I hH U λa E=>?_;refine SA 0 E I λa w E I=>?_;refine RN 0 E I λa E=>?_;exact⟨_,ed,dH,E.ab [3,4,8],I.sub (M:=aa b8 186 [.int .i64 cf.ba,.int .i64 cf.order,.slice ed tb.length dH]::Sl 5 1 ed tb.length dH (bc tb)::aa b3 28 (b7 cf)::aa b4 45 (bJ p adP cP)::aA W p adP cP::L)⟩
  refine RH 0 E I hH U λa E=>?_;refine eS E rfl I Ty.t186 rfl λb8 a w E I ho=>?_;clear ho;replace U:=hH.at w (I.ai (b:=b3));refine RH 0 E I hH U λa E=>?_;refine a2 0 E I (rP (bs:=tb) I (λw' hw=>hT w' hw.sub) eL) λed dH a w E I=>?_;replace U:=hH.at w (I.ai (b:=b3));refine RH 1 E I hH U λa E=>?_;refine SA 0 E I λa w E I=>?_;refine RN 0 E I λa E=>?_;exact⟨_,ed,dH,E.ab [3,4,8],I.sub (M:=aa b8 186 [.int .i64 cf.ba,.int .i64 cf.order,.slice ed tb.length dH]::Sl 5 1 ed tb.length dH (bc tb)::aa b3 28 (b7 cf)::aa b4 45 (bJ p adP cP)::aA W p adP cP::L)⟩
 clear E;(try clear I);rintro a w ⟨b8,ed,dH,E,I⟩;refine RN 2 E I λa E=>?_;rw[df]at E;refine bd 0 E I (Km I hm) λBc a w E I=>?_;refine RN 9 E I λa E=>?_;rw[show decide ((0:Int)≠0)=false from rfl]at E;refine RN 1 E I λa E=>?_;replace E:=E.aN 26;refine bd 1 E I (CX (I.pick (aA W p adP cP)) aE dX) λrc a w E ⟨js,I⟩=>?_;refine BY 3 E I (λjr a E=>?_) λjr a E=>?_
 ·
  refine RT 8 E I ?_;exact⟨rfl,I.sub⟩
 refine bd 1 E I (xW I) λYM a w E ⟨fc,I⟩=>?_;refine IF 2 E I (λaj a E=>?_) λaj a E=>?_
 ·
  refine RT 3 E I ?_;exact⟨rfl,I.sub⟩
 exact absurd ⟨js.1 jr,by have:=fc.1 aj;rw[hg.1,hg.2]at this;exact this⟩ h
theorem Lg (I:V W w (aA W p adP cP::L))(hm:fg ⟨n,me,id,aH,bo,ba,order,cr,workers,room⟩)(aZ:dj p)(fy:c1 ⟨ba,order,tb⟩)(aE:p.title.size≤1000000000)(dX:p.ops.length≤1000000000)(eL:tb.length≤1099511627776)(hT:∀ w',V W w' (aA W p adP cP::L)→a6 w' adT tb.length tb) :
   Calls prog 60 #[.agg (b7 ⟨n,me,id,aH,bo,ba,order,cr,workers,room⟩).toArray,.agg (bJ p adP cP).toArray,.slice adT tb.length cT] w λr w'=>∃ B:iO,r=.returned (.tuple #[pt B.pb,.int .i64 0])∧B.gs=⟨ba,order,tb⟩ ∧
    V W w' (aM W B p (ez p ⟨n,me,id,aH,bo,ba,order,cr,workers,room⟩)::aA W p adP cP::L):=by
 obtain⟨cf,df⟩:∃ cf:Cf,cf=⟨n,me,id,aH,bo,ba,order,cr,workers,room⟩:=⟨_,rfl⟩;rw[← df];have hg:cf.ba=ba∧cf.order=order:=by rw[df];exact⟨rfl,rfl⟩
 have aeh:1≤p.ops.length∧p.ops.length≤64:=⟨aZ.1.2.1,aZ.1.2.2.1⟩;refine EN func60 ntmps60 rfl rfl λa E=>?_;refine BX 1 E I λb3 a w E I=>?_;change V W w (aa b3 28 (b7 cf)::_) at I;refine BX 0 E I λb4 a w E I=>?_;change V W w (aa b4 45 (bJ p adP cP)::_) at I;refine RN 2 E I λa E=>?_;refine bZ (M:=λa w=>∃ (b8:Nat) (ed:Option Addr) (dH:Nat),Fr a 48 [(3,pt b3),(4,pt b4),(8,pt b8)]∧V W w (aa b8 186 (dk ⟨cf.ba,cf.order,tb⟩ ed dH)::Sl 5 1 ed tb.length dH (bc tb)::aa b3 28 (b7 cf)::aa b4 45 (bJ p adP cP)::aA W p adP cP::L)) ?_ ?_
 ·
  refine aY 0 (λw0 w'=>Rd w' b3 0 (b7 cf)) [3,5,7] [0,2,4,3001,3003,2005,6,1007,1008] E I λa w E I hH=>?_;have U:=hH.at w (I.ai (b:=b3));refine RH 3 E I hH U λa E=>?_;refine QH E (λw hc=>ag E (hc 5 _ rfl)) U λa E=>?_;refine QH E (λw hc=>ag E (hc 6 _ rfl)) U λa E=>?_;refine RH 0 E I hH U λa E=>?_;refine DN [(5,[6,1007,1008]),(7,[1005,6,1008])] (by kernel_rfl) rfl ⟨⟨_,rfl,?_⟩,⟨_,rfl,?_⟩,trivial⟩
  ·
   refine RH 0 E I hH U λa E=>?_;refine a2 0 E I (rP (bs:=tb) I (λw' hw=>hT w' hw.sub) eL) λed dH a w E I=>?_;replace U:=hH.at w (I.ai (b:=b3));refine RH 1 E I hH U λa E=>?_;refine eS E rfl I Ty.t186 rfl λb8 a w E I ho=>?_;clear ho;replace U:=hH.at w (I.ai (b:=b3));refine RH 0 E I hH U λa E=>?_;refine SA 0 E I λa w E I=>?_;refine RN 0 E I λa E=>?_;exact⟨_,ed,dH,E.ab [3,4,8],I.sub (M:=aa b8 186 [.int .i64 cf.ba,.int .i64 cf.order,.slice ed tb.length dH]::Sl 5 1 ed tb.length dH (bc tb)::aa b3 28 (b7 cf)::aa b4 45 (bJ p adP cP)::aA W p adP cP::L)⟩
  refine RH 0 E I hH U λa E=>?_;refine eS E rfl I Ty.t186 rfl λb8 a w E I ho=>?_;clear ho;replace U:=hH.at w (I.ai (b:=b3));refine RH 0 E I hH U λa E=>?_;refine a2 0 E I (rP (bs:=tb) I (λw' hw=>hT w' hw.sub) eL) λed dH a w E I=>?_;replace U:=hH.at w (I.ai (b:=b3));refine RH 1 E I hH U λa E=>?_;refine SA 0 E I λa w E I=>?_;refine RN 0 E I λa E=>?_;exact⟨_,ed,dH,E.ab [3,4,8],I.sub (M:=aa b8 186 [.int .i64 cf.ba,.int .i64 cf.order,.slice ed tb.length dH]::Sl 5 1 ed tb.length dH (bc tb)::aa b3 28 (b7 cf)::aa b4 45 (bJ p adP cP)::aA W p adP cP::L)⟩
 clear E;(try clear I);rintro a w ⟨b8,ed,dH,E,I⟩;refine RN 2 E I λa E=>?_;rw[df]at E;refine bd 0 E I (Km I hm) λBc a w E I=>?_;rw[← df]at I;refine RN 9 E I λa E=>?_;rw[show decide ((0:Int)≠0)=false from rfl]at E;refine RN 1 E I λa E=>?_;replace E:=E.aN 26;refine bd 1 E I (CX (I.pick (aA W p adP cP)) aE dX) λrc a w E ⟨js,I⟩=>?_;rw[js.2 aZ]at E;refine RN 1 E I λa E=>?_;rw[show (!true)=false from rfl]at E;refine RN 2 E I λa E=>?_;replace E:=E.aN 31;refine bd 1 E I (xW I) λYM a w E ⟨fc,I⟩=>?_;rw[fc.2 (by rw[hg.1,hg.2];exact fy)]at E;refine RN 2 E I λa E=>?_;replace E:=E.aN 35;refine RN 2 E I λa E=>?_;replace I:=I.bH 114 4 none;rw[bJ]at I;refine RN 2 E I λa E=>?_;refine gW E rfl I underlying43 Ty.t114 rfl rfl (by decide) (λh0=>(I.pick (aA W p adP cP)).qH adP h0) (by rw[iT Cv]) (yK Ip _) (by omega) λnP nQ a w E I=>?_;rw[nil_append,Nat.zero_add]at I;rw[Nat.zero_add]at E;refine ST 1 E I (λa w E I=>?_);refine RN 0 E I λa E=>?_;replace I:V W w (aa b4 45 [.string p.title,.slice nP p.ops.length nQ]::Sl 114 4 nP p.ops.length nQ (rows dO p.ops)::_):=I;refine RN 4 E I λa E=>?_;simp only[dk]at E;refine BX 1 E I λue a w E I=>?_;refine RN 1 E I λa E=>?_;replace I:=(I.pick (Sl 114 4 nP p.ops.length nQ (rows dO p.ops))).Cx;replace I:V W w (aa ue 192 (gl p ⟨ue,Bc,nP,nQ,ed,dH,⟨cf.ba,cf.order,tb⟩⟩ oc)::az Bc (fh cf)::aA W p nP nQ::Sl 5 1 ed tb.length dH (bc tb)::aA W p adP cP::L):=by
  have dy:V W w (aA W p nP nQ::_):=I;have ti:=dy.jy ue;exact V.sub (M:=_::az Bc (fh cf)::aA W p nP nQ::Sl 5 1 ed tb.length dH (bc tb)::aA W p adP cP::L) (show V W w (aa ue 192 (gl p ⟨ue,Bc,nP,nQ,ed,dH,⟨cf.ba,cf.order,tb⟩⟩ oc)::_) from ti)
 replace I:=aM.fold I ⟨ue,Bc,nP,nQ,ed,dH,⟨cf.ba,cf.order,tb⟩⟩ p ⟨fh cf,oc⟩;refine CL 2 E I (EZ I (vM (by rw[df];exact hm)) aZ aE) λa w E I=>?_;refine RT 4 E I ?_;exact⟨⟨ue,Bc,nP,nQ,ed,dH,⟨cf.ba,cf.order,tb⟩⟩,rfl,by rw[hg.1,hg.2],I⟩
end
end
section
structure x4 (W:World)(L:List SP)(f:FuncId)(us:List Value):Prop where
 c:g5 prog f=true
 h:∀ {w:World} {M:List SP} {x y:UInt8},V W w M→(∀ {w'},V W w' M→V W w' L)→Calls prog f (List.toArray (.int .u8 (x.toNat:Nat)::.int .u8 (y.toNat:Nat)::us)) w λe w'=>∃ z:Int,e=.returned (.int .i64 z)∧V W w' M
abbrev g3 (bb oo m c:Nat)(xs:List UInt8):SP:=Sl 5 1 (some ⟨bb,oo,none⟩) m c (bc xs)
abbrev sv (bb oo m c:Nat):Value:=.slice (some ⟨bb,oo,none⟩) m c
abbrev j7 (f:FuncId)(us:List Value):Value:=.func (.func f) #[] us.toArray
theorem sP (bs:List UInt8)(i:Nat)(x:UInt8):(bc bs).set i (.int .u8 (x.toNat:Int))=bc (bs.set i x):=by rw[bc,bc,List.map_set]
theorem An {n:Nat}(h:n≤9223372036854775807):IntKind.u64.wrap (n:Int)=n:=by rw[wrap_u64];omega
section
variable {W w:World}{L:List SP}{bb oo m c lo up f n k:Nat}{us:List Value}{xs:List UInt8}
theorem Lh (I:V W w (g3 bb oo m c xs::L))(hF:x4 W L f us)(hx:xs.length=m)(hb:up≤m)(hm:m≤1000)(YN:lo≤m) :
   Calls prog 340 #[sv bb oo m c,.int .i64 lo,.int .i64 up,j7 f us] w λe w'=>∃ ys:List UInt8,e=.returned (.tuple #[])∧ys.length=m∧V W w' (g3 bb oo m c ys::L):=by
 refine EN func340 ntmps340 rfl rfl λa E=>?_;refine RN 4 E I λa E=>?_;refine aS (λμ a w=>∃ (i:Nat) (ys:List UInt8),(μ=up-i∧lo<i∧ys.length=m)∧Fr a 53 [(0,sv bb oo m c),(1,.int .i64 lo),(2,.int .i64 up),(3,j7 f us),(8,.int .i64 i)]∧V W w (g3 bb oo m c ys::L)) (up-(lo+1)) (⟨lo+1,xs,⟨rfl,by omega,hx⟩,E.ab [0,1,2,3,8],I⟩) ?_;clear E I;rintro μ a w ⟨i,ys,⟨rfl,hi,hy⟩,E,I⟩;refine IF 5 E I (λaj a E=>?_) λaj a E=>?_
 ·
  have Yu:i<m:=by omega
  refine RN 4 E I λa E=>?_;refine aS (λμ a w=>∃ (j:Nat) (zs:List UInt8),(μ=j∧j≤i∧zs.length=m)∧Fr a 53 [(0,sv bb oo m c),(1,.int .i64 lo),(2,.int .i64 up),(3,j7 f us),(8,.int .i64 i),(9,.int .i64 j)]∧V W w (g3 bb oo m c zs::L)) (i) (⟨i,ys,⟨rfl,bh _,hy⟩,E.ab [0,1,2,3,8,9],I⟩) ?_;clear E I;rintro μ a w ⟨j,zs,⟨xd,hj,hz⟩,E,I⟩;have Li:j<zs.length:=by omega
  have Lj:j-1<zs.length:=by omega
  refine bL 2 [13] [0,1,2,3,4,5,6,7,9,10,11,12,3008,1013,1014,15,16] E I λa w E I hH U=>?_;have hr:Rd w bb oo (bc zs):=I.cX bb oo (by omega);refine RH 4 E I hH U λa E=>?_;refine E.by (s:=21) (λbP E=>?_) (λbP E=>?_)
  ·
   refine RH 7 E I hH U λa E=>?_;rw[show (j:Int)-1=((j-1:Nat):Int) from by omega]at E;refine RH 1 E I hH U λa E=>?_;refine QH E (λw hc=>ag E (hc.cell (hr j _ (dR Li)))) U λa E=>?_;refine RH 0 E I hH U λa E=>?_;refine bz E (cW E rfl (s:=21)) (ag E (hr (j-1) _ (dR Lj))) rfl λa E=>?_;refine RH 0 E I hH U λa E=>?_;refine bd 0 E I (hF.h I λh=>h.tail) (hf:=hF.c) λz a w E I=>?_;refine RN 2 E I λa E=>?_;refine IF 0 E I (λan a E=>?_) λan a E=>?_
   ·
    refine bL 1 [13] [0,1,2,3,4,5,6,7,8,10,11,12,3009,1013,14,1015,16,1017] E I λa w E I hH U=>?_;have hr:Rd w bb oo (bc zs):=I.cX bb oo (by omega);refine RH 5 E I hH U λa E=>?_;rw[show (j:Int)-1=((j-1:Nat):Int) from by omega]at E;refine RH 3 E I hH U λa E=>?_;rw[show (j:Int)-1=((j-1:Nat):Int) from by omega]at E;refine RH 4 E I hH U λa E=>?_;refine QH E (λw hc=>ag E (hc.cell (hr (j-1) _ (dR Lj)))) U λa E=>?_;refine RH 0 E I hH U λa E=>?_;refine SS E (ag E (hr j _ (dR Li))) λa E=>?_;refine RH 1 E I hH U λa E=>?_;refine lN (off:=oo) (k:=j) E rfl I Ty.t5 rfl (by omega) (by rw[dx];omega) λa w E I=>?_;rw[sP]at I;refine RN 1 E I λa E=>?_;refine lN (off:=oo) (k:=j-1) E rfl I Ty.t5 rfl (by omega) (by rw[dx,br];omega) λa w E I=>?_;rw[sP]at I;refine RN 2 E I λa E=>?_;rw[show (j:Int)-1=((j-1:Nat):Int) from by omega]at E;refine RN 1 E I λa E=>?_;exact⟨j-1,by omega,j-1,_,⟨rfl,by omega,by simp[hz]⟩,E.ab [0,1,2,3,8,9],I⟩
   refine RN 3 E I λa E=>?_;exact⟨up-(i+1),by omega,i+1,zs,⟨rfl,by omega,hz⟩,E.ab [0,1,2,3,8],I⟩
  refine RH 13 E I hH U λa E=>?_;refine RN 4 E I λa E=>?_;exact⟨up-(i+1),by omega,i+1,zs,⟨rfl,by omega,hz⟩,E.ab [0,1,2,3,8],I⟩
 refine RT 0 E I ?_;exact⟨ys,rfl,hy,I⟩
theorem E1 (I:V W w (g3 bb oo m c xs::L))(hx:xs.length=m)(h1:lo+n≤m)(h2:up+n≤m)(hm:m≤1000) :
   Calls prog 344 #[sv bb oo m c,.int .i64 lo,.int .i64 up,.int .i64 n,j7 f us] w λe w'=>∃ ys:List UInt8,e=.returned (.tuple #[])∧ys.length=m∧V W w' (g3 bb oo m c ys::L):=by
 refine EN func344 ntmps344 rfl rfl λa E=>?_;refine RN 2 E I λa E=>?_;refine aS (λμ a w=>∃ (i:Nat) (zs:List UInt8),(μ=n-i∧i≤n∧zs.length=m)∧Fr a 38 [(0,sv bb oo m c),(1,.int .i64 lo),(2,.int .i64 up),(3,.int .i64 n),(10,.int .i64 i)]∧V W w (g3 bb oo m c zs::L)) (n) (⟨0,xs,⟨rfl,Nat.zero_le _,hx⟩,E.ab [0,1,2,3,10],I⟩) ?_;clear E I;rintro μ a w ⟨i,zs,⟨rfl,hi,hz⟩,E,I⟩;refine IF 5 E I (λaj a E=>?_) λaj a E=>?_
 ·
  have kx:lo+i<zs.length:=by omega
  have lV:up+i<zs.length:=by omega
  refine bL 1 [19] [0,1,2,3,4,5,6,7,8,9,10,11,12,14,15,16,17,18,3013,1019,20,1021,22,1023] E I λa w E I hH U=>?_;have hr:Rd w bb oo (bc zs):=I.cX bb oo (by omega);refine RH 18 E I hH U λa E=>?_;refine QH E (λw hc=>ag E (hc.cell (hr (up+i) _ (dR lV)))) U λa E=>?_;refine RH 0 E I hH U λa E=>?_;refine SS E (ag E (hr (lo+i) _ (dR kx))) λa E=>?_;refine RH 1 E I hH U λa E=>?_;refine lN (off:=oo) (k:=lo+i) E rfl I Ty.t5 rfl (by omega) (by rw[dx];omega) λa w E I=>?_;rw[sP]at I;refine RN 1 E I λa E=>?_;refine lN (off:=oo) (k:=up+i) E rfl I Ty.t5 rfl (by omega) (by rw[dx,br];omega) λa w E I=>?_;rw[sP]at I;refine RN 3 E I λa E=>?_;exact⟨n-(i+1),by omega,i+1,_,⟨rfl,by omega,by simp[hz]⟩,E.ab [0,1,2,3,10],I⟩
 refine RT 0 E I ?_;exact⟨zs,rfl,hz,I⟩
theorem rotate (I:V W w (g3 bb oo m c xs::L))(hx:xs.length=m)(h1:lo<k)(h2:k<up)(h3:up≤m)(hm:m≤1000) :
   Calls prog 343 #[sv bb oo m c,.int .i64 lo,.int .i64 k,.int .i64 up,j7 f us] w λe w'=>∃ ys:List UInt8,e=.returned (.tuple #[])∧ys.length=m∧V W w' (g3 bb oo m c ys::L):=by
 refine EN func343 ntmps343 rfl rfl λa E=>?_;refine RN 4 E I λa E=>?_;rw[show (k:Int)-(lo:Int)=((k-lo:Nat):Int) from by omega]at E;refine RN 5 E I λa E=>?_;rw[show (up:Int)-(k:Int)=((up-k:Nat):Int) from by omega]at E;refine RN 2 E I λa E=>?_;refine aS (λμ a w=>∃ (i j:Nat) (zs:List UInt8),(μ=i+j∧(1≤i∧1≤j)∧(i≤k∧k+j≤m)∧zs.length=m)∧Fr a 58 [(0,sv bb oo m c),(2,.int .i64 k),(4,j7 f us),(10,.int .i64 i),(11,.int .i64 j)]∧V W w (g3 bb oo m c zs::L)) (k-lo+(up-k)) (⟨k-lo,up-k,xs,⟨rfl,⟨by omega,by omega⟩,⟨by omega,by omega⟩,hx⟩,E.ab [0,2,4,10,11],I⟩) ?_;clear E I;rintro μ a w ⟨i,j,zs,⟨rfl,⟨hi,hj⟩,⟨oW,uf⟩,hz⟩,E,I⟩;refine IF 5 E I (λaj a E=>?_) λaj a E=>?_
 ·
  refine IF 4 E I (λan a E=>?_) λan a E=>?_
  ·
   refine RN 5 E I λa E=>?_;rw[show (k:Int)-(i:Int)=((k-i:Nat):Int) from by omega]at E;refine bd 3 E I (E1 I hz (by omega) (by omega) hm) λys a w E ⟨hy,I⟩=>?_;refine RN 3 E I λa E=>?_;rw[show (i:Int)-(j:Int)=((i-j:Nat):Int) from by omega]at E;refine RN 1 E I λa E=>?_;exact⟨i-j+j,by omega,i-j,j,ys,⟨rfl,⟨by omega,by omega⟩,⟨by omega,by omega⟩,hy⟩,E.ab [0,2,4,10,11],I⟩
  refine RN 5 E I λa E=>?_;rw[show (k:Int)-(i:Int)=((k-i:Nat):Int) from by omega]at E;refine RN 5 E I λa E=>?_;rw[show (k:Int)+(j:Int)-(i:Int)=((k+j-i:Nat):Int) from by omega]at E;refine bd 2 E I (E1 I hz (by omega) (by omega) hm) λys a w E ⟨hy,I⟩=>?_;refine RN 3 E I λa E=>?_;rw[show (j:Int)-(i:Int)=((j-i:Nat):Int) from by omega]at E;refine RN 1 E I λa E=>?_;exact⟨i+(j-i),by omega,i,j-i,ys,⟨rfl,⟨by omega,by omega⟩,⟨by omega,by omega⟩,hy⟩,E.ab [0,2,4,10,11],I⟩
 refine RN 4 E I λa E=>?_;rw[show (k:Int)-(i:Int)=((k-i:Nat):Int) from by omega]at E;refine bd 3 E I (E1 I hz (by omega) (by omega) hm) λys a w E ⟨hy,I⟩=>?_;refine RT 0 E I ?_;exact⟨ys,rfl,hy,I⟩
theorem Ll (hF:x4 W L f us)(hm:m≤1000):∀ (d:Nat) {w:World} {xs:List UInt8} {lo k up:Nat},up-lo≤d→xs.length=m→lo<k→k<up→up≤m→V W w (g3 bb oo m c xs::L) →
   Calls prog 341 #[sv bb oo m c,.int .i64 lo,.int .i64 k,.int .i64 up,j7 f us] w λe w'=>∃ ys:List UInt8,e=.returned (.tuple #[])∧ys.length=m∧V W w' (g3 bb oo m c ys::L):=by
 intro d
 induction d with
 | zero=>intro w xs lo k up hd hx h1 h2 h3 I;omega
 | succ d ih =>
  intro w xs lo k up hd hx h1 h2 h3 I;refine EN func341 ntmps341 rfl rfl λa E=>?_;refine RN 5 E I λa E=>?_;rw[show (k:Int)-(lo:Int)=((k-lo:Nat):Int) from by omega]at E;refine IF 1 E I (λaj a E=>?_) λaj a E=>?_
  ·
   refine RN 7 E I λa E=>?_;refine aS (λμ a w=>∃ (i j:Nat),(μ=j-i∧(k≤i∧i≤j)∧j≤up)∧Fr a 220 [(0,sv bb oo m c),(1,.int .i64 lo),(2,.int .i64 k),(4,j7 f us),(10,.int .i64 i),(11,.int .i64 j)]∧V W w (g3 bb oo m c xs::L)) (up-k) (⟨k,up,⟨rfl,⟨bh _,by omega⟩,bh _⟩,E.ab [0,1,2,4,10,11],I⟩) ?_;clear E I;rintro μ a w ⟨i,j,⟨rfl,⟨hi,nK⟩,hj⟩,E,I⟩;refine IF 5 E I (λan a E=>?_) λan a E=>?_
   ·
    have ly:(i+j)/2<xs.length:=by omega
    have hY:lo<xs.length:=by omega
    refine RN 4 E I λa E=>?_;rw[show (i:Int)+(j:Int)=((i+j:Nat):Int) from rfl]at E;refine SX 0 E I (An (by omega)) λa E=>?_;refine RN 1 E I λa E=>?_;rw[show (((i+j:Nat):Int).fdiv (2 ^ 1))=(((i+j)/2:Nat):Int) from kC (i+j) 2]at E;refine SX 0 E I (gr (by omega) (by omega)) λa E=>?_;refine bL 2 [8] [0,1,2,3,5,6,7,3004,1008,1009,10] E I λa w E I hH U=>?_;have hr:Rd w bb oo (bc xs):=I.cX bb oo (by omega);refine RH 7 E I hH U λa E=>?_;refine QH E (λw hc=>ag E (hc.cell (hr ((i+j)/2) _ (dR ly)))) U λa E=>?_;refine RH 0 E I hH U λa E=>?_;refine SS E (ag E (hr lo _ (dR hY))) λa E=>?_;refine RH 0 E I hH U λa E=>?_;refine bd 0 E I (hF.h I λh=>h.tail) (hf:=hF.c) λz a w E I=>?_;refine RN 1 E I λa E=>?_;refine IF 0 E I (λay a E=>?_) λay a E=>?_
    ·
     refine RN 3 E I λa E=>?_;exact⟨j-((i+j)/2+1),by omega,(i+j)/2+1,j,⟨rfl,⟨by omega,by omega⟩,hj⟩,E.ab [0,1,2,4,10,11],I⟩
    refine RN 2 E I λa E=>?_;exact⟨(i+j)/2-i,by omega,i,(i+j)/2,⟨rfl,⟨hi,by omega⟩,by omega⟩,E.ab [0,1,2,4,10,11],I⟩
   refine RN 4 E I λa E=>?_;refine aS (λμ a w=>∃ (q:Nat) (zs:List UInt8),(μ=i-q∧lo≤q∧zs.length=m)∧Fr a 220 [(0,sv bb oo m c),(10,.int .i64 i),(13,.int .i64 q)]∧V W w (g3 bb oo m c zs::L)) (i-lo) (⟨lo,xs,⟨rfl,bh _,hx⟩,E.ab [0,10,13],I⟩) ?_;clear E I;rintro μ a w ⟨q,zs,⟨rfl,hq,hz⟩,E,I⟩;refine RN 5 E I λa E=>?_;rw[show (i:Int)-1=((i-1:Nat):Int) from by omega]at E;refine IF 1 E I (λbg a E=>?_) λbg a E=>?_
   ·
    have c5:q<zs.length:=by omega
    have eN:q+1<zs.length:=by omega
    refine bL 1 [13] [0,1,2,3,4,5,6,7,8,10,11,12,3009,1013,14,1015,16,1017] E I λa w E I hH U=>?_;have hr:Rd w bb oo (bc zs):=I.cX bb oo (by omega);refine RH 12 E I hH U λa E=>?_;refine QH E (λw hc=>ag E (hc.cell (hr (q+1) _ (dR eN)))) U λa E=>?_;refine RH 0 E I hH U λa E=>?_;refine SS E (ag E (hr q _ (dR c5))) λa E=>?_;refine RH 1 E I hH U λa E=>?_;refine lN (off:=oo) (k:=q) E rfl I Ty.t5 rfl (by omega) (by rw[dx];omega) λa w E I=>?_;rw[sP]at I;refine RN 1 E I λa E=>?_;refine lN (off:=oo) (k:=q+1) E rfl I Ty.t5 rfl (by omega) (by rw[dx,br];omega) λa w E I=>?_;rw[sP]at I;refine RN 3 E I λa E=>?_;exact⟨i-(q+1),by omega,q+1,_,⟨rfl,by omega,by simp[hz]⟩,E.ab [0,10,13],I⟩
   refine RT 0 E I ?_;exact⟨zs,rfl,hz,I⟩
  refine RN 5 E I λa E=>?_;rw[show (up:Int)-(k:Int)=((up-k:Nat):Int) from by omega]at E;refine IF 1 E I (λbM a E=>?_) λbM a E=>?_
  ·
   refine RN 7 E I λa E=>?_;refine aS (λμ a w=>∃ (i j:Nat),(μ=j-i∧(lo≤i∧i≤j)∧j≤k)∧Fr a 220 [(0,sv bb oo m c),(2,.int .i64 k),(4,j7 f us),(14,.int .i64 i),(15,.int .i64 j)]∧V W w (g3 bb oo m c xs::L)) (k-lo) (⟨lo,k,⟨rfl,⟨bh _,by omega⟩,bh _⟩,E.ab [0,2,4,14,15],I⟩) ?_;clear E I;rintro μ a w ⟨i,j,⟨rfl,⟨hi,nK⟩,hj⟩,E,I⟩;refine IF 5 E I (λeP a E=>?_) λeP a E=>?_
   ·
    have ly:(i+j)/2<xs.length:=by omega
    have hY:k<xs.length:=by omega
    refine RN 4 E I λa E=>?_;rw[show (i:Int)+(j:Int)=((i+j:Nat):Int) from rfl]at E;refine SX 0 E I (An (by omega)) λa E=>?_;refine RN 1 E I λa E=>?_;rw[show (((i+j:Nat):Int).fdiv (2 ^ 1))=(((i+j)/2:Nat):Int) from kC (i+j) 2]at E;refine SX 0 E I (gr (by omega) (by omega)) λa E=>?_;refine bL 2 [8] [0,1,2,3,5,6,7,3004,1008,1009,10,11] E I λa w E I hH U=>?_;have hr:Rd w bb oo (bc xs):=I.cX bb oo (by omega);refine RH 7 E I hH U λa E=>?_;refine QH E (λw hc=>ag E (hc.cell (hr k _ (dR hY)))) U λa E=>?_;refine RH 0 E I hH U λa E=>?_;refine SS E (ag E (hr ((i+j)/2) _ (dR ly))) λa E=>?_;refine RH 0 E I hH U λa E=>?_;refine bd 0 E I (hF.h I λh=>h.tail) (hf:=hF.c) λz a w E I=>?_;refine RN 2 E I λa E=>?_;refine IF 0 E I (λmK a E=>?_) λmK a E=>?_
    ·
     refine RN 3 E I λa E=>?_;exact⟨j-((i+j)/2+1),by omega,(i+j)/2+1,j,⟨rfl,⟨by omega,by omega⟩,hj⟩,E.ab [0,2,4,14,15],I⟩
    refine RN 2 E I λa E=>?_;exact⟨(i+j)/2-i,by omega,i,(i+j)/2,⟨rfl,⟨hi,by omega⟩,by omega⟩,E.ab [0,2,4,14,15],I⟩
   refine RN 4 E I λa E=>?_;refine aS (λμ a w=>∃ (q:Nat) (zs:List UInt8),(μ=q∧q≤k∧zs.length=m)∧Fr a 220 [(0,sv bb oo m c),(14,.int .i64 i),(17,.int .i64 q)]∧V W w (g3 bb oo m c zs::L)) (k) (⟨k,xs,⟨rfl,bh _,hx⟩,E.ab [0,14,17],I⟩) ?_;clear E I;rintro μ a w ⟨q,zs,⟨xd,hq,hz⟩,E,I⟩;refine IF 5 E I (λl6 a E=>?_) λl6 a E=>?_
   ·
    have c5:q<zs.length:=by omega
    have eN:q-1<zs.length:=by omega
    refine bL 1 [13] [0,1,2,3,4,5,6,7,8,10,11,12,3009,1013,14,1015,16,1017] E I λa w E I hH U=>?_;have hr:Rd w bb oo (bc zs):=I.cX bb oo (by omega);refine RH 5 E I hH U λa E=>?_;rw[show (q:Int)-1=((q-1:Nat):Int) from by omega]at E;refine RH 3 E I hH U λa E=>?_;rw[show (q:Int)-1=((q-1:Nat):Int) from by omega]at E;refine RH 4 E I hH U λa E=>?_;refine QH E (λw hc=>ag E (hc.cell (hr (q-1) _ (dR eN)))) U λa E=>?_;refine RH 0 E I hH U λa E=>?_;refine SS E (ag E (hr q _ (dR c5))) λa E=>?_;refine RH 1 E I hH U λa E=>?_;refine lN (off:=oo) (k:=q) E rfl I Ty.t5 rfl (by omega) (by rw[dx];omega) λa w E I=>?_;rw[sP]at I;refine RN 1 E I λa E=>?_;refine lN (off:=oo) (k:=q-1) E rfl I Ty.t5 rfl (by omega) (by rw[dx,br];omega) λa w E I=>?_;rw[sP]at I;refine RN 2 E I λa E=>?_;rw[show (q:Int)-1=((q-1:Nat):Int) from by omega]at E;refine RN 1 E I λa E=>?_;exact⟨q-1,by omega,q-1,_,⟨rfl,by omega,by simp[hz]⟩,E.ab [0,14,17],I⟩
   refine RT 0 E I ?_;exact⟨zs,rfl,hz,I⟩
  refine RN 4 E I λa E=>?_;rw[show (lo:Int)+(up:Int)=((lo+up:Nat):Int) from rfl]at E;refine SX 0 E I (An (by omega)) λa E=>?_;refine RN 1 E I λa E=>?_;rw[show (((lo+up:Nat):Int).fdiv (2 ^ 1))=(((lo+up)/2:Nat):Int) from kC (lo+up) 2]at E;refine SX 0 E I (gr (by omega) (by omega)) λa E=>?_;refine RN 1 E I λa E=>?_;obtain⟨g4,CH⟩:∃ g4,g4=(lo+up)/2:=⟨_,rfl⟩;rw[← CH]at E;refine RN 8 E I λa E=>?_;refine bZ (M:=λa w=>∃ s r:Nat,((lo≤s∧g4+k≤s+up)∧s≤r∧r≤g4∧r≤k)∧Fr a 220 [(0,sv bb oo m c),(1,.int .i64 lo),(2,.int .i64 k),(3,.int .i64 up),(4,j7 f us),(18,.int .i64 g4),(19,.int .i64 ((g4:Int)+k)),(20,.int .i64 s),(21,.int .i64 r)]∧V W w (g3 bb oo m c xs::L)) ?_ ?_
  ·
   refine IF 4 E I (λl7 a E=>?_) λl7 a E=>?_
   ·
    refine RN 4 E I λa E=>?_;rw[show (g4:Int)+(k:Int)-(up:Int)=((g4+k-up:Nat):Int) from by omega]at E;refine RN 3 E I λa E=>?_;exact⟨g4+k-up,g4,⟨⟨by omega,by omega⟩,by omega,by omega,by omega⟩,E.ab [0,1,2,3,4,18,19,20,21],I⟩
   refine RN 5 E I λa E=>?_;exact⟨lo,k,⟨⟨by omega,by omega⟩,by omega,by omega,by omega⟩,E.ab [0,1,2,3,4,18,19,20,21],I⟩
  clear E;(try clear I);rintro a w ⟨vV,Ao,⟨⟨nE,dy⟩,ti,YO,o2⟩,E,I⟩;refine RN 3 E I λa E=>?_;rw[show (g4:Int)+(k:Int)-1=((g4+k-1:Nat):Int) from by omega]at E;refine RN 2 E I λa E=>?_;refine aS (λμ a w=>∃ (s r:Nat),(μ=r-s∧(lo≤s∧g4+k≤s+up)∧s≤r∧r≤g4∧r≤k)∧Fr a 220 [(0,sv bb oo m c),(1,.int .i64 lo),(2,.int .i64 k),(3,.int .i64 up),(4,j7 f us),(18,.int .i64 g4),(19,.int .i64 ((g4:Int)+k)),(20,.int .i64 s),(21,.int .i64 r),(22,.int .i64 ((g4+k-1:Nat):Int))]∧V W w (g3 bb oo m c xs::L)) (Ao-vV) (⟨vV,Ao,⟨rfl,⟨nE,dy⟩,ti,YO,o2⟩,E.ab [0,1,2,3,4,18,19,20,21,22],I⟩) ?_;clear E I;rintro μ a w ⟨s,r,⟨rfl,⟨g1,mA⟩,qo,rK,vy⟩,E,I⟩;refine IF 5 E I (λk0 a E=>?_) λk0 a E=>?_
  ·
   have ly:(s+r)/2<xs.length:=by omega
   have hY:g4+k-1-(s+r)/2<xs.length:=by omega
   refine RN 4 E I λa E=>?_;rw[show (s:Int)+(r:Int)=((s+r:Nat):Int) from rfl]at E;refine SX 0 E I (An (by omega)) λa E=>?_;refine RN 1 E I λa E=>?_;rw[show (((s+r:Nat):Int).fdiv (2 ^ 1))=(((s+r)/2:Nat):Int) from kC (s+r) 2]at E;refine SX 0 E I (gr (by omega) (by omega)) λa E=>?_;refine bL 2 [10] [0,1,2,3,4,5,7,8,9,3006,1010,1011,12,13] E I λa w E I hH U=>?_;have hr:Rd w bb oo (bc xs):=I.cX bb oo (by omega);refine RH 5 E I hH U λa E=>?_;rw[show ((g4+k-1:Nat):Int)-(((s+r)/2:Nat):Int)=((g4+k-1-(s+r)/2:Nat):Int) from by omega]at E;refine RH 4 E I hH U λa E=>?_;refine QH E (λw hc=>ag E (hc.cell (hr (g4+k-1-(s+r)/2) _ (dR hY)))) U λa E=>?_;refine RH 0 E I hH U λa E=>?_;refine SS E (ag E (hr ((s+r)/2) _ (dR ly))) λa E=>?_;refine RH 0 E I hH U λa E=>?_;refine bd 0 E I (hF.h I λh=>h.tail) (hf:=hF.c) λz a w E I=>?_;refine RN 2 E I λa E=>?_;refine IF 0 E I (λvk a E=>?_) λvk a E=>?_
   ·
    refine RN 3 E I λa E=>?_;exact⟨r-((s+r)/2+1),by omega,(s+r)/2+1,r,⟨rfl,⟨by omega,by omega⟩,by omega,rK,vy⟩,E.ab [0,1,2,3,4,18,19,20,21,22],I⟩
   refine RN 2 E I λa E=>?_;exact⟨(s+r)/2-s,by omega,s,(s+r)/2,⟨rfl,⟨g1,mA⟩,by omega,by omega,by omega⟩,E.ab [0,1,2,3,4,18,19,20,21,22],I⟩
  refine RN 4 E I λa E=>?_;rw[show (g4:Int)+(k:Int)-(s:Int)=((g4+k-s:Nat):Int) from by omega]at E;refine RN 1 E I λa E=>?_;refine bZ (M:=λa w=>∃ zs:List UInt8,zs.length=m∧Fr a 220 [(0,sv bb oo m c),(1,.int .i64 lo),(3,.int .i64 up),(4,j7 f us),(18,.int .i64 g4),(20,.int .i64 s),(24,.int .i64 ((g4+k-s:Nat):Int))]∧V W w (g3 bb oo m c zs::L)) ?_ ?_
  ·
   refine BY 5 E I (λbP a E=>?_) λbP a E=>?_
   ·
    refine IF 4 E I (λsb a E=>?_) λsb a E=>?_
    ·
     refine bd 5 E I (rotate I hx (by omega) (by omega) (by omega) hm) λys a w E ⟨hy,I⟩=>?_;refine RN 0 E I λa E=>?_;exact⟨ys,hy,E.ab [0,1,3,4,18,20,24],I⟩
    refine RN 0 E I λa E=>?_;exact⟨xs,hx,E.ab [0,1,3,4,18,20,24],I⟩
   refine RN 5 E I λa E=>?_;exact⟨xs,hx,E.ab [0,1,3,4,18,20,24],I⟩
  clear E;(try clear I);rintro a w ⟨zs,hz,E,I⟩;refine bZ (M:=λa w=>∃ zs:List UInt8,zs.length=m∧Fr a 220 [(0,sv bb oo m c),(3,.int .i64 up),(4,j7 f us),(18,.int .i64 g4),(24,.int .i64 ((g4+k-s:Nat):Int))]∧V W w (g3 bb oo m c zs::L)) ?_ ?_
  ·
   refine BY 5 E I (λbP a E=>?_) λbP a E=>?_
   ·
    refine IF 4 E I (λxg a E=>?_) λxg a E=>?_
    ·
     refine bd 5 E I (ih (by omega) hz (by omega) (by omega) (by omega) I) λys a w E ⟨hy,I⟩=>?_;refine RN 0 E I λa E=>?_;exact⟨ys,hy,E.ab [0,3,4,18,24],I⟩
    refine RN 0 E I λa E=>?_;exact⟨zs,hz,E.ab [0,3,4,18,24],I⟩
   refine RN 5 E I λa E=>?_;exact⟨zs,hz,E.ab [0,3,4,18,24],I⟩
  clear E;(try clear I);rintro a w ⟨zs,hz,E,I⟩;refine BY 5 E I (λbP a E=>?_) λbP a E=>?_
  ·
   refine IF 4 E I (λvl a E=>?_) λvl a E=>?_
   ·
    refine bd 5 E I (ih (by omega) hz (by omega) (by omega) (by omega) I) λys a w E ⟨hy,I⟩=>?_;refine RT 0 E I ?_;exact⟨ys,rfl,hy,I⟩
   refine RT 0 E I ?_;exact⟨zs,rfl,hz,I⟩
  refine RT 5 E I ?_;exact⟨zs,rfl,hz,I⟩
theorem YP (I:V W w (g3 bb oo m c xs::L))(hF:x4 W L f us)(hx:xs.length=m)(hm:m≤1000) :
   Calls prog 335 #[sv bb oo m c,.int .i64 m,j7 f us] w λe w'=>∃ ys:List UInt8,e=.returned (.tuple #[])∧ys.length=m∧V W w' (g3 bb oo m c ys::L):=by
 refine EN func335 ntmps335 rfl rfl λa E=>?_;refine RN 7 E I λa E=>?_;refine aS (λμ a w=>∃ (q:Nat) (ys:List UInt8),(μ=m-q∧q≤m∧ys.length=m)∧Fr a 63 [(0,sv bb oo m c),(1,.int .i64 m),(2,j7 f us),(6,.int .i64 20),(7,.int .i64 q),(8,.int .i64 ((q+20:Nat):Int))]∧V W w (g3 bb oo m c ys::L)) (m) (⟨0,xs,⟨rfl,Nat.zero_le _,hx⟩,E.ab [0,1,2,6,7,8],I⟩) ?_;clear E I;rintro μ a w ⟨q,ys,⟨rfl,hq,hy⟩,E,I⟩;refine IF 5 E I (λaj a E=>?_) λaj a E=>?_
 ·
  refine bd 5 E I (Lh I hF hy (by omega) hm hq) λzs a w E ⟨hz,I⟩=>?_;refine RN 7 E I λa E=>?_;exact⟨m-(q+20),by omega,q+20,zs,⟨rfl,by omega,hz⟩,E.ab [0,1,2,6,7,8],I⟩
 refine bd 5 E I (Lh I hF hy (bh _) hm hq) λzs a w E ⟨hz,I⟩=>?_;refine RN 0 E I λa E=>?_;refine aS (λμ a w=>∃ (s:Nat) (ys:List UInt8),(μ=m-s∧(1≤s∧s≤2000)∧ys.length=m)∧Fr a 63 [(0,sv bb oo m c),(1,.int .i64 m),(2,j7 f us),(6,.int .i64 s)]∧V W w (g3 bb oo m c ys::L)) (m-20) (⟨20,zs,⟨rfl,⟨by decide,by decide⟩,hz⟩,E.ab [0,1,2,6],I⟩) ?_;clear E I;rintro μ a w ⟨s,ys,⟨rfl,⟨nE,dy⟩,hy⟩,E,I⟩;refine IF 5 E I (λan a E=>?_) λan a E=>?_
 ·
  refine RN 3 E I λa E=>?_;rw[show (2:Int)*(s:Int)=((2*s:Nat):Int) from by omega]at E;refine RN 3 E I λa E=>?_;refine aS (λμ a w=>∃ (q:Nat) (ys:List UInt8),(μ=m-q∧q≤m∧ys.length=m)∧Fr a 63 [(0,sv bb oo m c),(1,.int .i64 m),(2,j7 f us),(6,.int .i64 s),(7,.int .i64 q),(8,.int .i64 ((q+2*s:Nat):Int))]∧V W w (g3 bb oo m c ys::L)) (m) (⟨0,ys,⟨rfl,Nat.zero_le _,hy⟩,(by rw[Nat.zero_add];exact E.ab [0,1,2,6,7,8]),I⟩) ?_;clear E I;rintro μ a w ⟨q,ys,⟨rfl,hq,hy⟩,E,I⟩;refine IF 5 E I (λay a E=>?_) λay a E=>?_
  ·
   refine RN 6 E I λa E=>?_;rw[show (q:Int)+(s:Int)=((q+s:Nat):Int) from rfl]at E;refine bd 2 E I (Ll hF hm _ (bh _) hy (by omega) (by omega) (by omega) I) λzs a w E ⟨hz,I⟩=>?_;refine RN 7 E I λa E=>?_;rw[show ((q+2*s:Nat):Int)+2*(s:Int)=((q+2*s+2*s:Nat):Int) from by omega]at E;refine RN 1 E I λa E=>?_;exact⟨m-(q+2*s),by omega,q+2*s,zs,⟨rfl,by omega,hz⟩,E.ab [0,1,2,6,7,8],I⟩
  refine RN 5 E I λa E=>?_;rw[show (q:Int)+(s:Int)=((q+s:Nat):Int) from rfl]at E;refine IF 5 E I (λbg a E=>?_) λbg a E=>?_
  ·
   refine bd 5 E I (Ll hF hm _ (bh _) hy (by omega) (by omega) (bh _) I) λzs a w E ⟨hz,I⟩=>?_;refine RN 2 E I λa E=>?_;rw[show (s:Int)*2=((s*2:Nat):Int) from by omega]at E;refine RN 1 E I λa E=>?_;exact⟨m-s*2,by omega,s*2,zs,⟨rfl,⟨by omega,by omega⟩,hz⟩,E.ab [0,1,2,6],I⟩
  refine RN 2 E I λa E=>?_;rw[show (s:Int)*2=((s*2:Nat):Int) from by omega]at E;refine RN 1 E I λa E=>?_;exact⟨m-s*2,by omega,s*2,ys,⟨rfl,⟨by omega,by omega⟩,hy⟩,E.ab [0,1,2,6],I⟩
 refine RT 0 E I ?_;exact⟨ys,rfl,hy,I⟩
theorem YQ (I:V W w (g3 bb oo m c xs::L))(hF:x4 W L f us)(hx:xs.length=m)(hm:m≤1000) :
   Calls prog 327 #[sv bb oo m c,j7 f us] w λe w'=>∃ ys:List UInt8,e=.returned (.tuple #[])∧ys.length=m∧V W w' (g3 bb oo m c ys::L):=by
 refine EN func327 ntmps327 rfl rfl λa E=>?_;refine bd 4 E I (YP I hF hx hm) λys a w E ⟨hy,I⟩=>?_;refine RT 0 E I ?_;exact⟨ys,rfl,hy,I⟩
theorem YR {b:Gs}{adT:Option Addr}{cT b3 dq b8 p9:Nat}{d u:UInt8}{g:Nat→Int}:x4 W (aa b8 5 [.int .u8 (d.toNat:Nat)]::aa p9 5 [.int .u8 (u.toNat:Nat)]::aa b3 186 (dk b adT cT)::aa dq 320 (ints .i64 256 g)::L)
   328 [pt b8,pt p9,pt b3,pt dq]:=by
 refine⟨by kernel_rfl,?_⟩;intro w M x y I hM;have hx:=x.toNat_lt;have hy:=y.toNat_lt;refine EN func328 ntmps328 rfl rfl λa E=>?_;refine RN 4 E I λa E=>?_;refine SS E (ag E ((hM I).bu (b:=b8) rfl)) λa E=>?_;refine RN 0 E I λa E=>?_;refine SS E (ag E ((hM I).bu (b:=p9) rfl)) λa E=>?_;refine RN 0 E I λa E=>?_;refine SS E (BL E underlying423 Ty.t423 Ty.t5 rfl rfl) λa E=>?_;refine RN 1 E I λa E=>?_;refine aS (λμ a w=>∃ (i:Nat),(μ=2-i∧i≤2)∧Fr a 47 [(0,.int .u8 (x.toNat:Nat)),(1,.int .u8 (y.toNat:Nat)),(4,pt b3),(5,pt dq),(13,.agg #[.int .u8 (d.toNat:Nat),.int .u8 (u.toNat:Nat)]),(14,.int .i64 i)]∧V W w M) (2) (⟨0,⟨rfl,by decide⟩,E.ab [0,1,4,5,13,14],I⟩) ?_;clear E I;rintro μ a w ⟨i,⟨rfl,hi⟩,E,I⟩;refine IF 3 E I (λaj a E=>?_) λaj a E=>?_
 ·
  obtain⟨q,hq⟩:∃ q:UInt8,[Value.int .u8 (d.toNat:Nat),Value.int .u8 (u.toNat:Nat)][i]?=some (.int .u8 (q.toNat:Nat)):=by
   have:i=0∨i=1:=by omega
   rcases this with rfl | rfl
   ·exact⟨d,rfl⟩
   ·exact⟨u,rfl⟩
  refine RN 2 E I λa E=>?_;refine SS E (rI E underlying423 underlying5 rfl Ty.t5 (by omega) hq) λa E=>?_;refine bL 3 [9] [0,1001,2,3,4,5,7,8,3006,1009,10,11] E I λa w E I hH U=>?_;refine RH 1 E I hH U λa E=>?_;refine SS E (ag E ((hM I).bu (b:=b3) rfl)) λa E=>?_;refine RH 2 E I hH U λa E=>?_;refine E.by (s:=20) (λbP E=>?_) (λbP E=>?_)
  ·
   refine RH 4 E I hH U λa E=>?_;refine QH E (λw hc=>ag E (hc.cell ((hM I).bu (b:=dq) (fO g hx)))) U λa E=>?_;refine RH 0 E I hH U λa E=>?_;refine bz E (cW E rfl (s:=20)) (ag E ((hM I).bu (b:=dq) (fO g hy))) rfl λa E=>?_;refine RH 2 E I hH U λa E=>?_;refine IF 0 E I (λan a E=>?_) λan a E=>?_
   ·
    refine bL 1 [5] [0,1,3,4,3002,1005,6,7] E I λa w E I hH U=>?_;refine RH 4 E I hH U λa E=>?_;refine QH E (λw hc=>ag E (hc.cell ((hM I).bu (b:=dq) (fO g hy)))) U λa E=>?_;refine RH 0 E I hH U λa E=>?_;refine SS E (ag E ((hM I).bu (b:=dq) (fO g hx))) λa E=>?_;refine RH 0 E I hH U λa E=>?_;refine QP E (λw=>yD E) λa E=>?_;refine RH 1 E I hH U λa E=>?_;refine RT 0 E I ?_;exact⟨_,rfl,I⟩
   refine IF 8 E I (λay a E=>?_) λay a E=>?_
   ·
    refine IF 5 E I (λbg a E=>?_) λbg a E=>?_
    ·
     refine RT 2 E I ?_;exact⟨_,rfl,I⟩
    refine RT 2 E I ?_;exact⟨_,rfl,I⟩
   refine RN 2 E I λa E=>?_;exact⟨2-(i+1),by omega,i+1,⟨rfl,by omega⟩,E.ab [0,1,4,5,13,14],I⟩
  refine RH 8 E I hH U λa E=>?_;refine IF 9 E I (λay a E=>?_) λay a E=>?_
  ·
   refine IF 5 E I (λbg a E=>?_) λbg a E=>?_
   ·
    refine RT 2 E I ?_;exact⟨_,rfl,I⟩
   refine RT 2 E I ?_;exact⟨_,rfl,I⟩
  refine RN 2 E I λa E=>?_;exact⟨2-(i+1),by omega,i+1,⟨rfl,by omega⟩,E.ab [0,1,4,5,13,14],I⟩
 refine RT 2 E I ?_;exact⟨_,rfl,I⟩
end
theorem YS:vT:=by
 refine⟨?_⟩;intro W w L c k cT ad adT past b I hb hk eE jJ hp ht;refine EN func310 ntmps310 rfl rfl λa E=>?_;refine BX 1 E I λb3 a w E I=>?_;change V W w (aa b3 186 (dk b adT cT)::_) at I;refine bd 4 E I (xW I) λr a w E ⟨hr,I⟩=>?_;obtain rfl:=hr.2 hb;refine RN 1 E I λa E=>?_;replace E:=E.aN 14;refine CL 4 E I (KO I hb (by omega) jJ (λw' h=>hp _ h.tail)) λa w E I=>?_;refine AL 0 E I λdq a w E I=>?_;rw[p7]at I;refine SA 0 E I λa w E I=>?_;refine CL 3 E I (KQ I hb (by omega) jJ (λw' h=>hp _ h.tail.tail) (λw' h=>ht _ h.tail.tail)) λa w E I=>?_;refine CL 1 E I (KP I (by omega) (λw' h=>hp _ h.tail.tail)) λa w E I=>?_;refine AL 0 E I λb8 a w E I=>?_;refine AL 0 E I λp9 a w E I=>?_;refine ST 0 E I (λa w E I=>?_);refine ST 0 E I (λa w E I=>?_);refine RN 5 E I λa E=>?_;replace I:V W w (Sl 5 1 none 0 0 (bc [])::_):=I.bH 5 1 none;refine aS (λμ a w=>∃ (i:Nat) (gZ:Option Addr) (cl:Nat) (ys:List UInt8),(μ=256-i∧i≤256∧ys.length=i)∧Fr a 40 [(2,.int .i64 k),(3,pt b3),(7,pt dq),(8,pt b8),(9,pt p9),(10,.slice gZ i cl),(23,.int .i64 i)]∧V W w (Sl 5 1 gZ i cl (bc ys)::aa b8 5 [.int .u8 ((mX b past).toNat:Nat)]::aa p9 5 [.int .u8 ((ic past).toNat:Nat)]::aa b3 186 (dk b adT cT)::aa dq 320 (ints .i64 256 (gB b past))::L)) (256) (⟨0,none,0,[],⟨rfl,by decide,rfl⟩,E.ab [2,3,7,8,9,10,23],I.sub⟩) ?_;clear E I;rintro μ a w ⟨i,gZ,cl,ys,⟨rfl,hi,hy⟩,E,I⟩;refine IF 3 E I (λan a E=>?_) λan a E=>?_
 ·
  refine RN 6 E I λa E=>?_;refine SS E (gd E underlying3 underlying5) λa E=>?_;rw[wrap_u8,show (i:Int)%256=(((UInt8.ofNat i).toNat:Nat):Int) from by rw[UInt8.toNat_ofNat'];omega]at E;refine RN 0 E I λa E=>?_;refine cm E rfl I underlying22 Ty.t5 rfl rfl rfl rfl (by decide) (by decide) λT9 a w E I ho=>?_;clear ho;refine RN 0 E I λa E=>?_;refine cJ E rfl I underlying22 Ty.t5 rfl rfl I.ai rfl (ek [UInt8.ofNat i]) (by decide) (by decide) (by omega) λIu Iv a w E I=>?_;rw[show bc ys++_=bc (ys++[UInt8.ofNat i]) from (fI _ [_]).symm]at I;refine RN 3 E I λa E=>?_;exact⟨256-(i+1),by omega,i+1,Iu,Iv,ys++[UInt8.ofNat i],⟨rfl,by omega,by simp[hy]⟩,E.ab [2,3,7,8,9,10,23],I.sub⟩
 refine RN 1 E I λa E=>?_;obtain rfl:i=256:=by omega
 have hA:=E;have x5:=I;obtain⟨bb,oo,rfl,_⟩:=I.bY gZ (by omega);have E:=hA;have I:=x5;have cd:=(I.sl (some ⟨bb,oo,none⟩)).2;refine bd 2 E I (YQ I YR hy (by decide)) λzs a w E ⟨hz,I⟩=>?_;refine RN 5 E I λa E=>?_;rw[show min (max (k:Int) 0) 256=(k:Int) from by omega]at E;refine RT 2 E I ?_;have h1:=I.Bv (some ⟨bb,oo,none⟩) 0 k (Nat.zero_le _) (by omega);rw[Nat.sub_zero,Nat.sub_zero,Nat.mul_one,Nat.zero_mul,drop_zero,show (bc zs).take k=bc (zs.take k) from by rw[bc,bc,map_take]]at h1;have hl:(zs.take k).length=k:=by rw[en];omega
 exact⟨_,_,zs.take k,by rw[hl,Nat.sub_zero,Nat.sub_zero],hl,by rw[hl];exact h1.sub⟩
end
end Go.Proofs.YteoldcfapaiobaaGreat
