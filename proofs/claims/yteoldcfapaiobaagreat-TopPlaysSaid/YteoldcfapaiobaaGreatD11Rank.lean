/- The document's guesses: quintainref12.MayBy, weights, ahead, Rank, Chain. -/
import Derived.Test.YteoldcfapaiobaaGreatD10Core
import Derived.Test.YteoldcfapaiobaaGreatD08Pkt3
import Derived.Test.YteoldcfapaiobaaGreatD09CoQ
import Derived.Test.YteoldcfapaiobaaGreatD01Row
namespace Go.Proofs.YteoldcfapaiobaaGreat
open Tryz
open List (drop_zero getElem?_append_right nil_append drop_eq_nil_of_le ext_getElem getElem_map append_nil map_take range_succ map_singleton getLastD_eq_getLast?)
open Go.RowKit
set_option linter.unusedVariables false
set_option linter.unusedSimpArgs false
set_option maxRecDepth 10000
set_option synthInstance.maxSize 4000
set_option synthInstance.maxHeartbeats 400000
section
def pI (w:Nat→Int)(last drawn:Int)(v u:Nat):Bool:=if (v:Int)=drawn∨(u:Int)=drawn then decide ((v:Int)=drawn) else if w v≠w u then decide (w u<w v) else decide ((v:Int)=last)
def hQ (w:Nat→Int)(last drawn:Int):Nat→Nat
 | 0=>0
 | i+1=>if pI w last drawn (i+1) (hQ w last drawn i)=true then i+1 else hQ w last drawn i
theorem Fx (w:Nat→Int)(last drawn:Int):∀ i,hQ w last drawn i≤i
 | 0=>bd _
 | i+1=>by
  rw[hQ];split
  ·exact bd _
  ·exact Nat.le_succ_of_le (Fx w last drawn i)
theorem LB {w:Nat→Int}{last:Int}{d:Nat}:∀ {i},d≤i→hQ w last d i=d
 | 0,h=>by rw[hQ];omega
 | i+1,h=>by
  rw[hQ];by_cases hd:d=i+1
  ·rw[ak]
   ·exact hd.symm
   ·rw[pI,ak (.inl (by omega))];exact dh (by omega)
  ·rw[LB (i:=i) (by omega),ag];rw[pI,ak (.inr rfl),cp];omega
theorem LC {w:Nat→Int}{last:Nat}:∀ i,(∀ v,v≤i→w v≤w (hQ w last (-1) i))∧(hQ w last (-1) i=last∨((last≤i→w last<w (hQ w last (-1) i))∧∀ v,v<hQ w last (-1) i→w v<w (hQ w last (-1) i)))
 | 0=>by
  refine⟨λv hv=>by rw[hQ,show v=0 from by omega];exact Int.le_refl _,?_⟩;by_cases h:last=0
  ·exact .inl h.symm
  ·exact .inr ⟨λhl=>by omega,λv hv=>by rw[hQ]at hv;omega⟩
 | i+1=>by
  obtain⟨h1,h2⟩:=LC (w:=w) (last:=last) i;have hle:=Fx w last (-1) i;have h0:¬ (((i+1:Nat):Int) = -1∨((hQ w last (-1) i:Nat):Int) = -1):=by omega
  rw[hQ];generalize hQ w last (-1) i=r at *;rw[pI,ag h0];by_cases hw:w (i+1)=w r
  ·rw[ag (show ¬ w (i+1)≠w r from λh=>h hw)];by_cases hl:i+1=last
   ·rw[ak (dh (by omega))];refine⟨λv hv=>?_,.inl hl⟩;by_cases rF:v=i+1
    ·subst rF;exact Int.le_refl _
    ·rw[hw];exact h1 v (by omega)
   ·rw[ag (by rw[cp];omega)];refine⟨λv hv=>?_,?_⟩
    ·by_cases rF:v=i+1
     ·subst rF;omega
     ·exact h1 v (by omega)
    ·rcases h2 with h2 | ⟨h2,h3⟩
     ·exact .inl h2
     ·exact .inr ⟨λhh=>h2 (by omega),h3⟩
  ·rw[ak hw];by_cases hl:w r<w (i+1)
   ·rw[ak (dh hl)];have hS:∀ v,v<i+1→w v<w (i+1):=λv hv=>by have:=h1 v (by omega);omega
    refine⟨λv hv=>?_,?_⟩
    ·by_cases rF:v=i+1
     ·subst rF;exact Int.le_refl _
     ·have:=hS v (by omega);omega
    ·by_cases vm:last=i+1
     ·exact .inl vm.symm
     ·exact .inr ⟨λhh=>hS last (by omega),hS⟩
   ·rw[ag (by rw[cp];exact hl)];refine⟨λv hv=>?_,?_⟩
    ·by_cases rF:v=i+1
     ·subst rF;omega
     ·exact h1 v (by omega)
    ·rcases h2 with h2 | ⟨h2,h3⟩
     ·exact .inl h2
     ·refine .inr ⟨λhh=>?_,h3⟩;by_cases vm:last=i+1
      ·subst vm;omega
      ·exact h2 (by omega)
def s7 (b:Gs)(past:List UInt8):Int:=if b.kind=3 then ((b.table.getD (past.length%b.table.length) 0).toNat:Int) else -1
theorem Y9 {b:Gs}{past:List UInt8}(hb:cX b):hQ (gE b past) ((ik past).toNat:Nat) (s7 b past) 255=(m4 b past).toNat:=by
 have Fv:=lp (ik past);unfold s7 m4;split
 ·have:=lp (b.table.getD (past.length%b.table.length) 0);exact LB (by omega)
 ·rw[UInt8.toNat_ofNat'];obtain⟨h1,h2⟩:=LC (w:=gE b past) (last:=(ik past).toNat) 255;have hle:=Fx (gE b past) ((ik past).toNat:Nat) (-1) 255;generalize hQ (gE b past) ((ik past).toNat:Nat) (-1) 255=r at *;rcases h2 with h2 | ⟨h2,h3⟩
  ·rw[KF λv hv=>by rw[← h2];exact h1 v (by omega),h2];omega
  ·have h4:=(KG (last:=(ik past).toNat) (h2 (by omega)) h3 (i:=256) λv hv=>h1 v (by omega)).2 (by omega);rw[h4];omega
def s8 (t:Nat→Bool):List Value:=fn 256 λi=>.bool (t i)
theorem Za (t:Nat→Bool):(s8 t).length=256:=HT _ _
theorem Zb {t:Nat→Bool}{i:Nat}(h:i<256):(s8 t)[i]?=some (.bool (t i)):=HU _ h
theorem Zc {t:Nat→Bool}{i:Nat}:(s8 t).set i (.bool true)=s8 λj=>if j=i then true else t j:=by
 rw[s8,HV];exact Cv λj _=>by by_cases h:j=i <;> simp[h]
theorem Zd (m:Nat)(v:Value):List.replicate m v=fn m λ_=>v:=by
 apply ext_getElem (by simp[fn]);intro i h1 h2;simp[fn]
theorem Ze:List.replicate 256 (Value.bool false)=s8 λ_=>false:=Zd 256 _
def qw (t:Nat→Bool):Nat→Nat
 | 0=>0
 | i+1=>qw t i+if t i=true then 1 else 0
theorem LD {t:Nat→Bool}:∀ {i},(∀ v,v<i→t v=true)→qw t i=i
 | 0,_=>rfl
 | i+1,h=>by rw[qw,LD (i:=i) λv hv=>h v (by omega),ak (h i (by omega))]
theorem LF {t:Nat→Bool}{u:Nat}(hu:t u=false):∀ {i},qw (λj=>if j=u then true else t j) i=qw t i+if u<i then 1 else 0
 | 0=>by simp[qw]
 | i+1=>by
  rw[qw,qw,LF hu (i:=i)];by_cases h:i=u
  ·subst h;simp[hu]
  ·by_cases h2:u<i
   ·simp[h,h2,show u<i+1 from by omega];omega
   ·simp[h,h2,show ¬ u<i+1 from by omega]
def j7 (w:Nat→Int)(last drawn:Int)(t:Nat→Bool)(first:Bool)(i:Nat)(fE:Int):Prop :=
 (fE = -1∧∀ v,v<i→t v=true)∨∃ u:Nat,fE=(u:Int)∧u<i∧t u=false∧(first=true→u=hQ w last drawn (i-1))
section
variable {w:Nat→Int}{last drawn:Int}{t:Nat→Bool}{f:Bool}{i u:Nat}{fE:Int}
theorem j7.take (h:j7 w last drawn t f i fE)(h0:fE<0)(hi:t i=false)(hf:f=true→∀ v,t v=false):j7 w last drawn t f (i+1) i:=by
 refine .inr ⟨i,rfl,by omega,hi,λjE=>?_⟩;rcases h with ⟨_,h⟩ | ⟨u,h,_⟩
 ·have : i = 0 := by
   rcases Nat.eq_zero_or_pos i with h1 | h1
   ·exact h1
   ·have h2:=h 0 h1;rw[hf jE 0]at h2;cases h2
  subst this;rfl
 ·omega
theorem j7.nat (h:j7 w last drawn t f i fE)(h0:0≤fE):∃ u:Nat,fE=(u:Int)∧u<i∧t u=false∧(f=true→u=hQ w last drawn (i-1)):=by
 rcases h with ⟨h,_⟩ | h
 ·omega
 ·exact h
theorem j7.up (hu:u<i∧t u=false∧(f=true→u=hQ w last drawn (i-1)))(E:pI w last drawn i u=true)(hi:t i=false):j7 w last drawn t f (i+1) i:=by
 refine .inr ⟨i,rfl,by omega,hi,λhf=>?_⟩;have h1:=hu.2.2 hf;obtain⟨j,rfl⟩:∃ j,i=j+1:=⟨i-1,by omega⟩;rw[Nat.add_sub_cancel]at h1 ⊢;rw[hQ,← h1,ak E]
theorem j7.ab (hu:u<i∧t u=false∧(f=true→u=hQ w last drawn (i-1)))(E:pI w last drawn i u=false):j7 w last drawn t f (i+1) u:=by
 refine .inr ⟨u,rfl,by omega,hu.2.1,λhf=>?_⟩;have h1:=hu.2.2 hf;obtain⟨j,rfl⟩:∃ j,i=j+1:=⟨i-1,by omega⟩;rw[Nat.add_sub_cancel]at h1 ⊢;rw[hQ,← h1,E,ag (by decide)]
theorem j7.skip (h:j7 w last drawn t f i fE)(hi:t i=true)(hf:f=true→∀ v,t v=false):j7 w last drawn t f (i+1) fE:=by
 have ou:f=true→False:=λh=>by rw[hf h i]at hi;cases hi
 rcases h with ⟨h1,h⟩ | ⟨u,h1,h2,h3,_⟩
 ·refine .inl ⟨h1,λv hv=>?_⟩;by_cases Zf:v=i
  ·subst Zf;exact hi
  ·exact h v (by omega)
 ·exact .inr ⟨u,h1,by omega,h3,λh=>(ou h).elim⟩
theorem j7.Fy (h:j7 w last drawn t f 256 fE)(hc:qw t 256<256):∃ u:Nat,fE=(u:Int)∧u<256∧t u=false∧(f=true→u=hQ w last drawn 255):=by
 rcases h with ⟨_,h⟩ | h
 ·rw[LD h]at hc;omega
 ·exact h
theorem j7.start:j7 w last drawn t f 0 (-1):=.inl ⟨rfl,λv hv=>by omega⟩
end
section
variable {W w:World}{L:List SP}{n c m cT:Nat}{ad adT:Option Addr}{past:List UInt8}{b:Gs}{g:Nat→Int}
theorem Fz (I:U W w L):Calls prog 49 #[.agg (dj b adT cT).toArray] w λe w'=>∃ r:Bool,e=.returned (.bool r)∧(r=true↔cX b)∧U W w' L:=by
 refine EN func49 ntmps49 rfl rfl λa E=>?_;refine BX 1 E I λb1 a w E I=>?_;change U W w (aa b1 47 (dj b adT cT)::_) at I;refine BY 7 E I (λbW a E=>?_) λbW a E=>?_
 ·
  refine RT 27 E I ?_;exact⟨_,rfl,⟨λh=>(by cases h),λh=>by rw[cX]at h;exfalso;omega⟩,I.sub⟩
 refine BY 5 E I (λfa a E=>?_) λfa a E=>?_
 ·
  refine RT 22 E I ?_;exact⟨_,rfl,⟨λh=>(by cases h),λh=>by rw[cX]at h;exfalso;omega⟩,I.sub⟩
 refine BY 5 E I (λm1 a E=>?_) λm1 a E=>?_
 ·
  refine RT 17 E I ?_;exact⟨_,rfl,⟨λh=>(by cases h),λh=>by rw[cX]at h;exfalso;omega⟩,I.sub⟩
 refine BY 5 E I (λtT a E=>?_) λtT a E=>?_
 ·
  refine RT 12 E I ?_;exact⟨_,rfl,⟨λh=>(by cases h),λh=>by rw[cX]at h;exfalso;omega⟩,I.sub⟩
 refine BY 4 E I (λpy a E=>?_) λpy a E=>?_
 ·
  refine IF 5 E I (λaj a E=>?_) λaj a E=>?_
  ·
   refine RT 2 E I ?_;exact⟨_,rfl,⟨λh=>(by cases h),λh=>by rw[cX]at h;exfalso;omega⟩,I.sub⟩
  refine IF 5 E I (λao a E=>?_) λao a E=>?_
  ·
   refine BY 6 E I (λdA a E=>?_) λdA a E=>?_
   ·
    refine RT 6 E I ?_;exact⟨_,rfl,(by rw[cp,cX];omega),I.sub⟩
   refine RT 6 E I ?_;exact⟨_,rfl,⟨λh=>(by cases h),λh=>by rw[cX]at h;exfalso;omega⟩,I.sub⟩
  refine RT 6 E I ?_;exact⟨_,rfl,(by rw[cp,cX];omega),I.sub⟩
 refine IF 11 E I (λao a E=>?_) λao a E=>?_
 ·
  refine BY 6 E I (λdA a E=>?_) λdA a E=>?_
  ·
   refine RT 6 E I ?_;exact⟨_,rfl,(by rw[cp,cX];omega),I.sub⟩
  refine RT 6 E I ?_;exact⟨_,rfl,⟨λh=>(by cases h),λh=>by rw[cX]at h;exfalso;omega⟩,I.sub⟩
 refine RT 6 E I ?_;exact⟨_,rfl,(by rw[cp,cX];omega),I.sub⟩
theorem Zg (I:U W w L)(hb:cX b)(ez:past.length≤4000)(jS:past.length≤c)(hp:∀ w',U W w' L→aT w' ad past.length past) :
   Calls prog 192 #[.agg (dj b adT cT).toArray,.slice ad past.length c] w λe w'=>e=.returned (.agg (ints .i64 256 (gE b past)).toArray)∧U W w' L:=by
 simp only[cX]at hb;refine EN func192 ntmps192 rfl rfl λa E=>?_;refine BX 1 E I λb2 a w E I=>?_;change U W w (aa b2 47 (dj b adT cT)::_) at I;refine AL 0 E I λb4 a w E I=>?_;rw[qv]at I;refine AL 1 E I λb5 a w E I=>?_;rw[qv]at I;refine BY 6 E I (λbW a E=>?_) λbW a E=>?_
 ·
  refine SA 9 E I λa w E I=>?_;refine RT 0 E I ?_;exact⟨by rw[gE,ag (by omega)],I.sub⟩
 refine IF 6 E I (λaj a E=>?_) λaj a E=>?_
 ·
  refine SA 2 E I λa w E I=>?_;refine RT 0 E I ?_;exact⟨by rw[gE,ak (by omega),yj (by omega)],I.sub⟩
 refine RN 1 E I λa E=>?_;have b9:b.kind=2:=by omega
 obtain⟨o,ho⟩:∃ o:Nat,b.order=(o:Int):=⟨b.order.toNat,by omega⟩;rw[dj,ho]at I;have dU:o≤past.length:=by omega
 have kT:gE b past=g2 o past past.length:=by rw[gE,ak b9,ho,Int.toNat_natCast]
 refine RN 6 E I λa E=>?_;rw[show ((past.length:Nat):Int)-(o:Int)=((past.length-o:Nat):Int) from by omega]at E;refine RN 1 E I λa E=>?_;refine SS E (ld E underlying22 underlying5 underlying9 ((show aT w (fk ad (past.length-o) c 1) (past.length-(past.length-o)) (past.drop (past.length-o)) from by have h1:=(hp _ I.tail.tail.tail).uh (lo:=past.length-o) (by omega) jS;rw[c3]at h1;exact h1))) λa E=>?_;refine RN 6 E I λa E=>?_;have Y4:o≤3:=by omega
 refine aO (λμ a w=>∃ (i:Nat),(μ=past.length-i∧o≤i∧i≤past.length)∧Fr a 54 [(1,.slice ad past.length c),(2,pt b2),(4,pt b4),(5,pt b5),(6,.string ⟨(past.drop (past.length-o)).toArray⟩),(7,.int .i64 i)]∧U W w (aa b5 320 (ints .i64 256 (g2 o past i))::aa b4 320 (ints .i64 256 (λ_=>0))::aa b2 47 [.int .i64 b.kind,.int .i64 o,.slice adT b.table.length cT]::L)) (past.length-o) (⟨o,⟨rfl,bd _,dU⟩,E.ab [1,2,4,5,6,7],by rw[yj (bd _)];exact I.sub⟩) ?_;clear E I;rintro μ a w ⟨i,⟨rfl,Ft,hi⟩,E,I⟩;refine IF 6 E I (λao a E=>?_) λao a E=>?_
 ·
  have aH:i<past.length:=by omega
  have nm:=AH o past i past[i].toNat;have ql:=lp past[i];refine RN 7 E I λa E=>?_;rw[show ((i:Nat):Int)-(o:Int)=((i-o:Nat):Int) from by omega]at E;refine RN 2 E I λa E=>?_;rw[show i-(i-o)=o from by omega]at E;refine SS E (ld E underlying22 underlying5 underlying9 ((hp _ I.tail.tail.tail).yk (lo:=i-o) (n:=o) (by omega) jS)) λa E=>?_;refine RN 1 E I λa E=>?_;refine SS E (r5 E) λa E=>?_;rw[p5]at E;refine IF 0 E I (λay a E=>?_) λay a E=>?_
  ·
   obtain⟨bb,oo,rfl,hr⟩:=(hp _ I.tail.tail.tail).get (by omega);refine RN 3 E I λa E=>?_;refine SS E (ae E (hr i _ (dJ aH))) λa E=>?_;refine RN 1 E I λa E=>?_;refine SS E (ae E (I.bz (fM _ ql))) λa E=>?_;refine ST 2 E I (λa w E I=>?_) (hlt:=(by rw[de];omega));rw[ints_set]at I;refine RN 3 E I λa E=>?_;exact⟨past.length-(i+1),by omega,i+1,⟨rfl,by omega,by omega⟩,E.ab [1,2,4,5,6,7],by
    rw[show g2 o past (i+1)=λj=>if j=past[i].toNat then g2 o past i past[i].toNat+1 else g2 o past i j from by
     rw[g2,ak ⟨Ft,by rw[yi,← ay]⟩,bl,aD aH];rfl]
    exact I.sub⟩
  refine RN 3 E I λa E=>?_;exact⟨past.length-(i+1),by omega,i+1,⟨rfl,by omega,by omega⟩,E.ab [1,2,4,5,6,7],by
   rw[show g2 o past (i+1)=g2 o past i from by
    rw[g2,ag (λh=>by
     have h2:=h.2;rw[yi]at h2;rw[h2]at ay;cases ay)]]
   exact I.sub⟩
 obtain rfl:i=past.length:=by omega
 refine SA 2 E I λa w E I=>?_;refine RT 0 E I ?_;exact⟨by rw[kT],I.sub⟩
theorem Zh {v u:Nat}{last drawn:Int}(I:U W w L)(hv:v<256)(hu:u<256):Calls prog 193 #[.int .i64 v,.int .i64 u,.agg (ints .i64 256 g).toArray,.int .i64 last,.int .i64 drawn] w λe w'=>e=.returned (.bool (pI g last drawn v u))∧U W w' L:=by
 refine EN func193 ntmps193 rfl rfl λa E=>?_;refine BX 1 E I λdq a w E I=>?_;refine BY 7 E I (λbW a E=>?_) λbW a E=>?_
 ·
  refine RT 10 E I ?_;exact⟨by rw[pI,ak (.inl bW)],I.sub⟩
 refine IF 4 E I (λaj a E=>?_) λaj a E=>?_
 ·
  refine RT 5 E I ?_;exact⟨by rw[pI,ak (.inr aj)],I.sub⟩
 refine RN 2 E I λa E=>?_;have h0:¬ ((v:Int)=drawn∨(u:Int)=drawn):=by omega
 refine bP 0 [5] [0,1,3,4,3002,1005,6] E I λa w E I hH hC=>?_;refine RH 4 E I hH hC λa E=>?_;refine QH E (λw hc=>ae E (hc.cell (I.bz (fM _ hv)))) hC λa E=>?_;refine RH 0 E I hH hC λa E=>?_;refine SS E (ae E (I.bz (fM _ hu))) λa E=>?_;refine RH 1 E I hH hC λa E=>?_;refine IF 0 E I (λao a E=>?_) λao a E=>?_
 ·
  refine bP 1 [5] [0,1,3,4,3002,1005,6,7] E I λa w E I hH hC=>?_;refine RH 4 E I hH hC λa E=>?_;refine QH E (λw hc=>ae E (hc.cell (I.bz (fM _ hv)))) hC λa E=>?_;refine RH 0 E I hH hC λa E=>?_;refine SS E (ae E (I.bz (fM _ hu))) λa E=>?_;refine RH 2 E I hH hC λa E=>?_;refine RT 0 E I ?_;exact⟨by rw[pI,ag h0,ak ao],I.sub⟩
 refine RT 5 E I ?_;exact⟨by rw[pI,ag h0,ag (λh=>h ao)],I.sub⟩
set_option maxHeartbeats 1000000 in
theorem LG {k:Nat}(I:U W w L)(hb:cX b)(hk:1≤k∧k≤100000)(ez:past.length≤4000)(jS:past.length≤c)(hp:∀ w',U W w' L→aT w' ad past.length past)(ht:∀ w',U W w' L→aT w' adT b.table.length b.table) :
   Calls prog 160 #[.agg (dj b adT cT).toArray,.slice ad past.length c,.int .i64 k] w λe w'=>∃ (av:Option Addr) (c':Nat) (out:List UInt8),e=.returned (.slice av out.length c')∧(out.length=min k 256∧out[0]?=some (m4 b past))∧U W w' (Sl 5 1 av out.length c' (bc out)::L):=by
 have la:=hb;simp only[cX]at la;refine EN func160 ntmps160 rfl rfl λa E=>?_;refine BX 1 E I λb3 a w E I=>?_;change U W w (aa b3 47 (dj b adT cT)::_) at I;refine bh 4 E I (Fz I) λr a w E ⟨hr,I⟩=>?_;rw[hr.2 hb]at E;refine RN 2 E I λa E=>?_;replace E:=E.aM 17;refine RN 3 E I λa E=>?_;rw[bn (by omega)]at E;refine CL 4 E I (Zg I hb ez jS (λw' hw=>hp w' hw.tail)) λa w E I=>?_;refine AL 0 E I λdq a w E I=>?_;rw[qv]at I;refine SA 0 E I λa w E I=>?_;refine RN 3 E I λa E=>?_;have tQ:(if 0<past.length then ((past.getD (past.length-1) 0).toNat:Int) else 0)=((ik past).toNat:Nat):=by
  split
  ·rw[ik,getLastD_eq_getLast?,List.getLast?_eq_getElem?,bl]
  ·rw[ik,gT (l:=past) (by omega)];rfl
 refine b7 (M:=λa w=>Fr a 86 [(1,.slice ad past.length c),(2,.int .i64 k),(3,pt b3),(7,pt dq),(8,.int .i64 ((ik past).toNat:Nat)),(9,.int .i64 (-1))]∧U W w (aa dq 320 (ints .i64 256 (gE b past))::aa b3 47 (dj b adT cT)::L)) ?_ ?_
 ·
  refine IF 4 E I (λao a E=>?_) λao a E=>?_
  ·
   obtain⟨bb,oo,rfl,eW⟩:=(hp _ I.tail.tail).get (by omega);rw[ak (by omega)]at tQ;refine RN 4 E I λa E=>?_;rw[show ((past.length:Nat):Int)-1=((past.length-1:Nat):Int) from by omega]at E;refine RN 1 E I λa E=>?_;refine SS E (ae E (eW (past.length-1) _ (kV (by omega)))) λa E=>?_;refine SX 0 E I (sV _) λa E=>?_;refine RN 1 E I λa E=>?_;rw[tQ]at E;exact⟨E.ab [1,2,3,7,8,9],I⟩
  rw[ag (by omega)]at tQ;refine RN 1 E I λa E=>?_;rw[show (0:Int)=((ik past).toNat:Nat) from tQ]at E;exact⟨E.ab [1,2,3,7,8,9],I⟩
 clear E;(try clear I);rintro a w ⟨E,I⟩;refine b7 (M:=λa w=>Fr a 86 [(2,.int .i64 k),(3,pt b3),(7,pt dq),(8,.int .i64 ((ik past).toNat:Nat)),(9,.int .i64 (s7 b past))]∧U W w (aa dq 320 (ints .i64 256 (gE b past))::aa b3 47 (dj b adT cT)::L)) ?_ ?_
 ·
  refine IF 4 E I (λay a E=>?_) λay a E=>?_
  ·
   refine bP 0 [5,6,7] [0,2,3,4,3001,1005,1006,1007,8,1009,10,11] E I λa w E I hH hC=>?_;have hA:=E;obtain⟨Y5,Y6,rfl,pd⟩:=(ht _ I.tail.tail).get (by omega);have E:=hA;have Fu:past.length%b.table.length<b.table.length:=Nat.mod_lt _ (by omega);refine RH 8 E I hH hC λa E=>?_;rw[nS]at E;refine RH 1 E I hH hC λa E=>?_;refine SS E (ae E (pd (past.length%b.table.length) _ (kV Fu))) λa E=>?_;refine RH 0 E I hH hC λa E=>?_;refine QP E (λw=>oW E underlying5 underlying3 (sV _)) λa E=>?_;refine RH 1 E I hH hC λa E=>?_;rw[s7,ak (by omega)];exact⟨E.ab [2,3,7,8,9],I⟩
  refine RN 0 E I λa E=>?_;rw[s7,ag (by omega)];exact⟨E.ab [2,3,7,8,9],I⟩
 clear E;(try clear I);rintro a w ⟨E,I⟩;refine AL 1 E I λkm a w E I=>?_;rw[Ze]at I;refine RN 3 E I λa E=>?_;refine aO (λμ a w=>∃ (j:Nat) (out:List UInt8) (t:Nat→Bool) (ad2:Option Addr) (c2:Nat),(μ=min k 256-j∧j≤min k 256∧out.length=j∧qw t 256=j∧(j=0→∀ v,t v=false)∧(1≤j→out[0]?=some (m4 b past)))∧Fr a 86 [(2,.int .i64 k),(3,pt b3),(7,pt dq),(8,.int .i64 ((ik past).toNat:Nat)),(9,.int .i64 (s7 b past)),(10,pt km),(11,.slice ad2 out.length c2)]∧U W w (Sl 5 1 ad2 out.length c2 (bc out)::aa km 322 (s8 t)::aa dq 320 (ints .i64 256 (gE b past))::aa b3 47 (dj b adT cT)::L)) (min k 256) (⟨0,[],λ_=>false,none,0,⟨rfl,by omega,rfl,by decide,λ_ _=>rfl,λh=>by omega⟩,E.ab [2,3,7,8,9,10,11],I.bN 5 1 none⟩) ?_;clear E I;rintro μ a w ⟨j,out,t,ad2,c2,⟨rfl,hj,dU,LH,Zi,yy⟩,E,I⟩;refine BY 7 E I (λdA a E=>?_) λdA a E=>?_
 ·
  refine IF 4 E I (λbk a E=>?_) λbk a E=>?_
  ·
   refine RN 5 E I λa E=>?_;refine aO (λμ a w=>∃ (i:Nat) (fE:Int),(μ=256-i∧i≤256∧j7 (gE b past) ((ik past).toNat:Nat) (s7 b past) t (decide (j=0)) i fE)∧Fr a 86 [(2,.int .i64 k),(3,pt b3),(7,pt dq),(8,.int .i64 ((ik past).toNat:Nat)),(9,.int .i64 (s7 b past)),(10,pt km),(11,.slice ad2 out.length c2),(12,.int .i64 fE),(13,.int .i64 i)]∧U W w (Sl 5 1 ad2 out.length c2 (bc out)::aa km 322 (s8 t)::aa dq 320 (ints .i64 256 (gE b past))::aa b3 47 (dj b adT cT)::L)) (256) (⟨0, -1,⟨rfl,by omega,j7.start⟩,E.ab [2,3,7,8,9,10,11,12,13],I⟩) ?_;clear E I;rintro μ a w ⟨i,fE,⟨rfl,hi,uF⟩,E,I⟩;refine IF 4 E I (λbL a E=>?_) λbL a E=>?_
   ·
    have AX:i<256:=by omega
    have ou:decide (j=0)=true→∀ v,t v=false:=λh=>Zi (by simpa using h);refine RN 4 E I λa E=>?_;refine SS E (ae E (I.bz (Zb AX))) λa E=>?_;refine BY 2 E I (λdA a E=>?_) λdA a E=>?_
    ·
     refine BY 3 E I (λjC a E=>?_) λjC a E=>?_
     ·
      refine RN 14 E I λa E=>?_;exact⟨256-(i+1),by omega,i+1,i,⟨rfl,by omega,uF.take jC dA ou⟩,E.ab [2,3,7,8,9,10,11,12,13],I⟩
     obtain⟨u,rfl,hu⟩:=uF.nat (by omega);refine CL 5 E I (Zh I AX (by omega)) λa w E I=>?_;refine IF 2 E I (λeO a E=>?_) λeO a E=>?_
     ·
      refine RN 5 E I λa E=>?_;exact⟨256-(i+1),by omega,i+1,i,⟨rfl,by omega,j7.up hu eO dA⟩,E.ab [2,3,7,8,9,10,11,12,13],I⟩
     refine RN 3 E I λa E=>?_;exact⟨256-(i+1),by omega,i+1,u,⟨rfl,by omega,j7.ab hu eO⟩,E.ab [2,3,7,8,9,10,11,12,13],I⟩
    refine RN 15 E I λa E=>?_;exact⟨256-(i+1),by omega,i+1,fE,⟨rfl,by omega,uF.skip dA ou⟩,E.ab [2,3,7,8,9,10,11,12,13],I⟩
   obtain rfl:i=256:=by omega
   obtain⟨u,rfl,Zj,Zk,FA⟩:=uF.Fy (by omega);refine ST 3 E I (λa w E I=>?_) (hlt:=(by rw[Za];omega));rw[Zc]at I;refine SX 2 E I (by rw[wrap_u8];omega) λa E=>?_;rw[show ((u:Nat):Int)=((UInt8.ofNat u).toNat:Int) from by rw[UInt8.toNat_ofNat'];omega]at E;refine RN 0 E I λa E=>?_;refine cn E rfl I underlying22 Ty.t5 rfl rfl rfl rfl (by decide) (by decide) λb83 a w E I ho=>?_;clear ho;refine RN 0 E I λa E=>?_;refine cK E rfl I underlying22 Ty.t5 rfl rfl I.ai rfl (en [UInt8.ofNat u]) (by decide) (by decide) (by omega) λZl Zm a w E I=>?_;rw[show bc out++_=bc (out++[UInt8.ofNat u]) from (fF _ [_]).symm,show out.length+1=(out++[UInt8.ofNat u]).length from by simp]at I;rw[show out.length+1=(out++[UInt8.ofNat u]).length from by simp]at E;refine RN 1 E I λa E=>?_;exact⟨min k 256-(j+1),by omega,j+1,out++[UInt8.ofNat u],_,Zl,Zm,⟨rfl,by omega,by rw[aL,dU];rfl,by rw[LF Zk,LH,ak Zj],λh=>by omega,λ_=>by
    rcases Nat.eq_zero_or_pos j with h0 | h0
    ·rw[gT (l:=out) (by omega),FA (dh h0),Y9 hb];simp
    ·rw[lZ (by omega)];exact yy (by omega)⟩,E.ab [2,3,7,8,9,10,11],I.sub⟩
  refine RT 3 E I ?_;exact⟨ad2,c2,out,rfl,⟨by omega,yy (by omega)⟩,I.sub⟩
 refine RT 8 E I ?_;exact⟨ad2,c2,out,rfl,⟨by omega,yy (by omega)⟩,I.sub⟩
theorem Zn (I:U W w L)(hb:cX b)(ez:past.length≤1001)(jS:past.length≤c)(hn:m≤1000)(hp:∀ w',U W w' L→aT w' ad past.length past)(ht:∀ w',U W w' L→aT w' adT b.table.length b.table) :
   Calls prog 161 #[.agg (dj b adT cT).toArray,.slice ad past.length c,.int .i64 m] w λe w'=>∃ av c',e=.returned (.slice av m c')∧U W w' (Sl 5 1 av m c' (bc (j3 b past m))::L):=by
 refine EN func161 ntmps161 rfl rfl λa E=>?_;refine BX 1 E I λb3 a w E I=>?_;change U W w (aa b3 47 (dj b adT cT)::_) at I;refine bh 4 E I (Fz I) λr a w E ⟨hr,I⟩=>?_;rw[hr.2 hb]at E;refine RN 1 E I λa E=>?_;replace E:=E.aM 13;refine RN 2 E I λa E=>?_;replace I:=I.bN 5 1 none;refine RN 1 E I λa E=>?_;refine gY E rfl I underlying22 Ty.t5 rfl rfl (by decide) (λh0=>(hp _ I.tail.tail).get h0) (by rw[dk];omega) (en _) (by omega) λKA KB a w E I=>?_;rw[nil_append,Nat.zero_add]at I;rw[Nat.zero_add]at E;refine RN 6 E I λa E=>?_;refine aO (λμ a w=>∃ (i:Nat) (ad2:Option Addr) (c2:Nat) (fl:Option Addr) (dD:Nat),(μ=m-i∧i≤m)∧Fr a 41 [(2,.int .i64 m),(3,pt b3),(7,.slice ad2 (ed b past i).length c2),(8,.slice fl i dD),(9,.int .i64 i)]∧U W w (Sl 5 1 fl i dD (bc (j3 b past i))::Sl 5 1 ad2 (ed b past i).length c2 (bc (ed b past i))::aa b3 47 (dj b adT cT)::L)) (m) (⟨0,KA,KB,none,0,⟨rfl,by omega⟩,E.ab [2,3,7,8,9],by
  have h1:j3 b past 0=[]:=gT (EU b past 0);rw[h1];exact I.bN 5 1 none⟩) ?_
 clear E I;rintro μ a w ⟨i,ad2,c2,fl,dD,⟨rfl,hi⟩,E,I⟩;refine BY 6 E I (λbW a E=>?_) λbW a E=>?_
 ·
  refine RN 3 E I λa E=>?_;rw[dh (by omega)]at E;refine RN 3 E I λa E=>?_;have ck:=il b past i;have Fw:=(I.sl ad2).2;have Zo:i<m:=by omega
  refine jN 2 E I (LG (past:=ed b past i) (k:=1) I hb (by decide) (by omega) Fw (λw' hw=>hw.cr ad2 (ed b past i) rfl rfl) (λw' hw=>ht w' hw.tail.tail.tail)) λrk ot out a w E ⟨⟨dU,Zq⟩,I⟩=>?_;refine RN 1 E I λa E=>?_;obtain⟨x,rfl⟩:∃ x,out=[x]:=by
   match out,dU with
   | [x],_=>exact⟨x,rfl⟩
  obtain rfl:x=m4 b (ed b past i):=by simpa using Zq
  obtain⟨gl,or',rfl,jB⟩:=I.bU rk (by simp);refine SX 3 E I (by simp) λa E=>?_;refine RN 0 E I λa E=>?_;refine SS E (ae E (jB 0 _ rfl)) λa E=>?_;refine RN 0 E I λa E=>?_;refine cn E rfl I underlying22 Ty.t5 rfl rfl rfl rfl (by decide) (by decide) λgF a w E I ho=>?_;clear ho;refine RN 0 E I λa E=>?_;refine cK E rfl I underlying22 Ty.t5 rfl rfl I.ai rfl (en [m4 b (ed b past i)]) (by decide) (by decide) (by omega) λFB FC a w E I=>?_;rw[show bc (ed b past i)++_=bc (ed b past (i+1)) from (fF _ [_]).symm,show (ed b past i).length+1=(ed b past (i+1)).length from by rw[il,il];omega]at I;rw[show (ed b past i).length+1=(ed b past (i+1)).length from by rw[il,il];omega]at E;refine RN 1 E I λa E=>?_;replace jB:=I.cJ gl or' (by simp);refine SX 2 E I (by simp) λa E=>?_;refine RN 0 E I λa E=>?_;refine SS E (ae E (jB 0 _ rfl)) λa E=>?_;refine RN 0 E I λa E=>?_;refine cn E rfl I underlying22 Ty.t5 rfl rfl rfl rfl (by decide) (by decide) λb38 a w E I ho=>?_;clear ho;refine RN 0 E I λa E=>?_;refine cK E rfl I underlying22 Ty.t5 rfl rfl I.ai rfl (en [m4 b (ed b past i)]) (by decide) (by decide) (by omega) λZr Zs a w E I=>?_;rw[show bc (j3 b past i)++_=bc (j3 b past (i+1)) from by rw[Yj,uv];exact (fF _ [_]).symm]at I;refine RN 4 E I λa E=>?_;exact⟨m-(i+1),by omega,i+1,FB,FC,Zr,Zs,⟨rfl,by omega⟩,E.ab [2,3,7,8,9],I.sub⟩
 refine RT 7 E I ?_;obtain rfl:i=m:=by omega
 exact⟨_,_,rfl,I.sub⟩
end
end
section
def wG (to:Nat)(l x:List UInt8):Prop:=(∃ t,x=l++t)∧to≤x.length∧x.length≤1001
def m8 (X:List (List UInt8))(front to:Nat):List (List UInt8):=(List.range (to-front)).map λi=>bI X (front+i)
theorem wH (b:Gs)(ls:List (List UInt8))(to:Nat):m8 (iQ b ls to) (aV ls) to=ds b ls to:=rfl
theorem AY (X:List (List UInt8))(front to:Nat):(m8 X front to).length=to-front:=by simp[m8]
structure yz (to:Nat)(ls X:List (List UInt8)):Prop where
 len:X.length=ls.length
 fit:∀ (j:Nat) (l x:List UInt8),ls[j]?=some l→X[j]?=some x→wG to l x
theorem Zt {b:Gs}{l:List UInt8}{to:Nat}(h:l.length≤1000)(h2:to≤1000):wG to l (nD b l to):=by
 refine⟨⟨j3 b l (to-l.length),?_⟩,Yk b l to,?_⟩
 ·rw[nD,uv]
 ·rw[nD,il];omega
theorem LI {b:Gs}{l:List UInt8}{to:Nat}(h:to≤l.length):nD b l to=l:=by rw[nD,show to-l.length=0 from by omega];rfl
structure wI:Prop where
 Zu:∀ {W w:World} {L:List SP} {c k cT:Nat} {ad adT:Option Addr} {past:List UInt8} {b:Gs},U W w L→cX b→(1≤k∧k≤256)→past.length≤1000→past.length≤c→(∀ w',U W w' L→aT w' ad past.length past)→(∀ w',U W w' L→aT w' adT b.table.length b.table) →
 Calls prog 310 #[.agg (dj b adT cT).toArray,.slice ad past.length c,.int .i64 k] w λe w'=>∃ (av:Option Addr) (c':Nat) (out:List UInt8),e=.returned (.slice av out.length c')∧out.length=k∧U W w' (Sl 5 1 av out.length c' (bc out)::L)
section
variable {W w:World}{L:List SP}{c m cT to r:Nat}{ad adT:Option Addr}{past:List UInt8}{b:Gs}
set_option maxHeartbeats 1000000 in
theorem Zv (qx:r=0∨wI)(hr:r≤100000)(I:U W w (Sl 5 1 ad past.length c (bc past)::L))(hb:cX b)(ez:past.length≤1000)(s5:to≤1000)(ht:∀ w',U W w' L→aT w' adT b.table.length b.table) :
   Calls prog 294 #[.slice ad past.length c,.agg (dj b adT cT).toArray,.int .i64 r,.int .i64 to] w λe w'=>∃ (av:Option Addr) (c':Nat) (x:List UInt8),e=.returned (.slice av x.length c')∧(wG to past x∧(r=0→x=nD b past to)) ∧
    U W w' (Sl 5 1 av x.length c' (bc x)::L):=by
 have jS:=(I.sl ad).2;refine EN func294 ntmps294 rfl rfl λa E=>?_;refine BX 1 E I λb5 a w E I=>?_;change U W w (aa b5 186 (dj b adT cT)::_) at I;refine IF 7 E I (λaj a E=>?_) λaj a E=>?_
 ·
  refine RT 3 E I ?_;exact⟨ad,c,past,rfl,⟨⟨⟨[],by simp⟩,by omega,by omega⟩,λ_=>(LI (by omega)).symm⟩,I.tail⟩
 refine RN 0 E I λa E=>?_;refine b7 (M:=λa w=>∃ (ad2:Option Addr) (c2:Nat) (y:List UInt8),((∃ t,y=past++t)∧y.length≤past.length+1∧past.length<to∧(r=0→y=past))∧Fr a 48 [(0,.slice ad2 y.length c2),(3,.int .i64 to),(5,pt b5)]∧U W w (Sl 5 1 ad2 y.length c2 (bc y)::aa b5 186 (dj b adT cT)::L)) ?_ ?_
 ·
  refine SX 2 E I (by decide) λa E=>?_;rw[show ((r:Nat):Int).tmod 256=((r%256:Nat):Int) from nS _ 256]at E;refine RN 1 E I λa E=>?_;have ye:r%256<256:=Nat.mod_lt _ (by decide);generalize lM:r%256=r6 at E ye;refine IF 3 E I (λao a E=>?_) λao a E=>?_
  ·
   have Zw:=qx.resolve_left (λh=>by rw[h]at lM;omega);have hp0:=I.drew.tail.tail;refine bP 0 [] [0,1,2,3,4,5,7,8,9,11,1006,1010,12,1013,1014,1015,16] E I λa w E I hH hC=>?_;refine RH 5 E I hH hC λa E=>?_;refine QP E (λw=>CE E underlying22 Ty.t5 (bd _) (by omega)) λa E=>?_;rw[qU]at E;refine RH 3 E I hH hC λa E=>?_;rw[show ((r6:Nat):Int)+1=((r6+1:Nat):Int) from by omega]at E;refine RH 2 E I hH hC λa E=>?_;refine jN 0 E I (Zw.Zu I hb (by omega) ez jS (λw' hw=>hw.tail.cr ad past rfl rfl) (λw' hw=>ht w' hw.tail.tail)) λrk ot out a w E ⟨dU,I⟩=>?_;obtain⟨gl,or',rfl,jB⟩:=I.bU rk (by omega);refine RN 1 E I λa E=>?_;refine SS E (ae E (jB r6 _ (dJ (by omega)))) λa E=>?_;refine RN 0 E I λa E=>?_;refine cn E rfl I underlying22 Ty.t5 rfl rfl rfl rfl (by decide) (by decide) λgF a w E I ho=>?_;clear ho;replace I:=I.H0 ad past.length (bd _);rw[qU,Nat.mul_one,fZ (by rw[dk];exact bd _)]at I;refine RN 0 E I λa E=>?_;refine cK E rfl I underlying22 Ty.t5 rfl rfl I.ai rfl (en [out[r6]]) (by decide) (by decide) (by omega) λFB FC a w E I=>?_;rw[show bc past++_=bc (past++[out[r6]]) from (fF _ [_]).symm,show past.length+1=(past++[out[r6]]).length from by simp]at I;rw[show past.length+1=(past++[out[r6]]).length from by simp]at E;refine RN 1 E I λa E=>?_;exact⟨FB,FC,past++[out[r6]],⟨⟨_,rfl⟩,by simp,by omega,λh=>by rw[h]at lM;omega⟩,E.ab [0,3,5],I.sub⟩
  have afj:r6=0:=by omega
  refine RN 0 E I λa E=>?_;exact⟨ad,c,past,⟨⟨[],by simp⟩,by omega,by omega,λ_=>rfl⟩,E.ab [0,3,5],I.sub⟩
 clear E;(try clear I);rintro a w ⟨ad2,c2,y,⟨gV,iN,Zx,lU⟩,E,I⟩;refine RN 1 E I λa E=>?_;have iE:y.length≤to:=by omega
 have oD:=(I.sl ad2).2;refine bP 0 [] [0,1,2,3,4,5,7,8,9,10,11,1006,1012,1013,14] E I λa w E I hH hC=>?_;refine RH 5 E I hH hC λa E=>?_;refine QP E (λw=>CE E underlying22 Ty.t5 (bd _) (by omega)) λa E=>?_;rw[qU]at E;refine RH 5 E I hH hC λa E=>?_;rw[show ((to:Nat):Int)-((y.length:Nat):Int)=((to-y.length:Nat):Int) from by omega]at E;refine RH 1 E I hH hC λa E=>?_;refine aY 0 E I (Y8 (to:=0) (past:=y) (m:=to-y.length) I hb (by omega) oD (by omega) (λw' hw=>hw.cr ad2 y rfl rfl) (λw' hw=>ht w' hw.tail.tail)) λadc Zy a w E I=>?_;replace I:=I.H0 ad2 y.length (bd _);rw[qU,Nat.mul_one,fZ (by rw[dk];exact bd _)]at I;have FD:=EU b y (to-y.length);refine RN 0 E I λa E=>?_;refine gY E rfl I underlying22 Ty.t5 rfl rfl (by decide) (λh0=>(I.tail.cr adc (j3 b y (to-y.length)) rfl FD).get h0) (by rw[dk];omega) (en _) (by omega) λpB ru a w E I=>?_;rw[← fF,uv,show y.length+(to-y.length)=(ed b y (to-y.length)).length from by rw[il]]at I;rw[show y.length+(to-y.length)=(ed b y (to-y.length)).length from by rw[il]]at E;refine RN 1 E I λa E=>?_;refine RT 0 E I ?_;obtain⟨t,FE⟩:=gV;refine⟨pB,ru,_,rfl,⟨⟨⟨t++j3 b y (to-y.length),?_⟩,by rw[il];omega,by rw[il];omega⟩,λh=>?_⟩,I.sub⟩
 ·rw[← uv,FE,du]
 ·rw[lU h,nD]
set_option maxHeartbeats 1000000 in
theorem FF {qb:Nat}{aB:List Nat}{ls:List (List UInt8)}(qx:r=0∨wI)(hr:r≤100000)(I:U W w (Qu qb aB ls::L))(hb:cX b)(h0:ls≠[])(h8:ls.length≤8)(hl:∀ l∈ls,l.length≤1000)(s5:to≤1000)(ht:∀ w',U W w' L→aT w' adT b.table.length b.table) :
   Calls prog 277 #[pt qb,.agg (dj b adT cT).toArray,.int .i64 r,.int .i64 to] w λe w'=>∃ (av:Option Addr) (c':Nat) (X:List (List UInt8)),e=.returned (.slice av (to-aV ls) c')∧(yz to ls X∧(r=0→X=iQ b ls to)) ∧
    U W w' (ca av (to-aV ls) c' (m8 X (aV ls) to)::Qu qb aB ls::L):=by
 refine EN func277 ntmps277 rfl rfl λa E=>?_;refine BX 1 E I λb5 a w E I=>?_;change U W w (aa b5 186 (dj b adT cT)::_) at I;refine RN 6 E I λa E=>?_;replace E:=E.aM 21;refine bh 1 E I (yx I) λrG a w E ⟨jB,I⟩=>?_;rw[jB.2 hb]at E;refine RN 3 E I λa E=>?_;replace E:=E.aM 26;refine RN 4 E I λa E=>?_;rw[bn (by omega)]at E;refine RN 3 E I λa E=>?_;rw[bn (by omega)]at E;refine CL 3 E I (rA (I.pick (Qu qb aB ls)) h0 h8) λa w E I=>?_;refine CL 6 E I (EV I) λa w E I=>?_;refine RN 1 E I λa E=>?_;replace I:=I.bN 22 1 none;replace I:=U.iK (f:=a7) I;refine aO (λμ a w=>∃ (i:Nat) (rG:Nat) (xs:List dX) (nF:Option Addr) (c8:Nat),(μ=ls.length-i∧i≤ls.length∧xs.length=i∧(rG=0∨wI)∧rG≤100000∧(r=0→rG=0)∧(∀ (j:Nat) (l:List UInt8) (x:dX),ls[j]?=some l→xs[j]?=some x→wG to l x.2.2)∧(r=0→xs.map (·.2.2)=(iQ b ls to).take i))∧Fr a 84 [(0,pt qb),(2,.int .i64 rG),(3,.int .i64 to),(5,pt b5),(9,.int .i64 (aV ls)),(10,.slice nF i c8),(37,.int .i64 ls.length),(38,.int .i64 i)]∧U W w (Sl 22 1 nF i c8 (xs.map aK)::ah a7 xs::Qu qb aB ls::aa b5 186 (dj b adT cT)::L)) (ls.length) (⟨0,r,[],none,0,⟨rfl,by omega,rfl,qx,hr,λh=>h,λj l x _ h=>by simp at h,λ_=>rfl⟩,E.ab [0,2,3,5,9,10,37,38],(I.sub:U W w (Sl 22 1 none 0 0 []::ah a7 []::Qu qb aB ls::aa b5 186 (dj b adT cT)::L))⟩) ?_;clear E I;rintro μ a w ⟨i,rG,xs,nF,c8,⟨rfl,hi,bV,LJ,LK,LL,nh,uG⟩,E,I⟩;refine IF 3 E I (λao a E=>?_) λao a E=>?_
 ·
  have aH:i<ls.length:=by omega
  have hlt:=hl _ (ux aH);refine CL 7 E I (sZ (I.pick (Qu qb aB ls)) aH) λa w E I=>?_;refine aY 0 E I (Yu I aH hlt) λcY dP a w E I=>?_;refine RN 3 E I λa E=>?_;refine b7 (M:=λa w=>∃ k wJ:Nat,((k=0∨wI)∧k≤100000∧(wJ=0∨wI)∧wJ≤100000∧(r=0→k=0∧wJ=0))∧Fr a 84 [(0,pt qb),(2,.int .i64 wJ),(3,.int .i64 to),(5,pt b5),(9,.int .i64 (aV ls)),(10,.slice nF i c8),(12,.slice cY (ls.getD i []).length dP),(13,.int .i64 k),(37,.int .i64 ls.length),(38,.int .i64 i)]∧U W w (Sl 5 1 cY (ls.getD i []).length dP (bc (ls.getD i []))::Sl 22 1 nF i c8 (xs.map aK)::ah a7 xs::Qu qb aB ls::aa b5 186 (dj b adT cT)::L)) ?_ ?_
  ·
   refine IF 5 E I (λay a E=>?_) λay a E=>?_
   ·
    refine RN 3 E I λa E=>?_;exact⟨rG,0,⟨LJ,LK,.inl rfl,by omega,λh=>⟨LL h,rfl⟩⟩,E.ab [0,2,3,5,9,10,12,13,37,38],I.sub⟩
   refine RN 0 E I λa E=>?_;exact⟨0,rG,⟨.inl rfl,by omega,LJ,LK,λh=>⟨rfl,LL h⟩⟩,E.ab [0,2,3,5,9,10,12,13,37,38],I.sub⟩
  clear E;(try clear I);rintro a w ⟨k,wJ,⟨gX,b9,l8,oj,LM⟩,E,I⟩;refine jN 5 E I (Zv gX b9 I hb hlt s5 (λw' hw=>ht w' hw.tail.tail.tail.tail)) λg3 cl x a w E ⟨⟨Zz,FA⟩,I⟩=>?_;refine RN 0 E I λa E=>?_;refine cn E rfl I underlying207 Ty.t22 rfl rfl rfl rfl (by decide) (by decide) λXM a w E I ho=>?_;clear ho;refine RN 0 E I λa E=>?_;refine cK E rfl I underlying207 Ty.t22 rfl rfl I.ai rfl (by simp[Value.oneCell']) (by decide) (by decide) (by omega) λEH EI a w E I=>?_;rw[show List.map aK xs++_=List.map aK (xs++[(g3,cl,x)]) from by rw[cW];rfl]at I;refine RN 3 E I λa E=>?_;have dv:=U.jL (f:=a7) (x:=(g3,cl,x)) (I.sub (M:=Sl 5 1 g3 x.length cl (bc x)::ah a7 xs::Sl 22 1 EH (i+1) EI ((xs++[(g3,cl,x)]).map aK)::Qu qb aB ls::aa b5 186 (dj b adT cT)::L));refine⟨ls.length-(i+1),by omega,i+1,wJ,xs++[(g3,cl,x)],EH,EI,⟨rfl,by omega,by rw[aL,bV];rfl,l8,oj,λh=>(LM h).2,λj l y hj hy=>?_,λh=>?_⟩,E.ab [0,2,3,5,9,10,37,38],dv.sub⟩
  ·by_cases gM:j<i
   ·rw[lZ (by omega)]at hy;exact nh j l y hj hy
   ·have eh:=(a2.1 hy).1;rw[aL,jj]at eh;obtain rfl:j=i:=by omega
    rw[getElem?_append_right (by omega),bV,Nat.sub_self]at hy;obtain rfl:(g3,cl,x)=y:=by simpa using hy
    rw[show l=ls.getD j [] from by rw[bl,hj];rfl];exact Zz
  ·rw[cW,uG h,iZ (by rw[iQ,a8];exact aH)]
   congr 1
   rw[map_singleton,FA (LM h).1];simp[iQ,bl,aH]
 obtain rfl:i=ls.length:=by omega
 have ij:yz to ls (xs.map (·.2.2)):=⟨by rw[a8];exact bV,λj l x hj hx=>by
  rw[bm]at hx;obtain⟨y,hy,rfl⟩:=Option.map_eq_some_iff.1 hx;exact nh j l y hj hy⟩
 have mz:r=0→xs.map (·.2.2)=iQ b ls to:=λh=>by rw[uG h,fZ (by rw[iQ,a8];exact bd _)]
 clear nh uG;have fo:aV ls≤1000:=by
  obtain⟨l,kL,lg⟩:=AE h0;rw[lg];exact hl l kL
 refine RN 6 E I λa E=>?_;replace I:=I.bN 22 1 none;replace I:=U.iK (f:=a7) I;refine aO (λμ a w=>∃ (d:Nat) (zs:List dX) (mA:Option Addr) (mB:Nat),(μ=to-aV ls-d∧d≤to-aV ls∧zs.map (·.2.2)=(List.range d).map λi=>bI (xs.map (·.2.2)) (aV ls+i))∧Fr a 84 [(3,.int .i64 to),(10,.slice nF ls.length c8),(14,.slice mA d mB),(15,.int .i64 (aV ls+d:Nat))]∧U W w (Sl 22 1 mA d mB (zs.map aK)::ah a7 zs::Sl 22 1 nF ls.length c8 (xs.map aK)::ah a7 xs::Qu qb aB ls::L)) (to-aV ls) (⟨0,[],none,0,⟨rfl,by omega,rfl⟩,by rw[Nat.add_zero];exact E.ab [3,10,14,15],(I.sub:U W w (Sl 22 1 none 0 0 []::ah a7 []::Sl 22 1 nF ls.length c8 (xs.map aK)::ah a7 xs::Qu qb aB ls::L))⟩) ?_;clear E I;rintro μ a w ⟨d,zs,mA,mB,⟨rfl,hd,s9⟩,E,I⟩;refine IF 5 E I (λbk a E=>?_) λbk a E=>?_
 ·
  refine RN 3 E I λa E=>?_;replace I:=I.bN 5 1 none;refine RN 5 E I λa E=>?_;refine aO (λμ a w=>∃ (i:Nat) (iF:Option Addr) (iR:Nat),(μ=ls.length-i∧i≤ls.length)∧Fr a 84 [(3,.int .i64 to),(10,.slice nF ls.length c8),(14,.slice mA d mB),(15,.int .i64 (aV ls+d:Nat)),(16,.slice iF i iR),(65,.slice nF ls.length c8),(66,.int .i64 ls.length),(67,.int .i64 i)]∧U W w (Sl 5 1 iF i iR (bc (fu (xs.map (·.2.2)) (aV ls+d) i))::Sl 22 1 mA d mB (zs.map aK)::ah a7 zs::Sl 22 1 nF ls.length c8 (xs.map aK)::ah a7 xs::Qu qb aB ls::L)) (ls.length) (⟨0,none,0,⟨rfl,by omega⟩,E.ab [3,10,14,15,16,65,66,67],I⟩) ?_;clear E I;rintro μ a w ⟨i,iF,iR,⟨rfl,hi⟩,E,I⟩;refine IF 3 E I (λbL a E=>?_) λbL a E=>?_
  ·
   have aH:i<ls.length:=by omega
   obtain⟨x,hx⟩:∃ x,xs[i]?=some x:=⟨_,aD (by omega)⟩;have AZ:=U.l7 (xs:=xs) (I.sub (M:=Sl 22 1 nF ls.length c8 (xs.map aK)::ah a7 xs::[]));obtain⟨mn,ox,rfl,fD⟩:=AZ.1 (by omega);have yA:=ij.fit i _ x.2.2 (aD aH) (by rw[bm,hx];rfl);obtain⟨lV,ol,gU,gk⟩:=(AZ.2 x (bG hx)).get (by have:=yA.2.1;omega);refine RN 3 E I λa E=>?_;refine SS E (ae E (fD i (aK x) (by rw[bm,hx];rfl))) λa E=>?_;refine RN 4 E I λa E=>?_;rw[aK,gU]at E;refine SX 0 E I (by have:=yA.2.1;omega) λa E=>?_;refine RN 0 E I λa E=>?_;refine SS E (ae E (gk (aV ls+d) _ (kV (by have:=yA.2.1;omega)))) λa E=>?_;refine RN 0 E I λa E=>?_;refine cn E rfl I underlying22 Ty.t5 rfl rfl rfl rfl (by decide) (by decide) λb76 a w E I ho=>?_;clear ho;refine RN 0 E I λa E=>?_;refine cK E rfl I underlying22 Ty.t5 rfl rfl I.ai rfl (en [x.2.2.getD (aV ls+d) 0]) (by decide) (by decide) (by omega) λZA ZB a w E I=>?_;rw[show bc (fu (xs.map (·.2.2)) (aV ls+d) i)++_=bc (fu (xs.map (·.2.2)) (aV ls+d) (i+1)) from by rw[AG (by rw[a8];omega),getElem_map,fF,(a2.1 hx).2]]at I;refine RN 3 E I λa E=>?_;exact⟨ls.length-(i+1),by omega,i+1,ZA,ZB,⟨rfl,by omega⟩,E.ab [3,10,14,15,16,65,66,67],I.sub⟩
  obtain rfl:i=ls.length:=by omega
  have eh:fu (xs.map (·.2.2)) (aV ls+d) ls.length=bI (xs.map (·.2.2)) (aV ls+d):=by
   conv=>lhs;rw[← ij.len]
   exact AF _ _
  rw[eh]at I;have p4:(bI (xs.map (·.2.2)) (aV ls+d)).length=ls.length:=by rw[m3];exact ij.len
  refine RN 2 E I λa E=>?_;refine cn E rfl I underlying207 Ty.t22 rfl rfl rfl rfl (by decide) (by decide) λb81 a w E I ho=>?_;clear ho;refine RN 0 E I λa E=>?_;refine cK E rfl I underlying207 Ty.t22 rfl rfl I.ai rfl (by simp[Value.oneCell']) (by decide) (by decide) (by omega) λLN LO a w E I=>?_;rw[show List.map aK zs++_=List.map aK (zs++[(iF,iR,bI (xs.map (·.2.2)) (aV ls+d))]) from by rw[cW,map_singleton,aK,p4];rfl]at I;refine RN 4 E I λa E=>?_;have dv:=U.jL (f:=a7) (x:=(iF,iR,bI (xs.map (·.2.2)) (aV ls+d))) (by
   rw[a7,p4];exact I.sub (M:=Sl 5 1 iF ls.length iR (bc (bI (xs.map (·.2.2)) (aV ls+d)))::ah a7 zs::Sl 22 1 LN (d+1) LO ((zs++[(iF,iR,bI (xs.map (·.2.2)) (aV ls+d))]).map aK)::Sl 22 1 nF ls.length c8 (xs.map aK)::ah a7 xs::Qu qb aB ls::L))
  exact⟨to-aV ls-(d+1),by omega,d+1,zs++[(iF,iR,bI (xs.map (·.2.2)) (aV ls+d))],LN,LO,⟨rfl,by omega,by rw[cW,s9,range_succ,cW];rfl⟩,by rw[show ((aV ls+(d+1):Nat):Int)=((aV ls+d:Nat):Int)+1 from by omega];exact E.ab [3,10,14,15],dv.sub⟩
 obtain rfl:d=to-aV ls:=by omega
 refine RT 3 E I ?_;exact⟨mA,mB,xs.map (·.2.2),rfl,⟨ij,mz⟩,ca.close (xs:=zs) (I.sub (M:=Sl 22 1 mA (to-aV ls) mB (zs.map aK)::ah a7 zs::Qu qb aB ls::L)) s9 (AY _ _ _)⟩
end
end
section
structure iS where
 pb:Nat
 core:pE
 aq:Option Addr
 cO:Nat
 adT:Option Addr
 cT:Nat
 gs:Gs
abbrev gr (p:Pr)(B:iS)(g:Nat→Int):List Value:=[pt B.core.cb,.string p.title,.slice B.aq p.ops.length B.cO,.int .i64 B.gs.kind,.int .i64 B.gs.order,.slice B.adT B.gs.table.length B.cT]++ints .i32 32 g
theorem LP {w:World}{b:Nat}{p:Pr}{B:iS}{g:Nat→Int}(h:Rd w b 0 (gr p B g)):Rd w b 1 (bO p B.aq B.cO):=h.part 1 2
theorem LQ {w:World}{b:Nat}{p:Pr}{B:iS}{g:Nat→Int}(h:Rd w b 0 (gr p B g)):Rd w b 3 (dj B.gs B.adT B.cT):=h.part 3 3
theorem yB {w:World}{b:Nat}{p:Pr}{B:iS}{g:Nat→Int}(h:Rd w b 0 (gr p B g)):Rd w b 6 (ints .i32 32 g):=by
 have h1:=h.part 6 32
 rwa [show ((gr p B g).drop 6).take 32=ints .i32 32 g from by
  show (ints .i32 32 g).take 32=_;exact fZ (by rw[de];exact bd _)]at h1
theorem LR (p:Pr)(B:iS)(g:Nat→Int):(gr p B g).length=38:=by rw[gr,aL,de];rfl
theorem ZC (p:Pr)(B:iS)(g g':Nat→Int):cG (gr p B g) 6 (ints .i32 32 g')=gr p B g':=by
 rw[cG,de,drop_eq_nil_of_le (by rw[LR];exact bd _),append_nil,gr,gr]
 congr 1
def aQ (W:World)(B:iS)(p:Pr)(s:Pl):SP:=λh=>cj [aa B.pb 192 (gr p B s.g),az B.core s.k,aA W p B.aq B.cO,Sl 5 1 B.adT B.gs.table.length B.cT (bc B.gs.table)] h
def fx (p:Pr)(gs:Gs)(s:Pl):List UInt8×Nat:=if aE s.k≤aw s.k then ly s else (gm (foldI p (aw s.k) s.g (ds gs s.k.ls (aE s.k))),aE s.k)
section
variable {W w:World}{L R:List SP}{n c i:Nat}{ad:Option Addr}{B:iS}{x:UInt8}{p:Pr}{s:Pl}{bs:List UInt8}
theorem aQ.open (I:U W w (aQ W B p s::L)):U W w (aa B.pb 192 (gr p B s.g)::az B.core s.k::aA W p B.aq B.cO::Sl 5 1 B.adT B.gs.table.length B.cT (bc B.gs.table)::L) :=
 I.open (M:=[_,_,_,_]) λ_ h=>h
theorem aQ.close (I:U W w (aa B.pb 192 (gr p B s.g)::az B.core s.k::aA W p B.aq B.cO::Sl 5 1 B.adT B.gs.table.length B.cT (bc B.gs.table)::L)):U W w (aQ W B p s::L) :=
 U.shut (M:=[_,_,_,_]) I λ_ h=>h
theorem aQ.fold (I:U W w L)(B:iS)(p:Pr)(s:Pl)[kk:fC L [aa B.pb 192 (gr p B s.g),az B.core s.k,aA W p B.aq B.cO,Sl 5 1 B.adT B.gs.table.length B.cT (bc B.gs.table)] R]:U W w (aQ W B p s::R):=aQ.close (I.perm kk.perm)
theorem nG (I:U W w (aQ W B p s::L)):Calls prog 178 #[pt B.pb] w λr w'=>r=.returned (pt B.core.cb)∧U W w' (aQ W B p s::L):=by
 replace I:=aQ.open I;refine EN func178 ntmps178 rfl rfl λa E=>?_;refine RN 6 E I λa E=>?_;replace E:=E.aM 4;refine RT 7 E I ?_;exact⟨rfl,aQ.close I⟩
theorem FG (I:U W w (aQ W B p s::L))(hw:WP p s)(a6:di p)(aG:p.title.size≤1000000000):Calls prog 99 #[pt B.pb] w λr w'=>r=.returned (.tuple #[])∧U W w' (aQ W B p (et p s)::L):=by
 refine EN func99 ntmps99 rfl rfl λa E=>?_;refine RN 0 E I λa E=>?_;refine aO (λμ a w=>∃ (i:Nat),(μ=aw s.k-s.k.mr.length-i∧i≤aw s.k-s.k.mr.length)∧Fr a 56 [(0,pt B.pb)]∧U W w (aQ W B p (iu p i s)::L)) (aw s.k-s.k.mr.length) (⟨0,⟨rfl,by omega⟩,E.ab [0],I⟩) ?_;clear E I;rintro μ a w ⟨i,⟨rfl,hi⟩,E,I⟩;obtain⟨j8,eP,l6⟩:=hw.qs i hi;have eJ:iu p (i+1) s=nE p (iu p i s):=EZ p i s;have CP:=hw.low;have vF:aw (iu p i s).k=aw s.k:=by rw[aw,eP];rfl
 generalize FH:iu p i s=si at I j8 eP l6 eJ vF;replace I:=aQ.open I;have bB:=j8.wc.kY;have hL:si.k.ls.length≤8:=by rw[j8.wc.ls];exact j8.wc.n.2
 have ZD:aw si.k≤1000:=fA j8.wc.m6 j8.wc.lv;refine aX 2 (λw0 w'=>w'.cell? ⟨B.pb,0,none⟩=some (pt B.core.cb)) [4,8] [0,1,2,5,6,7,3003,3008,1004,1009,1010,11] E I λa w E I hH=>?_;have hC:=hH.at w (I.bz (b:=B.pb) rfl);refine RH 6 E I hH hC λa E=>?_;refine QH E (λw hc=>ae E (hc)) hC λa E=>?_;refine QH E (λw hc=>ae E (hc)) hC λa E=>?_;refine RH 0 E I hH hC λa E=>?_;refine CL 0 E I (K8 (I.pick (az B.core si.k))) λa w E I=>?_;replace hC:=hH.at w (I.bz (b:=B.pb) rfl);refine RH 0 E I hH hC λa E=>?_;refine CL 0 E I (oB (I.pick (az B.core si.k))) λa w E I=>?_;obtain⟨D,I,hD⟩:=az.qu I;refine CL 0 E I (rA I bB hL) λa w E I=>?_;refine RN 1 E I λa E=>?_;replace I:=hD _ _ I;replace I:=I.sub (M:=aa B.pb 192 (gr p B si.g)::az B.core si.k::aA W p B.aq B.cO::Sl 5 1 B.adT B.gs.table.length B.cT (bc B.gs.table)::L);refine IF 0 E I (λaj a E=>?_) λaj a E=>?_
 ·
  have qa:si.k.mr.length<aV si.k.ls:=by omega
  have ZE:si.k.mr.length<aw si.k:=qa;refine CL 5 E I (K8 (I.pick (az B.core si.k))) λa w E I=>?_;refine CL 6 E I (oB (I.pick (az B.core si.k))) λa w E I=>?_;refine RN 1 E I λa E=>?_;obtain⟨D,I,hD⟩:=az.qu I;refine aY 0 E I (Yv I bB qa hL) λiF iR a w E I=>?_;refine RN 5 E I λa E=>?_;replace I:=hD _ _ (I.sub (M:=Qu B.core.qb B.core.aB si.k.ls::D::Sl 5 1 iF (bI si.k.ls si.k.mr.length).length iR (bc (bI si.k.ls si.k.mr.length))::aa B.pb 192 (gr p B si.g)::aA W p B.aq B.cO::Sl 5 1 B.adT B.gs.table.length B.cT (bc B.gs.table)::L));have eh:=m3 si.k.ls si.k.mr.length;refine aX 1 (λw0 w'=>Rd w' B.pb 0 (gr p B si.g)) [8] [0,1,2,3,5,6,7,9,10,3004,1008,1011,12,13,1014] E I λa w E I hH=>?_;have hC:=hH.at w (I.ai (b:=B.pb));refine RH 9 E I hH hC λa E=>?_;refine QH E (λw hc=>bR E underlying45 rfl Ty.t45 (LP hc)) hC λa E=>?_;refine RH 0 E I hH hC λa E=>?_;refine SS E (bR E underlying183 rfl Ty.t183 (yB hC)) λa E=>?_;refine RH 0 E I hH hC λa E=>?_;refine CL 0 E I (Lu (b:=bI si.k.ls si.k.mr.length) (fr:=si.k.mr.length) (I.pick (aA W p B.aq B.cO)) a6 aG (j8.pD a6) (by omega) (λw' hw=>(hw.pick (Sl 5 1 iF (bI si.k.ls si.k.mr.length).length iR (bc (bI si.k.ls si.k.mr.length)))).cr iF _ rfl rfl)) λa w E I=>?_;refine RN 2 E I λa E=>?_;refine qJ E rfl I Ty.t183 tF (by rw[de,LR];decide) λa w E I=>?_;rw[ZC]at I;refine aX 0 (λw0 w'=>Rd w' B.pb 0 (gr p B (eZ p si.k.mr.length (bI si.k.ls si.k.mr.length) si.g))) [7,8] [0,1,2,4,5,6,3003,1007,1008,1009] E I λa w E I hH=>?_;have hC:=hH.at w (I.ai (b:=B.pb));refine RH 6 E I hH hC λa E=>?_;refine QH E (λw hc=>ae E (hc 0 _ rfl)) hC λa E=>?_;refine RH 0 E I hH hC λa E=>?_;refine SS E (bR E underlying183 rfl Ty.t183 (yB hC)) λa E=>?_;refine RH 0 E I hH hC λa E=>?_;refine CL 0 E I (Yg I) λa w E I=>?_;replace hC:=hH.at w (I.ai (b:=B.pb));refine RH 0 E I hH hC λa E=>?_;refine CL 0 E I (YO (I.pick (az B.core si.k)) j8.wc (by omega) (D6 _)) λa w E I=>?_;refine RN 0 E I λa E=>?_;exact⟨aw s.k-s.k.mr.length-(i+1),by omega,i+1,⟨rfl,by omega⟩,E.ab [0],by
   rw[eJ];show U W w (aQ W B p ⟨lu si.k (ji (gm (eZ p si.k.mr.length (bI si.k.ls si.k.mr.length) si.g))),eZ p si.k.mr.length (bI si.k.ls si.k.mr.length) si.g⟩::L);exact (aQ.fold I B p ⟨lu si.k (ji (gm (eZ p si.k.mr.length (bI si.k.ls si.k.mr.length) si.g))),eZ p si.k.mr.length (bI si.k.ls si.k.mr.length) si.g⟩).sub⟩
 refine RT 0 E I ?_;obtain rfl:i=aw s.k-s.k.mr.length:=by
  have:aV si.k.ls=aw si.k:=rfl;omega
 refine⟨rfl,?_⟩;rw[et,FH];exact aQ.close I
theorem LS (I:U W w (aQ W B p s::L))(hw:cu p s)(a6:di p)(aG:p.title.size≤1000000000):Calls prog 282 #[pt B.pb,.int .u8 (x.toNat:Nat)] w λr w'=>r=.returned (.int .i64 (dF p x s).1)∧U W w' (aQ W B p (dF p x s).2::L):=by
 have h1:=uA x s.k;have ll:=hw.toWP.more (hw.wc.al x) (hw.held.al x) h1.1 h1.2;refine EN func282 ntmps282 rfl rfl λa E=>?_;refine CL 4 E I (nG I) λa w E I=>?_;refine RN 1 E I λa E=>?_;replace I:=aQ.open I;refine CL 0 E I (YQ (x:=x) (I.pick (az B.core s.k)) hw.wc) λa w E I=>?_;replace I:=(aQ.fold I B p ⟨(cZ x s.k).2,s.g⟩);refine RN 1 E I λa E=>?_;refine b7 (M:=λa w=>Fr a 15 [(5,.int .i64 (dF p x s).1)]∧U W w (aQ W B p (dF p x s).2::L)) ?_ ?_
 ·
  refine IF 3 E I (λaj a E=>?_) λaj a E=>?_
  ·
   refine CL 1 E I (FG I ll a6 aG) λa w E I=>?_;refine RN 0 E I λa E=>?_;exact⟨E.ab [5],I⟩
  refine RN 0 E I λa E=>?_;have he:(dF p x s).2=⟨(cZ x s.k).2,s.g⟩:=by
   show et p _=_;rw[uz aj];exact hw.et
  rw[he];exact⟨E.ab [5],I⟩
 clear E;(try clear I);rintro a w ⟨E,I⟩;refine RT 3 E I ?_;exact⟨rfl,I⟩
theorem LU (I:U W w (aQ W B p s::L))(hw:cu p s)(a6:di p)(aG:p.title.size≤1000000000)(hb:bs.length≤65536)(hc:bs.length≤c)(hp:∀ w',U W w' L→aT w' ad bs.length bs) :
   Calls prog 284 #[pt B.pb,.slice ad bs.length c] w λr w'=>r=.returned (.int .i64 (dG p bs s).1)∧U W w' (aQ W B p (dG p bs s).2::L):=by
 have h1:=rD bs s.k;have ll:=hw.toWP.more (hw.wc.recv bs).1 ((hw.wc.recv bs).2 hw.held) h1.1 h1.2;refine EN func284 ntmps284 rfl rfl λa E=>?_;refine CL 4 E I (nG I) λa w E I=>?_;refine RN 1 E I λa E=>?_;replace I:=aQ.open I;refine CL 0 E I (YY (bs:=bs) (ad:=ad) (c:=c) (I.pick (az B.core s.k)) hw.wc hb hc (λw' dd=>hp w' dd.tail.tail.tail)) λa w E I=>?_;replace I:=(aQ.fold I B p ⟨(dx bs s.k).2,s.g⟩);refine RN 1 E I λa E=>?_;refine b7 (M:=λa w=>Fr a 15 [(5,.int .i64 (dG p bs s).1)]∧U W w (aQ W B p (dG p bs s).2::L)) ?_ ?_
 ·
  refine IF 3 E I (λaj a E=>?_) λaj a E=>?_
  ·
   refine CL 1 E I (FG I ll a6 aG) λa w E I=>?_;refine RN 0 E I λa E=>?_;exact⟨E.ab [5],I⟩
  refine RN 0 E I λa E=>?_;have he:(dG p bs s).2=⟨(dx bs s.k).2,s.g⟩:=by
   show et p _=_;rw[wx aj];exact hw.et
  rw[he];exact⟨E.ab [5],I⟩
 clear E;(try clear I);rintro a w ⟨E,I⟩;refine RT 3 E I ?_;exact⟨rfl,I⟩
theorem LV (I:U W w (aQ W B p s::L))(hw:cu p s)(oV:s.k.now≤1000000):Calls prog 285 #[pt B.pb] w λr w'=>∃ ad c,r=.returned (.slice ad (bo s.k).1.length c)∧U W w' (ch 124 ad (bo s.k).1.length c (bo s.k).1::aQ W B p ⟨(bo s.k).2,s.g⟩::L):=by
 refine EN func285 ntmps285 rfl rfl λa E=>?_;refine CL 4 E I (nG I) λa w E I=>?_;replace I:=aQ.open I;refine aY 0 E I (YW (I.pick (az B.core s.k)) hw.wc oV) λad c a w E I=>?_;refine RT 1 E I ?_;exact⟨ad,c,rfl,(aQ.fold I B p ⟨(bo s.k).2,s.g⟩).sub⟩
theorem LW (I:U W w (aQ W B p s::L))(hw:cu p s):Calls prog 283 #[pt B.pb] w λr w'=>∃ ad c,r=.returned (.slice ad (cx s.k).1.length c)∧U W w' (ch 124 ad (cx s.k).1.length c (cx s.k).1::aQ W B p ⟨(cx s.k).2,s.g⟩::L):=by
 refine EN func283 ntmps283 rfl rfl λa E=>?_;refine CL 4 E I (nG I) λa w E I=>?_;replace I:=aQ.open I;refine aY 0 E I (YV (I.pick (az B.core s.k)) hw.wc) λad c a w E I=>?_;refine RT 1 E I ?_;exact⟨ad,c,rfl,(aQ.fold I B p ⟨(cx s.k).2,s.g⟩).sub⟩
theorem LX (I:U W w (aQ W B p s::L)):Calls prog 281 #[pt B.pb] w λr w'=>∃ ad c,r=.returned (.slice ad s.k.ev.length c)∧U W w' (Sl 135 1 ad s.k.ev.length c (s.k.ev.map cA)::aQ W B p ⟨{ s.k with ev:=[] },s.g⟩::L):=by
 refine EN func281 ntmps281 rfl rfl λa E=>?_;refine CL 4 E I (nG I) λa w E I=>?_;replace I:=aQ.open I;refine aY 0 E I (YP (I.pick (az B.core s.k))) λad c a w E I=>?_;refine RT 1 E I ?_;exact⟨ad,c,rfl,(aQ.fold I B p ⟨{ s.k with ev:=[] },s.g⟩).sub⟩
theorem LY (I:U W w (aQ W B p s::L)):Calls prog 141 #[pt B.pb] w λr w'=>r=.returned (.bool s.k.cl)∧U W w' (aQ W B p s::L):=by
 refine EN func141 ntmps141 rfl rfl λa E=>?_;refine CL 4 E I (nG I) λa w E I=>?_;replace I:=aQ.open I;refine CL 0 E I (yp (I.pick (az B.core s.k))) λa w E I=>?_;refine RT 1 E I ?_;exact⟨rfl,(aQ.fold I B p s).sub⟩
theorem LZ (I:U W w (aQ W B p s::L))(hw:cu p s):Calls prog 273 #[pt B.pb] w λr w'=>∃ ad c,r=.returned (.tuple #[.slice ad 128 c,.int .i64 (ly s).2])∧U W w' (Sl 5 1 ad 128 c (bc (ly s).1)::aQ W B p s::L):=by
 replace I:=aQ.open I;have bB:=hw.wc.kY;have hL:s.k.ls.length≤8:=by rw[hw.wc.ls];exact hw.wc.n.2
 refine EN func273 ntmps273 rfl rfl λa E=>?_;refine RN 7 E I λa E=>?_;replace E:=E.aM 5;refine aX 2 (λw0 w'=>Rd w' B.pb 0 (gr p B s.g)) [4,8] [0,1,2,5,6,7,3003,3008,1004,1009,1010,11,12] E I λa w E I hH=>?_;have hC:=hH.at w (I.ai (b:=B.pb));refine RH 6 E I hH hC λa E=>?_;refine QH E (λw hc=>bR E underlying183 rfl Ty.t183 (yB hc)) hC λa E=>?_;refine QH E (λw hc=>ae E (hc 0 _ rfl)) hC λa E=>?_;refine RH 0 E I hH hC λa E=>?_;refine aY 0 E I (yh I) λad c a w E I=>?_;replace hC:=hH.at w (I.ai (b:=B.pb));refine RH 0 E I hH hC λa E=>?_;refine CL 0 E I (oB (I.pick (az B.core s.k))) λa w E I=>?_;obtain⟨D,I,hD⟩:=az.qu I;refine CL 0 E I (rA I bB hL) λa w E I=>?_;refine RN 2 E I λa E=>?_;replace I:=hD _ _ I;refine RT 0 E I ?_;exact⟨ad,c,rfl,(aQ.fold I B p s).sub (M:=Sl 5 1 ad 128 c (bc (gm s.g))::aQ W B p s::L)⟩
theorem L1 (I:U W w (aQ W B p s::L))(hw:cu p s)(a6:di p)(aG:p.title.size≤1000000000)(fy:cX B.gs):Calls prog 276 #[pt B.pb] w λr w'=>∃ ad c,r=.returned (.tuple #[.slice ad 128 c,.int .i64 (fx p B.gs s).2])∧U W w' (Sl 5 1 ad 128 c (bc (fx p B.gs s).1)::aQ W B p s::L):=by
 have bB:=hw.wc.kY;have hL:s.k.ls.length≤8:=by rw[hw.wc.ls];exact hw.wc.n.2
 have gP:=hw.wc.lv;have fo:aV s.k.ls≤aE s.k:=hw.wc.m6;refine EN func276 ntmps276 rfl rfl λa E=>?_;refine CL 5 E I (nG I) λa w E I=>?_;replace I:=aQ.open I;refine CL 0 E I (oB (I.pick (az B.core s.k))) λa w E I=>?_;obtain⟨D,I,hD⟩:=az.qu I;refine CL 0 E I (rA I bB hL) λa w E I=>?_;refine RN 1 E I λa E=>?_;replace I:=(aQ.fold (hD _ _ I) B p s);refine RN 5 E I λa E=>?_;replace E:=E.aM 11;refine RN 3 E I λa E=>?_;replace I:=aQ.open I;refine CL 1 E I (s3 (I.pick (az B.core s.k)) hw.wc) λa w E I=>?_;replace I:=(aQ.fold I B p s);refine IF 3 E I (λaj a E=>?_) λaj a E=>?_
 ·
  refine aY 2 E I (LZ I hw) λad c a w E I=>?_;refine RT 4 E I ?_;refine⟨ad,c,?_,?_⟩
  ·rw[fx,ak (by rw[aw];omega)]
  ·rw[fx,ak (by rw[aw];omega)];exact I
 refine RN 1 E I λa E=>?_;replace I:=aQ.open I;refine aX 0 (λw0 w'=>Rd w' B.pb 0 (gr p B s.g)) [7,12,13,17,21,22,23,24,25,29] [0,1,2,4,5,6,8,9,10,11,14,15,16,18,19,20,26,27,28,3003,3007,3012,3017,3021,3029,1013,1022,1023,1024,1025,1030,31,32] E I λa w E I hH=>?_;have hC:=hH.at w (I.ai (b:=B.pb));refine RH 19 E I hH hC λa E=>?_;refine QH E (λw hc=>bR E underlying45 rfl Ty.t45 (LP hc)) hC λa E=>?_;refine QH E (λw hc=>bR E underlying183 rfl Ty.t183 (yB hc)) hC λa E=>?_;refine QH E (λw hc=>ae E (hc 0 _ rfl)) hC λa E=>?_;refine QH E (λw hc=>bR E underlying186 rfl Ty.t186 (LQ hc)) hC λa E=>?_;refine QH E (λw hc=>ae E (hc 0 _ rfl)) hC λa E=>?_;refine QH E (λw hc=>ae E (hc 0 _ rfl)) hC λa E=>?_;refine RH 0 E I hH hC λa E=>?_;refine CL 0 E I (oB (I.pick (az B.core s.k))) λa w E I=>?_;replace hC:=hH.at w (I.ai (b:=B.pb));refine RH 0 E I hH hC λa E=>?_;refine CL 0 E I (s3 (I.pick (az B.core s.k)) hw.wc) λa w E I=>?_;replace hC:=hH.at w (I.ai (b:=B.pb));obtain⟨D,I,hD⟩:=az.qu I;refine RH 0 E I hH hC λa E=>?_;refine jN 0 E I (FF (r:=0) (to:=aE s.k) (.inl rfl) (by decide) I fy bB hL hw.wc.m5 gP (λw' dd=>(dd.pick (Sl 5 1 B.adT B.gs.table.length B.cT (bc B.gs.table))).cr B.adT _ rfl rfl)) λfQ gg X a w E ⟨⟨ta,ij⟩,I⟩=>?_;replace hC:=hH.at w (I.ai (b:=B.pb));have mz:=ij rfl;subst mz;rw[wH]at I;have hS:(ds B.gs s.k.ls (aE s.k)).length=aE s.k-aV s.k.ls:=wo _ _ _;have mC:∀ b∈ds B.gs s.k.ls (aE s.k),b.length≤1099511627776:=λb hb=>by
  rw[ds,cV]at hb;obtain⟨i,_,rfl⟩:=hb;rw[m3,iQ,a8];omega
 obtain⟨zs,cU,eK,I⟩:=ca.open I;rw[← hS]at E I;refine RH 0 E I hH hC λa E=>?_;refine CL 0 E I (Lw (P:=ds B.gs s.k.ls (aE s.k)) (zs:=zs) (fr:=aV s.k.ls) (L:=Sl 22 1 fQ (ds B.gs s.k.ls (aE s.k)).length gg (zs.map aK)::ah a7 zs::Qu B.core.qb B.core.aB s.k.ls::D::aa B.pb 192 (gr p B s.g)::Sl 5 1 B.adT B.gs.table.length B.cT (bc B.gs.table)::L) (I.sub (M:=aA W p B.aq B.cO::Sl 22 1 fQ (ds B.gs s.k.ls (aE s.k)).length gg (zs.map aK)::ah a7 zs::Qu B.core.qb B.core.aB s.k.ls::D::aa B.pb 192 (gr p B s.g)::Sl 5 1 B.adT B.gs.table.length B.cT (bc B.gs.table)::L)) a6 aG (hw.pD a6) ⟨by omega,mC⟩ (by omega) cU (λw' dd=>U.l7 (dd.sub (M:=Sl 22 1 fQ (ds B.gs s.k.ls (aE s.k)).length gg (zs.map aK)::ah a7 zs::[])))) λa w E I=>?_;replace hC:=hH.at w (I.ai (b:=B.pb));refine RH 0 E I hH hC λa E=>?_;refine aY 0 E I (yh I) λad2 c2 a w E I=>?_;replace hC:=hH.at w (I.ai (b:=B.pb));replace I:=hD _ _ (I.sub (M:=Qu B.core.qb B.core.aB s.k.ls::D::Sl 5 1 ad2 128 c2 (bc (gm (foldI p (aV s.k.ls) s.g (ds B.gs s.k.ls (aE s.k)))))::aa B.pb 192 (gr p B s.g)::aA W p B.aq B.cO::Sl 5 1 B.adT B.gs.table.length B.cT (bc B.gs.table)::L));refine RH 0 E I hH hC λa E=>?_;refine CL 0 E I (s3 I hw.wc) λa w E I=>?_;refine RN 2 E I λa E=>?_;refine RT 0 E I ?_;refine⟨ad2,c2,?_,?_⟩
 ·rw[fx,ag (by rw[aw];omega)]
 ·rw[fx,ag (by rw[aw];omega)];exact (aQ.fold I B p s).sub (M:=Sl 5 1 ad2 128 c2 (bc (gm (foldI p (aV s.k.ls) s.g (ds B.gs s.k.ls (aE s.k)))))::aQ W B p s::L)
end
theorem L2 {cf:Cf}(h:eQ cf):∃ (n me aJ br:Nat),cf=⟨n,me,cf.id,aJ,br,cf.bf,cf.order,cf.ct,cf.workers,cf.room⟩:=by
 obtain⟨⟨h1,h2,h3⟩,⟨h4,h5,h6,h7⟩,h8,h9,e9,lk⟩:=h;simp only[fv] at *;refine⟨cf.n.toNat,cf.me.toNat,cf.aJ.toNat,cf.br.toNat,?_⟩;rw[Int.toNat_of_nonneg (by omega),Int.toNat_of_nonneg (by omega),Int.toNat_of_nonneg (by omega),Int.toNat_of_nonneg (by omega)]
section
variable {W w:World}{L:List SP}{cP cT n me aJ br:Nat}{adP adT:Option Addr}{p:Pr}{tb:List UInt8}{cf:Cf}{id bf order ct workers room:Int}
theorem ZF (I:U W w (aA W p adP cP::L))(h:¬ eQ cf)(eG:tb.length≤1099511627776)(hT:∀ w',U W w' (aA W p adP cP::L)→aT w' adT tb.length tb) :
   Calls prog 60 #[.agg (bS cf).toArray,.agg (bO p adP cP).toArray,.slice adT tb.length cT] w λr w'=>r=.returned (.tuple #[.pointer none,.int .i64 1])∧U W w' (aA W p adP cP::L):=by
 refine EN func60 ntmps60 rfl rfl λa E=>?_;refine BX 1 E I λb3 a w E I=>?_;change U W w (aa b3 28 (bS cf)::_) at I;refine BX 0 E I λb4 a w E I=>?_;change U W w (aa b4 45 (bO p adP cP)::_) at I;refine RN 2 E I λa E=>?_;refine b7 (M:=λa w=>∃ (b8:Nat) (eb:Option Addr) (dE:Nat),Fr a 48 [(3,pt b3),(4,pt b4),(8,pt b8)]∧U W w (aa b8 186 (dj ⟨cf.bf,cf.order,tb⟩ eb dE)::Sl 5 1 eb tb.length dE (bc tb)::aa b3 28 (bS cf)::aa b4 45 (bO p adP cP)::aA W p adP cP::L)) ?_ ?_
 ·
  refine aX 0 (λw0 w'=>Rd w' b3 0 (bS cf)) [3,5,7] [0,2,4,3001,3003,2005,6,1007,1008] E I λa w E I hH=>?_;have hC:=hH.at w (I.ai (b:=b3));refine RH 3 E I hH hC λa E=>?_;refine QH E (λw hc=>ae E (hc 5 _ rfl)) hC λa E=>?_;refine QH E (λw hc=>ae E (hc 6 _ rfl)) hC λa E=>?_;refine RH 0 E I hH hC λa E=>?_;refine DN [(5,[6,1007,1008]),(7,[1005,6,1008])] (by kernel_rfl) rfl ⟨⟨_,rfl,?_⟩,⟨_,rfl,?_⟩,trivial⟩
  ·
   refine RH 0 E I hH hC λa E=>?_;refine aY 0 E I (se (bs:=tb) I (λw' hw=>hT w' hw.sub) eG) λeb dE a w E I=>?_;replace hC:=hH.at w (I.ai (b:=b3));refine RH 1 E I hH hC λa E=>?_;refine eU E rfl I Ty.t186 rfl λb8 a w E I ho=>?_;clear ho;replace hC:=hH.at w (I.ai (b:=b3));refine RH 0 E I hH hC λa E=>?_;refine SA 0 E I λa w E I=>?_;refine RN 0 E I λa E=>?_;exact⟨_,eb,dE,E.ab [3,4,8],I.sub (M:=aa b8 186 [.int .i64 cf.bf,.int .i64 cf.order,.slice eb tb.length dE]::Sl 5 1 eb tb.length dE (bc tb)::aa b3 28 (bS cf)::aa b4 45 (bO p adP cP)::aA W p adP cP::L)⟩
  refine RH 0 E I hH hC λa E=>?_;refine eU E rfl I Ty.t186 rfl λb8 a w E I ho=>?_;clear ho;replace hC:=hH.at w (I.ai (b:=b3));refine RH 0 E I hH hC λa E=>?_;refine aY 0 E I (se (bs:=tb) I (λw' hw=>hT w' hw.sub) eG) λeb dE a w E I=>?_;replace hC:=hH.at w (I.ai (b:=b3));refine RH 1 E I hH hC λa E=>?_;refine SA 0 E I λa w E I=>?_;refine RN 0 E I λa E=>?_;exact⟨_,eb,dE,E.ab [3,4,8],I.sub (M:=aa b8 186 [.int .i64 cf.bf,.int .i64 cf.order,.slice eb tb.length dE]::Sl 5 1 eb tb.length dE (bc tb)::aa b3 28 (bS cf)::aa b4 45 (bO p adP cP)::aA W p adP cP::L)⟩
 clear E;(try clear I);rintro a w ⟨b8,eb,dE,E,I⟩;refine CL 2 E I (YM I h) λa w E I=>?_;refine RN 9 E I λa E=>?_;rw[show decide ((1:Int)≠0)=true from rfl]at E;refine RN 1 E I λa E=>?_;replace E:=E.eg 26;refine RT 13 E I ?_;exact⟨rfl,I.sub⟩
theorem ZG (I:U W w (aA W p adP cP::L))(hm:eQ ⟨n,me,id,aJ,br,bf,order,ct,workers,room⟩)(h:¬ (di p∧cX ⟨bf,order,tb⟩))(aG:p.title.size≤1000000000)(dU:p.ops.length≤1000000000)(eG:tb.length≤1099511627776)(hT:∀ w',U W w' (aA W p adP cP::L)→aT w' adT tb.length tb) :
   Calls prog 60 #[.agg (bS ⟨n,me,id,aJ,br,bf,order,ct,workers,room⟩).toArray,.agg (bO p adP cP).toArray,.slice adT tb.length cT] w λr w'=>r=.returned (.tuple #[.pointer none,.int .i64 1])∧U W w' (aA W p adP cP::L):=by
 obtain⟨cf,c9⟩:∃ cf:Cf,cf=⟨n,me,id,aJ,br,bf,order,ct,workers,room⟩:=⟨_,rfl⟩;rw[← c9];have hg:cf.bf=bf∧cf.order=order:=by rw[c9];exact⟨rfl,rfl⟩
 refine EN func60 ntmps60 rfl rfl λa E=>?_;refine BX 1 E I λb3 a w E I=>?_;change U W w (aa b3 28 (bS cf)::_) at I;refine BX 0 E I λb4 a w E I=>?_;change U W w (aa b4 45 (bO p adP cP)::_) at I;refine RN 2 E I λa E=>?_;refine b7 (M:=λa w=>∃ (b8:Nat) (eb:Option Addr) (dE:Nat),Fr a 48 [(3,pt b3),(4,pt b4),(8,pt b8)]∧U W w (aa b8 186 (dj ⟨cf.bf,cf.order,tb⟩ eb dE)::Sl 5 1 eb tb.length dE (bc tb)::aa b3 28 (bS cf)::aa b4 45 (bO p adP cP)::aA W p adP cP::L)) ?_ ?_
 ·
  refine aX 0 (λw0 w'=>Rd w' b3 0 (bS cf)) [3,5,7] [0,2,4,3001,3003,2005,6,1007,1008] E I λa w E I hH=>?_;have hC:=hH.at w (I.ai (b:=b3));refine RH 3 E I hH hC λa E=>?_;refine QH E (λw hc=>ae E (hc 5 _ rfl)) hC λa E=>?_;refine QH E (λw hc=>ae E (hc 6 _ rfl)) hC λa E=>?_;refine RH 0 E I hH hC λa E=>?_;refine DN [(5,[6,1007,1008]),(7,[1005,6,1008])] (by kernel_rfl) rfl ⟨⟨_,rfl,?_⟩,⟨_,rfl,?_⟩,trivial⟩
  ·
   refine RH 0 E I hH hC λa E=>?_;refine aY 0 E I (se (bs:=tb) I (λw' hw=>hT w' hw.sub) eG) λeb dE a w E I=>?_;replace hC:=hH.at w (I.ai (b:=b3));refine RH 1 E I hH hC λa E=>?_;refine eU E rfl I Ty.t186 rfl λb8 a w E I ho=>?_;clear ho;replace hC:=hH.at w (I.ai (b:=b3));refine RH 0 E I hH hC λa E=>?_;refine SA 0 E I λa w E I=>?_;refine RN 0 E I λa E=>?_;exact⟨_,eb,dE,E.ab [3,4,8],I.sub (M:=aa b8 186 [.int .i64 cf.bf,.int .i64 cf.order,.slice eb tb.length dE]::Sl 5 1 eb tb.length dE (bc tb)::aa b3 28 (bS cf)::aa b4 45 (bO p adP cP)::aA W p adP cP::L)⟩
  refine RH 0 E I hH hC λa E=>?_;refine eU E rfl I Ty.t186 rfl λb8 a w E I ho=>?_;clear ho;replace hC:=hH.at w (I.ai (b:=b3));refine RH 0 E I hH hC λa E=>?_;refine aY 0 E I (se (bs:=tb) I (λw' hw=>hT w' hw.sub) eG) λeb dE a w E I=>?_;replace hC:=hH.at w (I.ai (b:=b3));refine RH 1 E I hH hC λa E=>?_;refine SA 0 E I λa w E I=>?_;refine RN 0 E I λa E=>?_;exact⟨_,eb,dE,E.ab [3,4,8],I.sub (M:=aa b8 186 [.int .i64 cf.bf,.int .i64 cf.order,.slice eb tb.length dE]::Sl 5 1 eb tb.length dE (bc tb)::aa b3 28 (bS cf)::aa b4 45 (bO p adP cP)::aA W p adP cP::L)⟩
 clear E;(try clear I);rintro a w ⟨b8,eb,dE,E,I⟩;refine RN 2 E I λa E=>?_;rw[c9]at E;refine bh 0 E I (K4 I hm) λBc a w E I=>?_;refine RN 9 E I λa E=>?_;rw[show decide ((0:Int)≠0)=false from rfl]at E;refine RN 1 E I λa E=>?_;replace E:=E.aM 26;refine bh 1 E I (DH (I.pick (aA W p adP cP)) aG dU) λrc a w E ⟨jD,I⟩=>?_;refine BY 3 E I (λjC a E=>?_) λjC a E=>?_
 ·
  refine RT 8 E I ?_;exact⟨rfl,I.sub⟩
 refine bh 1 E I (yx I) λZH a w E ⟨fb,I⟩=>?_;refine IF 2 E I (λaj a E=>?_) λaj a E=>?_
 ·
  refine RT 3 E I ?_;exact⟨rfl,I.sub⟩
 exact absurd ⟨jD.1 jC,by have:=fb.1 aj;rw[hg.1,hg.2]at this;exact this⟩ h
theorem L3 (I:U W w (aA W p adP cP::L))(hm:eQ ⟨n,me,id,aJ,br,bf,order,ct,workers,room⟩)(a6:di p)(fy:cX ⟨bf,order,tb⟩)(aG:p.title.size≤1000000000)(dU:p.ops.length≤1000000000)(eG:tb.length≤1099511627776)(hT:∀ w',U W w' (aA W p adP cP::L)→aT w' adT tb.length tb) :
   Calls prog 60 #[.agg (bS ⟨n,me,id,aJ,br,bf,order,ct,workers,room⟩).toArray,.agg (bO p adP cP).toArray,.slice adT tb.length cT] w λr w'=>∃ B:iS,r=.returned (.tuple #[pt B.pb,.int .i64 0])∧B.gs=⟨bf,order,tb⟩ ∧
    U W w' (aQ W B p (eu p ⟨n,me,id,aJ,br,bf,order,ct,workers,room⟩)::aA W p adP cP::L):=by
 obtain⟨cf,c9⟩:∃ cf:Cf,cf=⟨n,me,id,aJ,br,bf,order,ct,workers,room⟩:=⟨_,rfl⟩;rw[← c9];have hg:cf.bf=bf∧cf.order=order:=by rw[c9];exact⟨rfl,rfl⟩
 have afk:1≤p.ops.length∧p.ops.length≤64:=⟨a6.1.2.1,a6.1.2.2.1⟩;refine EN func60 ntmps60 rfl rfl λa E=>?_;refine BX 1 E I λb3 a w E I=>?_;change U W w (aa b3 28 (bS cf)::_) at I;refine BX 0 E I λb4 a w E I=>?_;change U W w (aa b4 45 (bO p adP cP)::_) at I;refine RN 2 E I λa E=>?_;refine b7 (M:=λa w=>∃ (b8:Nat) (eb:Option Addr) (dE:Nat),Fr a 48 [(3,pt b3),(4,pt b4),(8,pt b8)]∧U W w (aa b8 186 (dj ⟨cf.bf,cf.order,tb⟩ eb dE)::Sl 5 1 eb tb.length dE (bc tb)::aa b3 28 (bS cf)::aa b4 45 (bO p adP cP)::aA W p adP cP::L)) ?_ ?_
 ·
  refine aX 0 (λw0 w'=>Rd w' b3 0 (bS cf)) [3,5,7] [0,2,4,3001,3003,2005,6,1007,1008] E I λa w E I hH=>?_;have hC:=hH.at w (I.ai (b:=b3));refine RH 3 E I hH hC λa E=>?_;refine QH E (λw hc=>ae E (hc 5 _ rfl)) hC λa E=>?_;refine QH E (λw hc=>ae E (hc 6 _ rfl)) hC λa E=>?_;refine RH 0 E I hH hC λa E=>?_;refine DN [(5,[6,1007,1008]),(7,[1005,6,1008])] (by kernel_rfl) rfl ⟨⟨_,rfl,?_⟩,⟨_,rfl,?_⟩,trivial⟩
  ·
   refine RH 0 E I hH hC λa E=>?_;refine aY 0 E I (se (bs:=tb) I (λw' hw=>hT w' hw.sub) eG) λeb dE a w E I=>?_;replace hC:=hH.at w (I.ai (b:=b3));refine RH 1 E I hH hC λa E=>?_;refine eU E rfl I Ty.t186 rfl λb8 a w E I ho=>?_;clear ho;replace hC:=hH.at w (I.ai (b:=b3));refine RH 0 E I hH hC λa E=>?_;refine SA 0 E I λa w E I=>?_;refine RN 0 E I λa E=>?_;exact⟨_,eb,dE,E.ab [3,4,8],I.sub (M:=aa b8 186 [.int .i64 cf.bf,.int .i64 cf.order,.slice eb tb.length dE]::Sl 5 1 eb tb.length dE (bc tb)::aa b3 28 (bS cf)::aa b4 45 (bO p adP cP)::aA W p adP cP::L)⟩
  refine RH 0 E I hH hC λa E=>?_;refine eU E rfl I Ty.t186 rfl λb8 a w E I ho=>?_;clear ho;replace hC:=hH.at w (I.ai (b:=b3));refine RH 0 E I hH hC λa E=>?_;refine aY 0 E I (se (bs:=tb) I (λw' hw=>hT w' hw.sub) eG) λeb dE a w E I=>?_;replace hC:=hH.at w (I.ai (b:=b3));refine RH 1 E I hH hC λa E=>?_;refine SA 0 E I λa w E I=>?_;refine RN 0 E I λa E=>?_;exact⟨_,eb,dE,E.ab [3,4,8],I.sub (M:=aa b8 186 [.int .i64 cf.bf,.int .i64 cf.order,.slice eb tb.length dE]::Sl 5 1 eb tb.length dE (bc tb)::aa b3 28 (bS cf)::aa b4 45 (bO p adP cP)::aA W p adP cP::L)⟩
 clear E;(try clear I);rintro a w ⟨b8,eb,dE,E,I⟩;refine RN 2 E I λa E=>?_;rw[c9]at E;refine bh 0 E I (K4 I hm) λBc a w E I=>?_;rw[← c9]at I;refine RN 9 E I λa E=>?_;rw[show decide ((0:Int)≠0)=false from rfl]at E;refine RN 1 E I λa E=>?_;replace E:=E.aM 26;refine bh 1 E I (DH (I.pick (aA W p adP cP)) aG dU) λrc a w E ⟨jD,I⟩=>?_;rw[jD.2 a6]at E;refine RN 1 E I λa E=>?_;rw[show (!true)=false from rfl]at E;refine RN 2 E I λa E=>?_;replace E:=E.aM 31;refine bh 1 E I (yx I) λZH a w E ⟨fb,I⟩=>?_;rw[fb.2 (by rw[hg.1,hg.2];exact fy)]at E;refine RN 2 E I λa E=>?_;replace E:=E.aM 35;refine RN 2 E I λa E=>?_;replace I:=I.bN 114 4 none;rw[bO]at I;refine RN 2 E I λa E=>?_;refine gY E rfl I underlying43 Ty.t114 rfl rfl (by decide) (λh0=>(I.pick (aA W p adP cP)).q6 adP h0) (by rw[iY Df]) (zh I5 _) (by omega) λn0 n1 a w E I=>?_;rw[nil_append,Nat.zero_add]at I;rw[Nat.zero_add]at E;refine ST 1 E I (λa w E I=>?_);refine RN 0 E I λa E=>?_;replace I:U W w (aa b4 45 [.string p.title,.slice n0 p.ops.length n1]::Sl 114 4 n0 p.ops.length n1 (rows dN p.ops)::_):=I;refine RN 4 E I λa E=>?_;simp only[dj]at E;refine BX 1 E I λuH a w E I=>?_;refine RN 1 E I λa E=>?_;replace I:=(I.pick (Sl 114 4 n0 p.ops.length n1 (rows dN p.ops))).Dh;replace I:U W w (aa uH 192 (gr p ⟨uH,Bc,n0,n1,eb,dE,⟨cf.bf,cf.order,tb⟩⟩ oy)::az Bc (ff cf)::aA W p n0 n1::Sl 5 1 eb tb.length dE (bc tb)::aA W p adP cP::L):=by
  have dv:U W w (aA W p n0 n1::_):=I;have tK:=dv.jI uH;exact U.sub (M:=_::az Bc (ff cf)::aA W p n0 n1::Sl 5 1 eb tb.length dE (bc tb)::aA W p adP cP::L) (show U W w (aa uH 192 (gr p ⟨uH,Bc,n0,n1,eb,dE,⟨cf.bf,cf.order,tb⟩⟩ oy)::_) from tK)
 replace I:=aQ.fold I ⟨uH,Bc,n0,n1,eb,dE,⟨cf.bf,cf.order,tb⟩⟩ p ⟨ff cf,oy⟩;refine CL 2 E I (FG I (wA (by rw[c9];exact hm)) a6 aG) λa w E I=>?_;refine RT 4 E I ?_;exact⟨⟨uH,Bc,n0,n1,eb,dE,⟨cf.bf,cf.order,tb⟩⟩,rfl,by rw[hg.1,hg.2],I⟩
end
end
section
structure yC (W:World)(L:List SP)(f:FuncId)(us:List Value):Prop where
 c:g7 prog f=true
 h:∀ {w:World} {M:List SP} {x y:UInt8},U W w M→(∀ {w'},U W w' M→U W w' L)→Calls prog f (List.toArray (.int .u8 (x.toNat:Nat)::.int .u8 (y.toNat:Nat)::us)) w λe w'=>∃ z:Int,e=.returned (.int .i64 z)∧U W w' M
abbrev g5 (bb oo m c:Nat)(xs:List UInt8):SP:=Sl 5 1 (some ⟨bb,oo,none⟩) m c (bc xs)
abbrev sv (bb oo m c:Nat):Value:=.slice (some ⟨bb,oo,none⟩) m c
abbrev kj (f:FuncId)(us:List Value):Value:=.func (.func f) #[] us.toArray
theorem tc (bs:List UInt8)(i:Nat)(x:UInt8):(bc bs).set i (.int .u8 (x.toNat:Int))=bc (bs.set i x):=by rw[bc,bc,List.map_set]
theorem A4 {n:Nat}(h:n≤9223372036854775807):IntKind.u64.wrap (n:Int)=n:=by rw[wrap_u64];omega
section
variable {W w:World}{L:List SP}{bb oo m c lo up f n k:Nat}{us:List Value}{xs:List UInt8}
theorem L5 (I:U W w (g5 bb oo m c xs::L))(hF:yC W L f us)(hx:xs.length=m)(hb:up≤m)(hm:m≤1000)(ZI:lo≤m) :
   Calls prog 340 #[sv bb oo m c,.int .i64 lo,.int .i64 up,kj f us] w λe w'=>∃ ys:List UInt8,e=.returned (.tuple #[])∧ys.length=m∧U W w' (g5 bb oo m c ys::L):=by
 refine EN func340 ntmps340 rfl rfl λa E=>?_;refine RN 4 E I λa E=>?_;refine aO (λμ a w=>∃ (i:Nat) (ys:List UInt8),(μ=up-i∧lo<i∧ys.length=m)∧Fr a 53 [(0,sv bb oo m c),(1,.int .i64 lo),(2,.int .i64 up),(3,kj f us),(8,.int .i64 i)]∧U W w (g5 bb oo m c ys::L)) (up-(lo+1)) (⟨lo+1,xs,⟨rfl,by omega,hx⟩,E.ab [0,1,2,3,8],I⟩) ?_;clear E I;rintro μ a w ⟨i,ys,⟨rfl,hi,hy⟩,E,I⟩;refine IF 5 E I (λaj a E=>?_) λaj a E=>?_
 ·
  have Zo:i<m:=by omega
  refine RN 4 E I λa E=>?_;refine aO (λμ a w=>∃ (j:Nat) (zs:List UInt8),(μ=j∧j≤i∧zs.length=m)∧Fr a 53 [(0,sv bb oo m c),(1,.int .i64 lo),(2,.int .i64 up),(3,kj f us),(8,.int .i64 i),(9,.int .i64 j)]∧U W w (g5 bb oo m c zs::L)) (i) (⟨i,ys,⟨rfl,bd _,hy⟩,E.ab [0,1,2,3,8,9],I⟩) ?_;clear E I;rintro μ a w ⟨j,zs,⟨xL,hj,hz⟩,E,I⟩;have L6:j<zs.length:=by omega
  have L7:j-1<zs.length:=by omega
  refine bP 2 [13] [0,1,2,3,4,5,6,7,9,10,11,12,3008,1013,1014,15,16] E I λa w E I hH hC=>?_;have hr:Rd w bb oo (bc zs):=I.cJ bb oo (by omega);refine RH 4 E I hH hC λa E=>?_;refine E.by (s:=21) (λbW E=>?_) (λbW E=>?_)
  ·
   refine RH 7 E I hH hC λa E=>?_;rw[show (j:Int)-1=((j-1:Nat):Int) from by omega]at E;refine RH 1 E I hH hC λa E=>?_;refine QH E (λw hc=>ae E (hc.cell (hr j _ (dJ L6)))) hC λa E=>?_;refine RH 0 E I hH hC λa E=>?_;refine bt E (cm E rfl (s:=21)) (ae E (hr (j-1) _ (dJ L7))) rfl λa E=>?_;refine RH 0 E I hH hC λa E=>?_;refine bh 0 E I (hF.h I λh=>h.tail) (hf:=hF.c) λz a w E I=>?_;refine RN 2 E I λa E=>?_;refine IF 0 E I (λao a E=>?_) λao a E=>?_
   ·
    refine bP 1 [13] [0,1,2,3,4,5,6,7,8,10,11,12,3009,1013,14,1015,16,1017] E I λa w E I hH hC=>?_;have hr:Rd w bb oo (bc zs):=I.cJ bb oo (by omega);refine RH 5 E I hH hC λa E=>?_;rw[show (j:Int)-1=((j-1:Nat):Int) from by omega]at E;refine RH 3 E I hH hC λa E=>?_;rw[show (j:Int)-1=((j-1:Nat):Int) from by omega]at E;refine RH 4 E I hH hC λa E=>?_;refine QH E (λw hc=>ae E (hc.cell (hr (j-1) _ (dJ L7)))) hC λa E=>?_;refine RH 0 E I hH hC λa E=>?_;refine SS E (ae E (hr j _ (dJ L6))) λa E=>?_;refine RH 1 E I hH hC λa E=>?_;refine l3 (off:=oo) (k:=j) E rfl I Ty.t5 rfl (by omega) (by rw[dk];omega) λa w E I=>?_;rw[tc]at I;refine RN 1 E I λa E=>?_;refine l3 (off:=oo) (k:=j-1) E rfl I Ty.t5 rfl (by omega) (by rw[dk,bu];omega) λa w E I=>?_;rw[tc]at I;refine RN 2 E I λa E=>?_;rw[show (j:Int)-1=((j-1:Nat):Int) from by omega]at E;refine RN 1 E I λa E=>?_;exact⟨j-1,by omega,j-1,_,⟨rfl,by omega,by simp[hz]⟩,E.ab [0,1,2,3,8,9],I⟩
   refine RN 3 E I λa E=>?_;exact⟨up-(i+1),by omega,i+1,zs,⟨rfl,by omega,hz⟩,E.ab [0,1,2,3,8],I⟩
  refine RH 13 E I hH hC λa E=>?_;refine RN 4 E I λa E=>?_;exact⟨up-(i+1),by omega,i+1,zs,⟨rfl,by omega,hz⟩,E.ab [0,1,2,3,8],I⟩
 refine RT 0 E I ?_;exact⟨ys,rfl,hy,I⟩
theorem FI (I:U W w (g5 bb oo m c xs::L))(hx:xs.length=m)(h1:lo+n≤m)(h2:up+n≤m)(hm:m≤1000) :
   Calls prog 344 #[sv bb oo m c,.int .i64 lo,.int .i64 up,.int .i64 n,kj f us] w λe w'=>∃ ys:List UInt8,e=.returned (.tuple #[])∧ys.length=m∧U W w' (g5 bb oo m c ys::L):=by
 refine EN func344 ntmps344 rfl rfl λa E=>?_;refine RN 2 E I λa E=>?_;refine aO (λμ a w=>∃ (i:Nat) (zs:List UInt8),(μ=n-i∧i≤n∧zs.length=m)∧Fr a 38 [(0,sv bb oo m c),(1,.int .i64 lo),(2,.int .i64 up),(3,.int .i64 n),(10,.int .i64 i)]∧U W w (g5 bb oo m c zs::L)) (n) (⟨0,xs,⟨rfl,Nat.zero_le _,hx⟩,E.ab [0,1,2,3,10],I⟩) ?_;clear E I;rintro μ a w ⟨i,zs,⟨rfl,hi,hz⟩,E,I⟩;refine IF 5 E I (λaj a E=>?_) λaj a E=>?_
 ·
  have kL:lo+i<zs.length:=by omega
  have lg:up+i<zs.length:=by omega
  refine bP 1 [19] [0,1,2,3,4,5,6,7,8,9,10,11,12,14,15,16,17,18,3013,1019,20,1021,22,1023] E I λa w E I hH hC=>?_;have hr:Rd w bb oo (bc zs):=I.cJ bb oo (by omega);refine RH 18 E I hH hC λa E=>?_;refine QH E (λw hc=>ae E (hc.cell (hr (up+i) _ (dJ lg)))) hC λa E=>?_;refine RH 0 E I hH hC λa E=>?_;refine SS E (ae E (hr (lo+i) _ (dJ kL))) λa E=>?_;refine RH 1 E I hH hC λa E=>?_;refine l3 (off:=oo) (k:=lo+i) E rfl I Ty.t5 rfl (by omega) (by rw[dk];omega) λa w E I=>?_;rw[tc]at I;refine RN 1 E I λa E=>?_;refine l3 (off:=oo) (k:=up+i) E rfl I Ty.t5 rfl (by omega) (by rw[dk,bu];omega) λa w E I=>?_;rw[tc]at I;refine RN 3 E I λa E=>?_;exact⟨n-(i+1),by omega,i+1,_,⟨rfl,by omega,by simp[hz]⟩,E.ab [0,1,2,3,10],I⟩
 refine RT 0 E I ?_;exact⟨zs,rfl,hz,I⟩
theorem rotate (I:U W w (g5 bb oo m c xs::L))(hx:xs.length=m)(h1:lo<k)(h2:k<up)(h3:up≤m)(hm:m≤1000) :
   Calls prog 343 #[sv bb oo m c,.int .i64 lo,.int .i64 k,.int .i64 up,kj f us] w λe w'=>∃ ys:List UInt8,e=.returned (.tuple #[])∧ys.length=m∧U W w' (g5 bb oo m c ys::L):=by
 refine EN func343 ntmps343 rfl rfl λa E=>?_;refine RN 4 E I λa E=>?_;rw[show (k:Int)-(lo:Int)=((k-lo:Nat):Int) from by omega]at E;refine RN 5 E I λa E=>?_;rw[show (up:Int)-(k:Int)=((up-k:Nat):Int) from by omega]at E;refine RN 2 E I λa E=>?_;refine aO (λμ a w=>∃ (i j:Nat) (zs:List UInt8),(μ=i+j∧(1≤i∧1≤j)∧(i≤k∧k+j≤m)∧zs.length=m)∧Fr a 58 [(0,sv bb oo m c),(2,.int .i64 k),(4,kj f us),(10,.int .i64 i),(11,.int .i64 j)]∧U W w (g5 bb oo m c zs::L)) (k-lo+(up-k)) (⟨k-lo,up-k,xs,⟨rfl,⟨by omega,by omega⟩,⟨by omega,by omega⟩,hx⟩,E.ab [0,2,4,10,11],I⟩) ?_;clear E I;rintro μ a w ⟨i,j,zs,⟨rfl,⟨hi,hj⟩,⟨pc,uI⟩,hz⟩,E,I⟩;refine IF 5 E I (λaj a E=>?_) λaj a E=>?_
 ·
  refine IF 4 E I (λao a E=>?_) λao a E=>?_
  ·
   refine RN 5 E I λa E=>?_;rw[show (k:Int)-(i:Int)=((k-i:Nat):Int) from by omega]at E;refine bh 3 E I (FI I hz (by omega) (by omega) hm) λys a w E ⟨hy,I⟩=>?_;refine RN 3 E I λa E=>?_;rw[show (i:Int)-(j:Int)=((i-j:Nat):Int) from by omega]at E;refine RN 1 E I λa E=>?_;exact⟨i-j+j,by omega,i-j,j,ys,⟨rfl,⟨by omega,by omega⟩,⟨by omega,by omega⟩,hy⟩,E.ab [0,2,4,10,11],I⟩
  refine RN 5 E I λa E=>?_;rw[show (k:Int)-(i:Int)=((k-i:Nat):Int) from by omega]at E;refine RN 5 E I λa E=>?_;rw[show (k:Int)+(j:Int)-(i:Int)=((k+j-i:Nat):Int) from by omega]at E;refine bh 2 E I (FI I hz (by omega) (by omega) hm) λys a w E ⟨hy,I⟩=>?_;refine RN 3 E I λa E=>?_;rw[show (j:Int)-(i:Int)=((j-i:Nat):Int) from by omega]at E;refine RN 1 E I λa E=>?_;exact⟨i+(j-i),by omega,i,j-i,ys,⟨rfl,⟨by omega,by omega⟩,⟨by omega,by omega⟩,hy⟩,E.ab [0,2,4,10,11],I⟩
 refine RN 4 E I λa E=>?_;rw[show (k:Int)-(i:Int)=((k-i:Nat):Int) from by omega]at E;refine bh 3 E I (FI I hz (by omega) (by omega) hm) λys a w E ⟨hy,I⟩=>?_;refine RT 0 E I ?_;exact⟨ys,rfl,hy,I⟩
theorem L8 (hF:yC W L f us)(hm:m≤1000):∀ (d:Nat) {w:World} {xs:List UInt8} {lo k up:Nat},up-lo≤d→xs.length=m→lo<k→k<up→up≤m→U W w (g5 bb oo m c xs::L) →
   Calls prog 341 #[sv bb oo m c,.int .i64 lo,.int .i64 k,.int .i64 up,kj f us] w λe w'=>∃ ys:List UInt8,e=.returned (.tuple #[])∧ys.length=m∧U W w' (g5 bb oo m c ys::L):=by
 intro d
 induction d with
 | zero=>intro w xs lo k up hd hx h1 h2 h3 I;omega
 | succ d ih =>
  intro w xs lo k up hd hx h1 h2 h3 I;refine EN func341 ntmps341 rfl rfl λa E=>?_;refine RN 5 E I λa E=>?_;rw[show (k:Int)-(lo:Int)=((k-lo:Nat):Int) from by omega]at E;refine IF 1 E I (λaj a E=>?_) λaj a E=>?_
  ·
   refine RN 7 E I λa E=>?_;refine aO (λμ a w=>∃ (i j:Nat),(μ=j-i∧(k≤i∧i≤j)∧j≤up)∧Fr a 220 [(0,sv bb oo m c),(1,.int .i64 lo),(2,.int .i64 k),(4,kj f us),(10,.int .i64 i),(11,.int .i64 j)]∧U W w (g5 bb oo m c xs::L)) (up-k) (⟨k,up,⟨rfl,⟨bd _,by omega⟩,bd _⟩,E.ab [0,1,2,4,10,11],I⟩) ?_;clear E I;rintro μ a w ⟨i,j,⟨rfl,⟨hi,nV⟩,hj⟩,E,I⟩;refine IF 5 E I (λao a E=>?_) λao a E=>?_
   ·
    have lN:(i+j)/2<xs.length:=by omega
    have ic:lo<xs.length:=by omega
    refine RN 4 E I λa E=>?_;rw[show (i:Int)+(j:Int)=((i+j:Nat):Int) from rfl]at E;refine SX 0 E I (A4 (by omega)) λa E=>?_;refine RN 1 E I λa E=>?_;rw[show (((i+j:Nat):Int).fdiv (2 ^ 1))=(((i+j)/2:Nat):Int) from kQ (i+j) 2]at E;refine SX 0 E I (fY (by omega) (by omega)) λa E=>?_;refine bP 2 [8] [0,1,2,3,5,6,7,3004,1008,1009,10] E I λa w E I hH hC=>?_;have hr:Rd w bb oo (bc xs):=I.cJ bb oo (by omega);refine RH 7 E I hH hC λa E=>?_;refine QH E (λw hc=>ae E (hc.cell (hr ((i+j)/2) _ (dJ lN)))) hC λa E=>?_;refine RH 0 E I hH hC λa E=>?_;refine SS E (ae E (hr lo _ (dJ ic))) λa E=>?_;refine RH 0 E I hH hC λa E=>?_;refine bh 0 E I (hF.h I λh=>h.tail) (hf:=hF.c) λz a w E I=>?_;refine RN 1 E I λa E=>?_;refine IF 0 E I (λay a E=>?_) λay a E=>?_
    ·
     refine RN 3 E I λa E=>?_;exact⟨j-((i+j)/2+1),by omega,(i+j)/2+1,j,⟨rfl,⟨by omega,by omega⟩,hj⟩,E.ab [0,1,2,4,10,11],I⟩
    refine RN 2 E I λa E=>?_;exact⟨(i+j)/2-i,by omega,i,(i+j)/2,⟨rfl,⟨hi,by omega⟩,by omega⟩,E.ab [0,1,2,4,10,11],I⟩
   refine RN 4 E I λa E=>?_;refine aO (λμ a w=>∃ (q:Nat) (zs:List UInt8),(μ=i-q∧lo≤q∧zs.length=m)∧Fr a 220 [(0,sv bb oo m c),(10,.int .i64 i),(13,.int .i64 q)]∧U W w (g5 bb oo m c zs::L)) (i-lo) (⟨lo,xs,⟨rfl,bd _,hx⟩,E.ab [0,10,13],I⟩) ?_;clear E I;rintro μ a w ⟨q,zs,⟨rfl,hq,hz⟩,E,I⟩;refine RN 5 E I λa E=>?_;rw[show (i:Int)-1=((i-1:Nat):Int) from by omega]at E;refine IF 1 E I (λbk a E=>?_) λbk a E=>?_
   ·
    have cU:q<zs.length:=by omega
    have eK:q+1<zs.length:=by omega
    refine bP 1 [13] [0,1,2,3,4,5,6,7,8,10,11,12,3009,1013,14,1015,16,1017] E I λa w E I hH hC=>?_;have hr:Rd w bb oo (bc zs):=I.cJ bb oo (by omega);refine RH 12 E I hH hC λa E=>?_;refine QH E (λw hc=>ae E (hc.cell (hr (q+1) _ (dJ eK)))) hC λa E=>?_;refine RH 0 E I hH hC λa E=>?_;refine SS E (ae E (hr q _ (dJ cU))) λa E=>?_;refine RH 1 E I hH hC λa E=>?_;refine l3 (off:=oo) (k:=q) E rfl I Ty.t5 rfl (by omega) (by rw[dk];omega) λa w E I=>?_;rw[tc]at I;refine RN 1 E I λa E=>?_;refine l3 (off:=oo) (k:=q+1) E rfl I Ty.t5 rfl (by omega) (by rw[dk,bu];omega) λa w E I=>?_;rw[tc]at I;refine RN 3 E I λa E=>?_;exact⟨i-(q+1),by omega,q+1,_,⟨rfl,by omega,by simp[hz]⟩,E.ab [0,10,13],I⟩
   refine RT 0 E I ?_;exact⟨zs,rfl,hz,I⟩
  refine RN 5 E I λa E=>?_;rw[show (up:Int)-(k:Int)=((up-k:Nat):Int) from by omega]at E;refine IF 1 E I (λbL a E=>?_) λbL a E=>?_
  ·
   refine RN 7 E I λa E=>?_;refine aO (λμ a w=>∃ (i j:Nat),(μ=j-i∧(lo≤i∧i≤j)∧j≤k)∧Fr a 220 [(0,sv bb oo m c),(2,.int .i64 k),(4,kj f us),(14,.int .i64 i),(15,.int .i64 j)]∧U W w (g5 bb oo m c xs::L)) (k-lo) (⟨lo,k,⟨rfl,⟨bd _,by omega⟩,bd _⟩,E.ab [0,2,4,14,15],I⟩) ?_;clear E I;rintro μ a w ⟨i,j,⟨rfl,⟨hi,nV⟩,hj⟩,E,I⟩;refine IF 5 E I (λeO a E=>?_) λeO a E=>?_
   ·
    have lN:(i+j)/2<xs.length:=by omega
    have ic:k<xs.length:=by omega
    refine RN 4 E I λa E=>?_;rw[show (i:Int)+(j:Int)=((i+j:Nat):Int) from rfl]at E;refine SX 0 E I (A4 (by omega)) λa E=>?_;refine RN 1 E I λa E=>?_;rw[show (((i+j:Nat):Int).fdiv (2 ^ 1))=(((i+j)/2:Nat):Int) from kQ (i+j) 2]at E;refine SX 0 E I (fY (by omega) (by omega)) λa E=>?_;refine bP 2 [8] [0,1,2,3,5,6,7,3004,1008,1009,10,11] E I λa w E I hH hC=>?_;have hr:Rd w bb oo (bc xs):=I.cJ bb oo (by omega);refine RH 7 E I hH hC λa E=>?_;refine QH E (λw hc=>ae E (hc.cell (hr k _ (dJ ic)))) hC λa E=>?_;refine RH 0 E I hH hC λa E=>?_;refine SS E (ae E (hr ((i+j)/2) _ (dJ lN))) λa E=>?_;refine RH 0 E I hH hC λa E=>?_;refine bh 0 E I (hF.h I λh=>h.tail) (hf:=hF.c) λz a w E I=>?_;refine RN 2 E I λa E=>?_;refine IF 0 E I (λmS a E=>?_) λmS a E=>?_
    ·
     refine RN 3 E I λa E=>?_;exact⟨j-((i+j)/2+1),by omega,(i+j)/2+1,j,⟨rfl,⟨by omega,by omega⟩,hj⟩,E.ab [0,2,4,14,15],I⟩
    refine RN 2 E I λa E=>?_;exact⟨(i+j)/2-i,by omega,i,(i+j)/2,⟨rfl,⟨hi,by omega⟩,by omega⟩,E.ab [0,2,4,14,15],I⟩
   refine RN 4 E I λa E=>?_;refine aO (λμ a w=>∃ (q:Nat) (zs:List UInt8),(μ=q∧q≤k∧zs.length=m)∧Fr a 220 [(0,sv bb oo m c),(14,.int .i64 i),(17,.int .i64 q)]∧U W w (g5 bb oo m c zs::L)) (k) (⟨k,xs,⟨rfl,bd _,hx⟩,E.ab [0,14,17],I⟩) ?_;clear E I;rintro μ a w ⟨q,zs,⟨xL,hq,hz⟩,E,I⟩;refine IF 5 E I (λmj a E=>?_) λmj a E=>?_
   ·
    have cU:q<zs.length:=by omega
    have eK:q-1<zs.length:=by omega
    refine bP 1 [13] [0,1,2,3,4,5,6,7,8,10,11,12,3009,1013,14,1015,16,1017] E I λa w E I hH hC=>?_;have hr:Rd w bb oo (bc zs):=I.cJ bb oo (by omega);refine RH 5 E I hH hC λa E=>?_;rw[show (q:Int)-1=((q-1:Nat):Int) from by omega]at E;refine RH 3 E I hH hC λa E=>?_;rw[show (q:Int)-1=((q-1:Nat):Int) from by omega]at E;refine RH 4 E I hH hC λa E=>?_;refine QH E (λw hc=>ae E (hc.cell (hr (q-1) _ (dJ eK)))) hC λa E=>?_;refine RH 0 E I hH hC λa E=>?_;refine SS E (ae E (hr q _ (dJ cU))) λa E=>?_;refine RH 1 E I hH hC λa E=>?_;refine l3 (off:=oo) (k:=q) E rfl I Ty.t5 rfl (by omega) (by rw[dk];omega) λa w E I=>?_;rw[tc]at I;refine RN 1 E I λa E=>?_;refine l3 (off:=oo) (k:=q-1) E rfl I Ty.t5 rfl (by omega) (by rw[dk,bu];omega) λa w E I=>?_;rw[tc]at I;refine RN 2 E I λa E=>?_;rw[show (q:Int)-1=((q-1:Nat):Int) from by omega]at E;refine RN 1 E I λa E=>?_;exact⟨q-1,by omega,q-1,_,⟨rfl,by omega,by simp[hz]⟩,E.ab [0,14,17],I⟩
   refine RT 0 E I ?_;exact⟨zs,rfl,hz,I⟩
  refine RN 4 E I λa E=>?_;rw[show (lo:Int)+(up:Int)=((lo+up:Nat):Int) from rfl]at E;refine SX 0 E I (A4 (by omega)) λa E=>?_;refine RN 1 E I λa E=>?_;rw[show (((lo+up:Nat):Int).fdiv (2 ^ 1))=(((lo+up)/2:Nat):Int) from kQ (lo+up) 2]at E;refine SX 0 E I (fY (by omega) (by omega)) λa E=>?_;refine RN 1 E I λa E=>?_;obtain⟨g6,Ds⟩:∃ g6,g6=(lo+up)/2:=⟨_,rfl⟩;rw[← Ds]at E;refine RN 8 E I λa E=>?_;refine b7 (M:=λa w=>∃ s r:Nat,((lo≤s∧g6+k≤s+up)∧s≤r∧r≤g6∧r≤k)∧Fr a 220 [(0,sv bb oo m c),(1,.int .i64 lo),(2,.int .i64 k),(3,.int .i64 up),(4,kj f us),(18,.int .i64 g6),(19,.int .i64 ((g6:Int)+k)),(20,.int .i64 s),(21,.int .i64 r)]∧U W w (g5 bb oo m c xs::L)) ?_ ?_
  ·
   refine IF 4 E I (λml a E=>?_) λml a E=>?_
   ·
    refine RN 4 E I λa E=>?_;rw[show (g6:Int)+(k:Int)-(up:Int)=((g6+k-up:Nat):Int) from by omega]at E;refine RN 3 E I λa E=>?_;exact⟨g6+k-up,g6,⟨⟨by omega,by omega⟩,by omega,by omega,by omega⟩,E.ab [0,1,2,3,4,18,19,20,21],I⟩
   refine RN 5 E I λa E=>?_;exact⟨lo,k,⟨⟨by omega,by omega⟩,by omega,by omega,by omega⟩,E.ab [0,1,2,3,4,18,19,20,21],I⟩
  clear E;(try clear I);rintro a w ⟨wK,A5,⟨⟨nP,dv⟩,tK,ZJ,ph⟩,E,I⟩;refine RN 3 E I λa E=>?_;rw[show (g6:Int)+(k:Int)-1=((g6+k-1:Nat):Int) from by omega]at E;refine RN 2 E I λa E=>?_;refine aO (λμ a w=>∃ (s r:Nat),(μ=r-s∧(lo≤s∧g6+k≤s+up)∧s≤r∧r≤g6∧r≤k)∧Fr a 220 [(0,sv bb oo m c),(1,.int .i64 lo),(2,.int .i64 k),(3,.int .i64 up),(4,kj f us),(18,.int .i64 g6),(19,.int .i64 ((g6:Int)+k)),(20,.int .i64 s),(21,.int .i64 r),(22,.int .i64 ((g6+k-1:Nat):Int))]∧U W w (g5 bb oo m c xs::L)) (A5-wK) (⟨wK,A5,⟨rfl,⟨nP,dv⟩,tK,ZJ,ph⟩,E.ab [0,1,2,3,4,18,19,20,21,22],I⟩) ?_;clear E I;rintro μ a w ⟨s,r,⟨rfl,⟨g1,jy⟩,nq,nr,qm⟩,E,I⟩;refine IF 5 E I (λjW a E=>?_) λjW a E=>?_
  ·
   have lN:(s+r)/2<xs.length:=by omega
   have ic:g6+k-1-(s+r)/2<xs.length:=by omega
   refine RN 4 E I λa E=>?_;rw[show (s:Int)+(r:Int)=((s+r:Nat):Int) from rfl]at E;refine SX 0 E I (A4 (by omega)) λa E=>?_;refine RN 1 E I λa E=>?_;rw[show (((s+r:Nat):Int).fdiv (2 ^ 1))=(((s+r)/2:Nat):Int) from kQ (s+r) 2]at E;refine SX 0 E I (fY (by omega) (by omega)) λa E=>?_;refine bP 2 [10] [0,1,2,3,4,5,7,8,9,3006,1010,1011,12,13] E I λa w E I hH hC=>?_;have hr:Rd w bb oo (bc xs):=I.cJ bb oo (by omega);refine RH 5 E I hH hC λa E=>?_;rw[show ((g6+k-1:Nat):Int)-(((s+r)/2:Nat):Int)=((g6+k-1-(s+r)/2:Nat):Int) from by omega]at E;refine RH 4 E I hH hC λa E=>?_;refine QH E (λw hc=>ae E (hc.cell (hr (g6+k-1-(s+r)/2) _ (dJ ic)))) hC λa E=>?_;refine RH 0 E I hH hC λa E=>?_;refine SS E (ae E (hr ((s+r)/2) _ (dJ lN))) λa E=>?_;refine RH 0 E I hH hC λa E=>?_;refine bh 0 E I (hF.h I λh=>h.tail) (hf:=hF.c) λz a w E I=>?_;refine RN 2 E I λa E=>?_;refine IF 0 E I (λvS a E=>?_) λvS a E=>?_
   ·
    refine RN 3 E I λa E=>?_;exact⟨r-((s+r)/2+1),by omega,(s+r)/2+1,r,⟨rfl,⟨by omega,by omega⟩,by omega,nr,qm⟩,E.ab [0,1,2,3,4,18,19,20,21,22],I⟩
   refine RN 2 E I λa E=>?_;exact⟨(s+r)/2-s,by omega,s,(s+r)/2,⟨rfl,⟨g1,jy⟩,by omega,by omega,by omega⟩,E.ab [0,1,2,3,4,18,19,20,21,22],I⟩
  refine RN 4 E I λa E=>?_;rw[show (g6:Int)+(k:Int)-(s:Int)=((g6+k-s:Nat):Int) from by omega]at E;refine RN 1 E I λa E=>?_;refine b7 (M:=λa w=>∃ zs:List UInt8,zs.length=m∧Fr a 220 [(0,sv bb oo m c),(1,.int .i64 lo),(3,.int .i64 up),(4,kj f us),(18,.int .i64 g6),(20,.int .i64 s),(24,.int .i64 ((g6+k-s:Nat):Int))]∧U W w (g5 bb oo m c zs::L)) ?_ ?_
  ·
   refine BY 5 E I (λbW a E=>?_) λbW a E=>?_
   ·
    refine IF 4 E I (λsF a E=>?_) λsF a E=>?_
    ·
     refine bh 5 E I (rotate I hx (by omega) (by omega) (by omega) hm) λys a w E ⟨hy,I⟩=>?_;refine RN 0 E I λa E=>?_;exact⟨ys,hy,E.ab [0,1,3,4,18,20,24],I⟩
    refine RN 0 E I λa E=>?_;exact⟨xs,hx,E.ab [0,1,3,4,18,20,24],I⟩
   refine RN 5 E I λa E=>?_;exact⟨xs,hx,E.ab [0,1,3,4,18,20,24],I⟩
  clear E;(try clear I);rintro a w ⟨zs,hz,E,I⟩;refine b7 (M:=λa w=>∃ zs:List UInt8,zs.length=m∧Fr a 220 [(0,sv bb oo m c),(3,.int .i64 up),(4,kj f us),(18,.int .i64 g6),(24,.int .i64 ((g6+k-s:Nat):Int))]∧U W w (g5 bb oo m c zs::L)) ?_ ?_
  ·
   refine BY 5 E I (λbW a E=>?_) λbW a E=>?_
   ·
    refine IF 4 E I (λxO a E=>?_) λxO a E=>?_
    ·
     refine bh 5 E I (ih (by omega) hz (by omega) (by omega) (by omega) I) λys a w E ⟨hy,I⟩=>?_;refine RN 0 E I λa E=>?_;exact⟨ys,hy,E.ab [0,3,4,18,24],I⟩
    refine RN 0 E I λa E=>?_;exact⟨zs,hz,E.ab [0,3,4,18,24],I⟩
   refine RN 5 E I λa E=>?_;exact⟨zs,hz,E.ab [0,3,4,18,24],I⟩
  clear E;(try clear I);rintro a w ⟨zs,hz,E,I⟩;refine BY 5 E I (λbW a E=>?_) λbW a E=>?_
  ·
   refine IF 4 E I (λvT a E=>?_) λvT a E=>?_
   ·
    refine bh 5 E I (ih (by omega) hz (by omega) (by omega) (by omega) I) λys a w E ⟨hy,I⟩=>?_;refine RT 0 E I ?_;exact⟨ys,rfl,hy,I⟩
   refine RT 0 E I ?_;exact⟨zs,rfl,hz,I⟩
  refine RT 5 E I ?_;exact⟨zs,rfl,hz,I⟩
theorem ZK (I:U W w (g5 bb oo m c xs::L))(hF:yC W L f us)(hx:xs.length=m)(hm:m≤1000) :
   Calls prog 335 #[sv bb oo m c,.int .i64 m,kj f us] w λe w'=>∃ ys:List UInt8,e=.returned (.tuple #[])∧ys.length=m∧U W w' (g5 bb oo m c ys::L):=by
 refine EN func335 ntmps335 rfl rfl λa E=>?_;refine RN 7 E I λa E=>?_;refine aO (λμ a w=>∃ (q:Nat) (ys:List UInt8),(μ=m-q∧q≤m∧ys.length=m)∧Fr a 63 [(0,sv bb oo m c),(1,.int .i64 m),(2,kj f us),(6,.int .i64 20),(7,.int .i64 q),(8,.int .i64 ((q+20:Nat):Int))]∧U W w (g5 bb oo m c ys::L)) (m) (⟨0,xs,⟨rfl,Nat.zero_le _,hx⟩,E.ab [0,1,2,6,7,8],I⟩) ?_;clear E I;rintro μ a w ⟨q,ys,⟨rfl,hq,hy⟩,E,I⟩;refine IF 5 E I (λaj a E=>?_) λaj a E=>?_
 ·
  refine bh 5 E I (L5 I hF hy (by omega) hm hq) λzs a w E ⟨hz,I⟩=>?_;refine RN 7 E I λa E=>?_;exact⟨m-(q+20),by omega,q+20,zs,⟨rfl,by omega,hz⟩,E.ab [0,1,2,6,7,8],I⟩
 refine bh 5 E I (L5 I hF hy (bd _) hm hq) λzs a w E ⟨hz,I⟩=>?_;refine RN 0 E I λa E=>?_;refine aO (λμ a w=>∃ (s:Nat) (ys:List UInt8),(μ=m-s∧(1≤s∧s≤2000)∧ys.length=m)∧Fr a 63 [(0,sv bb oo m c),(1,.int .i64 m),(2,kj f us),(6,.int .i64 s)]∧U W w (g5 bb oo m c ys::L)) (m-20) (⟨20,zs,⟨rfl,⟨by decide,by decide⟩,hz⟩,E.ab [0,1,2,6],I⟩) ?_;clear E I;rintro μ a w ⟨s,ys,⟨rfl,⟨nP,dv⟩,hy⟩,E,I⟩;refine IF 5 E I (λao a E=>?_) λao a E=>?_
 ·
  refine RN 3 E I λa E=>?_;rw[show (2:Int)*(s:Int)=((2*s:Nat):Int) from by omega]at E;refine RN 3 E I λa E=>?_;refine aO (λμ a w=>∃ (q:Nat) (ys:List UInt8),(μ=m-q∧q≤m∧ys.length=m)∧Fr a 63 [(0,sv bb oo m c),(1,.int .i64 m),(2,kj f us),(6,.int .i64 s),(7,.int .i64 q),(8,.int .i64 ((q+2*s:Nat):Int))]∧U W w (g5 bb oo m c ys::L)) (m) (⟨0,ys,⟨rfl,Nat.zero_le _,hy⟩,(by rw[Nat.zero_add];exact E.ab [0,1,2,6,7,8]),I⟩) ?_;clear E I;rintro μ a w ⟨q,ys,⟨rfl,hq,hy⟩,E,I⟩;refine IF 5 E I (λay a E=>?_) λay a E=>?_
  ·
   refine RN 6 E I λa E=>?_;rw[show (q:Int)+(s:Int)=((q+s:Nat):Int) from rfl]at E;refine bh 2 E I (L8 hF hm _ (bd _) hy (by omega) (by omega) (by omega) I) λzs a w E ⟨hz,I⟩=>?_;refine RN 7 E I λa E=>?_;rw[show ((q+2*s:Nat):Int)+2*(s:Int)=((q+2*s+2*s:Nat):Int) from by omega]at E;refine RN 1 E I λa E=>?_;exact⟨m-(q+2*s),by omega,q+2*s,zs,⟨rfl,by omega,hz⟩,E.ab [0,1,2,6,7,8],I⟩
  refine RN 5 E I λa E=>?_;rw[show (q:Int)+(s:Int)=((q+s:Nat):Int) from rfl]at E;refine IF 5 E I (λbk a E=>?_) λbk a E=>?_
  ·
   refine bh 5 E I (L8 hF hm _ (bd _) hy (by omega) (by omega) (bd _) I) λzs a w E ⟨hz,I⟩=>?_;refine RN 2 E I λa E=>?_;rw[show (s:Int)*2=((s*2:Nat):Int) from by omega]at E;refine RN 1 E I λa E=>?_;exact⟨m-s*2,by omega,s*2,zs,⟨rfl,⟨by omega,by omega⟩,hz⟩,E.ab [0,1,2,6],I⟩
  refine RN 2 E I λa E=>?_;rw[show (s:Int)*2=((s*2:Nat):Int) from by omega]at E;refine RN 1 E I λa E=>?_;exact⟨m-s*2,by omega,s*2,ys,⟨rfl,⟨by omega,by omega⟩,hy⟩,E.ab [0,1,2,6],I⟩
 refine RT 0 E I ?_;exact⟨ys,rfl,hy,I⟩
theorem ZL (I:U W w (g5 bb oo m c xs::L))(hF:yC W L f us)(hx:xs.length=m)(hm:m≤1000) :
   Calls prog 327 #[sv bb oo m c,kj f us] w λe w'=>∃ ys:List UInt8,e=.returned (.tuple #[])∧ys.length=m∧U W w' (g5 bb oo m c ys::L):=by
 refine EN func327 ntmps327 rfl rfl λa E=>?_;refine bh 4 E I (ZK I hF hx hm) λys a w E ⟨hy,I⟩=>?_;refine RT 0 E I ?_;exact⟨ys,rfl,hy,I⟩
theorem ZM {b:Gs}{adT:Option Addr}{cT b3 dq b8 qy:Nat}{d u:UInt8}{g:Nat→Int}:yC W (aa b8 5 [.int .u8 (d.toNat:Nat)]::aa qy 5 [.int .u8 (u.toNat:Nat)]::aa b3 186 (dj b adT cT)::aa dq 320 (ints .i64 256 g)::L)
   328 [pt b8,pt qy,pt b3,pt dq]:=by
 refine⟨by kernel_rfl,?_⟩;intro w M x y I hM;have hx:=x.toNat_lt;have hy:=y.toNat_lt;refine EN func328 ntmps328 rfl rfl λa E=>?_;refine RN 4 E I λa E=>?_;refine SS E (ae E ((hM I).bz (b:=b8) rfl)) λa E=>?_;refine RN 0 E I λa E=>?_;refine SS E (ae E ((hM I).bz (b:=qy) rfl)) λa E=>?_;refine RN 0 E I λa E=>?_;refine SS E (Cx E underlying423 Ty.t423 Ty.t5 rfl rfl) λa E=>?_;refine RN 1 E I λa E=>?_;refine aO (λμ a w=>∃ (i:Nat),(μ=2-i∧i≤2)∧Fr a 47 [(0,.int .u8 (x.toNat:Nat)),(1,.int .u8 (y.toNat:Nat)),(4,pt b3),(5,pt dq),(13,.agg #[.int .u8 (d.toNat:Nat),.int .u8 (u.toNat:Nat)]),(14,.int .i64 i)]∧U W w M) (2) (⟨0,⟨rfl,by decide⟩,E.ab [0,1,4,5,13,14],I⟩) ?_;clear E I;rintro μ a w ⟨i,⟨rfl,hi⟩,E,I⟩;refine IF 3 E I (λaj a E=>?_) λaj a E=>?_
 ·
  obtain⟨q,hq⟩:∃ q:UInt8,[Value.int .u8 (d.toNat:Nat),Value.int .u8 (u.toNat:Nat)][i]?=some (.int .u8 (q.toNat:Nat)):=by
   have:i=0∨i=1:=by omega
   rcases this with rfl | rfl
   ·exact⟨d,rfl⟩
   ·exact⟨u,rfl⟩
  refine RN 2 E I λa E=>?_;refine SS E (r7 E underlying423 underlying5 rfl Ty.t5 (by omega) hq) λa E=>?_;refine bP 3 [9] [0,1001,2,3,4,5,7,8,3006,1009,10,11] E I λa w E I hH hC=>?_;refine RH 1 E I hH hC λa E=>?_;refine SS E (ae E ((hM I).bz (b:=b3) rfl)) λa E=>?_;refine RH 2 E I hH hC λa E=>?_;refine E.by (s:=20) (λbW E=>?_) (λbW E=>?_)
  ·
   refine RH 4 E I hH hC λa E=>?_;refine QH E (λw hc=>ae E (hc.cell ((hM I).bz (b:=dq) (fM g hx)))) hC λa E=>?_;refine RH 0 E I hH hC λa E=>?_;refine bt E (cm E rfl (s:=20)) (ae E ((hM I).bz (b:=dq) (fM g hy))) rfl λa E=>?_;refine RH 2 E I hH hC λa E=>?_;refine IF 0 E I (λao a E=>?_) λao a E=>?_
   ·
    refine bP 1 [5] [0,1,3,4,3002,1005,6,7] E I λa w E I hH hC=>?_;refine RH 4 E I hH hC λa E=>?_;refine QH E (λw hc=>ae E (hc.cell ((hM I).bz (b:=dq) (fM g hy)))) hC λa E=>?_;refine RH 0 E I hH hC λa E=>?_;refine SS E (ae E ((hM I).bz (b:=dq) (fM g hx))) λa E=>?_;refine RH 0 E I hH hC λa E=>?_;refine QP E (λw=>za E) λa E=>?_;refine RH 1 E I hH hC λa E=>?_;refine RT 0 E I ?_;exact⟨_,rfl,I⟩
   refine IF 8 E I (λay a E=>?_) λay a E=>?_
   ·
    refine IF 5 E I (λbk a E=>?_) λbk a E=>?_
    ·
     refine RT 2 E I ?_;exact⟨_,rfl,I⟩
    refine RT 2 E I ?_;exact⟨_,rfl,I⟩
   refine RN 2 E I λa E=>?_;exact⟨2-(i+1),by omega,i+1,⟨rfl,by omega⟩,E.ab [0,1,4,5,13,14],I⟩
  refine RH 8 E I hH hC λa E=>?_;refine IF 9 E I (λay a E=>?_) λay a E=>?_
  ·
   refine IF 5 E I (λbk a E=>?_) λbk a E=>?_
   ·
    refine RT 2 E I ?_;exact⟨_,rfl,I⟩
   refine RT 2 E I ?_;exact⟨_,rfl,I⟩
  refine RN 2 E I λa E=>?_;exact⟨2-(i+1),by omega,i+1,⟨rfl,by omega⟩,E.ab [0,1,4,5,13,14],I⟩
 refine RT 2 E I ?_;exact⟨_,rfl,I⟩
end
theorem ZN:wI:=by
 refine⟨?_⟩;intro W w L c k cT ad adT past b I hb hk ez jS hp ht;refine EN func310 ntmps310 rfl rfl λa E=>?_;refine BX 1 E I λb3 a w E I=>?_;change U W w (aa b3 186 (dj b adT cT)::_) at I;refine bh 4 E I (yx I) λr a w E ⟨hr,I⟩=>?_;obtain rfl:=hr.2 hb;refine RN 1 E I λa E=>?_;replace E:=E.aM 14;refine CL 4 E I (Ly I hb (by omega) jS (λw' h=>hp _ h.tail)) λa w E I=>?_;refine AL 0 E I λdq a w E I=>?_;rw[qv]at I;refine SA 0 E I λa w E I=>?_;refine CL 3 E I (LA I hb (by omega) jS (λw' h=>hp _ h.tail.tail) (λw' h=>ht _ h.tail.tail)) λa w E I=>?_;refine CL 1 E I (Lz I (by omega) (λw' h=>hp _ h.tail.tail)) λa w E I=>?_;refine AL 0 E I λb8 a w E I=>?_;refine AL 0 E I λqy a w E I=>?_;refine ST 0 E I (λa w E I=>?_);refine ST 0 E I (λa w E I=>?_);refine RN 5 E I λa E=>?_;replace I:U W w (Sl 5 1 none 0 0 (bc [])::_):=I.bN 5 1 none;refine aO (λμ a w=>∃ (i:Nat) (g3:Option Addr) (cl:Nat) (ys:List UInt8),(μ=256-i∧i≤256∧ys.length=i)∧Fr a 40 [(2,.int .i64 k),(3,pt b3),(7,pt dq),(8,pt b8),(9,pt qy),(10,.slice g3 i cl),(23,.int .i64 i)]∧U W w (Sl 5 1 g3 i cl (bc ys)::aa b8 5 [.int .u8 ((m4 b past).toNat:Nat)]::aa qy 5 [.int .u8 ((ik past).toNat:Nat)]::aa b3 186 (dj b adT cT)::aa dq 320 (ints .i64 256 (gE b past))::L)) (256) (⟨0,none,0,[],⟨rfl,by decide,rfl⟩,E.ab [2,3,7,8,9,10,23],I.sub⟩) ?_;clear E I;rintro μ a w ⟨i,g3,cl,ys,⟨rfl,hi,hy⟩,E,I⟩;refine IF 3 E I (λao a E=>?_) λao a E=>?_
 ·
  refine RN 6 E I λa E=>?_;refine SS E (gb E underlying3 underlying5) λa E=>?_;rw[wrap_u8,show (i:Int)%256=(((UInt8.ofNat i).toNat:Nat):Int) from by rw[UInt8.toNat_ofNat'];omega]at E;refine RN 0 E I λa E=>?_;refine cn E rfl I underlying22 Ty.t5 rfl rfl rfl rfl (by decide) (by decide) λVa a w E I ho=>?_;clear ho;refine RN 0 E I λa E=>?_;refine cK E rfl I underlying22 Ty.t5 rfl rfl I.ai rfl (en [UInt8.ofNat i]) (by decide) (by decide) (by omega) λJa Jb a w E I=>?_;rw[show bc ys++_=bc (ys++[UInt8.ofNat i]) from (fF _ [_]).symm]at I;refine RN 3 E I λa E=>?_;exact⟨256-(i+1),by omega,i+1,Ja,Jb,ys++[UInt8.ofNat i],⟨rfl,by omega,by simp[hy]⟩,E.ab [2,3,7,8,9,10,23],I.sub⟩
 refine RN 1 E I λa E=>?_;obtain rfl:i=256:=by omega
 have hA:=E;have yD:=I;obtain⟨bb,oo,rfl,_⟩:=I.bU g3 (by omega);have E:=hA;have I:=yD;have ck:=(I.sl (some ⟨bb,oo,none⟩)).2;refine bh 2 E I (ZL I ZM hy (by decide)) λzs a w E ⟨hz,I⟩=>?_;refine RN 5 E I λa E=>?_;rw[show min (max (k:Int) 0) 256=(k:Int) from by omega]at E;refine RT 2 E I ?_;have h1:=I.Ci (some ⟨bb,oo,none⟩) 0 k (Nat.zero_le _) (by omega);rw[Nat.sub_zero,Nat.sub_zero,Nat.mul_one,Nat.zero_mul,drop_zero,show (bc zs).take k=bc (zs.take k) from by rw[bc,bc,map_take]]at h1;have hl:(zs.take k).length=k:=by rw[ef];omega
 exact⟨_,_,zs.take k,by rw[hl,Nat.sub_zero,Nat.sub_zero],hl,by rw[hl];exact h1.sub⟩
end
end Go.Proofs.YteoldcfapaiobaaGreat
