/- Plain side of what a player knows: the document's P21 and P22. -/
import Derived.Test.YteoldcfapaiobaaGreatA08Pkt3
import Derived.Test.YteoldcfapaiobaaGreatA05Vm
namespace Go.Proofs.YteoldcfapaiobaaGreat
open Tryz
open List (length_range length_nil mem_range getElem_set_self eraseIdx_set_eq ext_getElem? mem_or_eq_of_mem_set getElem_mem mem_singleton range_succ getElem?_set_ne map_singleton)
open Go.RowKit
set_option linter.unusedVariables false
set_option linter.unusedSimpArgs false
set_option maxRecDepth 10000
set_option synthInstance.maxSize 4000
set_option synthInstance.maxHeartbeats 400000
section
structure Cf where
 n:Int
 me:Int
 id:Int
 aH:Int
 bo:Int
 ba:Int
 order:Int
 cr:Int
 workers:Int
 room:Int
abbrev b7 (c:Cf):List Value:=[.int .i64 c.n,.int .i64 c.me,.int .i64 c.id,.int .i64 c.aH,.int .i64 c.bo,.int .i64 c.ba,.int .i64 c.order,.int .i64 c.cr,.int .i64 c.workers,.int .i64 c.room]
def fv (n l h:Int):Prop:=l≤n∧n≤h
instance (n l h:Int):Decidable (fv n l h):=inferInstanceAs (Decidable (_∧_))
def fg (c:Cf):Prop:=(fv c.n 2 8∧fv c.me 0 (c.n-1)∧fv c.id 0 1099511627776)∧(fv c.aH 0 8∧fv c.bo 1 16∧fv c.ba 1 3∧fv c.order 0 3) ∧
 (c.order=0∨c.ba=2)∧fv c.cr 0 8∧fv c.workers 0 4∧fv c.room 3 50
instance (c:Cf):Decidable (fg c):=inferInstanceAs (Decidable (_∧_))
structure Pe where
 has:Nat
 heard:Nat
 frame:Nat
 sum:Nat
 apart:Bool
structure Ks where
 n:Nat
 me:Nat
 aH:Nat
 bo:Nat
 id:Int
 ba:Int
 order:Int
 cr:Int
 workers:Int
 room:Int
 ls:List (List UInt8)
 ps:List Pe
 mr:List Nat
 ev:List (Nat×Nat×Nat)
 now:Nat
 cl:Bool
def e4 (k:Ks):Cf:=⟨k.n,k.me,k.id,k.aH,k.bo,k.ba,k.order,k.cr,k.workers,k.room⟩
def fw (d:Nat):Pe:=⟨d,0,0,0,false⟩
def fh (c:Cf):Ks:=⟨c.n.toNat,c.me.toNat,c.aH.toNat,c.bo.toNat,c.id,c.ba,c.order,c.cr,c.workers,c.room,
 List.replicate c.n.toNat (List.replicate c.aH.toNat 0),List.replicate c.n.toNat (fw c.aH.toNat),[],[],0,false⟩
def aF (k:Ks):Nat:=(k.ls.getD k.me []).length
def ax (k:Ks):Nat:=aU k.ls
def vG (mk:List Nat)(p:Pe):Prop:=p.apart=false∧1≤p.frame∧p.frame≤mk.length∧mk.getD (p.frame-1) 0≠p.sum
instance (mk:List Nat)(p:Pe):Decidable (vG mk p):=inferInstanceAs (Decidable (_∧_))
def au (k:Ks)(i:Nat):Pe:=k.ps.getD i (fw 0)
def kI (k:Ks)(i:Nat):Ks:=if vG k.mr (au k i) then { k with ps:=k.ps.set i { au k i with apart:=true },ev:=k.ev++[(3,i,(au k i).frame)] } else k
def gi (k:Ks):Nat→Ks
 | 0=>k
 | i+1=>kI (gi k i) i
def kJ (k:Ks):Ks:=gi k k.ps.length
def k7 (k:Ks)(s:Nat):Ks:=kJ (if k.mr.length<1000 then { k with mr:=k.mr++[s] } else k)
def c3 (b:UInt8)(k:Ks):Int×Ks:=if k.cl=true then (6,k) else if 1000≤aF k then (4,k) else if k.bo+ax k≤aF k then (5,k) else (0,{ k with ls:=k.ls.set k.me (k.ls.getD k.me []++[b]) })
def fQ (now head:Nat)(p:Pk)(x:Pe):Pe :=
 let h:=if x.has<p.db.toNat∧p.db.toNat≤head then p.db.toNat else x.has
 if 0<p.frame∧(x.frame:Int)≤p.frame then { x with heard:=now,has:=h,frame:=p.frame.toNat,sum:=p.sum } else { x with heard:=now,has:=h }
def fR (k:Ks)(p:Pk):Ks :=
 if p.kind=2 then { k with ps:=k.ps.set p.aV.toNat { au k p.aV.toNat with heard:=k.now },ev:=k.ev++[(1,p.aV.toNat,0)],cl:=true }
 else kJ { k with ls:=k.ls.set p.aV.toNat (dr (k.ls.getD p.aV.toNat []) p.first.toNat p.ak),ps:=k.ps.set p.aV.toNat (fQ k.now (aF k) p (au k p.aV.toNat)) }
noncomputable def dB (bs:List UInt8)(k:Ks):Int×Ks:=if k.cl=true then (6,k) else match eu bs with
 | none=>(1,k)
 | some p=>if p.to≠k.me∨(k.n:Int)≤p.aV∨p.id≠k.id then (1,k) else (0,fR k p)
def dS (k:Ks)(i:Nat):Pk:=⟨1,k.me,i,k.id,(au k i).has,(k.ls.getD i []).length,k.mr.length,k.mr.getLastD 0,((k.ls.getD k.me []).drop (au k i).has).take 32⟩
def ig (k:Ks)(i:Nat):Pk:=⟨2,k.me,i,k.id,0,0,0,0,[]⟩
def bB (k:Ks):List Nat:=(List.range k.n).filter (·≠k.me)
def jd (k:Ks)(i:Nat):Prop:=(au k i).heard+40≤k.now
instance (k:Ks)(i:Nat):Decidable (jd k i):=inferInstanceAs (Decidable (_≤_))
abbrev Ml:=Nat×Nat×List UInt8
def bm (k:Ks):List Ml×Ks:=if k.cl=true then ([],k) else
 let k:={ k with now:=k.now+1 }
 match (bB k).find? (λi=>decide (jd k i)) with
 | some i=>([],{ k with ev:=k.ev++[(2,i,0)],cl:=true })
 | none=>((bB k).map λi=>(k.me,i,aR (dS k i)),k)
def cu (k:Ks):List Ml×Ks:=if k.cl=true then ([],k) else ((bB k).map λi=>(k.me,i,aR (ig k i)),{ k with cl:=true })
def held (k:Ks):Prop:=∀ i,i<k.ps.length→¬ vG k.mr (au k i)
structure WC (k:Ks):Prop where
 n:2≤k.n∧k.n≤8
 me:k.me<k.n
 id:0≤k.id∧k.id≤1099511627776
 aH:k.aH≤8
 bo:1≤k.bo∧k.bo≤16
 ls:k.ls.length=k.n
 ps:k.ps.length=k.n
 mY:∀ l∈k.ls,l.length≤1000
 mr:k.mr.length≤1000
 q4:∀ s∈k.mr,s<4294967296
 now:∀ p∈k.ps,p.heard≤k.now
 pe:∀ p∈k.ps,p.has≤1000∧p.frame≤1000∧p.sum<4294967296
 bF:∀ e∈k.ev,e.1≤3∧1≤e.1∧e.2.1<8∧e.2.2≤1000∧(e.1=3∨e.2.2=0)
 oa:k.ev.length+k.ps.countP (λp=>!p.apart)+(if k.cl=true then 0 else 1)≤k.n+1
section
variable {k:Ks}{i:Nat}
theorem WC.kK (h:WC k):k.ev.length≤9:=by have:=h.oa;have:=h.n;omega
theorem XC (h:i<k.ps.length):au k i∈k.ps:=by
 rw[au,bl,aO h];exact getElem_mem _
theorem tU {ls:List (List UInt8)}(h:i<ls.length):ls.getD i []∈ls:=by
 rw[bl,aO h];exact getElem_mem _
theorem WC.pg (h:WC k)(hi:i<k.n):(au k i).has≤1000∧(au k i).heard≤k.now∧(au k i).frame≤1000∧(au k i).sum<4294967296:=by
 have hm:=XC (k:=k) (i:=i) (by rw[h.ps];exact hi);exact⟨(h.pe _ hm).1,h.now _ hm,(h.pe _ hm).2⟩
theorem WC.lF (h:WC k)(hi:i<k.n):(k.ls.getD i []).length≤1000:=h.mY _ (tU (by rw[h.ls];exact hi))
theorem WC.lG (h:WC k):aF k≤1000:=h.lF h.me
theorem WC.nq (h:WC k):ax k≤aF k:=vE (tU (by rw[h.ls];exact h.me))
theorem mem_set {α:Type}{l:List α}{x y:α}(h:y∈l.set i x):y∈l∨y=x:=mem_or_eq_of_mem_set h
theorem WC.z8 (h:WC k){p:Pe}{ev:List (Nat×Nat×Nat)}{cl:Bool}(hp:p.has≤1000∧p.frame≤1000∧p.sum<4294967296)(hh:p.heard≤k.now)
   (he:∀ e∈ev,e.1≤3∧1≤e.1∧e.2.1<8∧e.2.2≤1000∧(e.1=3∨e.2.2=0)) (hn:ev.length+(k.ps.set i p).countP (λp=>!p.apart)+(if cl=true then 0 else 1)≤k.n+1):WC { k with ps:=k.ps.set i p,ev:=ev,cl:=cl } :=
 { h with
  ps:=by show (k.ps.set i p).length=_;rw[br];exact h.ps
  now:=λq hq=>by
   rcases mem_set hq with hq | rfl
   ·exact h.now q hq
   ·exact hh
  pe:=λq hq=>by
   rcases mem_set hq with hq | rfl
   ·exact h.pe q hq
   ·exact hp
  bF:=he
  oa:=hn }
theorem count_set {l:List Pe}{p:Pe}(h:i<l.length):(l.set i p).countP (λp=>!p.apart)+(if l[i].apart=true then 0 else 1)=l.countP (λp=>!p.apart)+(if p.apart=true then 0 else 1):=by
 have h1:l.countP (λp=>!p.apart)=(l[i]::l.eraseIdx i).countP (λp=>!p.apart):=List.Perm.countP_eq _ (rJ _ h);have hi:i<(l.set i p).length:=by simpa using h
 have h2:(l.set i p).countP (λp=>!p.apart)=((l.set i p)[i]::(l.set i p).eraseIdx i).countP (λp=>!p.apart):=List.Perm.countP_eq _ (rJ _ hi);rw[h1,h2,List.countP_cons,List.countP_cons,getElem_set_self,eraseIdx_set_eq];cases l[i].apart <;> cases p.apart <;> simp <;> omega
theorem WC.kI (h:WC k)(hi:i<k.n):WC (kI k i):=by
 unfold Go.Proofs.YteoldcfapaiobaaGreat.kI;split
 ·rename_i hb;have aJ:i<k.ps.length:=by rw[h.ps];exact hi
  have hp:=h.pg hi;have oO:au k i=k.ps[i]:=by rw[au,bl,aO aJ];rfl
  refine h.z8 ⟨hp.1,hp.2.2⟩ hp.2.1 (λe he=>?_) ?_
  ·rcases eV.1 he with he | he
   ·exact h.bF e he
   ·rw[mem_singleton]at he;subst he;have:=h.n;exact⟨by simp,by simp,by simp;omega,hp.2.2.1,.inl rfl⟩
  ·have hc:=count_set (p:={ au k i with apart:=true }) aJ;rw[← oO,hb.1]at hc;have:=h.oa;rw[aK,ja];simp at hc ⊢;omega
 ·exact h
end
section
variable {k:Ks}{i:Nat}
theorem J8 (k:Ks)(i:Nat):∃ ps ev,kI k i={ k with ps:=ps,ev:=ev }∧ps.length=k.ps.length:=by
 unfold kI;split
 ·exact⟨_,_,rfl,by simp⟩
 ·exact⟨k.ps,k.ev,rfl,rfl⟩
theorem xN (k:Ks):∀ i,∃ ps ev,gi k i={ k with ps:=ps,ev:=ev }∧ps.length=k.ps.length
 | 0=>⟨k.ps,k.ev,rfl,rfl⟩
 | i+1=>by
  obtain⟨ps,ev,h1,h2⟩:=xN k i;obtain⟨gf,J9,h3,h4⟩:=J8 (gi k i) i;refine⟨gf,J9,?_,?_⟩
  ·rw[gi,h3,h1]
  ·rw[h4,h1];exact h2
theorem vH (k:Ks):∃ ps ev,kJ k={ k with ps:=ps,ev:=ev }∧ps.length=k.ps.length:=xN k _
theorem WC.gi (h:WC k):∀ {i},i≤k.n→WC (gi k i)
 | 0,_=>h
 | i+1,hi=>by
  rw[Go.Proofs.YteoldcfapaiobaaGreat.gi];refine (h.gi (i:=i) (by omega)).kI ?_;obtain⟨ps,ev,h1,_⟩:=xN k i;rw[h1];show i<k.n;omega
theorem WC.kJ (h:WC k):WC (kJ k):=h.gi (by rw[h.ps];exact bh _)
theorem XD (k:Ks)(i:Nat)(hi:i<k.ps.length):¬ vG (kI k i).mr (au (kI k i) i):=by
 unfold kI;split
 ·intro hb;have:=hb.1;simp[au,hi]at this
 ·assumption
theorem XE (k:Ks){i j:Nat}(h:j≠i):au (kI k i) j=au k j:=by
 unfold kI;split
 ·simp only[au,bl];rw[getElem?_set_ne (by omega)]
 ·rfl
theorem XF (k:Ks)(i:Nat):(kI k i).mr=k.mr:=by
 obtain⟨ps,ev,h1,_⟩:=J8 k i;rw[h1]
theorem Aa (k:Ks)(i:Nat):(gi k i).ps.length=k.ps.length:=by
 obtain⟨ps,ev,h1,h2⟩:=xN k i;rw[h1];exact h2
theorem Ka (k:Ks):∀ {i j},i≤k.ps.length→j<i→¬ vG (gi k i).mr (au (gi k i) j)
 | 0,_,_,h=>absurd h (by omega)
 | i+1,j,hi,hj=>by
  rw[Go.Proofs.YteoldcfapaiobaaGreat.gi];by_cases h:j=i
  ·subst h;exact XD _ _ (by rw[Aa];omega)
  ·rw[XF,XE _ h];exact Ka k (by omega) (by omega)
theorem Kb (k:Ks):held (kJ k):=λi hi=>Ka k (bh _) (by rw[kJ,Aa]at hi;exact hi)
theorem held.gi (h:held k):∀ {i},i≤k.ps.length→gi k i=k
 | 0,_=>rfl
 | i+1,hi=>by
  rw[Go.Proofs.YteoldcfapaiobaaGreat.gi,h.gi (i:=i) (by omega),kI,ae (h i (by omega))]
theorem held.kJ (h:held k):kJ k=k:=h.gi (bh _)
theorem held.of {k':Ks}(h:held k)(hm:k'.mr=k.mr)(hl:k'.ps.length=k.ps.length)(hp:∀ i,i<k.ps.length→(au k' i).apart=(au k i).apart∧(au k' i).frame=(au k i).frame∧(au k' i).sum=(au k i).sum):held k':=by
 intro i hi hb;rw[hl]at hi;obtain⟨h1,h2,h3⟩:=hp i hi;refine h i hi ?_;simp only[vG,hm,h1,h2,h3]at hb;exact hb
theorem WC.mark (h:WC k){s:Nat}(I:s<4294967296):WC (k7 k s):=by
 unfold k7;refine WC.kJ ?_;split
 ·exact { h with
   mr:=by show (k.mr++[s]).length≤1000;rw[aK,ja];omega
   q4:=λx hx=>by
    rcases eV.1 hx with hx | hx
    ·exact h.q4 x hx
    ·rw[mem_singleton]at hx;rw[hx];exact I }
 ·exact h
theorem Kc (k:Ks)(s:Nat)(hl:k.mr.length<1000):∃ ps ev,k7 k s={ k with ps:=ps,ev:=ev,mr:=k.mr++[s] }∧ps.length=k.ps.length:=by
 obtain⟨ps,ev,h1,h2⟩:=vH { k with mr:=k.mr++[s] };refine⟨ps,ev,?_,h2⟩;rw[k7,al hl,h1]
theorem tV {k:Ks}{b:UInt8}(h:(c3 b k).1=0):k.cl=false∧aF k<1000∧aF k<k.bo+ax k∧(c3 b k).2={ k with ls:=k.ls.set k.me (k.ls.getD k.me []++[b]) }:=by
 unfold c3 at h ⊢;split at h
 ·cases h
 ·split at h
  ·cases h
  ·split at h
   ·cases h
   ·rename_i h1 h2 h3;refine⟨by simpa using h1,by omega,by omega,?_⟩;rw[ae h1,ae h2,ae h3]
theorem tW {k:Ks}{b:UInt8}(h:(c3 b k).1≠0):(c3 b k).2=k:=by
 unfold c3 at h ⊢;split
 ·rfl
 ·rename_i h1;rw[ae h1]at h;split
  ·rfl
  ·rename_i h2;rw[ae h2]at h;split
   ·rfl
   ·rename_i h3;rw[ae h3]at h;exact absurd rfl h
theorem WC.ak (h:WC k)(b:UInt8):WC (c3 b k).2:=by
 by_cases h0:(c3 b k).1=0
 ·obtain⟨h1,h2,h3,h4⟩:=tV h0;rw[h4];exact { h with
   ls:=by show (k.ls.set _ _).length=_;rw[br];exact h.ls
   mY:=λl hl=>by
    rcases mem_set hl with hl | rfl
    ·exact h.mY l hl
    ·rw[aK,ja];simp only[aF]at h2;omega }
 ·rw[tW h0];exact h
theorem held.ak (h:held k)(b:UInt8):held (c3 b k).2:=by
 by_cases h0:(c3 b k).1=0
 ·obtain⟨h1,h2,h3,h4⟩:=tV h0;rw[h4];exact h
 ·rw[tW h0];exact h
theorem WC.XG (h:WC k):WC { k with ev:=[] } :=
 { h with
  bF:=λe he=>by cases he
  oa:=by have:=h.oa;show ([]:List (Nat×Nat×Nat)).length+_+_≤_;simp only[length_nil];omega }
theorem vI {k:Ks}{i j:Nat}{p:Pe}(hi:i<k.ps.length):(k.ps.set i p).getD j (fw 0)=if j=i then p else au k j:=by
 simp only[au,bl,jA];by_cases h:i=j
 ·subst h;simp[hi]
 ·rw[ae h,ae (λe=>h e.symm)]
theorem Eb {k:Ks}{i:Nat}{p:Pe}(hi:i<k.ps.length)(E:p.apart=(au k i).apart):(k.ps.set i p).countP (λp=>!p.apart)=k.ps.countP (λp=>!p.apart):=by
 have hc:=count_set (p:=p) hi;have oO:au k i=k.ps[i]:=by rw[au,bl,aO hi];rfl
 rw[← oO,E]at hc;omega
theorem WC.xO (h:WC k){p:Pk}(hp:hC p)(I:p.sum<4294967296)(hn:p.aV<k.n)(hc:k.cl=false):WC (fR k p)∧(held k→held (fR k p)):=by
 have Ec:=hp.1.1;have aJ:p.aV.toNat<k.n:=by omega
 have Ed:p.aV.toNat<k.ps.length:=by rw[h.ps];exact aJ
 have ij:=h.pg aJ;unfold fR;split
 ·have j0:=Eb (p:={ au k p.aV.toNat with heard:=k.now }) Ed rfl;refine⟨h.z8 (p:={ au k p.aV.toNat with heard:=k.now }) (cl:=true) ⟨ij.1,ij.2.2⟩ (bh _) (λe he=>?_) ?_,λhh=>hh.of rfl (by simp) λj hj=>?_⟩
  ·rcases eV.1 he with he | he
   ·exact h.bF e he
   ·rw[mem_singleton]at he;subst he;have:=h.n;exact⟨by simp,by simp,by show p.aV.toNat<8;omega,by simp,.inr rfl⟩
  ·have:=h.oa;rw[hc]at this;rw[j0,aK,ja];simp at this ⊢;omega
  ·show ((k.ps.set _ _).getD j _).apart=_∧((k.ps.set _ _).getD j _).frame=_∧((k.ps.set _ _).getD j _).sum=_;rw[vI Ed];split
   ·rename_i h1;subst h1;exact⟨rfl,rfl,rfl⟩
   ·exact⟨rfl,rfl,rfl⟩
 ·refine⟨WC.kJ ?_,λ_=>Kb _⟩;have hk:p.kind=1∧eJ p.first∧eJ p.db∧eJ p.frame∧p.ak.length≤32:=by
   rcases hp.2.2.2.2 with h1 | h1
   ·exact h1
   ·rename_i h2;exact absurd h1.1 h2
  have By:(fQ k.now (aF k) p (au k p.aV.toNat)).apart=(au k p.aV.toNat).apart:=by
   unfold fQ;simp only;split <;> rfl
  have j0:=Eb (p:=fQ k.now (aF k) p (au k p.aV.toNat)) Ed By;have XH:=hk.2.2.1;have iS:=hk.2.2.2.1;simp only[eJ]at XH iS;have gL:=h.lG;have hq:(fQ k.now (aF k) p (au k p.aV.toNat)).has≤1000∧(fQ k.now (aF k) p (au k p.aV.toNat)).frame≤1000∧(fQ k.now (aF k) p (au k p.aV.toNat)).sum<4294967296∧(fQ k.now (aF k) p (au k p.aV.toNat)).heard=k.now:=by
   unfold fQ;simp only;have h9:(if (au k p.aV.toNat).has<p.db.toNat∧p.db.toNat≤aF k then p.db.toNat else (au k p.aV.toNat).has)≤1000:=by split <;> omega
   split
   ·exact⟨h9,by show p.frame.toNat≤1000;omega,I,rfl⟩
   ·exact⟨h9,ij.2.2.1,ij.2.2.2,rfl⟩
  have h1:=h.z8 (p:=fQ k.now (aF k) p (au k p.aV.toNat)) (i:=p.aV.toNat) (ev:=k.ev) (cl:=k.cl) ⟨hq.1,hq.2.1,hq.2.2.1⟩ (by rw[hq.2.2.2];exact bh _) h.bF (by rw[j0];exact h.oa);have hG:=h.lF aJ;exact { h1 with
   ls:=by show (k.ls.set _ _).length=_;rw[br];exact h.ls
   mY:=λl hl=>by
    rcases mem_set hl with hl | rfl
    ·exact h.mY l hl
    ·exact (q0 hG).2 }
theorem Ab {k:Ks}{bs:List UInt8}(h:(dB bs k).1=0):∃ p,eu bs=some p∧k.cl=false∧p.to=k.me∧p.aV<k.n∧p.id=k.id∧(dB bs k).2=fR k p:=by
 unfold dB at h ⊢;split at h
 ·cases h
 ·rename_i h1;rw[ae h1];cases hd:eu bs with
  | none=>rw[hd]at h;cases h
  | some p =>
   rw[hd]at h;simp only at h ⊢;split at h
   ·cases h
   ·rename_i h2;rw[ae h2];have h3:p.to=k.me:=Decidable.of_not_not λhh=>h2 (.inl hh);have h4:p.id=k.id:=Decidable.of_not_not λhh=>h2 (.inr (.inr hh));have h5:p.aV<k.n:=Int.not_le.1 λhh=>h2 (.inr (.inl hh));exact⟨p,rfl,by simpa using h1,h3,h5,h4,rfl⟩
theorem vJ {k:Ks}{bs:List UInt8}(h:(dB bs k).1≠0):(dB bs k).2=k:=by
 unfold dB at h ⊢;split
 ·rfl
 ·rename_i h1;rw[ae h1]at h;cases hd:eu bs with
  | none=>rfl
  | some p =>
   rw[hd]at h;simp only at h ⊢;split
   ·rfl
   ·rename_i h2;rw[ae h2]at h;exact absurd rfl h
theorem WC.recv (h:WC k)(bs:List UInt8):WC (dB bs k).2∧(held k→held (dB bs k).2):=by
 by_cases h0:(dB bs k).1=0
 ·obtain⟨p,h1,h2,h3,h4,h5,h6⟩:=Ab h0;obtain⟨h7,h8,h9⟩:=DE h1;rw[h6];exact h.xO h7 h8 h4 h2
 ·rw[vJ h0];exact⟨h,λh=>h⟩
theorem vK {k:Ks}{i:Nat}:i∈bB k↔i<k.n∧i≠k.me:=by simp[bB]
theorem WC.Ac (h:WC k):WC { k with now:=k.now+1 }:={ h with now:=λp hp=>Nat.le_succ_of_le (h.now p hp) }
theorem WC.late (h:WC k){i:Nat}(hi:i<8)(hc:k.cl=false):WC { k with ev:=k.ev++[(2,i,0)],cl:=true } :=
 { h with
  bF:=λe he=>by
   rcases eV.1 he with he | he
   ·exact h.bF e he
   ·rw[mem_singleton]at he;subst he;exact⟨by simp,by simp,hi,by simp,.inr rfl⟩
  oa:=by
   have:=h.oa;rw[hc]at this;rw[aK,ja];simp at this ⊢;omega }
theorem vL (k:Ks):(bm k).2=k∨(k.cl=false∧((bm k).2={ k with now:=k.now+1 }∨∃ i,i<k.n∧(bm k).2={ k with now:=k.now+1,ev:=k.ev++[(2,i,0)],cl:=true })):=by
 unfold bm;split
 ·exact .inl rfl
 ·rename_i hc;refine .inr ⟨by simpa using hc,?_⟩;simp only;cases hf:(bB { k with now:=k.now+1 }).find? (λi=>decide (jd { k with now:=k.now+1 } i)) with
  | none=>exact .inl rfl
  | some i=>exact .inr ⟨i,(vK.1 (List.mem_of_find?_eq_some hf)).1,rfl⟩
theorem WC.tick (h:WC k):WC (bm k).2∧(held k→held (bm k).2):=by
 rcases vL k with h1 | ⟨hc,h1 | ⟨i,hi,h1⟩⟩
 ·rw[h1];exact⟨h,λh=>h⟩
 ·rw[h1];exact⟨h.Ac,λh=>h⟩
 ·rw[h1];have:=h.n;exact⟨(h.Ac).late (by omega) hc,λh=>h⟩
theorem WC.ob (h:WC k):WC (cu k).2∧(held k→held (cu k).2):=by
 unfold cu;split
 ·exact⟨h,λh=>h⟩
 ·rename_i hc;refine⟨{ h with oa:=?_ },λh=>h⟩;have:=h.oa;have wF:k.cl=false:=by simpa using hc
  rw[wF]at this;simp at this ⊢;omega
theorem WC.new {c:Cf}(h:fg c):WC (fh c)∧held (fh c)∧e4 (fh c)=c:=by
 obtain⟨⟨h1,h2,h3⟩,⟨h4,h5,h6,h7⟩,h8,h9,fF,mH⟩:=h;simp only[fv] at *;refine⟨⟨?_,?_,?_,?_,?_,?_,?_,?_,?_,?_,?_,?_,?_,?_⟩,?_,?_⟩
 ·show 2≤c.n.toNat∧c.n.toNat≤8;omega
 ·show c.me.toNat<c.n.toNat;omega
 ·exact h3
 ·show c.aH.toNat≤8;omega
 ·show 1≤c.bo.toNat∧c.bo.toNat≤16;omega
 ·simp[fh]
 ·simp[fh]
 ·intro l hl;simp[fh]at hl;rw[hl.2,j8];omega
 ·simp[fh]
 ·intro s I;cases I
 ·intro p hp;simp[fh]at hp;rw[hp.2];exact Nat.zero_le _
 ·intro p hp;simp[fh]at hp;rw[hp.2];refine⟨?_,?_,?_⟩ <;> simp[fw];omega
 ·intro e he;cases he
 ·simp[fh,List.countP_replicate,fw]
 ·intro i hi hb;have h1:(au (fh c) i).frame≤0:=hb.2.2.1;have h2:=hb.2.1;omega
 ·show Cf.mk _ _ _ _ _ _ _ _ _ _=c;simp only[fh];rw[Int.toNat_of_nonneg (by omega),Int.toNat_of_nonneg (by omega),Int.toNat_of_nonneg (by omega),Int.toNat_of_nonneg (by omega)]
end
theorem XI {p:Pr}{fr:Int}{b:List UInt8}{g:Nat→Int}{aT:Nat}{o:gy}{m:Int}(hg:dP g)(ho:eX m o):dP (eh p fr b g aT o).1:=by
 have pY:=ho;simp only[eX,eW]at pY;unfold eh;split
 ·exact hg
 ·split
  ·exact hg
  ·split
   ·exact hg
   ·split
    ·exact ni hg (hg _ (by omega))
    ·exact ni hg (IQ hg ho (by assumption) (by assumption))
theorem Kd {p:Pr}{fr:Int}{b:List UInt8}(hp:dj p):∀ (n:Nat) {g:Nat→Int} {aT:Nat},dP g→dP (pT p fr b n g aT)
 | 0,_,_,hg=>hg
 | n+1,g,aT,hg=>by
  cases ho:p.ops[aT]? with
  | none =>
   rw [C1 (by rcases Nat.lt_or_ge aT p.ops.length with h | h; · rw [aO h] at ho; cases ho
              ·exact h)];exact hg
  | some o =>
   have h1:=XI (p:=p) (fr:=fr) (b:=b) (aT:=aT) hg (hp.2 o (bE ho));rw[C0 ho];split
   ·exact Kd hp n h1
   ·exact h1
theorem Ke {p:Pr}{fr:Int}{b:List UInt8}{g:Nat→Int}(hp:dj p)(hg:dP g):dP (eY p fr b g):=Kd hp 200 hg
theorem Kf {p:Pr}(hp:dj p):∀ (l:List (List UInt8)) {fr:Int} {g:Nat→Int},dP g→dP (foldI p fr g l)
 | [],_,_,hg=>hg
 | b::l,_,_,hg=>Kf hp l (Ke hp hg)
structure Pl where
 k:Ks
 g:Nat→Int
def nr (p:Pr)(s:Pl):Pl:=⟨k7 s.k (iZ (gh (eY p s.k.mr.length (cp s.k.ls s.k.mr.length) s.g))),eY p s.k.mr.length (cp s.k.ls s.k.mr.length) s.g⟩
def ik (p:Pr):Nat→Pl→Pl
 | 0,s=>s
 | n+1,s=>ik p n (nr p s)
theorem Ee (p:Pr):∀ (n:Nat) (s:Pl),ik p (n+1) s=nr p (ik p n s)
 | 0,_=>rfl
 | n+1,s=>by rw[ik,Ee p n (nr p s)];rfl
def ey (p:Pr)(s:Pl):Pl:=ik p (ax s.k-s.k.mr.length) s
def oc:Nat→Int:=λ_=>0
theorem XJ:dP oc:=λ_ _=>⟨by simp[oc],by simp[oc]⟩
def k8 (p:Pr)(ls:List (List UInt8))(f:Nat):Nat→Int:=foldI p 0 oc ((List.range f).map (cp ls))
def k9 (p:Pr)(ls:List (List UInt8))(f:Nat):Nat:=iZ (gh (k8 p ls (f+1)))
theorem Kg (p:Pr)(ls:List (List UInt8))(f:Nat):k8 p ls (f+1)=eY p f (cp ls f) (k8 p ls f):=by
 rw[k8,range_succ,cU,map_singleton,Cw,bf,length_range,Int.zero_add];rfl
def Ext (ls kj:List (List UInt8)):Prop:=kj.length=ls.length∧∀ i:Nat,i<ls.length→∃ t,kj.getD i []=ls.getD i []++t
theorem Ext.refl (ls:List (List UInt8)):Ext ls ls:=⟨rfl,λi _=>⟨[],by simp⟩⟩
theorem Ext.trans {a b c:List (List UInt8)}(h:Ext a b)(h2:Ext b c):Ext a c:=⟨h2.1.trans h.1,λi hi=>by
 obtain⟨t,ht⟩:=h.2 i hi;obtain⟨u,hu⟩:=h2.2 i (by rw[h.1];exact hi);exact⟨t++u,by rw[hu,ht,dw]⟩⟩
theorem Ext.set {ls:List (List UInt8)}{i:Nat}{t:List UInt8}:Ext ls (ls.set i (ls.getD i []++t)):=by
 refine⟨by simp,λj hj=>?_⟩;by_cases h:i=j
 ·subst h;exact⟨t,by simp[bl,hj]⟩
 ·exact⟨[],by simp[bl,getElem?_set_ne h]⟩
theorem getD_map {ls:List (List UInt8)}{f i:Nat}(h:i<ls.length):(cp ls f)[i]?=some ((ls.getD i []).getD f 0):=by
 rw[cp,bn,aO h,bl (l:=ls),aO h];rfl
theorem Ext.XK {ls kj:List (List UInt8)}(h:Ext ls kj){f:Nat}(hf:f<aU ls):cp kj f=cp ls f:=by
 apply ext_getElem?;intro i;by_cases hi:i<ls.length
 ·rw[getD_map (by rw[h.1];exact hi),getD_map hi];obtain⟨t,ht⟩:=h.2 i hi;have hl:=vE (tU hi);rw[ht,bl,lM (by omega),← bl]
 ·rw[iP (by rw[mW,h.1];omega),iP (by rw[mW];omega)]
theorem Ext.front {ls kj:List (List UInt8)}(h:Ext ls kj)(h0:ls≠[]):aU ls≤aU kj:=by
 refine D7 (λh1=>?_) λl hl=>?_
 ·have:=h.1;rw[h1]at this;exact h0 (g6 this.symm)
 ·obtain⟨i,hi,rfl⟩:=List.getElem_of_mem hl;have uR:i<ls.length:=by rw[← h.1];exact hi
  obtain⟨t,ht⟩:=h.2 i uR;have h3:=vE (tU uR);rw[bl,aO hi]at ht;simp only[Option.getD_some]at ht;rw[ht,aK];omega
theorem Ext.k8 {ls kj:List (List UInt8)}(h:Ext ls kj){p:Pr}{f:Nat}(hf:f≤aU ls):k8 p kj f=k8 p ls f:=by
 unfold Go.Proofs.YteoldcfapaiobaaGreat.k8
 congr 1
 refine List.map_congr_left λi hi=>h.XK ?_;rw[mem_range]at hi;omega
theorem Ext.k9 {ls kj:List (List UInt8)}(h:Ext ls kj){p:Pr}{f:Nat}(hf:f<aU ls):k9 p kj f=k9 p ls f:=by
 rw[Go.Proofs.YteoldcfapaiobaaGreat.k9,h.k8 (by omega)];rfl
structure WP (p:Pr)(s:Pl):Prop where
 wc:WC s.k
 held:held s.k
 low:s.k.mr.length≤ax s.k
 q5:s.g=k8 p s.k.ls s.k.mr.length
 marks:s.k.mr=(List.range s.k.mr.length).map (k9 p s.k.ls)
section
variable {p:Pr}{s:Pl}
theorem WP.ph (h:WP p s)(hp:dj p):dP s.g:=by rw[h.q5];exact Kf hp _ XJ
theorem WC.kL {k:Ks}(h:WC k):k.ls≠[]:=λe=>by
 have:=h.ls;have:=h.n;rw[e] at *;simp at *;omega
theorem WP.one (h:WP p s)(hl:s.k.mr.length<ax s.k):WP p (nr p s)∧(nr p s).k.ls=s.k.ls∧(nr p s).k.mr.length=s.k.mr.length+1:=by
 have h9:=h.wc.nq;have h8:=h.wc.lG;obtain⟨ps,ev,h1,h2⟩:=Kc s.k (iZ (gh (eY p s.k.mr.length (cp s.k.ls s.k.mr.length) s.g))) (by omega);have hk:(nr p s).k={ s.k with ps:=ps,ev:=ev,mr:=s.k.mr++[iZ (gh (eY p s.k.mr.length (cp s.k.ls s.k.mr.length) s.g))] }:=h1;have hm:(nr p s).k.mr.length=s.k.mr.length+1:=by rw[hk];simp
 have ff:(nr p s).k.ls=s.k.ls:=by rw[hk]
 have hg:eY p s.k.mr.length (cp s.k.ls s.k.mr.length) s.g=k8 p s.k.ls (s.k.mr.length+1):=by rw[Kg,h.q5]
 refine⟨⟨h.wc.mark (Dk _),?_,?_,?_,?_⟩,ff,hm⟩
 ·show Go.Proofs.YteoldcfapaiobaaGreat.held (k7 _ _);rw[k7];exact Kb _
 ·rw[hm,ax,ff];exact hl
 ·rw[hm,ff];exact hg
 ·rw[hm,ff,hk,range_succ,cU,← h.marks,hg];rfl
theorem WP.p6:∀ (n:Nat) {s:Pl},WP p s→n≤ax s.k-s.k.mr.length→WP p (ik p n s)∧(ik p n s).k.ls=s.k.ls∧(ik p n s).k.mr.length=s.k.mr.length+n
 | 0,_,h,_=>⟨h,rfl,rfl⟩
 | n+1,s,h,hn=>by
  obtain⟨h1,h2,h3⟩:=h.one (by omega);obtain⟨h4,h5,h6⟩:=h1.p6 n (by rw[ax,h2,h3];simp only[ax]at hn;omega);exact⟨h4,h5.trans h2,by rw[ik,h6,h3];omega⟩
theorem XL (h:s.k.mr.length<1000):∃ ps ev mr,(nr p s).k={ s.k with ps:=ps,ev:=ev,mr:=mr }:=by
 obtain⟨ps,ev,h1,h2⟩:=Kc s.k (iZ (gh (eY p s.k.mr.length (cp s.k.ls s.k.mr.length) s.g))) h;exact⟨ps,ev,_,h1⟩
theorem WP.Kh:∀ (n:Nat) {s:Pl},WP p s→n≤ax s.k-s.k.mr.length→∃ ps ev mr,(ik p n s).k={ s.k with ps:=ps,ev:=ev,mr:=mr }
 | 0,s,h,_=>⟨s.k.ps,s.k.ev,s.k.mr,rfl⟩
 | n+1,s,h,hn=>by
  have h9:=h.wc.nq;have h8:=h.wc.lG;obtain⟨h1,h2,h3⟩:=h.one (by omega);obtain⟨ps,ev,mr,h4⟩:=h1.Kh n (by rw[ax,h2,h3];simp only[ax]at hn;omega);obtain⟨gf,J9,mr',h5⟩:=XL (p:=p) (s:=s) (by omega);exact⟨ps,ev,mr,by rw[ik,h4,h5]⟩
structure cx (p:Pr)(s:Pl):Prop extends WP p s where
 full:s.k.mr.length=ax s.k
theorem WP.ey (h:WP p s):cx p (ey p s)∧(ey p s).k.ls=s.k.ls∧∃ ps ev mr,(Go.Proofs.YteoldcfapaiobaaGreat.ey p s).k={ s.k with ps:=ps,ev:=ev,mr:=mr }:=by
 obtain⟨h1,h2,h3⟩:=h.p6 _ (bh _);have hl:=h.low;refine⟨⟨h1,?_⟩,h2,h.Kh _ (bh _)⟩;show (ik p _ s).k.mr.length=aU (ik p _ s).k.ls;rw[h3,h2];show _=ax s.k;omega
theorem cx.ey (h:cx p s):ey p s=s:=by rw[Go.Proofs.YteoldcfapaiobaaGreat.ey,h.full,Nat.sub_self];rfl
theorem WP.more {k':Ks}(h:WP p s)(hw:WC k')(hh:Go.Proofs.YteoldcfapaiobaaGreat.held k')(hm:k'.mr=s.k.mr)(he:Ext s.k.ls k'.ls):WP p ⟨k',s.g⟩:=by
 have hf:=he.front h.wc.kL;have hl:=h.low;refine⟨hw,hh,?_,?_,?_⟩
 ·show k'.mr.length≤aU k'.ls;rw[hm];simp only[ax]at hl;omega
 ·show s.g=k8 p k'.ls k'.mr.length;rw[hm,he.k8 hl];exact h.q5
 ·show k'.mr=(List.range k'.mr.length).map (k9 p k'.ls);rw[hm]
  conv=>lhs;rw[h.marks]
  refine List.map_congr_left λi hi=>?_;rw[mem_range]at hi;simp only[ax]at hl;rw[he.k9 (by omega)]
def dI (p:Pr)(b:UInt8)(s:Pl):Int×Pl:=((c3 b s.k).1,ey p ⟨(c3 b s.k).2,s.g⟩)
noncomputable def dJ (p:Pr)(bs:List UInt8)(s:Pl):Int×Pl:=((dB bs s.k).1,ey p ⟨(dB bs s.k).2,s.g⟩)
def la (s:Pl):List UInt8×Nat:=(gh s.g,ax s.k)
theorem Ki (l:List UInt8)(f:Nat)(b:List UInt8):∃ t,dr l f b=l++t:=by
 unfold dr;split
 ·exact⟨[],by simp⟩
 ·exact⟨_,rfl⟩
theorem Ef {k:Ks}{p:Pk}:(fR k p).mr=k.mr∧Ext k.ls (fR k p).ls:=by
 unfold fR;split
 ·exact⟨rfl,Ext.refl _⟩
 ·obtain⟨ps,ev,h1,_⟩:=vH { k with ls:=k.ls.set p.aV.toNat (dr (k.ls.getD p.aV.toNat []) p.first.toNat p.ak),ps:=k.ps.set p.aV.toNat (fQ k.now (aF k) p (au k p.aV.toNat)) };rw[h1];obtain⟨t,ht⟩:=Ki (k.ls.getD p.aV.toNat []) p.first.toNat p.ak;refine⟨rfl,?_⟩;show Ext k.ls (k.ls.set _ _);rw[ht];exact Ext.set
theorem tX (b:UInt8)(k:Ks):(c3 b k).2.mr=k.mr∧Ext k.ls (c3 b k).2.ls:=by
 by_cases h0:(c3 b k).1=0
 ·obtain⟨h1,h2,h3,h4⟩:=tV h0;rw[h4];exact⟨rfl,Ext.set⟩
 ·rw[tW h0];exact⟨rfl,Ext.refl _⟩
theorem q6 (bs:List UInt8)(k:Ks):(dB bs k).2.mr=k.mr∧Ext k.ls (dB bs k).2.ls:=by
 by_cases h0:(dB bs k).1=0
 ·obtain⟨p,h1,h2,h3,h4,h5,h6⟩:=Ab h0;rw[h6];exact Ef
 ·rw[vJ h0];exact⟨rfl,Ext.refl _⟩
theorem cx.ak (h:cx p s)(b:UInt8):cx p (dI p b s).2:=by
 have h1:=tX b s.k;exact (h.toWP.more (h.wc.ak b) (h.held.ak b) h1.1 h1.2).ey.1
theorem cx.recv (h:cx p s)(bs:List UInt8):cx p (dJ p bs s).2:=by
 have h1:=q6 bs s.k;exact (h.toWP.more (h.wc.recv bs).1 ((h.wc.recv bs).2 h.held) h1.1 h1.2).ey.1
theorem cx.with {k':Ks}(h:cx p s)(hw:WC k')(hh:Go.Proofs.YteoldcfapaiobaaGreat.held k')(hm:k'.mr=s.k.mr)(he:k'.ls=s.k.ls):cx p ⟨k',s.g⟩:=by
 refine⟨h.toWP.more hw hh hm (by rw[he];exact Ext.refl _),?_⟩;show k'.mr.length=aU k'.ls;rw[hm,he];exact h.full
theorem Ad (k:Ks):(bm k).2.mr=k.mr∧(bm k).2.ls=k.ls:=by
 rcases vL k with h1 | ⟨hc,h1 | ⟨i,hi,h1⟩⟩ <;> rw[h1] <;> exact⟨rfl,rfl⟩
theorem Eg (k:Ks):(cu k).2.mr=k.mr∧(cu k).2.ls=k.ls:=by
 unfold cu;split <;> exact⟨rfl,rfl⟩
theorem cx.tick (h:cx p s):cx p ⟨(bm s.k).2,s.g⟩:=h.with h.wc.tick.1 (h.wc.tick.2 h.held) (Ad _).1 (Ad _).2
theorem cx.ob (h:cx p s):cx p ⟨(cu s.k).2,s.g⟩:=h.with h.wc.ob.1 (h.wc.ob.2 h.held) (Eg _).1 (Eg _).2
theorem cx.told (h:cx p s):cx p ⟨{ s.k with ev:=[] },s.g⟩:=h.with h.wc.XG (λi hi=>h.held i hi) rfl rfl
def ez (p:Pr)(c:Cf):Pl:=ey p ⟨fh c,oc⟩
theorem vM {c:Cf}(h:fg c):WP p ⟨fh c,oc⟩:=by
 obtain⟨h1,h2,h3⟩:=WC.new h;exact⟨h1,h2,Nat.zero_le _,rfl,rfl⟩
theorem cx.new {c:Cf}(h:fg c):cx p (ez p c):=(vM h).ey.1
end
section
variable {p:Pr}{me:Nat}{ls:List (List UInt8)}{s:Pl}{k:Ks}
theorem Kj (h:WP p s):(ey p s).k.n=s.k.n∧(ey p s).k.me=s.k.me∧(ey p s).k.id=s.k.id∧(ey p s).k.cl=s.k.cl∧(ey p s).k.bo=s.k.bo∧(ey p s).k.now=s.k.now∧(ey p s).k.ls=s.k.ls:=by
 obtain⟨_,h2,ps,ev,mr,h3⟩:=h.ey;rw[h3];exact⟨rfl,rfl,rfl,rfl,rfl,rfl,rfl⟩
theorem Kk (p:Pk):(aR p).length≤507:=by
 unfold aR;split
 ·rename_i h;have:=Jo h;rw[xx];omega
 ·simp
end
end
section
def Ae:TypeDesc→Bool | .interface _=>true | _=>false
section
variable {P:Program}{a:Act}{w:World}{n:Nat}{l:List (Nat×Value)}{v:Value}
theorem Eh {x t Ei ef dst ty ps af g}(E:Fr a n l)(ht:P.underlying t=some ef)(hd:Ae ef=false)[e:Ev l x (.iface t v)] :
   (execOp a.eval ⟨dst,.typeAssert x Ei t true,ty,ps,af,g⟩).run P w=.ok (.value (.tuple #[v,.bool true])) w:=by
 cases ef <;> first | (simp[Ae]at hd) | skip
 all_goals simp[execOp,e.ev a n E,Instr.typeAssert,eM ht]
theorem Ej {x t t' Ei ef dst z sz aX ty ps af g}(E:Fr a n l)(ht:P.underlying t=some ef)(hd:Ae ef=false)(hi:TI P t z sz aX)(hn:Nat.beq t' t=false)[e:Ev l x (.iface t' v)] :
   (execOp a.eval ⟨dst,.typeAssert x Ei t true,ty,ps,af,g⟩).run P w=.ok (.value (.tuple #[z,.bool false])) w:=by
 have bN:¬ t'=t:=λh=>by rw[h,Nat.beq_refl]at hn;cases hn
 cases ef <;> first | (simp[Ae]at hd) | skip
 all_goals simp[execOp,e.ev a n E,Instr.typeAssert,eM ht,s5 hi,bN]
end
abbrev jV:=Nat×Nat×Nat
def sF (e:jV):Prop:=e.1≤3∧1≤e.1∧e.2.1<8∧e.2.2≤1000∧(e.1=3∨e.2.2=0)
def cy (e:jV):Value:=if e.1=1 then .iface 210 (.agg #[.int .i64 e.2.1]) else if e.1=2 then .iface 211 (.agg #[.int .i64 e.2.1]) else .iface 213 (.agg #[.int .i64 e.2.1,.int .i64 e.2.2])
theorem Ek (e:jV):(cy e).oneCell'=true:=by
 unfold cy;split
 ·rfl
 ·split <;> rfl
instance {e:jV}:One (cy e):=⟨Ek e⟩
abbrev bS (e:jV):List Value:=[.int .i64 e.1,.int .i64 e.2.1,.int .i64 e.2.2]
theorem El (e:jV):(bS e).length=3:=rfl
theorem Em (e:jV):∀ v∈bS e,v.oneCell'=true:=by
 intro v hv;simp[bS]at hv;rcases hv with rfl | rfl | rfl <;> rfl
section
variable {W w:World}{L:List SP}{e:jV}
theorem XM (I:V W w L)(h:sF e):Calls prog 231 #[.agg (bS e).toArray] w λr w'=>r=.returned (.tuple #[.agg #[cy e],.bool true])∧V W w' L:=by
 obtain⟨h1,h2,h3,h4,h5⟩:=h;refine EN func231 ntmps231 rfl rfl λa E=>?_;refine BX 1 E I λb1 a w E I=>?_;change V W w (aa b1 102 (bS e)::_) at I;refine AL 0 E I λb2 a w E I=>?_;refine RN 7 E I λa E=>?_;rw[bq (by omega)]at E;refine RN 5 E I λa E=>?_;rw[bq (by omega)]at E;refine RN 5 E I λa E=>?_;rw[bq (by omega)]at E;refine RN 5 E I λa E=>?_;rw[bq (by omega)]at E;refine BY 4 E I (λo9 a E=>?_) λo9 a E=>?_
 ·
  refine RN 5 E I λa E=>?_;rw[bq (by omega)]at E;refine IF 8 E I (λan a E=>?_) λan a E=>?_
  ·
   refine SA 6 E I λa w E I=>?_;refine RT 1 E I ?_;exact⟨by rw[cy,al (by omega)],I.sub⟩
  refine IF 3 E I (λay a E=>?_) λay a E=>?_
  ·
   refine SA 6 E I λa w E I=>?_;refine RT 1 E I ?_;exact⟨by rw[cy,ae (by omega),al (by omega)],I.sub⟩
  refine IF 3 E I (λbg a E=>?_) λbg a E=>?_
  ·
   refine SA 8 E I λa w E I=>?_;refine RT 1 E I ?_;exact⟨by rw[cy,ae (by omega),ae (by omega)],I.sub⟩
  exfalso;omega
 refine IF 13 E I (λan a E=>?_) λan a E=>?_
 ·
  refine SA 6 E I λa w E I=>?_;refine RT 1 E I ?_;exact⟨by rw[cy,al (by omega)],I.sub⟩
 refine IF 3 E I (λay a E=>?_) λay a E=>?_
 ·
  refine SA 6 E I λa w E I=>?_;refine RT 1 E I ?_;exact⟨by rw[cy,ae (by omega),al (by omega)],I.sub⟩
 refine IF 3 E I (λbg a E=>?_) λbg a E=>?_
 ·
  refine SA 8 E I λa w E I=>?_;refine RT 1 E I ?_;exact⟨by rw[cy,ae (by omega),ae (by omega)],I.sub⟩
 exfalso;omega
theorem XN (I:V W w L)(h:sF e)(hk:e.1=1):Calls prog 80 #[.agg #[cy e]] w λr w'=>r=.returned (.agg (bS e).toArray)∧V W w' L:=by
 have he:cy e=.iface 210 (.agg #[.int .i64 e.2.1]):=by rw[cy,al hk]
 have hz:e.2.2=0:=by have:=h.2.2.2.2;omega
 rw[he];refine EN func80 ntmps80 rfl rfl λa E=>?_;refine BX 1 E I λb1 a w E I=>?_;refine AL 0 E I λb2 a w E I=>?_;refine RN 5 E I λa E=>?_;refine SK (bz E rfl (Eh E underlying210 rfl) rfl ?_);clear E a;intro a E;refine RN 2 E I λa E=>?_;replace E:=E.eo 9;refine AL 2 E I λb3 a w E I=>?_
 skip
 refine SA 0 E I λa w E I=>?_;refine SA 4 E I λa w E I=>?_;refine RT 0 E I ?_;exact⟨by rw[bS,hk,hz];rfl,I.sub⟩
theorem XO (I:V W w L)(h:sF e)(hk:e.1=2):Calls prog 80 #[.agg #[cy e]] w λr w'=>r=.returned (.agg (bS e).toArray)∧V W w' L:=by
 have he:cy e=.iface 211 (.agg #[.int .i64 e.2.1]):=by rw[cy,ae (by omega),al hk]
 have hz:e.2.2=0:=by have:=h.2.2.2.2;omega
 rw[he];refine EN func80 ntmps80 rfl rfl λa E=>?_;refine BX 1 E I λb1 a w E I=>?_;refine AL 0 E I λb2 a w E I=>?_;refine RN 5 E I λa E=>?_;refine SK (bz E rfl (Ej E underlying210 rfl Ty.t210 rfl) rfl ?_);clear E a;intro a E;refine RN 2 E I λa E=>?_;replace E:=E.aN 9;refine RN 2 E I λa E=>?_;refine SK (bz E rfl (Eh E underlying211 rfl) rfl ?_);clear E a;intro a E;refine RN 2 E I λa E=>?_;replace E:=E.eo 15;refine AL 2 E I λb4 a w E I=>?_;refine SA 0 E I λa w E I=>?_;refine SA 4 E I λa w E I=>?_;refine RT 0 E I ?_;exact⟨by rw[bS,hk,hz];rfl,I.sub⟩
theorem XP (I:V W w L)(h:sF e)(hk:e.1=3):Calls prog 80 #[.agg #[cy e]] w λr w'=>r=.returned (.agg (bS e).toArray)∧V W w' L:=by
 have he:cy e=.iface 213 (.agg #[.int .i64 e.2.1,.int .i64 e.2.2]):=by rw[cy,ae (by omega),ae (by omega)]
 rw[he];refine EN func80 ntmps80 rfl rfl λa E=>?_;refine BX 1 E I λb1 a w E I=>?_;refine AL 0 E I λb2 a w E I=>?_;refine RN 5 E I λa E=>?_;refine SK (bz E rfl (Ej E underlying210 rfl Ty.t210 rfl) rfl ?_);clear E a;intro a E;refine RN 2 E I λa E=>?_;replace E:=E.aN 9;refine RN 2 E I λa E=>?_;refine SK (bz E rfl (Ej E underlying211 rfl Ty.t211 rfl) rfl ?_);clear E a;intro a E;refine RN 2 E I λa E=>?_;replace E:=E.aN 15;refine RN 2 E I λa E=>?_;refine SK (bz E rfl (Eh E underlying213 rfl) rfl ?_);clear E a;intro a E;refine RN 2 E I λa E=>?_;replace E:=E.eo 21;refine AL 2 E I λb5 a w E I=>?_;refine SA 0 E I λa w E I=>?_;refine SA 6 E I λa w E I=>?_;refine RT 0 E I ?_;exact⟨by rw[bS,hk];rfl,I.sub⟩
theorem XQ (I:V W w L)(h:sF e):Calls prog 80 #[.agg #[cy e]] w λr w'=>r=.returned (.agg (bS e).toArray)∧V W w' L:=by
 have h1:=h.1;have h2:=h.2.1;by_cases k1:e.1=1
 ·exact XN I h k1
 ·by_cases k2:e.1=2
  ·exact XO I h k2
  ·exact XP I h (by omega)
end
end
end Go.Proofs.YteoldcfapaiobaaGreat
