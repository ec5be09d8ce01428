/- Plain side of what a player knows: the document's P21 and P22. -/
import Derived.Test.YteoldcfapaiobaaGreatI08Pkt3
import Derived.Test.YteoldcfapaiobaaGreatI05Vm
namespace Go.Proofs.YteoldcfapaiobaaGreat
open Tryz
open List (length_range length_nil mem_range eraseIdx_set_eq ext_getElem? range_succ getElem?_set_ne map_singleton)
open Go.RowKit
set_option linter.unusedVariables false
set_option linter.unusedSimpArgs false
set_option maxRecDepth 10000
set_option synthInstance.maxSize 4000
set_option synthInstance.maxHeartbeats 400000
section
structure Cf where
 n:Int
 me:Int
 id:Int
 aJ:Int
 bt:Int
 bh:Int
 order:Int
 cx:Int
 workers:Int
 room:Int
abbrev bS (c:Cf):List Value:=[.int .i64 c.n,.int .i64 c.me,.int .i64 c.id,.int .i64 c.aJ,.int .i64 c.bt,.int .i64 c.bh,.int .i64 c.order,.int .i64 c.cx,.int .i64 c.workers,.int .i64 c.room]
def fE (n l h:Int):Prop:=l≤n∧n≤h
instance (n l h:Int):Decidable (fE n l h):=inferInstanceAs (Decidable (_∧_))
def eY (c:Cf):Prop:=(fE c.n 2 8∧fE c.me 0 (c.n-1)∧fE c.id 0 1099511627776)∧(fE c.aJ 0 8∧fE c.bt 1 16∧fE c.bh 1 3∧fE c.order 0 3) ∧
 (c.order=0∨c.bh=2)∧fE c.cx 0 8∧fE c.workers 0 4∧fE c.room 3 50
instance (c:Cf):Decidable (eY c):=inferInstanceAs (Decidable (_∧_))
structure Pe where
 has:Nat
 heard:Nat
 frame:Nat
 sum:Nat
 apart:Bool
structure Ks where
 n:Nat
 me:Nat
 aJ:Nat
 bt:Nat
 id:Int
 bh:Int
 order:Int
 cx:Int
 workers:Int
 room:Int
 ls:List (List UInt8)
 ps:List Pe
 mr:List Nat
 ev:List (Nat×Nat×Nat)
 now:Nat
 cl:Bool
def fq (k:Ks):Cf:=⟨k.n,k.me,k.id,k.aJ,k.bt,k.bh,k.order,k.cx,k.workers,k.room⟩
def fF (d:Nat):Pe:=⟨d,0,0,0,false⟩
def ft (c:Cf):Ks:=⟨c.n.toNat,c.me.toNat,c.aJ.toNat,c.bt.toNat,c.id,c.bh,c.order,c.cx,c.workers,c.room,
 List.replicate c.n.toNat (List.replicate c.aJ.toNat 0),List.replicate c.n.toNat (fF c.aJ.toNat),[],[],0,false⟩
def aH (k:Ks):Nat:=(k.ls.getD k.me []).length
def aw (k:Ks):Nat:=aU k.ls
def xL (mk:List Nat)(p:Pe):Prop:=p.apart=false∧1≤p.frame∧p.frame≤mk.length∧mk.getD (p.frame-1) 0≠p.sum
instance (mk:List Nat)(p:Pe):Decidable (xL mk p):=inferInstanceAs (Decidable (_∧_))
def au (k:Ks)(i:Nat):Pe:=k.ps.getD i (fF 0)
def lC (k:Ks)(i:Nat):Ks:=if xL k.mr (au k i) then { k with ps:=k.ps.set i { au k i with apart:=true },ev:=k.ev++[(3,i,(au k i).frame)] } else k
def gG (k:Ks):Nat→Ks
 | 0=>k
 | i+1=>lC (gG k i) i
def lD (k:Ks):Ks:=gG k k.ps.length
def l4 (k:Ks)(s:Nat):Ks:=lD (if k.mr.length<1000 then { k with mr:=k.mr++[s] } else k)
def c5 (b:UInt8)(k:Ks):Int×Ks:=if k.cl=true then (6,k) else if 1000≤aH k then (4,k) else if k.bt+aw k≤aH k then (5,k) else (0,{ k with ls:=k.ls.set k.me (k.ls.getD k.me []++[b]) })
def gd (now head:Nat)(p:Pk)(x:Pe):Pe :=
 let h:=if x.has<p.dd.toNat∧p.dd.toNat≤head then p.dd.toNat else x.has
 if 0<p.frame∧(x.frame:Int)≤p.frame then { x with heard:=now,has:=h,frame:=p.frame.toNat,sum:=p.sum } else { x with heard:=now,has:=h }
def gf (k:Ks)(p:Pk):Ks :=
 if p.kind=2 then { k with ps:=k.ps.set p.aW.toNat { au k p.aW.toNat with heard:=k.now },ev:=k.ev++[(1,p.aW.toNat,0)],cl:=true }
 else lD { k with ls:=k.ls.set p.aW.toNat (dw (k.ls.getD p.aW.toNat []) p.first.toNat p.al),ps:=k.ps.set p.aW.toNat (gd k.now (aH k) p (au k p.aW.toNat)) }
noncomputable def dD (bs:List UInt8)(k:Ks):Int×Ks:=if k.cl=true then (6,k) else match eC bs with
 | none=>(1,k)
 | some p=>if p.to≠k.me∨(k.n:Int)≤p.aW∨p.id≠k.id then (1,k) else (0,gf k p)
def dW (k:Ks)(i:Nat):Pk:=⟨1,k.me,i,k.id,(au k i).has,(k.ls.getD i []).length,k.mr.length,k.mr.getLastD 0,((k.ls.getD k.me []).drop (au k i).has).take 32⟩
def iI (k:Ks)(i:Nat):Pk:=⟨2,k.me,i,k.id,0,0,0,0,[]⟩
def bH (k:Ks):List Nat:=(List.range k.n).filter (·≠k.me)
def jL (k:Ks)(i:Nat):Prop:=(au k i).heard+40≤k.now
instance (k:Ks)(i:Nat):Decidable (jL k i):=inferInstanceAs (Decidable (_≤_))
abbrev Ml:=Nat×Nat×List UInt8
def bw (k:Ks):List Ml×Ks:=if k.cl=true then ([],k) else
 let k:={ k with now:=k.now+1 }
 match (bH k).find? (λi=>decide (jL k i)) with
 | some i=>([],{ k with ev:=k.ev++[(2,i,0)],cl:=true })
 | none=>((bH k).map λi=>(k.me,i,aT (dW k i)),k)
def cA (k:Ks):List Ml×Ks:=if k.cl=true then ([],k) else ((bH k).map λi=>(k.me,i,aT (iI k i)),{ k with cl:=true })
def held (k:Ks):Prop:=∀ i,i<k.ps.length→¬ xL k.mr (au k i)
structure WC (k:Ks):Prop where
 n:2≤k.n∧k.n≤8
 me:k.me<k.n
 id:0≤k.id∧k.id≤1099511627776
 aJ:k.aJ≤8
 bt:1≤k.bt∧k.bt≤16
 ls:k.ls.length=k.n
 ps:k.ps.length=k.n
 nN:∀ l∈k.ls,l.length≤1000
 mr:k.mr.length≤1000
 sI:∀ s∈k.mr,s<4294967296
 now:∀ p∈k.ps,p.heard≤k.now
 pe:∀ p∈k.ps,p.has≤1000∧p.frame≤1000∧p.sum<4294967296
 bB:∀ e∈k.ev,e.1≤3∧1≤e.1∧e.2.1<8∧e.2.2≤1000∧(e.1=3∨e.2.2=0)
 ph:k.ev.length+k.ps.countP (λp=>!p.apart)+(if k.cl=true then 0 else 1)≤k.n+1
section
variable {k:Ks}{i:Nat}
theorem WC.kY (h:WC k):k.ev.length≤9:=by have:=h.ph;have:=h.n;omega
theorem aaF (h:i<k.ps.length):au k i∈k.ps:=by
 rw[au,br,aD h];exact jj _
theorem vF {ls:List (List UInt8)}(h:i<ls.length):ls.getD i []∈ls:=by
 rw[br,aD h];exact jj _
theorem WC.qm (h:WC k)(hi:i<k.n):(au k i).has≤1000∧(au k i).heard≤k.now∧(au k i).frame≤1000∧(au k i).sum<4294967296:=by
 have hm:=aaF (k:=k) (i:=i) (by rw[h.ps];exact hi);exact⟨(h.pe _ hm).1,h.now _ hm,(h.pe _ hm).2⟩
theorem WC.mG (h:WC k)(hi:i<k.n):(k.ls.getD i []).length≤1000:=h.nN _ (vF (by rw[h.ls];exact hi))
theorem WC.l5 (h:WC k):aH k≤1000:=h.mG h.me
theorem WC.nO (h:WC k):aw k≤aH k:=xJ (vF (by rw[h.ls];exact h.me))
theorem mem_set {α:Type}{l:List α}{x y:α}(h:y∈l.set i x):y∈l∨y=x:=r5 h
theorem WC.CE (h:WC k){p:Pe}{ev:List (Nat×Nat×Nat)}{cl:Bool}(hp:p.has≤1000∧p.frame≤1000∧p.sum<4294967296)(hh:p.heard≤k.now)
   (he:∀ e∈ev,e.1≤3∧1≤e.1∧e.2.1<8∧e.2.2≤1000∧(e.1=3∨e.2.2=0)) (hn:ev.length+(k.ps.set i p).countP (λp=>!p.apart)+(if cl=true then 0 else 1)≤k.n+1):WC { k with ps:=k.ps.set i p,ev:=ev,cl:=cl } :=
 { h with
  ps:=by show (k.ps.set i p).length=_;rw[bz];exact h.ps
  now:=λq hq=>by
   rcases mem_set hq with hq | rfl
   ·exact h.now q hq
   ·exact hh
  pe:=λq hq=>by
   rcases mem_set hq with hq | rfl
   ·exact h.pe q hq
   ·exact hp
  bB:=he
  ph:=hn }
theorem count_set {l:List Pe}{p:Pe}(h:i<l.length):(l.set i p).countP (λp=>!p.apart)+(if l[i].apart=true then 0 else 1)=l.countP (λp=>!p.apart)+(if p.apart=true then 0 else 1):=by
 have h1:l.countP (λp=>!p.apart)=(l[i]::l.eraseIdx i).countP (λp=>!p.apart):=List.Perm.countP_eq _ (tg _ h);have hi:i<(l.set i p).length:=by simpa using h
 have h2:(l.set i p).countP (λp=>!p.apart)=((l.set i p)[i]::(l.set i p).eraseIdx i).countP (λp=>!p.apart):=List.Perm.countP_eq _ (tg _ hi);rw[h1,h2,List.countP_cons,List.countP_cons,oP,eraseIdx_set_eq];cases l[i].apart <;> cases p.apart <;> simp <;> omega
theorem WC.lC (h:WC k)(hi:i<k.n):WC (lC k i):=by
 unfold Go.Proofs.YteoldcfapaiobaaGreat.lC;split
 ·rename_i hb;have aG:i<k.ps.length:=by rw[h.ps];exact hi
  have hp:=h.qm hi;have pV:au k i=k.ps[i]:=by rw[au,br,aD aG];rfl
  refine h.CE ⟨hp.1,hp.2.2⟩ hp.2.1 (λe he=>?_) ?_
  ·rcases e7.1 he with he | he
   ·exact h.bB e he
   ·rw[iP]at he;subst he;have:=h.n;exact⟨by simp,by simp,by simp;omega,hp.2.2.1,.inl rfl⟩
  ·have hc:=count_set (p:={ au k i with apart:=true }) aG;rw[← pV,hb.1]at hc;have:=h.ph;rw[aM,jJ];simp at hc ⊢;omega
 ·exact h
end
section
variable {k:Ks}{i:Nat}
theorem Ni (k:Ks)(i:Nat):∃ ps ev,lC k i={ k with ps:=ps,ev:=ev }∧ps.length=k.ps.length:=by
 unfold lC;split
 ·exact⟨_,_,rfl,by simp⟩
 ·exact⟨k.ps,k.ev,rfl,rfl⟩
theorem zP (k:Ks):∀ i,∃ ps ev,gG k i={ k with ps:=ps,ev:=ev }∧ps.length=k.ps.length
 | 0=>⟨k.ps,k.ev,rfl,rfl⟩
 | i+1=>by
  obtain⟨ps,ev,h1,h2⟩:=zP k i;obtain⟨gC,Nj,h3,h4⟩:=Ni (gG k i) i;refine⟨gC,Nj,?_,?_⟩
  ·rw[gG,h3,h1]
  ·rw[h4,h1];exact h2
theorem xM (k:Ks):∃ ps ev,lD k={ k with ps:=ps,ev:=ev }∧ps.length=k.ps.length:=zP k _
theorem WC.gG (h:WC k):∀ {i},i≤k.n→WC (gG k i)
 | 0,_=>h
 | i+1,hi=>by
  rw[Go.Proofs.YteoldcfapaiobaaGreat.gG];refine (h.gG (i:=i) (by omega)).lC ?_;obtain⟨ps,ev,h1,_⟩:=zP k i;rw[h1];show i<k.n;omega
theorem WC.lD (h:WC k):WC (lD k):=h.gG (by rw[h.ps];exact a7 _)
theorem aaG (k:Ks)(i:Nat)(hi:i<k.ps.length):¬ xL (lC k i).mr (au (lC k i) i):=by
 unfold lC;split
 ·intro hb;have:=hb.1;simp[au,hi]at this
 ·assumption
theorem aaH (k:Ks){i j:Nat}(h:j≠i):au (lC k i) j=au k j:=by
 unfold lC;split
 ·simp only[au,br];rw[getElem?_set_ne (by omega)]
 ·rfl
theorem aaI (k:Ks)(i:Nat):(lC k i).mr=k.mr:=by
 obtain⟨ps,ev,h1,_⟩:=Ni k i;rw[h1]
theorem CF (k:Ks)(i:Nat):(gG k i).ps.length=k.ps.length:=by
 obtain⟨ps,ev,h1,h2⟩:=zP k i;rw[h1];exact h2
theorem Nk (k:Ks):∀ {i j},i≤k.ps.length→j<i→¬ xL (gG k i).mr (au (gG k i) j)
 | 0,_,_,h=>absurd h (by omega)
 | i+1,j,hi,hj=>by
  rw[Go.Proofs.YteoldcfapaiobaaGreat.gG];by_cases h:j=i
  ·subst h;exact aaG _ _ (by rw[CF];omega)
  ·rw[aaI,aaH _ h];exact Nk k (by omega) (by omega)
theorem Nl (k:Ks):held (lD k):=λi hi=>Nk k (a7 _) (by rw[lD,CF]at hi;exact hi)
theorem held.gG (h:held k):∀ {i},i≤k.ps.length→gG k i=k
 | 0,_=>rfl
 | i+1,hi=>by
  rw[Go.Proofs.YteoldcfapaiobaaGreat.gG,h.gG (i:=i) (by omega),lC,ag (h i (by omega))]
theorem held.lD (h:held k):lD k=k:=h.gG (a7 _)
theorem held.of {k':Ks}(h:held k)(hm:k'.mr=k.mr)(hl:k'.ps.length=k.ps.length)(hp:∀ i,i<k.ps.length→(au k' i).apart=(au k i).apart∧(au k' i).frame=(au k i).frame∧(au k' i).sum=(au k i).sum):held k':=by
 intro i hi hb;rw[hl]at hi;obtain⟨h1,h2,h3⟩:=hp i hi;refine h i hi ?_;simp only[xL,hm,h1,h2,h3]at hb;exact hb
theorem WC.mark (h:WC k){s:Nat}(I:s<4294967296):WC (l4 k s):=by
 unfold l4;refine WC.lD ?_;split
 ·exact { h with
   mr:=by show (k.mr++[s]).length≤1000;rw[aM,jJ];omega
   sI:=λx hx=>by
    rcases e7.1 hx with hx | hx
    ·exact h.sI x hx
    ·rw[iP]at hx;rw[hx];exact I }
 ·exact h
theorem Nm (k:Ks)(s:Nat)(hl:k.mr.length<1000):∃ ps ev,l4 k s={ k with ps:=ps,ev:=ev,mr:=k.mr++[s] }∧ps.length=k.ps.length:=by
 obtain⟨ps,ev,h1,h2⟩:=xM { k with mr:=k.mr++[s] };refine⟨ps,ev,?_,h2⟩;rw[l4,aj hl,h1]
theorem vG {k:Ks}{b:UInt8}(h:(c5 b k).1=0):k.cl=false∧aH k<1000∧aH k<k.bt+aw k∧(c5 b k).2={ k with ls:=k.ls.set k.me (k.ls.getD k.me []++[b]) }:=by
 unfold c5 at h ⊢;split at h
 ·cases h
 ·split at h
  ·cases h
  ·split at h
   ·cases h
   ·rename_i h1 h2 h3;refine⟨by simpa using h1,by omega,by omega,?_⟩;rw[ag h1,ag h2,ag h3]
theorem vH {k:Ks}{b:UInt8}(h:(c5 b k).1≠0):(c5 b k).2=k:=by
 unfold c5 at h ⊢;split
 ·rfl
 ·rename_i h1;rw[ag h1]at h;split
  ·rfl
  ·rename_i h2;rw[ag h2]at h;split
   ·rfl
   ·rename_i h3;rw[ag h3]at h;exact absurd rfl h
theorem WC.al (h:WC k)(b:UInt8):WC (c5 b k).2:=by
 by_cases h0:(c5 b k).1=0
 ·obtain⟨h1,h2,h3,h4⟩:=vG h0;rw[h4];exact { h with
   ls:=by show (k.ls.set _ _).length=_;rw[bz];exact h.ls
   nN:=λl hl=>by
    rcases mem_set hl with hl | rfl
    ·exact h.nN l hl
    ·rw[aM,jJ];simp only[aH]at h2;omega }
 ·rw[vH h0];exact h
theorem held.al (h:held k)(b:UInt8):held (c5 b k).2:=by
 by_cases h0:(c5 b k).1=0
 ·obtain⟨h1,h2,h3,h4⟩:=vG h0;rw[h4];exact h
 ·rw[vH h0];exact h
theorem WC.aaJ (h:WC k):WC { k with ev:=[] } :=
 { h with
  bB:=λe he=>by cases he
  ph:=by have:=h.ph;show ([]:List (Nat×Nat×Nat)).length+_+_≤_;simp only[length_nil];omega }
theorem xN {k:Ks}{i j:Nat}{p:Pe}(hi:i<k.ps.length):(k.ps.set i p).getD j (fF 0)=if j=i then p else au k j:=by
 simp only[au,br,jB];by_cases h:i=j
 ·subst h;simp[hi]
 ·rw[ag h,ag (λe=>h e.symm)]
theorem Hi {k:Ks}{i:Nat}{p:Pe}(hi:i<k.ps.length)(E:p.apart=(au k i).apart):(k.ps.set i p).countP (λp=>!p.apart)=k.ps.countP (λp=>!p.apart):=by
 have hc:=count_set (p:=p) hi;have pV:au k i=k.ps[i]:=by rw[au,br,aD hi];rfl
 rw[← pV,E]at hc;omega
theorem WC.zQ (h:WC k){p:Pk}(hp:ik p)(I:p.sum<4294967296)(hn:p.aW<k.n)(hc:k.cl=false):WC (gf k p)∧(held k→held (gf k p)):=by
 have Hj:=hp.1.1;have aG:p.aW.toNat<k.n:=by omega
 have Hk:p.aW.toNat<k.ps.length:=by rw[h.ps];exact aG
 have iJ:=h.qm aG;unfold gf;split
 ·have iu:=Hi (p:={ au k p.aW.toNat with heard:=k.now }) Hk rfl;refine⟨h.CE (p:={ au k p.aW.toNat with heard:=k.now }) (cl:=true) ⟨iJ.1,iJ.2.2⟩ (a7 _) (λe he=>?_) ?_,λhh=>hh.of rfl (by simp) λj hj=>?_⟩
  ·rcases e7.1 he with he | he
   ·exact h.bB e he
   ·rw[iP]at he;subst he;have:=h.n;exact⟨by simp,by simp,by show p.aW.toNat<8;omega,by simp,.inr rfl⟩
  ·have:=h.ph;rw[hc]at this;rw[iu,aM,jJ];simp at this ⊢;omega
  ·show ((k.ps.set _ _).getD j _).apart=_∧((k.ps.set _ _).getD j _).frame=_∧((k.ps.set _ _).getD j _).sum=_;rw[xN Hk];split
   ·rename_i h1;subst h1;exact⟨rfl,rfl,rfl⟩
   ·exact⟨rfl,rfl,rfl⟩
 ·refine⟨WC.lD ?_,λ_=>Nl _⟩;have hk:p.kind=1∧eM p.first∧eM p.dd∧eM p.frame∧p.al.length≤32:=by
   rcases hp.2.2.2.2 with h1 | h1
   ·exact h1
   ·rename_i h2;exact absurd h1.1 h2
  have Ek:(gd k.now (aH k) p (au k p.aW.toNat)).apart=(au k p.aW.toNat).apart:=by
   unfold gd;simp only;split <;> rfl
  have iu:=Hi (p:=gd k.now (aH k) p (au k p.aW.toNat)) Hk Ek;have ha1:=hk.2.2.1;have jA:=hk.2.2.2.1;simp only[eM]at ha1 jA;have g4:=h.l5;have hq:(gd k.now (aH k) p (au k p.aW.toNat)).has≤1000∧(gd k.now (aH k) p (au k p.aW.toNat)).frame≤1000∧(gd k.now (aH k) p (au k p.aW.toNat)).sum<4294967296∧(gd k.now (aH k) p (au k p.aW.toNat)).heard=k.now:=by
   unfold gd;simp only;have h9:(if (au k p.aW.toNat).has<p.dd.toNat∧p.dd.toNat≤aH k then p.dd.toNat else (au k p.aW.toNat).has)≤1000:=by split <;> omega
   split
   ·exact⟨h9,by show p.frame.toNat≤1000;omega,I,rfl⟩
   ·exact⟨h9,iJ.2.2.1,iJ.2.2.2,rfl⟩
  have h1:=h.CE (p:=gd k.now (aH k) p (au k p.aW.toNat)) (i:=p.aW.toNat) (ev:=k.ev) (cl:=k.cl) ⟨hq.1,hq.2.1,hq.2.2.1⟩ (by rw[hq.2.2.2];exact a7 _) h.bB (by rw[iu];exact h.ph);have hV:=h.mG aG;exact { h1 with
   ls:=by show (k.ls.set _ _).length=_;rw[bz];exact h.ls
   nN:=λl hl=>by
    rcases mem_set hl with hl | rfl
    ·exact h.nN l hl
    ·exact (sG hV).2 }
theorem CG {k:Ks}{bs:List UInt8}(h:(dD bs k).1=0):∃ p,eC bs=some p∧k.cl=false∧p.to=k.me∧p.aW<k.n∧p.id=k.id∧(dD bs k).2=gf k p:=by
 unfold dD at h ⊢;split at h
 ·cases h
 ·rename_i h1;rw[ag h1];cases hd:eC bs with
  | none=>rw[hd]at h;cases h
  | some p =>
   rw[hd]at h;simp only at h ⊢;split at h
   ·cases h
   ·rename_i h2;rw[ag h2];have h3:p.to=k.me:=Decidable.of_not_not λhh=>h2 (.inl hh);have h4:p.id=k.id:=Decidable.of_not_not λhh=>h2 (.inr (.inr hh));have h5:p.aW<k.n:=Int.not_le.1 λhh=>h2 (.inr (.inl hh));exact⟨p,rfl,by simpa using h1,h3,h5,h4,rfl⟩
theorem xO {k:Ks}{bs:List UInt8}(h:(dD bs k).1≠0):(dD bs k).2=k:=by
 unfold dD at h ⊢;split
 ·rfl
 ·rename_i h1;rw[ag h1]at h;cases hd:eC bs with
  | none=>rfl
  | some p =>
   rw[hd]at h;simp only at h ⊢;split
   ·rfl
   ·rename_i h2;rw[ag h2]at h;exact absurd rfl h
theorem WC.recv (h:WC k)(bs:List UInt8):WC (dD bs k).2∧(held k→held (dD bs k).2):=by
 by_cases h0:(dD bs k).1=0
 ·obtain⟨p,h1,h2,h3,h4,h5,h6⟩:=CG h0;obtain⟨h7,h8,h9⟩:=GL h1;rw[h6];exact h.zQ h7 h8 h4 h2
 ·rw[xO h0];exact⟨h,λh=>h⟩
theorem xP {k:Ks}{i:Nat}:i∈bH k↔i<k.n∧i≠k.me:=by simp[bH]
theorem WC.CH (h:WC k):WC { k with now:=k.now+1 }:={ h with now:=λp hp=>Nat.le_succ_of_le (h.now p hp) }
theorem WC.late (h:WC k){i:Nat}(hi:i<8)(hc:k.cl=false):WC { k with ev:=k.ev++[(2,i,0)],cl:=true } :=
 { h with
  bB:=λe he=>by
   rcases e7.1 he with he | he
   ·exact h.bB e he
   ·rw[iP]at he;subst he;exact⟨by simp,by simp,hi,by simp,.inr rfl⟩
  ph:=by
   have:=h.ph;rw[hc]at this;rw[aM,jJ];simp at this ⊢;omega }
theorem xQ (k:Ks):(bw k).2=k∨(k.cl=false∧((bw k).2={ k with now:=k.now+1 }∨∃ i,i<k.n∧(bw k).2={ k with now:=k.now+1,ev:=k.ev++[(2,i,0)],cl:=true })):=by
 unfold bw;split
 ·exact .inl rfl
 ·rename_i hc;refine .inr ⟨by simpa using hc,?_⟩;simp only;cases hf:(bH { k with now:=k.now+1 }).find? (λi=>decide (jL { k with now:=k.now+1 } i)) with
  | none=>exact .inl rfl
  | some i=>exact .inr ⟨i,(xP.1 (List.mem_of_find?_eq_some hf)).1,rfl⟩
theorem WC.tick (h:WC k):WC (bw k).2∧(held k→held (bw k).2):=by
 rcases xQ k with h1 | ⟨hc,h1 | ⟨i,hi,h1⟩⟩
 ·rw[h1];exact⟨h,λh=>h⟩
 ·rw[h1];exact⟨h.CH,λh=>h⟩
 ·rw[h1];have:=h.n;exact⟨(h.CH).late (by omega) hc,λh=>h⟩
theorem WC.pj (h:WC k):WC (cA k).2∧(held k→held (cA k).2):=by
 unfold cA;split
 ·exact⟨h,λh=>h⟩
 ·rename_i hc;refine⟨{ h with ph:=?_ },λh=>h⟩;have:=h.ph;have yE:k.cl=false:=by simpa using hc
  rw[yE]at this;simp at this ⊢;omega
theorem WC.new {c:Cf}(h:eY c):WC (ft c)∧held (ft c)∧fq (ft c)=c:=by
 obtain⟨⟨h1,h2,h3⟩,⟨h4,h5,h6,h7⟩,h8,h9,fO,nz⟩:=h;simp only[fE] at *;refine⟨⟨?_,?_,?_,?_,?_,?_,?_,?_,?_,?_,?_,?_,?_,?_⟩,?_,?_⟩
 ·show 2≤c.n.toNat∧c.n.toNat≤8;omega
 ·show c.me.toNat<c.n.toNat;omega
 ·exact h3
 ·show c.aJ.toNat≤8;omega
 ·show 1≤c.bt.toNat∧c.bt.toNat≤16;omega
 ·simp[ft]
 ·simp[ft]
 ·intro l hl;simp[ft]at hl;rw[hl.2,kN];omega
 ·simp[ft]
 ·intro s I;cases I
 ·intro p hp;simp[ft]at hp;rw[hp.2];exact Nat.zero_le _
 ·intro p hp;simp[ft]at hp;rw[hp.2];refine⟨?_,?_,?_⟩ <;> simp[fF];omega
 ·intro e he;cases he
 ·simp[ft,List.countP_replicate,fF]
 ·intro i hi hb;have h1:(au (ft c) i).frame≤0:=hb.2.2.1;have h2:=hb.2.1;omega
 ·show Cf.mk _ _ _ _ _ _ _ _ _ _=c;simp only[ft];rw[Int.toNat_of_nonneg (by omega),Int.toNat_of_nonneg (by omega),Int.toNat_of_nonneg (by omega),Int.toNat_of_nonneg (by omega)]
end
theorem aaK {p:Pr}{fr:Int}{b:List UInt8}{g:Nat→Int}{aR:Nat}{o:gO}{m:Int}(hg:dT g)(ho:e9 m o):dT (et p fr b g aR o).1:=by
 have q6:=ho;simp only[e9,e8]at q6;unfold et;split
 ·exact hg
 ·split
  ·exact hg
  ·split
   ·exact hg
   ·split
    ·exact og hg (hg _ (by omega))
    ·exact og hg (LR hg ho (by assumption) (by assumption))
theorem Nn {p:Pr}{fr:Int}{b:List UInt8}(hp:dp p):∀ (n:Nat) {g:Nat→Int} {aR:Nat},dT g→dT (qY p fr b n g aR)
 | 0,_,_,hg=>hg
 | n+1,g,aR,hg=>by
  cases ho:p.ops[aR]? with
  | none =>
   rw [F3 (by rcases gX aR p.ops.length with h | h; · rw [aD h] at ho; cases ho
              ·exact h)];exact hg
  | some o =>
   have h1:=aaK (p:=p) (fr:=fr) (b:=b) (aR:=aR) hg (hp.2 o (bI ho));rw[F2 ho];split
   ·exact Nn hp n h1
   ·exact h1
theorem No {p:Pr}{fr:Int}{b:List UInt8}{g:Nat→Int}(hp:dp p)(hg:dT g):dT (fa p fr b g):=Nn hp 200 hg
theorem Np {p:Pr}(hp:dp p):∀ (l:List (List UInt8)) {fr:Int} {g:Nat→Int},dT g→dT (foldI p fr g l)
 | [],_,_,hg=>hg
 | b::l,_,_,hg=>Np hp l (No hp hg)
structure Pl where
 k:Ks
 g:Nat→Int
def oq (p:Pr)(s:Pl):Pl:=⟨l4 s.k (jI (gF (fa p s.k.mr.length (bK s.k.ls s.k.mr.length) s.g))),fa p s.k.mr.length (bK s.k.ls s.k.mr.length) s.g⟩
def iK (p:Pr):Nat→Pl→Pl
 | 0,s=>s
 | n+1,s=>iK p n (oq p s)
theorem Hl (p:Pr):∀ (n:Nat) (s:Pl),iK p (n+1) s=oq p (iK p n s)
 | 0,_=>rfl
 | n+1,s=>by rw[iK,Hl p n (oq p s)];rfl
def eD (p:Pr)(s:Pl):Pl:=iK p (aw s.k-s.k.mr.length) s
def pn:Nat→Int:=λ_=>0
theorem aaL:dT pn:=λ_ _=>⟨by simp[pn],by simp[pn]⟩
def l6 (p:Pr)(ls:List (List UInt8))(f:Nat):Nat→Int:=foldI p 0 pn ((List.range f).map (bK ls))
def kZ (p:Pr)(ls:List (List UInt8))(f:Nat):Nat:=jI (gF (l6 p ls (f+1)))
theorem Nq (p:Pr)(ls:List (List UInt8))(f:Nat):l6 p ls (f+1)=fa p f (bK ls f) (l6 p ls f):=by
 rw[l6,range_succ,cY,map_singleton,FB,a8,length_range,Int.zero_add];rfl
def Ext (ls k0:List (List UInt8)):Prop:=k0.length=ls.length∧∀ i:Nat,i<ls.length→∃ t,k0.getD i []=ls.getD i []++t
theorem Ext.refl (ls:List (List UInt8)):Ext ls ls:=⟨rfl,λi _=>⟨[],by simp⟩⟩
theorem Ext.trans {a b c:List (List UInt8)}(h:Ext a b)(h2:Ext b c):Ext a c:=⟨h2.1.trans h.1,λi hi=>by
 obtain⟨t,ht⟩:=h.2 i hi;obtain⟨u,hu⟩:=h2.2 i (by rw[h.1];exact hi);exact⟨t++u,by rw[hu,ht,dz]⟩⟩
theorem Ext.set {ls:List (List UInt8)}{i:Nat}{t:List UInt8}:Ext ls (ls.set i (ls.getD i []++t)):=by
 refine⟨by simp,λj hj=>?_⟩;by_cases h:i=j
 ·subst h;exact⟨t,by simp[br,hj]⟩
 ·exact⟨[],by simp[br,getElem?_set_ne h]⟩
theorem getD_map {ls:List (List UInt8)}{f i:Nat}(h:i<ls.length):(bK ls f)[i]?=some ((ls.getD i []).getD f 0):=by
 rw[bK,bd,aD h,br (l:=ls),aD h];rfl
theorem Ext.Hm {ls k0:List (List UInt8)}(h:Ext ls k0){f:Nat}(hf:f<aU ls):bK k0 f=bK ls f:=by
 apply ext_getElem?;intro i;by_cases hi:i<ls.length
 ·rw[getD_map (by rw[h.1];exact hi),getD_map hi];obtain⟨t,ht⟩:=h.2 i hi;have hl:=xJ (vF hi);rw[ht,br,mM (by omega),← br]
 ·rw[iO (by rw[nL,h.1];omega),iO (by rw[nL];omega)]
theorem Ext.front {ls k0:List (List UInt8)}(h:Ext ls k0)(h0:ls≠[]):aU ls≤aU k0:=by
 refine He (λh1=>?_) λl hl=>?_
 ·have:=h.1;rw[h1]at this;exact h0 (hs this.symm)
 ·obtain⟨i,hi,rfl⟩:=zJ hl;have wL:i<ls.length:=by rw[← h.1];exact hi
  obtain⟨t,ht⟩:=h.2 i wL;have h3:=xJ (vF wL);rw[br,aD hi]at ht;simp only[Option.getD_some]at ht;rw[ht,aM];omega
theorem Ext.l6 {ls k0:List (List UInt8)}(h:Ext ls k0){p:Pr}{f:Nat}(hf:f≤aU ls):l6 p k0 f=l6 p ls f:=by
 unfold Go.Proofs.YteoldcfapaiobaaGreat.l6
 congr 1
 refine List.map_congr_left λi hi=>h.Hm ?_;rw[mem_range]at hi;omega
theorem Ext.kZ {ls k0:List (List UInt8)}(h:Ext ls k0){p:Pr}{f:Nat}(hf:f<aU ls):kZ p k0 f=kZ p ls f:=by
 rw[Go.Proofs.YteoldcfapaiobaaGreat.kZ,h.l6 (by omega)];rfl
structure WP (p:Pr)(s:Pl):Prop where
 wc:WC s.k
 held:held s.k
 low:s.k.mr.length≤aw s.k
 sJ:s.g=l6 p s.k.ls s.k.mr.length
 marks:s.k.mr=(List.range s.k.mr.length).map (kZ p s.k.ls)
section
variable {p:Pr}{s:Pl}
theorem WP.qn (h:WP p s)(hp:dp p):dT s.g:=by rw[h.sJ];exact Np hp _ aaL
theorem WC.lE {k:Ks}(h:WC k):k.ls≠[]:=λe=>by
 have:=h.ls;have:=h.n;rw[e] at *;simp at *;omega
theorem WP.one (h:WP p s)(hl:s.k.mr.length<aw s.k):WP p (oq p s)∧(oq p s).k.ls=s.k.ls∧(oq p s).k.mr.length=s.k.mr.length+1:=by
 have h9:=h.wc.nO;have h8:=h.wc.l5;obtain⟨ps,ev,h1,h2⟩:=Nm s.k (jI (gF (fa p s.k.mr.length (bK s.k.ls s.k.mr.length) s.g))) (by omega);have hk:(oq p s).k={ s.k with ps:=ps,ev:=ev,mr:=s.k.mr++[jI (gF (fa p s.k.mr.length (bK s.k.ls s.k.mr.length) s.g))] }:=h1;have hm:(oq p s).k.mr.length=s.k.mr.length+1:=by rw[hk];simp
 have fc:(oq p s).k.ls=s.k.ls:=by rw[hk]
 have hg:fa p s.k.mr.length (bK s.k.ls s.k.mr.length) s.g=l6 p s.k.ls (s.k.mr.length+1):=by rw[Nq,h.sJ]
 refine⟨⟨h.wc.mark (Gq _),?_,?_,?_,?_⟩,fc,hm⟩
 ·show Go.Proofs.YteoldcfapaiobaaGreat.held (l4 _ _);rw[l4];exact Nl _
 ·rw[hm,aw,fc];exact hl
 ·rw[hm,fc];exact hg
 ·rw[hm,fc,hk,range_succ,cY,← h.marks,hg];rfl
theorem WP.rk:∀ (n:Nat) {s:Pl},WP p s→n≤aw s.k-s.k.mr.length→WP p (iK p n s)∧(iK p n s).k.ls=s.k.ls∧(iK p n s).k.mr.length=s.k.mr.length+n
 | 0,_,h,_=>⟨h,rfl,rfl⟩
 | n+1,s,h,hn=>by
  obtain⟨h1,h2,h3⟩:=h.one (by omega);obtain⟨h4,h5,h6⟩:=h1.rk n (by rw[aw,h2,h3];simp only[aw]at hn;omega);exact⟨h4,h5.trans h2,by rw[iK,h6,h3];omega⟩
theorem aaM (h:s.k.mr.length<1000):∃ ps ev mr,(oq p s).k={ s.k with ps:=ps,ev:=ev,mr:=mr }:=by
 obtain⟨ps,ev,h1,h2⟩:=Nm s.k (jI (gF (fa p s.k.mr.length (bK s.k.ls s.k.mr.length) s.g))) h;exact⟨ps,ev,_,h1⟩
theorem WP.Nr:∀ (n:Nat) {s:Pl},WP p s→n≤aw s.k-s.k.mr.length→∃ ps ev mr,(iK p n s).k={ s.k with ps:=ps,ev:=ev,mr:=mr }
 | 0,s,h,_=>⟨s.k.ps,s.k.ev,s.k.mr,rfl⟩
 | n+1,s,h,hn=>by
  have h9:=h.wc.nO;have h8:=h.wc.l5;obtain⟨h1,h2,h3⟩:=h.one (by omega);obtain⟨ps,ev,mr,h4⟩:=h1.Nr n (by rw[aw,h2,h3];simp only[aw]at hn;omega);obtain⟨gC,Nj,mr',h5⟩:=aaM (p:=p) (s:=s) (by omega);exact⟨ps,ev,mr,by rw[iK,h4,h5]⟩
structure cy (p:Pr)(s:Pl):Prop extends WP p s where
 full:s.k.mr.length=aw s.k
theorem WP.eD (h:WP p s):cy p (eD p s)∧(eD p s).k.ls=s.k.ls∧∃ ps ev mr,(Go.Proofs.YteoldcfapaiobaaGreat.eD p s).k={ s.k with ps:=ps,ev:=ev,mr:=mr }:=by
 obtain⟨h1,h2,h3⟩:=h.rk _ (a7 _);have hl:=h.low;refine⟨⟨h1,?_⟩,h2,h.Nr _ (a7 _)⟩;show (iK p _ s).k.mr.length=aU (iK p _ s).k.ls;rw[h3,h2];show _=aw s.k;omega
theorem cy.eD (h:cy p s):eD p s=s:=by rw[Go.Proofs.YteoldcfapaiobaaGreat.eD,h.full,Nat.sub_self];rfl
theorem WP.more {k':Ks}(h:WP p s)(hw:WC k')(hh:Go.Proofs.YteoldcfapaiobaaGreat.held k')(hm:k'.mr=s.k.mr)(he:Ext s.k.ls k'.ls):WP p ⟨k',s.g⟩:=by
 have hf:=he.front h.wc.lE;have hl:=h.low;refine⟨hw,hh,?_,?_,?_⟩
 ·show k'.mr.length≤aU k'.ls;rw[hm];simp only[aw]at hl;omega
 ·show s.g=l6 p k'.ls k'.mr.length;rw[hm,he.l6 hl];exact h.sJ
 ·show k'.mr=(List.range k'.mr.length).map (kZ p k'.ls);rw[hm]
  conv=>lhs;rw[h.marks]
  refine List.map_congr_left λi hi=>?_;rw[mem_range]at hi;simp only[aw]at hl;rw[he.kZ (by omega)]
def dM (p:Pr)(b:UInt8)(s:Pl):Int×Pl:=((c5 b s.k).1,eD p ⟨(c5 b s.k).2,s.g⟩)
noncomputable def dN (p:Pr)(bs:List UInt8)(s:Pl):Int×Pl:=((dD bs s.k).1,eD p ⟨(dD bs s.k).2,s.g⟩)
def l7 (s:Pl):List UInt8×Nat:=(gF s.g,aw s.k)
theorem Ns (l:List UInt8)(f:Nat)(b:List UInt8):∃ t,dw l f b=l++t:=by
 unfold dw;split
 ·exact⟨[],by simp⟩
 ·exact⟨_,rfl⟩
theorem Hn {k:Ks}{p:Pk}:(gf k p).mr=k.mr∧Ext k.ls (gf k p).ls:=by
 unfold gf;split
 ·exact⟨rfl,Ext.refl _⟩
 ·obtain⟨ps,ev,h1,_⟩:=xM { k with ls:=k.ls.set p.aW.toNat (dw (k.ls.getD p.aW.toNat []) p.first.toNat p.al),ps:=k.ps.set p.aW.toNat (gd k.now (aH k) p (au k p.aW.toNat)) };rw[h1];obtain⟨t,ht⟩:=Ns (k.ls.getD p.aW.toNat []) p.first.toNat p.al;refine⟨rfl,?_⟩;show Ext k.ls (k.ls.set _ _);rw[ht];exact Ext.set
theorem vI (b:UInt8)(k:Ks):(c5 b k).2.mr=k.mr∧Ext k.ls (c5 b k).2.ls:=by
 by_cases h0:(c5 b k).1=0
 ·obtain⟨h1,h2,h3,h4⟩:=vG h0;rw[h4];exact⟨rfl,Ext.set⟩
 ·rw[vH h0];exact⟨rfl,Ext.refl _⟩
theorem sK (bs:List UInt8)(k:Ks):(dD bs k).2.mr=k.mr∧Ext k.ls (dD bs k).2.ls:=by
 by_cases h0:(dD bs k).1=0
 ·obtain⟨p,h1,h2,h3,h4,h5,h6⟩:=CG h0;rw[h6];exact Hn
 ·rw[xO h0];exact⟨rfl,Ext.refl _⟩
theorem cy.al (h:cy p s)(b:UInt8):cy p (dM p b s).2:=by
 have h1:=vI b s.k;exact (h.toWP.more (h.wc.al b) (h.held.al b) h1.1 h1.2).eD.1
theorem cy.recv (h:cy p s)(bs:List UInt8):cy p (dN p bs s).2:=by
 have h1:=sK bs s.k;exact (h.toWP.more (h.wc.recv bs).1 ((h.wc.recv bs).2 h.held) h1.1 h1.2).eD.1
theorem cy.with {k':Ks}(h:cy p s)(hw:WC k')(hh:Go.Proofs.YteoldcfapaiobaaGreat.held k')(hm:k'.mr=s.k.mr)(he:k'.ls=s.k.ls):cy p ⟨k',s.g⟩:=by
 refine⟨h.toWP.more hw hh hm (by rw[he];exact Ext.refl _),?_⟩;show k'.mr.length=aU k'.ls;rw[hm,he];exact h.full
theorem CI (k:Ks):(bw k).2.mr=k.mr∧(bw k).2.ls=k.ls:=by
 rcases xQ k with h1 | ⟨hc,h1 | ⟨i,hi,h1⟩⟩ <;> rw[h1] <;> exact⟨rfl,rfl⟩
theorem Ho (k:Ks):(cA k).2.mr=k.mr∧(cA k).2.ls=k.ls:=by
 unfold cA;split <;> exact⟨rfl,rfl⟩
theorem cy.tick (h:cy p s):cy p ⟨(bw s.k).2,s.g⟩:=h.with h.wc.tick.1 (h.wc.tick.2 h.held) (CI _).1 (CI _).2
theorem cy.pj (h:cy p s):cy p ⟨(cA s.k).2,s.g⟩:=h.with h.wc.pj.1 (h.wc.pj.2 h.held) (Ho _).1 (Ho _).2
theorem cy.told (h:cy p s):cy p ⟨{ s.k with ev:=[] },s.g⟩:=h.with h.wc.aaJ (λi hi=>h.held i hi) rfl rfl
def eE (p:Pr)(c:Cf):Pl:=eD p ⟨ft c,pn⟩
theorem xR {c:Cf}(h:eY c):WP p ⟨ft c,pn⟩:=by
 obtain⟨h1,h2,h3⟩:=WC.new h;exact⟨h1,h2,Nat.zero_le _,rfl,rfl⟩
theorem cy.new {c:Cf}(h:eY c):cy p (eE p c):=(xR h).eD.1
end
section
variable {p:Pr}{me:Nat}{ls:List (List UInt8)}{s:Pl}{k:Ks}
theorem Nt (h:WP p s):(eD p s).k.n=s.k.n∧(eD p s).k.me=s.k.me∧(eD p s).k.id=s.k.id∧(eD p s).k.cl=s.k.cl∧(eD p s).k.bt=s.k.bt∧(eD p s).k.now=s.k.now∧(eD p s).k.ls=s.k.ls:=by
 obtain⟨_,h2,ps,ev,mr,h3⟩:=h.eD;rw[h3];exact⟨rfl,rfl,rfl,rfl,rfl,rfl,rfl⟩
theorem Nu (p:Pk):(aT p).length≤507:=by
 unfold aT;split
 ·rename_i h;have:=Mv h;rw[zx];omega
 ·simp
end
end
section
def CJ:TypeDesc→Bool | .interface _=>true | _=>false
section
variable {P:Program}{a:Act}{w:World}{n:Nat}{l:List (Nat×Value)}{v:Value}
theorem Hq {x t Hr ej dst ty ps af g}(E:Fr a n l)(ht:P.underlying t=some ej)(hd:CJ ej=false)[e:Ev l x (.iface t v)] :
   (execOp a.eval ⟨dst,.typeAssert x Hr t true,ty,ps,af,g⟩).run P w=.ok (.value (.tuple #[v,.bool true])) w:=by
 cases ej <;> first | (simp[CJ]at hd) | skip
 all_goals simp[execOp,e.ev a n E,Instr.typeAssert,eT ht]
theorem Hs {x t t' Hr ej dst z sz a1 ty ps af g}(E:Fr a n l)(ht:P.underlying t=some ej)(hd:CJ ej=false)(hi:TI P t z sz a1)(hn:Nat.beq t' t=false)[e:Ev l x (.iface t' v)] :
   (execOp a.eval ⟨dst,.typeAssert x Hr t true,ty,ps,af,g⟩).run P w=.ok (.value (.tuple #[z,.bool false])) w:=by
 have bq:¬ t'=t:=λh=>by rw[h,Nat.beq_refl]at hn;cases hn
 cases ej <;> first | (simp[CJ]at hd) | skip
 all_goals simp[execOp,e.ev a n E,Instr.typeAssert,eT ht,uR hi,bq]
end
abbrev kv:=Nat×Nat×Nat
def uk (e:kv):Prop:=e.1≤3∧1≤e.1∧e.2.1<8∧e.2.2≤1000∧(e.1=3∨e.2.2=0)
def cC (e:kv):Value:=if e.1=1 then .iface 210 (.agg #[.int .i64 e.2.1]) else if e.1=2 then .iface 211 (.agg #[.int .i64 e.2.1]) else .iface 213 (.agg #[.int .i64 e.2.1,.int .i64 e.2.2])
theorem Ht (e:kv):(cC e).oneCell'=true:=by
 unfold cC;split
 ·rfl
 ·split <;> rfl
instance {e:kv}:One (cC e):=⟨Ht e⟩
abbrev bV (e:kv):List Value:=[.int .i64 e.1,.int .i64 e.2.1,.int .i64 e.2.2]
theorem CK (e:kv):(bV e).length=3:=rfl
theorem Hu (e:kv):∀ v∈bV e,v.oneCell'=true:=by
 intro v hv;simp[bV]at hv;rcases hv with rfl | rfl | rfl <;> rfl
section
variable {W w:World}{L:List SP}{e:kv}
theorem aaN (I:U W w L)(h:uk e):Calls prog 231 #[.agg (bV e).toArray] w λr w'=>r=.returned (.tuple #[.agg #[cC e],.bool true])∧U W w' L:=by
 obtain⟨h1,h2,h3,h4,h5⟩:=h;refine EN func231 ntmps231 rfl rfl λa E=>?_;refine BX 1 E I λb1 a w E I=>?_;change U W w (aa b1 102 (bV e)::_) at I;refine AL 0 E I λb2 a w E I=>?_;refine RN 7 E I λa E=>?_;rw[bu (by omega)]at E;refine RN 5 E I λa E=>?_;rw[bu (by omega)]at E;refine RN 5 E I λa E=>?_;rw[bu (by omega)]at E;refine RN 5 E I λa E=>?_;rw[bu (by omega)]at E;refine BY 4 E I (λqi a E=>?_) λqi a E=>?_
 ·
  refine RN 5 E I λa E=>?_;rw[bu (by omega)]at E;refine IF 8 E I (λao a E=>?_) λao a E=>?_
  ·
   refine SA 6 E I λa w E I=>?_;refine RT 1 E I ?_;exact⟨by rw[cC,aj (by omega)],I.sub⟩
  refine IF 3 E I (λay a E=>?_) λay a E=>?_
  ·
   refine SA 6 E I λa w E I=>?_;refine RT 1 E I ?_;exact⟨by rw[cC,ag (by omega),aj (by omega)],I.sub⟩
  refine IF 3 E I (λbl a E=>?_) λbl a E=>?_
  ·
   refine SA 8 E I λa w E I=>?_;refine RT 1 E I ?_;exact⟨by rw[cC,ag (by omega),ag (by omega)],I.sub⟩
  exfalso;omega
 refine IF 13 E I (λao a E=>?_) λao a E=>?_
 ·
  refine SA 6 E I λa w E I=>?_;refine RT 1 E I ?_;exact⟨by rw[cC,aj (by omega)],I.sub⟩
 refine IF 3 E I (λay a E=>?_) λay a E=>?_
 ·
  refine SA 6 E I λa w E I=>?_;refine RT 1 E I ?_;exact⟨by rw[cC,ag (by omega),aj (by omega)],I.sub⟩
 refine IF 3 E I (λbl a E=>?_) λbl a E=>?_
 ·
  refine SA 8 E I λa w E I=>?_;refine RT 1 E I ?_;exact⟨by rw[cC,ag (by omega),ag (by omega)],I.sub⟩
 exfalso;omega
theorem aaO (I:U W w L)(h:uk e)(hk:e.1=1):Calls prog 80 #[.agg #[cC e]] w λr w'=>r=.returned (.agg (bV e).toArray)∧U W w' L:=by
 have he:cC e=.iface 210 (.agg #[.int .i64 e.2.1]):=by rw[cC,aj hk]
 have hz:e.2.2=0:=by have:=h.2.2.2.2;omega
 rw[he];refine EN func80 ntmps80 rfl rfl λa E=>?_;refine BX 1 E I λb1 a w E I=>?_;refine AL 0 E I λb2 a w E I=>?_;refine RN 5 E I λa E=>?_;refine SK (bA E rfl (Hq E yO rfl) rfl ?_);clear E a;intro a E;refine RN 2 E I λa E=>?_;replace E:=E.ek 9;refine AL 2 E I λb3 a w E I=>?_
 skip
 refine SA 0 E I λa w E I=>?_;refine SA 4 E I λa w E I=>?_;refine RT 0 E I ?_;exact⟨by rw[bV,hk,hz];rfl,I.sub⟩
theorem aaP (I:U W w L)(h:uk e)(hk:e.1=2):Calls prog 80 #[.agg #[cC e]] w λr w'=>r=.returned (.agg (bV e).toArray)∧U W w' L:=by
 have he:cC e=.iface 211 (.agg #[.int .i64 e.2.1]):=by rw[cC,ag (by omega),aj hk]
 have hz:e.2.2=0:=by have:=h.2.2.2.2;omega
 rw[he];refine EN func80 ntmps80 rfl rfl λa E=>?_;refine BX 1 E I λb1 a w E I=>?_;refine AL 0 E I λb2 a w E I=>?_;refine RN 5 E I λa E=>?_;refine SK (bA E rfl (Hs E yO rfl Ty.t210 rfl) rfl ?_);clear E a;intro a E;refine RN 2 E I λa E=>?_;replace E:=E.aQ 9;refine RN 2 E I λa E=>?_;refine SK (bA E rfl (Hq E Bg rfl) rfl ?_);clear E a;intro a E;refine RN 2 E I λa E=>?_;replace E:=E.ek 15;refine AL 2 E I λb4 a w E I=>?_;refine SA 0 E I λa w E I=>?_;refine SA 4 E I λa w E I=>?_;refine RT 0 E I ?_;exact⟨by rw[bV,hk,hz];rfl,I.sub⟩
theorem aaQ (I:U W w L)(h:uk e)(hk:e.1=3):Calls prog 80 #[.agg #[cC e]] w λr w'=>r=.returned (.agg (bV e).toArray)∧U W w' L:=by
 have he:cC e=.iface 213 (.agg #[.int .i64 e.2.1,.int .i64 e.2.2]):=by rw[cC,ag (by omega),ag (by omega)]
 rw[he];refine EN func80 ntmps80 rfl rfl λa E=>?_;refine BX 1 E I λb1 a w E I=>?_;refine AL 0 E I λb2 a w E I=>?_;refine RN 5 E I λa E=>?_;refine SK (bA E rfl (Hs E yO rfl Ty.t210 rfl) rfl ?_);clear E a;intro a E;refine RN 2 E I λa E=>?_;replace E:=E.aQ 9;refine RN 2 E I λa E=>?_;refine SK (bA E rfl (Hs E Bg rfl Ty.t211 rfl) rfl ?_);clear E a;intro a E;refine RN 2 E I λa E=>?_;replace E:=E.aQ 15;refine RN 2 E I λa E=>?_;refine SK (bA E rfl (Hq E ET rfl) rfl ?_);clear E a;intro a E;refine RN 2 E I λa E=>?_;replace E:=E.ek 21;refine AL 2 E I λb5 a w E I=>?_;refine SA 0 E I λa w E I=>?_;refine SA 6 E I λa w E I=>?_;refine RT 0 E I ?_;exact⟨by rw[bV,hk];rfl,I.sub⟩
theorem aaR (I:U W w L)(h:uk e):Calls prog 80 #[.agg #[cC e]] w λr w'=>r=.returned (.agg (bV e).toArray)∧U W w' L:=by
 have h1:=h.1;have h2:=h.2.1;by_cases k1:e.1=1
 ·exact aaO I h k1
 ·by_cases k2:e.1=2
  ·exact aaP I h k2
  ·exact aaQ I h (by omega)
end
end
end Go.Proofs.YteoldcfapaiobaaGreat
