/- A match of players of whom none lies, plainly: the document's R3. -/
import Derived.Test.YteoldcfapaiobaaGreatI15ArgC
namespace Go.Proofs.YteoldcfapaiobaaGreat
open Tryz
open List (length_range nil_append length_nil getElem?_range getElem_map append_nil map_take map_drop range_succ getElem?_set_ne map_replicate)
open Go.RowKit
set_option linter.unusedVariables false
set_option linter.unusedSimpArgs false
set_option maxRecDepth 10000
set_option synthInstance.maxSize 4000
set_option synthInstance.maxHeartbeats 400000
section
def bo (v:Wd)(i j:Nat):Nat:=((an v i).k.ls.getD j []).length
def qz (v:Wd)(i j:Nat):Nat:=(au (an v i).k j).has
noncomputable def qA (m:Ml):Nat:=match eC m.2.2 with
 | some q=>if q.kind=1 then q.first.toNat+q.al.length else 0
 | none=>0
structure pH (p:Pr)(cf:Cf)(K:Int→Prop)(G:List (List UInt8))(v:Wd)(m:Ml)(q:Pk):Prop where
 j4:wm p G q
 kind:K q.kind
 fr:q.aW=m.1
 to:q.to=m.2.1
 bs:m.2.2=aT q
 lt:m.1<v.ps.length∧m.2.1<v.ps.length
 id:q.id=cf.id
 wo:q.kind=1→q.dd.toNat≤bo v m.1 m.2.1∧q.first.toNat≤bo v m.2.1 m.1∧q.first.toNat+q.al.length≤q.dd.toNat+cf.bt.toNat
structure gL (p:Pr)(cf:Cf)(K:Int→Prop)(G:List (List UInt8))(v:Wd):Prop where
 pl:∀ i,i<v.ps.length→gV p G (an v i)
 ac:∀ i j,i<v.ps.length→j<v.ps.length→i≠j→qz v i j≤bo v j i∧bo v i j≤qz v i j+cf.bt.toNat
 hd:∀ i,i<v.ps.length→bo v i i≤aw (an v i).k+cf.bt.toNat
 net:∀ m∈v.net,∃ q,pH p cf K G v m q
 bB:∀ l∈v.ev,∀ e∈l,e.1≠3
 yi:∀ i,i<v.ps.length→∀ e∈(an v i).k.ev,e.1≠3
section
variable {p:Pr}{cf:Cf}{K:Int→Prop}{G G':List (List UInt8)}{v u:Wd}{c i j x y:Nat}{s':Pl}{net:List Ml}{ev:List (List kv)}{m:Ml}{q:Pk}{t:fU}{b:UInt8}
theorem bN.rC (h:bN p cf c v)(hi:i<v.ps.length):(an v i).k.me=i∧(an v i).k.bt=cf.bt.toNat∧(an v i).k.id=cf.id∧(an v i).k.n=v.ps.length∧(an v i).k.aJ=cf.aJ.toNat:=by
 have h1:=(h.pl i hi).2.1;have h2:(fq (an v i).k).me=(i:Int):=by rw[h1]
 have h3:(fq (an v i).k).bt=cf.bt:=by rw[h1]
 have h4:(fq (an v i).k).id=cf.id:=by rw[h1]
 have h5:(fq (an v i).k).aJ=cf.aJ:=by rw[h1]
 simp only[fq]at h2 h3 h4 h5;exact⟨by omega,by omega,h4,h.rB hi,by omega⟩
theorem bN.win (h:bN p cf c v):1≤cf.bt.toNat∧cf.bt.toNat≤16:=by
 have h1:=h.may.2.1.2.1;unfold fE at h1;omega
theorem uI (hi:i<v.ps.length):bo ⟨v.ps.set i s',net,ev⟩ x y=if i=x then (s'.k.ls.getD y []).length else bo v x y:=by
 rw[bo,rA hi];split <;> rfl
theorem ad9 (hi:i<v.ps.length):qz ⟨v.ps.set i s',net,ev⟩ x y=if i=x then (au s'.k y).has else qz v x y:=by
 rw[qz,rA hi];split <;> rfl
theorem P9 (hi:i<v.ps.length):v.ps.set i (an v i)=v.ps:=by
 rw[an,br,aD hi];exact mT _
theorem Qa {l:List (List UInt8)}{a:List UInt8}(hi:i<l.length):((l.set i a).getD j []).length=if i=j then a.length else (l.getD j []).length:=by
 rw[br,jB];split
 ·rename_i h;subst h;rfl
 ·rw[br]
theorem aea {l a:List UInt8}{f:Nat}(h1:f≤l.length)(h2:f+a.length≤1000)(h3:l.length≤1000):(dw l f a).length=max l.length (f+a.length):=by
 rw[dw,ag (by omega),aM,eA,c8];omega
theorem aeb (now head:Nat)(q:Pk)(z:Pe):(gd now head q z).has=if z.has<q.dd.toNat∧q.dd.toNat≤head then q.dd.toNat else z.has:=by
 unfold gd;simp only;split <;> rfl
theorem gL.DI (h:gL p cf K G v)(hv:bN p cf c v)(hi:i<v.ps.length)(hj:j<v.ps.length):bo v i j≤bo v j j∧(G.getD j []).length=bo v j j:=by
 have h1:=(h.pl j hj).own;rw[(hv.rC hj).1]at h1;obtain⟨t,ht⟩:=(h.pl i hi).ext.2 j (by rw[(hv.pl i hi).1.wc.ls,(hv.rC hi).2.2.2.1];exact hj);have h2:(G.getD j []).length=bo v j j:=by rw[← h1];rfl
 refine⟨?_,h2⟩;rw[← h2,ht,aM,bo];omega
theorem gL.Qb (h:gL p cf K G v)(hv:bN p cf c v):G.length=v.ps.length∧G≠[]:=by
 have h0:=hv.len;have h1:=h.pl 0 (by omega);exact⟨by rw[h1.lens,hv.rB (by omega)],h1.I9⟩
theorem pH.more (h:pH p cf K G v m q)(yj:Ext G G')(h0:G≠[])(jf:G.length=v.ps.length)(hl:u.ps.length=v.ps.length)(hk:∀ a b,bo v a b≤bo u a b):pH p cf K G' u m q:=by
 refine⟨h.j4.ext yj h0 (by have:=h.lt.1;have:=h.fr;omega),h.kind,h.fr,h.to,h.bs,by rw[hl];exact h.lt,h.id,λh1=>?_⟩;obtain⟨cV,cc,a3⟩:=h.wo h1;exact⟨eS cV (hk _ _),eS cc (hk _ _),a3⟩
theorem pH.dec (h:pH p cf K G v m q):eC m.2.2=some q:=by rw[h.bs];exact Mt h.j4.may h.j4.sum
theorem pH.val (h:pH p cf K G v m q):qA m=if q.kind=1 then q.first.toNat+q.al.length else 0:=by rw[qA,h.dec]
theorem gL.put (h:gL p cf K G v)(hv:bN p cf c v)(hi:i<v.ps.length)(hH:gV p G' s')(yj:Ext G G')(kB:∀ j,j≠i→G'.getD j []=G.getD j [])(hk:∀ j,bo v i j≤(s'.k.ls.getD j []).length)
   (kl:∀ j,j<v.ps.length→j≠i→(au s'.k j).has≤bo v j i∧(s'.k.ls.getD j []).length≤(au s'.k j).has+cf.bt.toNat) (g4:(s'.k.ls.getD i []).length≤aw s'.k+cf.bt.toNat)
   (Ja:∀ e∈s'.k.ev,e.1≠3) (Jb:∀ m∈net,m∈v.net∨∃ q,pH p cf K G' ⟨v.ps.set i s',net,ev⟩ m q) (qp:∀ l∈ev,∀ e∈l,e.1≠3):gL p cf K G' ⟨v.ps.set i s',net,ev⟩:=by
 have hg:=h.Qb hv;have hl:(⟨v.ps.set i s',net,ev⟩:Wd).ps.length=v.ps.length:=bz;have hm:∀ a b,bo v a b≤bo ⟨v.ps.set i s',net,ev⟩ a b:=λa b=>by
  rw[uI hi];split
  ·rename_i e;subst e;exact hk b
  ·exact a7 _
 refine⟨λj hj=>?_,λa b E hb DJ=>?_,λj hj=>?_,λm gz=>?_,qp,λj hj=>?_⟩
 ·rw[hl]at hj;rw[rA hi];split
  ·exact hH
  ·rename_i e;exact (h.pl j hj).more yj (by rw[(hv.rC hj).1];exact kB j (λe2=>e e2.symm))
 ·rw[hl]at E hb;rw[uI hi,uI hi,ad9 hi];by_cases h1:i=a
  ·subst h1;rw[aj rfl,ag DJ,aj rfl];exact kl b hb (Ne.symm DJ)
  ·rw[ag h1,ag h1];have h3:=h.ac a b E hb DJ;by_cases h2:i=b
   ·subst h2;rw[aj rfl];exact⟨eS h3.1 (hk a),h3.2⟩
   ·rw[ag h2];exact h3
 ·rw[hl]at hj;rw[uI hi,rA hi];split
  ·rename_i e;subst e;exact g4
  ·exact h.hd j hj
 ·rcases Jb m gz with h1 | h1
  ·obtain⟨q,hq⟩:=h.net m h1;exact⟨q,hq.more yj hg.2 hg.1 hl hm⟩
  ·exact h1
 ·rw[hl]at hj;rw[rA hi];split
  ·exact Ja
  ·exact h.yi j hj
theorem gL.al (h:gL p cf K G v)(hv:bN p cf c v)(hi:i<v.ps.length)(b:UInt8):(∃ G',gL p cf K G' { v with ps:=v.ps.set i (dM p b (an v i)).2 }) ∧
   ∀ x y,bo { v with ps:=v.ps.set i (dM p b (an v i)).2 } x y=bo v x y+if (x=i∧y=i)∧(dM p b (an v i)).1=0 then 1 else 0:=by
 obtain⟨eF,yk,b9,hn,_⟩:=hv.rC hi;by_cases h0:(dM p b (an v i)).1=0
 ·obtain⟨hH,mr,hk⟩:=(h.pl i hi).al h0;obtain⟨g1,nr,rN,ti⟩:=vG (k:=(an v i).k) (b:=b) h0;rw[eF]at hH hk;have aG:i<(an v i).k.ls.length:=by rw[(hv.pl i hi).1.wc.ls,hn];exact hi
  have fc:(dM p b (an v i)).2.k.ls=(an v i).k.ls.set i ((an v i).k.ls.getD i []++[b]):=by rw[hk]
  have gP:∀ j,au (dM p b (an v i)).2.k j=au (an v i).k j:=λj=>by rw[au,hk];rfl
  have hV:∀ j,((dM p b (an v i)).2.k.ls.getD j []).length=bo v i j+if i=j then 1 else 0:=λj=>by
   rw[fc,Qa aG];split
   ·rename_i e;subst e;rw[aM];rfl
   ·rfl
  have fe:aw (an v i).k≤aw (dM p b (an v i)).2.k:=by
   rw[aw,aw,fc];exact Ext.set.front (hv.pl i hi).1.wc.lE
  have g4:aH (an v i).k=bo v i i:=by rw[aH,eF];rfl
  refine⟨⟨_,h.put hv hi hH Ext.set (λj hj=>?_) (λj=>?_) (λj hj gZ=>?_) ?_ ?_ (λm hm=>.inl hm) h.bB⟩,λx y=>?_⟩
  ·rw[br,getElem?_set_ne (Ne.symm hj),← br]
  ·rw[hV];omega
  ·rw[hV,gP,ag (Ne.symm gZ),Nat.add_zero];exact h.ac i j hi hj (Ne.symm gZ)
  ·rw[hV,aj rfl];omega
  ·rw[hk];exact h.yi i hi
  ·rw[uI hi];by_cases e:i=x
   ·subst e;rw[aj rfl,hV];by_cases e2:i=y
    ·rw[aj e2,aj ⟨⟨rfl,e2.symm⟩,h0⟩]
    ·rw[ag e2,ag (λh=>e2 h.1.2.symm)]
   ·rw[ag e,ag (λh=>e h.1.1.symm),Nat.add_zero]
 ·rw[P5 (hv.pl i hi).1 h0,P9 hi];exact⟨⟨G,h⟩,λx y=>by rw[ag (λh=>h0 h.2)];rfl⟩
theorem gL.DK (h:gL p cf K G v)(hn:∀ m∈net,m∈v.net):gL p cf K G { v with net:=net } :=
 ⟨h.pl,h.ac,h.hd,λm hm=>(h.net m (hn m hm)).imp λq hq=>⟨hq.j4,hq.kind,hq.fr,hq.to,hq.bs,hq.lt,hq.id,hq.wo⟩,h.bB,h.yi⟩
theorem gL.recv (h:gL p cf K G v)(hv:bN p cf c v)(hm:m∈v.net)(hn:∀ m∈net,m∈v.net):gL p cf K G { v with ps:=v.ps.set m.2.1 (dN p m.2.2 (an v m.2.1)).2,net:=net } ∧
   ∀ x y,bo { v with ps:=v.ps.set m.2.1 (dN p m.2.2 (an v m.2.1)).2,net:=net } x y=if (x=m.2.1∧y=m.1)∧(an v m.2.1).k.cl=false then max (bo v x y) (qA m) else bo v x y:=by
 obtain⟨q,hq⟩:=h.net m hm;obtain⟨eP,hi⟩:=hq.lt;obtain⟨eF,yk,b9,oe,_⟩:=hv.rC hi;have Hj:q.aW.toNat=m.1:=by have:=hq.fr;omega
 have j1:m.1≠m.2.1:=λe=>hq.j4.may.2.2.1 (by rw[hq.fr,hq.to,e]);rw[hq.bs];generalize I:an v m.2.1=s at *;have Ab:=h.pl _ hi;have sZ:=hv.pl _ hi;rw[I]at Ab sZ;cases hc:s.k.cl with
 | true =>
  have h0:(dN p (aT q) s).1≠0:=by
   show (dD (aT q) s.k).1≠0;rw[dD,aj hc];show (6:Int)≠0;decide
  rw[ad7 sZ.1 h0,← I,P9 hi];exact⟨h.DK hn,λx y=>by rw[ag (λh=>by have:=h.2;cases this)];rfl⟩
 | false =>
  have sX:m.1<s.k.ps.length:=by rw[sZ.1.wc.ps,oe];exact eP
  have aG:m.1<s.k.ls.length:=by rw[sZ.1.wc.ls,oe];exact eP
  have kl:=h.ac _ _ hi eP (Ne.symm j1);have o4:=h.DI hv eP hi;have pL:=h.DI hv hi eP;have ll:=(hv.pl _ eP).1.wc.mG (i:=m.1) (by rw[hv.rB eP];exact eP);have mm:=sZ.1.wc.mG (i:=m.1) (by rw[oe];exact eP);have Qc:aH s.k=bo v m.2.1 m.2.1:=by rw[aH,eF,bo,I]
  rcases hq.j4.may.2.2.2.2 with ⟨h1,_⟩ | ⟨h1,_⟩
  ·obtain⟨hH,h0,mr,hk⟩:=Ab.zQ hq.j4 hc (by rw[hq.to,eF]) (by rw[hq.fr,oe];omega) (by rw[hq.id,b9]) h1;obtain⟨s1,s2,wF⟩:=hq.wo h1;obtain⟨g1,nr⟩:=hq.j4.wo h1;rw[Hj]at hk g1;have zT:bo v m.2.1 m.1=(s.k.ls.getD m.1 []).length:=by rw[bo,I]
   have eI:=aea (l:=s.k.ls.getD m.1 []) (a:=q.al) (f:=q.first.toNat) (by rw[← zT];exact s2) (by rw[pL.2]at g1;rw[bo]at g1;omega) mm;have fc:(dN p (aT q) s).2.k.ls=s.k.ls.set m.1 (dw (s.k.ls.getD m.1 []) q.first.toNat q.al):=by rw[hk]
   have hV:∀ j,((dN p (aT q) s).2.k.ls.getD j []).length=if m.1=j then max (bo v m.2.1 m.1) (q.first.toNat+q.al.length) else bo v m.2.1 j:=λj=>by
    rw[fc,Qa aG,eI,bo,bo,I]
   have gP:∀ j,au (dN p (aT q) s).2.k j=if j=m.1 then gd s.k.now (aH s.k) q (au s.k m.1) else au s.k j:=λj=>by
    rw[au,hk];exact xN sX
   have fe:aw s.k≤aw (dN p (aT q) s).2.k:=by
    have h5:=sK (aT q) s.k;obtain⟨t5,h6⟩:=Ns (s.k.ls.getD m.1 []) q.first.toNat q.al;rw[aw,aw,fc,h6];exact Ext.set.front sZ.1.wc.lE
   refine⟨h.put hv hi hH (Ext.refl _) (λ_ _=>rfl) (λj=>?_) (λj hj gZ=>?_) ?_ ?_ (λm hm=>.inl (hn m hm)) h.bB,λx y=>?_⟩
   ·rw[hV];split
    ·rename_i e;subst e;omega
    ·exact a7 _
   ·rw[hV,gP];have yl:=h.ac _ _ hi hj (Ne.symm gZ);by_cases e:j=m.1
    ·subst e;rw[aj rfl,aj rfl,aeb];rw[qz,I]at yl;rw[bo]at o4;simp only[bo] at *;split <;> omega
    ·rw[ag (Ne.symm e),ag e];rw[qz,I]at yl;exact yl
   ·rw[hV,ag j1];have:=h.hd _ hi;rw[I]at this;omega
   ·rw[hk];have:=h.yi _ hi;rw[I]at this;exact this
   ·rw[uI hi,hV,hq.val,aj h1];by_cases e:m.2.1=x
    ·subst e;rw[aj rfl];by_cases e2:m.1=y
     ·subst e2;rw[aj rfl,aj ⟨⟨rfl,rfl⟩,rfl⟩]
     ·rw[ag e2,ag (λh=>e2 h.1.2.symm)]
    ·rw[ag e,ag (λh=>e h.1.1.symm)]
  ·obtain⟨hH,h0,hk⟩:=Ab.bye hq.j4 hc (by rw[hq.to,eF]) (by rw[hq.fr,oe];omega) (by rw[hq.id,b9]) h1;rw[Hj]at hk;have fc:(dN p (aT q) s).2.k.ls=s.k.ls:=by rw[hk]
   have hV:∀ j,((dN p (aT q) s).2.k.ls.getD j []).length=bo v m.2.1 j:=λj=>by rw[fc,bo,I]
   have gP:∀ j,(au (dN p (aT q) s).2.k j).has=(au s.k j).has:=λj=>by
    rw[au,hk];show ((s.k.ps.set _ _).getD j (fF 0)).has=_;rw[xN sX];split
    ·rename_i e;subst e;rfl
    ·rfl
   refine⟨h.put hv hi hH (Ext.refl _) (λ_ _=>rfl) (λj=>?_) (λj hj gZ=>?_) ?_ ?_ (λm hm=>.inl (hn m hm)) h.bB,λx y=>?_⟩
   ·rw[hV];exact a7 _
   ·have yl:=h.ac _ _ hi hj (Ne.symm gZ);rw[qz,I]at yl;rw[hV,gP];exact yl
   ·have:=h.hd _ hi;rw[I]at this;rw[hV,aw,fc];exact this
   ·rw[hk];intro e he;rcases e7.1 he with he | he
    ·have:=h.yi _ hi;rw[I]at this;exact this e he
    ·rw[iP.1 he];show (1:Nat)≠3;decide
   ·have pX:qA m=0:=by rw[hq.val,ag (by omega)]
    rw[uI hi,hV,pX,Nat.max_zero];by_cases e:m.2.1=x
    ·subst e;rw[aj rfl];split <;> rfl
    ·rw[ag e,ag (λh=>e h.1.1.symm)]
theorem aec {k:Ks}(h:m∈(bw k).1):∃ j,j<k.n∧j≠k.me∧m=(k.me,j,aT (dW k j)):=by
 unfold bw at h;split at h
 ·cases h
 ·simp only at h;split at h
  ·cases h
  ·obtain⟨j,hj,rfl⟩:=cX.1 h;obtain⟨h1,h2⟩:=xP.1 hj;exact⟨j,h1,h2,rfl⟩
theorem gL.same (h:gL p cf K G v)(hv:bN p cf c v)(hi:i<v.ps.length)(hH:gV p G s')(fc:s'.k.ls=(an v i).k.ls)(gP:s'.k.ps=(an v i).k.ps)(Ja:∀ e∈s'.k.ev,e.1≠3)
   (Jb:∀ m∈net,m∈v.net∨∃ q,pH p cf K G v m q) (qp:∀ l∈ev,∀ e∈l,e.1≠3):gL p cf K G ⟨v.ps.set i s',net,ev⟩∧∀ x y,bo ⟨v.ps.set i s',net,ev⟩ x y=bo v x y:=by
 have vR:∀ x y,bo ⟨v.ps.set i s',net,ev⟩ x y=bo v x y:=λx y=>by
  rw[uI hi];split
  ·rename_i e;subst e;rw[fc];rfl
  ·rfl
 have hg:=h.Qb hv;refine⟨h.put hv hi hH (Ext.refl _) (λ_ _=>rfl) (λj=>by rw[fc];exact a7 _) (λj hj gZ=>?_) ?_ Ja (λm hm=>(Jb m hm).imp_right λ⟨q,hq⟩=>⟨q,hq.more (Ext.refl _) hg.2 hg.1 bz λa b=>by rw[vR];exact a7 _⟩) qp,vR⟩
 ·rw[fc,au,gP];exact h.ac i j hi hj (Ne.symm gZ)
 ·rw[aw,fc];exact h.hd i hi
theorem gL.Qd (h:gL p cf K G v)(hv:bN p cf c v)(hi:i<v.ps.length)(pI:K 1)(hm:m∈(bw (an v i).k).1):∃ q,pH p cf K G v m q∧qA m=bo v i i:=by
 obtain⟨eF,yk,b9,hn,_⟩:=hv.rC hi;obtain⟨j,hj,bq,rfl⟩:=aec hm;rw[hn]at hj;rw[eF]at bq;have kl:=h.ac i j hi hj (Ne.symm bq);have hb:=h.DI hv hj hi;have g4:=h.hd i hi;have eP:aw (an v i).k≤bo v i j:=xJ (vF (by rw[(hv.pl i hi).1.wc.ls,hn];exact hj));have Qc:aH (an v i).k=bo v i i:=by rw[aH,eF];rfl
 have hw:=hv.win;have j4:=(h.pl i hi).Am (i:=j) (by rw[hn];exact hj) (by rw[eF];exact bq) (by rw[Qc];rw[qz]at kl;omega);have hV:(dW (an v i).k j).first.toNat+(dW (an v i).k j).al.length=bo v i i:=by
  show (((au (an v i).k j).has:Nat):Int).toNat+((((an v i).k.ls.getD (an v i).k.me []).drop (au (an v i).k j).has).take 32).length=_;rw[qz]at kl;rw[eA,c8,eF,c9];show _+min 32 (bo v i i-_)=_;omega
 have hq:pH p cf K G v ((an v i).k.me,j,aT (dW (an v i).k j)) (dW (an v i).k j):=by
  refine⟨j4,pI,rfl,rfl,rfl,⟨by rw[eF];exact hi,hj⟩,b9,λ_=>⟨?_,?_,?_⟩⟩
  ·show ((((an v i).k.ls.getD j []).length:Nat):Int).toNat≤bo v (an v i).k.me j;rw[eF,c9];exact a7 _
  ·show (((au (an v i).k j).has:Nat):Int).toNat≤bo v j (an v i).k.me;rw[eF,c9];exact kl.1
  ·rw[hV];show _≤((((an v i).k.ls.getD j []).length:Nat):Int).toNat+_;rw[c9];show _≤bo v i j+_;omega
 exact⟨_,hq,by rw[hq.val,aj (show (dW (an v i).k j).kind=1 from rfl),hV]⟩
theorem aed (k:Ks):(bw k).2.ls=k.ls∧(bw k).2.ps=k.ps∧∀ e∈(bw k).2.ev,e∈k.ev∨e.1=2:=by
 rcases xQ k with h1 | ⟨_,h1 | ⟨i,_,h1⟩⟩ <;> rw[h1]
 ·exact⟨rfl,rfl,λe he=>.inl he⟩
 ·exact⟨rfl,rfl,λe he=>.inl he⟩
 ·refine⟨rfl,rfl,λe he=>?_⟩;rcases e7.1 he with he | he
  ·exact .inl he
  ·rw[iP.1 he];exact .inr rfl
theorem gL.tick (h:gL p cf K G v)(hv:bN p cf c v)(hi:i<v.ps.length)(pI:K 1):gL p cf K G { v with ps:=v.ps.set i ⟨(bw (an v i).k).2,(an v i).g⟩,net:=eG v.net (bw (an v i).k).1 } ∧
   ∀ x y,bo { v with ps:=v.ps.set i ⟨(bw (an v i).k).2,(an v i).g⟩,net:=eG v.net (bw (an v i).k).1 } x y=bo v x y:=by
 obtain⟨h1,h2,h3⟩:=aed (an v i).k;refine h.same hv hi (h.pl i hi).tick h1 h2 (λe he=>?_) (λm hm=>(IS hm).imp_right λhm=>(h.Qd hv hi pI hm).imp λq hq=>hq.1) h.bB;rcases h3 e he with h4 | h4
 ·exact h.yi i hi e h4
 ·omega
theorem wq (p:Pr){cf:Cf}(h:eY cf):∃ mr,(eE p cf).k={ ft cf with mr:=mr }:=by
 refine I8 (G:=(ft cf).ls) (xR (p:=p) h) (Ext.refl _) λi hi=>?_;have pV:au (ft cf) i=fF cf.aJ.toNat∨au (ft cf) i=fF 0:=by
  rw[au,br];show ((List.replicate cf.n.toNat (fF cf.aJ.toNat))[i]?).getD (fF 0)=_∨((List.replicate cf.n.toNat (fF cf.aJ.toNat))[i]?).getD (fF 0)=_;rw[List.getElem?_replicate];split
  ·exact .inl rfl
  ·exact .inr rfl
 have h2:(au (ft cf) i).frame=0:=by rcases pV with e | e <;> rw[e] <;> rfl
 show ng p _ (au (ft cf) i).frame _;rw[h2];exact⟨Nat.zero_le _,λh=>absurd h (by omega)⟩
end
end
section
def fW.AA:fW→Bool
 | .mu _=>true
 | .pl _=>false
def dH (cf:Cf)(i:Nat):Cf:={ cf with me:=i }
def fJ (p:Pr)(cf:Cf)(n:Nat):Wd:=⟨(List.range n).map λi=>eE p (dH cf i),[],List.replicate n []⟩
def wu (fz:List fI)(cf:Cf)(tb:List UInt8)(g6:Bool)(n:Nat):Prop:=fz.map (·.cf)=(List.range n).map (dH cf)∧∀ x∈fz,x.z.gs=⟨cf.bh,cf.order,tb⟩∧x.z.AA=g6
theorem aee {cf:Cf}{i:Nat}(h:eY (dH cf 0))(hi:(i:Int)<cf.n):eY (dH cf i):=by
 obtain⟨⟨h1,h2,h3⟩,h4⟩:=h;refine⟨⟨h1,?_,h3⟩,h4⟩;show fE (i:Int) 0 (cf.n-1);unfold fE;omega
theorem Qe {cf:Cf}{p:Pr}{tb:List UInt8}{i:Nat}(h:ox (dH cf 0) p tb)(hi:(i:Int)<cf.n):ox (dH cf i) p tb:=⟨aee h.1 hi,h.2⟩
section
variable {W w:World}{L:List SP}{n c cP cT i:Nat}{ad adP adT:Option Addr}{p:Pr}{tb:List UInt8}{cf:Cf}{g6:Bool}
theorem aef (gj:ox cf p tb)(I:U W w (aA W p adP cP::L))(hn:tb.length=n)(aF:p.title.size≤1000000000)(eb:p.ops.length≤1000000000)(eQ:tb.length≤1099511627776)(hT:∀ w',U W w' (aA W p adP cP::L)→aX w' adT tb.length tb) :
   Calls prog 60 #[.agg (bS cf).toArray,.agg (bR p adP cP).toArray,.slice adT n cT] w λr w'=>∃ B:jw,r=.returned (.tuple #[pt B.pb,.int .i64 0])∧B.gs=⟨cf.bh,cf.order,tb⟩∧U W w' (aP W B p (eE p cf)::aA W p adP cP::L) :=
 (ads I hn aF eb eQ hT).mono λr w' h=>h.elim (λh=>h.2) λh=>absurd gj h.1
theorem aeg (gj:ox cf p tb)(I:U W w (aA W p adP cP::L))(hn:tb.length=n)(aF:p.title.size≤1000000000)(eb:p.ops.length≤1000000000)(eQ:tb.length≤1099511627776)(hT:∀ w',U W w' (aA W p adP cP::L)→aX w' adT tb.length tb) :
   Calls prog 43 #[.agg (bS cf).toArray,.agg (bR p adP cP).toArray,.slice adT n cT,.bool g6] w λr w'=>∃ z:fW,r=.returned (.tuple #[.iface z.t (.pointer (some z.ad)),.int .i64 0])∧(z.gs=⟨cf.bh,cf.order,tb⟩∧z.AA=g6)∧U W w' (fI.J W p ⟨cf,z⟩ 0 (eE p cf)::aA W p adP cP::L):=by
 refine EN func43 ntmps43 rfl rfl λa E=>?_;refine BX 1 E I λb4 a w E I=>?_;change U W w (aa b4 28 (bS cf)::_) at I;refine BX 0 E I λb5 a w E I=>?_;change U W w (aa b5 45 (bR p adP cP)::_) at I;refine IF 5 E I (λak a E=>?_) λak a E=>?_
 ·
  refine bg 4 E I (adx gj (I.pick (aA W p adP cP)) hn aF eb eQ (λw' dj=>hT _ dj.sub)) λM a w E ⟨hg,I⟩=>?_;refine RT 11 E I ?_;exact⟨.mu M,rfl,⟨hg,by rw[show g6=true from by simpa using ak];rfl⟩,(show U W w (fI.J W p ⟨cf,.mu M⟩ 0 (eE p cf)::_) from I).sub⟩
 refine bg 4 E I (aef gj (I.pick (aA W p adP cP)) hn aF eb eQ (λw' dj=>hT _ dj.sub)) λB a w E ⟨hg,I⟩=>?_;refine RT 11 E I ?_;exact⟨.pl B,rfl,⟨hg,by rw[show g6=false from by simpa using ak];rfl⟩,(show U W w (fI.J W p ⟨cf,.pl B⟩ 0 (eE p cf)::_) from I).sub⟩
theorem Qf (I:U W w L):∀ n:Nat,U W w (ah eH (List.replicate n (none,0,[]))::L)
 | 0=>U.ji I
 | n+1=>U.wQ (f:=eH) (x:=(none,0,[])) ((Qf I n).bQ 135 1 none)
theorem Qg (gj:ox (dH cf 0) p tb)(I:U W w (aA W p adP cP::L))(hn:tb.length=n)(aF:p.title.size≤1000000000)(eb:p.ops.length≤1000000000)(eQ:tb.length≤1099511627776)(hT:∀ w',U W w' (aA W p adP cP::L)→aX w' adT tb.length tb) :
   Calls prog 24 #[.agg (bS cf).toArray,.agg (bR p adP cP).toArray,.slice adT n cT,.bool g6] w λr w'=>∃ B:jP,r=.returned (.tuple #[pt B.mb,.int .i64 0])∧wu B.fz cf tb g6 cf.n.toNat∧U W w' (aN W B p 0 (fJ p cf cf.n.toNat)::aA W p adP cP::L):=by
 have p9:=gj.1.1.1;unfold fE at p9;obtain⟨N,hN⟩:∃ N:Nat,(dH cf 0).n=N:=⟨(dH cf 0).n.toNat,by omega⟩;replace hN:cf.n=N:=hN;have oA:2≤N∧N≤8:=by
  have h1:(dH cf 0).n=cf.n:=rfl;omega
 rw[show cf.n.toNat=N from by omega];refine EN func24 ntmps24 rfl rfl λa E=>?_;refine BX 1 E I λb4 a w E I=>?_;change U W w (aa b4 28 (bS cf)::_) at I;refine BX 0 E I λb5 a w E I=>?_;change U W w (aa b5 45 (bR p adP cP)::_) at I;refine bg 3 E I (ac7 I) λq a w E I=>?_;refine BX 1 E I λfT a w E I=>?_;refine RN 1 E I λa E=>?_;replace I:=U.ji (f:=cD W p 0) (I.bQ 81 1 none);refine RN 7 E I λa E=>?_;rw[hN,show min (max (N:Int) 1) 8=(N:Int) from by omega]at E;refine aL (λμ a w=>∃ (i:Nat) (adL:Option Addr) (cL:Nat) (xs:List (fI×Pl)) (me:Int),(μ=N-i∧(i≤N∧xs.length=i)∧xs.map (·.2)=(List.range i).map (λi=>eE p (dH cf i))∧wu (xs.map (·.1)) cf tb g6 i)∧Fr a 58 [(2,.slice adT n cT),(3,.bool g6),(4,pt b4),(5,pt b5),(10,pt fT),(20,.int .i64 N),(21,.int .i64 i)]∧U W w (aa fT 107 [.slice adL i cL,pt q,.slice none 0 0]::Sl 81 1 adL i cL (xs.map cG)::ah (cD W p 0) xs::bL q []::aa b4 28 (bS { cf with me:=me })::aa b5 45 (bR p adP cP)::aA W p adP cP::L)) (N) (⟨0,none,0,[],cf.me,⟨rfl,⟨by omega,rfl⟩,rfl,rfl,λx h=>by cases h⟩,E.ab [2,3,4,5,10,20,21],(show U W w (ah (cD W p 0) []::Sl 81 1 none 0 0 (([]:List (fI×Pl)).map cG)::_) from I).sub⟩) ?_;clear E I;rintro μ a w ⟨i,adL,cL,xs,me,⟨rfl,⟨hi,b7⟩,dm,eR⟩,E,I⟩;refine IF 3 E I (λak a E=>?_) λak a E=>?_
 ·
  have aG:i<N:=by omega
  have Jc:=Qe (i:=i) gj (by omega);refine ST 7 E I (λa w E I=>?_);refine RN 0 E I λa E=>?_;change U W w (aa b4 28 (bS (dH cf i))::_) at I;refine bg 5 E I (aeg Jc (I.pick (aA W p adP cP)) hn aF eb eQ (λw' dj=>hT _ dj.sub)) λz a w E ⟨hz,I⟩=>?_;refine RN 9 E I λa E=>?_;replace E:=E.aQ 35;refine RN 7 E I λa E=>?_;refine ct E rfl I EX Ty.t81 rfl rfl rfl rfl (by decide) (by decide) λb43 a w E I ho=>?_;clear ho;replace I:=I.pick (Sl 81 1 adL i cL (xs.map cG));refine RN 0 E I λa E=>?_;refine cR E rfl I EX Ty.t81 rfl rfl I.ai rfl (by simp[Value.oneCell']) (by decide) (by decide) (by omega) λnU lH a w E I=>?_;rw[show List.map cG xs++_=(xs++[((⟨dH cf i,z⟩:fI),eE p (dH cf i))]).map cG from by rw[cY];rfl]at I;refine ST 2 E I (λa w E I=>?_);refine RN 2 E I λa E=>?_;have kU:=(I.pick (ah (cD W p 0) xs)).pick (fI.J W p ⟨dH cf i,z⟩ 0 (eE p (dH cf i)));have hA:=U.j7 (f:=cD W p 0) (x:=(⟨dH cf i,z⟩,eE p (dH cf i))) kU;refine⟨N-(i+1),by omega,i+1,nU,lH,xs++[(⟨dH cf i,z⟩,eE p (dH cf i))],i,⟨rfl,⟨by omega,by rw[aM,b7];rfl⟩,?_,?_⟩,E.ab [2,3,4,5,10,20,21],?_⟩
  ·rw[cY,dm,range_succ,cY];rfl
  ·refine⟨?_,λx hx=>?_⟩
   ·rw[cY,cY,range_succ,cY,eR.1];rfl
   ·rw[cY]at hx;rcases e7.1 hx with hx | hx
    ·exact eR.2 x hx
    ·rw[iP.1 hx];exact hz
  ·rw[show ({ cf with me:=(i:Int) }:Cf)=dH cf i from rfl];exact hA.sub
 obtain rfl:i=N:=by omega
 refine RN 7 E I λa E=>?_;refine rO E rfl I underlying105 Ty.t90 rfl (by omega) (by omega) λDL a w E I ho=>?_;clear ho;rw[Dc _ rfl]at I;refine ST 2 E I (λa w E I=>?_);refine RT 4 E I ?_;refine⟨⟨fT,q,xs.map (·.1)⟩,rfl,eR,?_⟩;have h1:=I.j5 DL;rw[show List.replicate i (Value.slice none 0 0)=[]++(List.replicate i ((none,0,[]):kA)).map bB++[] from by rw[nil_append,append_nil,map_replicate];rfl]at h1;have h2:=Qf (U.jh (n:=i) (c:=i) (sz:=1) h1 (by rw[a8,kN,fB]) (a7 _) (by simp)) i;refine aN.wk (adL:=adL) (cL:=cL) (adE:=some ⟨DL,0,none⟩) (cE:=i) (xs:=xs) (es:=List.replicate i (none,0,[])) ?_ rfl dm (by rw[map_replicate];rfl);rw[b7,kN];simp only[length_nil]at h2;show U W w (aa fT 107 [.slice adL i cL,pt q,.slice (some ⟨DL,0,none⟩) i i]::Sl 81 1 adL i cL (xs.map cG)::ah (cD W p 0) xs::bL q []::Sl 90 1 (some ⟨DL,0,none⟩) i i ((List.replicate i ((none,0,[]):kA)).map bB)::ah eH (List.replicate i (none,0,[]))::aA W p adP cP::L);exact h2.sub
end
end
section
abbrev dE (x:gh×Pl):Value:=pt x.1.pb
def dg (W:World)(p:Pr)(x:gh×Pl):SP:=bZ W x.1 p x.2
def e4 (x:kA):SP:=Sl 102 3 x.1 x.2.2.length x.2.1 (rows bV x.2.2)
structure oB where
 wb:Nat
 mb:Nat
 nh:List gh
def bF (W:World)(D:oB)(p:Pr)(v:Wd):SP:=λh=>∃ i:(Option Addr×Nat)×(Option Addr×Nat)×(Option Addr×Nat)×List (gh×Pl)×List kA,(i.2.2.2.1.map (·.1)=D.nh∧i.2.2.2.1.map (·.2)=v.ps∧i.2.2.2.2.map (·.2.2)=v.ev) ∧
 cp [aa D.wb 40 [pt D.mb,.slice i.1.1 i.2.2.2.1.length i.1.2,.slice i.2.1.1 v.net.length i.2.1.2,.slice i.2.2.1.1 i.2.2.2.2.length i.2.2.1.2],
  Sl 34 1 i.1.1 i.2.2.2.1.length i.1.2 (i.2.2.2.1.map dE),ah (dg W p) i.2.2.2.1,cg 60 i.2.1.1 v.net.length i.2.1.2 v.net,Sl 70 1 i.2.2.1.1 i.2.2.2.2.length i.2.2.1.2 (i.2.2.2.2.map bB),ah e4 i.2.2.2.2] h
section
variable {W w:World}{L:List SP}{n c k cP cN cE wb i:Nat}{ad adP adN adE:Option Addr}{p:Pr}{v:Wd}{D:oB}{x0 x1 x3:Value}{l net:List Ml}{xs:List (gh×Pl)}{es:List kA}
theorem bF.open (I:U W w (bF W D p v::L)):∃ (adP:Option Addr) (cP:Nat) (adN:Option Addr) (cN:Nat) (adE:Option Addr) (cE:Nat) (xs:List (gh×Pl)) (es:List kA),(xs.map (·.1)=D.nh∧xs.map (·.2)=v.ps∧es.map (·.2.2)=v.ev) ∧
   U W w (aa D.wb 40 [pt D.mb,.slice adP xs.length cP,.slice adN v.net.length cN,.slice adE es.length cE] ::
    Sl 34 1 adP xs.length cP (xs.map dE)::ah (dg W p) xs::cg 60 adN v.net.length cN v.net::Sl 70 1 adE es.length cE (es.map bB)::ah e4 es::L):=by
 obtain⟨i,h1,I⟩:=I.jS (ι:=(Option Addr×Nat)×(Option Addr×Nat)×(Option Addr×Nat)×List (gh×Pl)×List kA) (p:=λi=>i.2.2.2.1.map (·.1)=D.nh∧i.2.2.2.1.map (·.2)=v.ps∧i.2.2.2.2.map (·.2.2)=v.ev)
  (B:=λi h=>cp [aa D.wb 40 [pt D.mb,.slice i.1.1 i.2.2.2.1.length i.1.2,.slice i.2.1.1 v.net.length i.2.1.2,.slice i.2.2.1.1 i.2.2.2.2.length i.2.2.1.2],
  Sl 34 1 i.1.1 i.2.2.2.1.length i.1.2 (i.2.2.2.1.map dE),ah (dg W p) i.2.2.2.1,cg 60 i.2.1.1 v.net.length i.2.1.2 v.net,Sl 70 1 i.2.2.1.1 i.2.2.2.2.length i.2.2.1.2 (i.2.2.2.2.map bB),ah e4 i.2.2.2.2] h) λ_ h=>h
 obtain⟨⟨adP,cP⟩,⟨adN,cN⟩,⟨adE,cE⟩,xs,es⟩:=i;exact⟨adP,cP,adN,cN,adE,cE,xs,es,h1,I.open (M:=[_,_,_,_,_,_]) λ_ h=>h⟩
theorem bF.close (I:U W w (aa D.wb 40 [pt D.mb,.slice adP xs.length cP,.slice adN v.net.length cN,.slice adE es.length cE] ::
     Sl 34 1 adP xs.length cP (xs.map dE)::ah (dg W p) xs::cg 60 adN v.net.length cN v.net::Sl 70 1 adE es.length cE (es.map bB)::ah e4 es::L))
 (h1:xs.map (·.1)=D.nh) (h2:xs.map (·.2)=v.ps) (h3:es.map (·.2.2)=v.ev):U W w (bF W D p v::L) :=
 U.shut (M:=[_,_,_,_,_,_]) I λ_ h=>⟨((adP,cP),(adN,cN),(adE,cE),xs,es),⟨h1,h2,h3⟩,h⟩
theorem Qh (I:U W w (cg 60 ad n c l::cg 60 adN k cN net::aa wb 40 [x0,x1,.slice adN k cN,x3]::L))(hn:n≤1000)(hk:net.length≤300) :
   Calls prog 72 #[pt wb,.slice ad n c] w λe w'=>e=.returned (.tuple #[])∧∃ Qi Qj,U W w' (cg 60 Qi (eG net l).length Qj (eG net l)::aa wb 40 [x0,x1,.slice Qi (eG net l).length Qj,x3]::L):=by
 obtain⟨xs,eJ,b7,I⟩:=cg.open I;have bf:xs.length=n:=by rw[← b7,← eJ,a8]
 subst bf;obtain⟨ys,mI,ju,I⟩:=cg.open (I.pick (cg 60 adN k cN net));subst ju;refine EN func72 ntmps72 rfl rfl λa E=>?_;refine RN 2 E I λa E=>?_;refine aL (λμ a w=>∃ (i:Nat) (adN:Option Addr) (cN:Nat) (ys:List Mx) (N:List Ml),(μ=xs.length-i∧i≤xs.length∧N=eG net (l.take i)∧ys.map (·.2.2)=N)∧Fr a 30 [(0,pt wb),(1,.slice ad xs.length c),(4,.int .i64 i)]∧U W w (aa wb 40 [x0,x1,.slice adN N.length cN,x3]::Sl 60 3 adN N.length cN (rows ca ys)::ah cd ys::Sl 60 3 ad xs.length c (rows ca xs)::ah cd (xs.drop i)::L)) (xs.length) (⟨0,adN,cN,ys,net,⟨rfl,by omega,rfl,mI⟩,E.ab [0,1,4],(show U W w (Sl 60 3 adN net.length cN (rows ca ys)::ah cd ys::Sl 60 3 ad xs.length c (rows ca xs)::ah cd (xs.drop 0)::_) from I).sub⟩) ?_;clear E I;rintro μ a w ⟨i,adN,cN,ys,N,⟨rfl,hi,hN,lJ⟩,E,I⟩;refine IF 6 E I (λak a E=>?_) λak a E=>?_
 ·
  have aG:i<xs.length:=by omega
  have Ar:i<l.length:=by omega
  have hNl:N.length≤300:=by rw[hN];exact IT hk
  have Jd:=Pp net Ar;rw[← hN]at Jd;obtain⟨x,hx⟩:∃ x,x=xs[i]:=⟨_,rfl⟩;have aeh:x.2.2=l[i]:=by
   have h1:(xs.map (·.2.2))[i]?=l[i]?:=by rw[eJ]
   rw[bd,aD aG,aD Ar,← hx]at h1;simpa using h1
  have eX:xs[i]?=some x:=by rw[hx];exact aD aG
  refine IF 8 E I (λao a E=>?_) λao a E=>?_
  ·
   refine RN 0 E I λa E=>?_;obtain⟨bi,oi,rfl,qd⟩:=(I.drew.pick (Sl 60 3 ad xs.length c (rows ca xs))).bU ad (by omega);replace qd:=jt ot qd (aD aG);rw[← hx]at qd;refine rT 0 (λw'=>Rd w' wb 0 [x0,x1,.slice adN N.length cN,x3]∧Rd w' bi (oi+i*3) (ca x)) [8,9] [0,1,2,3,5,6,7,3004,1008,1009,1010,11,12,1013] E I λa E=>?_;replace I:=I.drew;generalize w.drew=w at I qd ⊢;have hC:Rd w wb 0 [x0,x1,.slice adN N.length cN,x3]∧Rd w bi (oi+i*3) (ca x):=⟨I.ai (b:=wb),qd⟩;have hH:=Hd.any (λw'=>Rd w' wb 0 [x0,x1,.slice adN N.length cN,x3]∧Rd w' bi (oi+i*3) (ca x));refine RH 7 E I hH hC λa E=>?_;refine QH E (λw hc=>ae E (hc.1 2 _ rfl)) hC λa E=>?_;refine RH 0 E I hH hC λa E=>?_;refine SS E (bT E yN rfl Ty.t60 (hC.2)) λa E=>?_;refine RH 0 E I hH hC λa E=>?_;refine ct E rfl I tp Ty.t60 rfl rfl rfl rfl (by decide) (by decide) λLH a w E I ho=>?_;clear ho;replace hC:=hH.at w ⟨I.ai (b:=wb),jt ot (I.cQ bi oi (by omega)) eX⟩;refine RH 0 E I hH hC λa E=>?_;refine cR E rfl I tp Ty.t60 rfl rfl I.ai rfl (by simp[Value.oneCell']) (by decide) (by decide) (by omega) λFP FQ a w E I=>?_;rw[show rows ca ys++_=rows ca (ys++[x]) from by rw[kK];rfl]at I;refine ST 2 E I (λa w E I=>?_);refine RN 3 E I λa E=>?_;rw[kL aG,← hx]at I;have h1:U W w (cd x::ah cd (xs.drop (i+1))::_):=U.fA (l:=x::xs.drop (i+1)) (i:=0) (I.pick (ah cd (x::xs.drop (i+1)))) (by simp);have h3:=U.j7 (f:=cd) (x:=x) ((h1.pick (ah cd ys)).pick (cd x));refine⟨xs.length-(i+1),by omega,i+1,FP,FQ,ys++[x],N++[l[i]],⟨rfl,by omega,by rw[Jd,pB,aj (by omega)],by rw[cY,lJ,← aeh];rfl⟩,E.ab [0,1,4],?_⟩;rw[aM,jJ];exact h3.sub
  refine RN 3 E I λa E=>?_;rw[kL aG,← hx]at I;have h1:U W w (cd x::ah cd (xs.drop (i+1))::_):=U.fA (l:=x::xs.drop (i+1)) (i:=0) (I.pick (ah cd (x::xs.drop (i+1)))) (by simp);exact⟨xs.length-(i+1),by omega,i+1,adN,cN,ys,N,⟨rfl,by omega,by rw[Jd,pB,ag (by omega)],lJ⟩,E.ab [0,1,4],h1.sub⟩
 refine RT 0 E I ?_;obtain rfl:i=xs.length:=by omega
 rw[gl (by omega)]at hN;subst hN;exact⟨rfl,adN,cN,(cg.close (I.sub (M:=Sl 60 3 adN (eG net l).length cN (rows ca ys)::ah cd ys::aa wb 40 [x0,x1,.slice adN (eG net l).length cN,x3]::L)) lJ rfl)⟩
end
end
section
section
variable {W w:World}{L:List SP}{c k cP cN cE wb i:Nat}{adP adN adE:Option Addr}{p:Pr}{v:Wd}{D:oB}{net:List Ml}{xs:List (gh×Pl)}{es:List kA}{x:gh}{s x5 s':Pl}{t:fU}{cf:Cf}
theorem DM {ps:List Pl}(h2:xs.map (·.2)=ps)(hi:i<xs.length):∃ x,xs[i]?=some (x,ps.getD i Dq):=by
 refine⟨xs[i].1,?_⟩;rw[aD hi,br,← h2,bd,aD hi];rfl
theorem DO (I:U W w (ah (dg W p) xs::L))(hx:xs[i]?=some (x,s)):U W w (bZ W x p s::ah (dg W p) (xs.eraseIdx i)::L):=by
 obtain⟨hi,h1⟩:=a2.1 hx;have h2:=I.fA hi;rw[h1]at h2;exact h2
theorem DP (I:U W w (bZ W x p s::ah (dg W p) (xs.eraseIdx i)::L))(hx:xs[i]?=some (x,s)):U W w (ah (dg W p) xs::L):=by
 obtain⟨hi,h1⟩:=a2.1 hx;refine U.ye hi ?_;rw[h1];exact I
theorem DQ (hx:xs[i]?=some (x,s)):(xs.set i (x,s')).map dE=xs.map dE∧(xs.set i (x,s')).map (·.1)=xs.map (·.1):=by
 obtain⟨hi,h1⟩:=a2.1 hx;constructor
 ·rw[jF,show dE (x,s')=(xs.map dE)[i]'(by rw[a8];exact hi) from by rw[getElem_map,h1],mT]
 ·rw[jF];show (xs.map (·.1)).set i x=_;rw[show x=(xs.map (·.1))[i]'(by rw[a8];exact hi) from by rw[getElem_map,h1],mT]
theorem bF.put (h1:xs.map (·.1)=D.nh)(h2:xs.map (·.2)=v.ps)(h3:es.map (·.2.2)=v.ev)(hx:xs[i]?=some (x,x5))(net:List Ml)
   (I:U W w (bZ W x p s'::ah (dg W p) (xs.eraseIdx i)::aa D.wb 40 [pt D.mb,.slice adP xs.length cP,.slice adN net.length cN,.slice adE es.length cE] ::
    Sl 34 1 adP xs.length cP (xs.map dE)::cg 60 adN net.length cN net::Sl 70 1 adE es.length cE (es.map bB)::ah e4 es::L)) :
   U W w (bF W D p { v with ps:=v.ps.set i s',net:=net }::L):=by
 obtain⟨hi,_⟩:=a2.1 hx;have h4:=U.la (f:=dg W p) (x:=(x,s')) hi I;refine bF.close (adP:=adP) (cP:=cP) (adN:=adN) (cN:=cN) (adE:=adE) (cE:=cE) (xs:=xs.set i (x,s')) (es:=es) ?_ ((DQ hx).2.trans h1) (by rw[jF,h2]) h3;rw[bz,(DQ hx).1];exact h4.sub
theorem Qk (b:Int):IntKind.u8.wrap (IntKind.i64.wrap ((BitVec.ofInt IntKind.i64.bits b &&& BitVec.ofInt IntKind.i64.bits 255).toNat))=((gi b).toNat:Int):=by
 have h1:(BitVec.ofInt IntKind.i64.bits b &&& BitVec.ofInt IntKind.i64.bits 255).toNat=(b%256).toNat:=by
  have h2:(BitVec.ofInt 64 b &&& BitVec.ofInt 64 255).toNat=(BitVec.ofInt 64 b).toNat%256:=by
   rw[BitVec.toNat_and,show (BitVec.ofInt 64 255).toNat=2 ^ 8-1 from rfl,Nat.and_two_pow_sub_one_eq_mod]
  show (BitVec.ofInt 64 b &&& BitVec.ofInt 64 255).toNat=_;rw[h2,BitVec.toNat_ofInt];omega
 rw[h1,fU.u8,gi,gi];have h3:=Int.emod_nonneg b (show (256:Int)≠0 by decide);have h4:=Int.emod_lt_of_pos b (show (0:Int)<256 by decide);have h5:IntKind.i64.wrap ((b%256).toNat:Int)=b%256:=by rw[gy (by omega) (by omega)];omega
 rw[h5,Int.emod_emod_of_dvd _ (by decide)]
set_option maxHeartbeats 1000000 in
theorem aei (I:U W w (bF W D p v::L))(hv:bN p cf c v)(a6:dp p)(aF:p.title.size≤1000000000)(hc:c≤1000000)(hf:¬ (3≤t.fn∧t.fn≤6)) :
   Calls prog 50 #[pt D.wb,.agg (dY t).toArray] w λe w'=>e=.returned (.int .i64 (bx p t v).1)∧U W w' (bF W D p (bx p t v).2::L):=by
 replace I:=bF.open I;obtain⟨adP,cP,adN,cN,adE,cE,xs,es,⟨eN,dm,eR⟩,I⟩:=I;have b7:xs.length=v.ps.length:=by rw[← dm,a8]
 have cr:∀ w',U W w' (aa D.wb 40 [pt D.mb,.slice adP xs.length cP,.slice adN v.net.length cN,.slice adE es.length cE]::Sl 34 1 adP xs.length cP (xs.map dE)::ah (dg W p) xs::cg 60 adN v.net.length cN v.net::Sl 70 1 adE es.length cE (es.map bB)::ah e4 es::L)→U W w' (bF W D p v::L):=λw' h=>bF.close h eN dm eR;refine EN func50 ntmps50 rfl rfl λa E=>?_;refine BX 1 E I λb3 a w E I=>?_;change U W w (aa b3 58 (dY t)::_) at I;refine BY 7 E I (λbW a E=>?_) λbW a E=>?_
 ·
  refine RT 7 E I ?_;rw[bx,aj (by omega)];exact⟨rfl,cr _ I.sub⟩
 refine IF 4 E I (λak a E=>?_) λak a E=>?_
 ·
  refine RT 2 E I ?_;rw[bx,aj (by omega)];exact⟨rfl,cr _ I.sub⟩
 refine RN 0 E I λa E=>?_;refine b6 (M:=λa w=>(¬ (t.fn<1∨8<t.fn)∧Fr a 74 [(0,pt D.wb),(3,pt b3),(4,.int .i64 0)])∧U W w (aa b3 58 (dY t)::aa D.wb 40 [pt D.mb,.slice adP xs.length cP,.slice adN v.net.length cN,.slice adE es.length cE]::Sl 34 1 adP xs.length cP (xs.map dE)::ah (dg W p) xs::cg 60 adN v.net.length cN v.net::Sl 70 1 adE es.length cE (es.map bB)::ah e4 es::L)) ?_ ?_
 ·
  refine BY 5 E I (λbW a E=>?_) λbW a E=>?_
  ·
   refine RN 4 E I λa E=>?_;rw[bu (by omega)]at E;refine RN 1 E I λa E=>?_;exact⟨⟨by omega,E.ab [0,3,4]⟩,I.sub⟩
  refine RN 5 E I λa E=>?_;exact⟨⟨by omega,E.ab [0,3,4]⟩,I.sub⟩
 clear E;(try clear I);rintro a w ⟨⟨hW,E⟩,I⟩;refine b6 (M:=λa w=>(∃ i:Nat,(t.a=i∧i<v.ps.length)∧Fr a 74 [(0,pt D.wb),(3,pt b3),(4,.int .i64 0)])∧U W w (aa b3 58 (dY t)::aa D.wb 40 [pt D.mb,.slice adP xs.length cP,.slice adN v.net.length cN,.slice adE es.length cE]::Sl 34 1 adP xs.length cP (xs.map dE)::ah (dg W p) xs::cg 60 adN v.net.length cN v.net::Sl 70 1 adE es.length cE (es.map bB)::ah e4 es::L)) ?_ ?_
 ·
  refine aV 1 (λw0 w'=>Rd w' b3 0 (dY t)∧Rd w' D.wb 0 [pt D.mb,.slice adP xs.length cP,.slice adN v.net.length cN,.slice adE es.length cE]) [9,10] [0,1001,2,3,4,6,7,8,3005,1009,1010,11,12] E I λa w E I hH=>?_;have hC:=hH.at w ⟨I.ai (b:=b3),I.ai (b:=D.wb)⟩;refine RH 1 E I hH hC λa E=>?_;refine SS E (ae E (hC.1 1 _ rfl)) λa E=>?_;refine RH 2 E I hH hC λa E=>?_;refine E.by (s:=28) (λbW E=>?_) (λbW E=>?_)
  ·
   refine RH 9 E I hH hC λa E=>?_;refine RT 3 E I ?_;have ho:t.a<0∨(v.ps.length:Int)≤t.a:=by omega
   have aS:bx p t v=(7,v):=by rw[bx,ag (by omega),ag hf,gK,aj ho]
   rw[aS];exact⟨rfl,cr _ I.sub⟩
  refine RH 4 E I hH hC λa E=>?_;refine QH E (λw hc=>ae E (hc.1 1 _ rfl)) hC λa E=>?_;refine RH 0 E I hH hC λa E=>?_;refine bA E (cv E rfl (s:=28)) (ae E (hC.2 1 _ rfl)) rfl λa E=>?_;refine RH 3 E I hH hC λa E=>?_;refine IF 0 E I (λay a E=>?_) λay a E=>?_
  ·
   refine RT 2 E I ?_;have ho:t.a<0∨(v.ps.length:Int)≤t.a:=by omega
   have aS:bx p t v=(7,v):=by rw[bx,ag (by omega),ag hf,gK,aj ho]
   rw[aS];exact⟨rfl,cr _ I.sub⟩
  refine RN 0 E I λa E=>?_;exact⟨⟨t.a.toNat,⟨by omega,by omega⟩,E.ab [0,3,4]⟩,I.sub⟩
 clear E;(try clear I);rintro a w ⟨⟨i,⟨gk,hi⟩,E⟩,I⟩;refine RN 1 E I λa E=>?_;obtain⟨x,hx⟩:∃ x,xs[i]?=some (x,an v i):=DM dm (by omega);have aS:bx p t v=gK p t v:=by rw[bx,ag hW,ag hf]
 obtain⟨hw,df,yg⟩:=hv.pl i hi;have uJ:(xs.map dE)[i]?=some (pt x.pb):=by rw[bd,hx];rfl
 obtain⟨bp,op,rfl,_⟩:=(I.pick (Sl 34 1 adP xs.length cP (xs.map dE))).bU adP (by omega);refine aV 0 (λw0 w'=>(Rd w' b3 0 (dY t)∧Rd w' D.wb 0 [pt D.mb,.slice (some ⟨bp,op,none⟩) xs.length cP,.slice adN v.net.length cN,.slice adE es.length cE])∧Rd w' bp op (xs.map dE)) [5] [0,1,2,4,3003,1005,6,1007,8] E I λa w E I hH=>?_;have hC:=hH.at w ⟨⟨I.ai (b:=b3),I.ai (b:=D.wb)⟩,I.cQ bp op (by omega)⟩;refine RH 4 E I hH hC λa E=>?_;refine QH E (λw hc=>ae E (hc.1.2 1 _ rfl)) hC λa E=>?_;refine RH 0 E I hH hC λa E=>?_;refine SS E (ae E (hC.1.1 1 _ rfl)) λa E=>?_;rw[gk]at E;refine RH 1 E I hH hC λa E=>?_;refine SS E (ae E (hC.2 i _ uJ)) λa E=>?_;refine RH 1 E I hH hC λa E=>?_;refine RN 2 E I λa E=>?_;replace I:=DO (I.pick (ah (dg W p) xs)) hx;refine IF 5 E I (λbl a E=>?_) λbl a E=>?_
 ·
  refine RN 5 E I λa E=>?_;refine SS E (gA E fk dF) λa E=>?_;rw[Qk]at E;refine CL 0 E I (acO (x:=gi t.b) (I.pick (bZ W x p (an v i))) hw a6 aF) λa w E I=>?_;refine RT 1 E I ?_;rw[aS,Dx (by assumption) gk hi];exact⟨rfl,bF.put (adP:=some ⟨bp,op,none⟩) (cP:=cP) (adN:=adN) (cN:=cN) (adE:=adE) (cE:=cE) eN dm eR hx v.net I.sub⟩
 refine IF 3 E I (λbO a E=>?_) λbO a E=>?_
 ·
  replace I:=bZ.open (I.pick (bZ W x p (an v i)));refine aY 5 E I (acE (I.pick (aZ x.core (an v i).k)) hw.wc (by omega)) λJe pf a w E I=>?_;refine CL 0 E I (Qh (((I.pick (aa D.wb 40 [pt D.mb,.slice (some ⟨bp,op,none⟩) xs.length cP,.slice adN v.net.length cN,.slice adE es.length cE])).pick (cg 60 adN v.net.length cN v.net)).pick (cg 60 Je (bw (an v i).k).1.length pf (bw (an v i).k).1)) (Pn hw.wc) hv.net.1) λa w E ⟨wv,uK,I⟩=>?_;refine RN 0 E I λa E=>?_;replace I:=bZ.fold I x p ⟨(bw (an v i).k).2,(an v i).g⟩;refine RT 2 E I ?_;rw[aS]
  first
   | (rw[yf (by assumption) gk hi];exact⟨rfl,bF.put (adP:=some ⟨bp,op,none⟩) (cP:=cP) (adN:=wv) (cN:=uK) (adE:=adE) (cE:=cE) eN dm eR hx (eG v.net (bw (an v i).k).1) I.sub⟩)
   | (rw[As (by assumption) gk hi];exact⟨rfl,bF.put (adP:=some ⟨bp,op,none⟩) (cP:=cP) (adN:=wv) (cN:=uK) (adE:=adE) (cE:=cE) eN dm eR hx (eG v.net (cA (an v i).k).1) I.sub⟩)
   | (rw[Au (by omega) gk hi];exact⟨rfl,cr _ (DP ((I.pick (ah (dg W p) (xs.eraseIdx i))).pick (bZ W x p (an v i))) hx).sub⟩)
 refine IF 3 E I (λeL a E=>?_) λeL a E=>?_
 ·
  replace I:=bZ.open (I.pick (bZ W x p (an v i)));refine aY 5 E I (acB (I.pick (aZ x.core (an v i).k)) hw.wc) λJe pf a w E I=>?_;refine CL 0 E I (Qh (((I.pick (aa D.wb 40 [pt D.mb,.slice (some ⟨bp,op,none⟩) xs.length cP,.slice adN v.net.length cN,.slice adE es.length cE])).pick (cg 60 adN v.net.length cN v.net)).pick (cg 60 Je (cA (an v i).k).1.length pf (cA (an v i).k).1)) (Po hw.wc) hv.net.1) λa w E ⟨wv,uK,I⟩=>?_;refine RN 0 E I λa E=>?_;replace I:=bZ.fold I x p ⟨(cA (an v i).k).2,(an v i).g⟩;refine RT 2 E I ?_;rw[aS]
  first
   | (rw[yf (by assumption) gk hi];exact⟨rfl,bF.put (adP:=some ⟨bp,op,none⟩) (cP:=cP) (adN:=wv) (cN:=uK) (adE:=adE) (cE:=cE) eN dm eR hx (eG v.net (bw (an v i).k).1) I.sub⟩)
   | (rw[As (by assumption) gk hi];exact⟨rfl,bF.put (adP:=some ⟨bp,op,none⟩) (cP:=cP) (adN:=wv) (cN:=uK) (adE:=adE) (cE:=cE) eN dm eR hx (eG v.net (cA (an v i).k).1) I.sub⟩)
   | (rw[Au (by omega) gk hi];exact⟨rfl,cr _ (DP ((I.pick (ah (dg W p) (xs.eraseIdx i))).pick (bZ W x p (an v i))) hx).sub⟩)
 refine RT 2 E I ?_;rw[aS]
 first
  | (rw[yf (by assumption) gk hi];exact⟨rfl,bF.put (adP:=some ⟨bp,op,none⟩) (cP:=cP) (adN:=wv) (cN:=uK) (adE:=adE) (cE:=cE) eN dm eR hx (eG v.net (bw (an v i).k).1) I.sub⟩)
  | (rw[As (by assumption) gk hi];exact⟨rfl,bF.put (adP:=some ⟨bp,op,none⟩) (cP:=cP) (adN:=wv) (cN:=uK) (adE:=adE) (cE:=cE) eN dm eR hx (eG v.net (cA (an v i).k).1) I.sub⟩)
  | (rw[Au (by omega) gk hi];exact⟨rfl,cr _ (DP ((I.pick (ah (dg W p) (xs.eraseIdx i))).pick (bZ W x p (an v i))) hx).sub⟩)
end
end
section
section
variable {W w:World}{L L':List SP}{n c k cP cN cE wb i j:Nat}{adP adN adE:Option Addr}{p:Pr}{v:Wd}{D:oB}{net:List Ml}{xs:List (gh×Pl)}{es:List kA}{x:gh}{s:Pl}{t:fU}{cf:Cf}{m:Ml}
theorem aej (I:U W w (bF W D p v::L))(ho:t.n<0∨(v.net.length:Int)≤t.n) :
   Calls prog 70 #[pt D.wb,.agg (dY t).toArray] w λe w'=>e=.returned (.int .i64 3)∧U W w' (bF W D p v::L):=by
 replace I:=bF.open I;obtain⟨adP,cP,adN,cN,adE,cE,xs,es,⟨eN,dm,eR⟩,I⟩:=I;have cr:∀ w',U W w' (aa D.wb 40 [pt D.mb,.slice adP xs.length cP,.slice adN v.net.length cN,.slice adE es.length cE]::Sl 34 1 adP xs.length cP (xs.map dE)::ah (dg W p) xs::cg 60 adN v.net.length cN v.net::Sl 70 1 adE es.length cE (es.map bB)::ah e4 es::L)→U W w' (bF W D p v::L):=λw' h=>bF.close h eN dm eR;refine EN func70 ntmps70 rfl rfl λa E=>?_;refine BX 1 E I λb3 a w E I=>?_;change U W w (aa b3 58 (dY t)::_) at I;refine aV 3 (λw0 w'=>Rd w' b3 0 (dY t)∧Rd w' D.wb 0 [pt D.mb,.slice adP xs.length cP,.slice adN v.net.length cN,.slice adE es.length cE]) [9,10] [0,1001,2,3,4,6,7,8,3005,1009,1010,11,12] E I λa w E I hH=>?_;have hC:=hH.at w ⟨I.ai (b:=b3),I.ai (b:=D.wb)⟩;refine RH 1 E I hH hC λa E=>?_;refine SS E (ae E (hC.1 3 _ rfl)) λa E=>?_;refine RH 2 E I hH hC λa E=>?_;refine E.by (s:=10) (λbW E=>?_) (λbW E=>?_)
 ·
  refine RH 9 E I hH hC λa E=>?_;refine RT 3 E I ?_;exact⟨rfl,cr _ I.sub⟩
 refine RH 4 E I hH hC λa E=>?_;refine QH E (λw hc=>ae E (hc.1 3 _ rfl)) hC λa E=>?_;refine RH 0 E I hH hC λa E=>?_;refine bA E (cv E rfl (s:=10)) (ae E (hC.2 2 _ rfl)) rfl λa E=>?_;refine RH 3 E I hH hC λa E=>?_;rw[dr (by omega)]at E;refine RT 3 E I ?_;exact⟨rfl,cr _ I.sub⟩
theorem bF.DR {ys:List Mx}(h1:xs.map (·.1)=D.nh)(h2:xs.map (·.2)=v.ps)(h3:es.map (·.2.2)=v.ev)(hy:ys.map (·.2.2)=net)
   (I:U W w (Sl 60 3 adN net.length cN (rows ca ys)::ah cd ys::aa D.wb 40 [pt D.mb,.slice adP xs.length cP,.slice adN net.length cN,.slice adE es.length cE]::Sl 34 1 adP xs.length cP (xs.map dE)::ah (dg W p) xs::Sl 70 1 adE es.length cE (es.map bB)::ah e4 es::L)) :
   U W w (bF W D p { v with net:=net }::L):=by
 have h4:=cg.close I hy rfl;exact bF.close (v:={ v with net:=net }) (h4.sub (M:=aa D.wb 40 [pt D.mb,.slice adP xs.length cP,.slice adN net.length cN,.slice adE es.length cE]::Sl 34 1 adP xs.length cP (xs.map dE)::ah (dg W p) xs::cg 60 adN net.length cN net::Sl 70 1 adE es.length cE (es.map bB)::ah e4 es::L)) h1 h2 h3
theorem Jf {ys:List Mx}{y:Mx}(I:U W w (ah cd ys::L))(hy:ys[j]?=some y):aX w y.1 y.2.2.2.2.length y.2.2.2.2:=by
 obtain⟨h1,h2⟩:=a2.1 hy;have h3:=I.fA h1;rw[h2]at h3;exact U.cw (L:=cd y::_) h3 _ _ (k:=(fX.head:fX (Sl 5 1 y.1 y.2.2.2.2.length y.2.1 (bc y.2.2.2.2)::_) y.1 _ _ _ _ _ _)) rfl rfl
set_option maxHeartbeats 2000000 in
theorem aek (I:U W w (bF W D p v::L))(hv:bN p cf c v)(a6:dp p)(aF:p.title.size≤1000000000)(hf:t.fn=3∨t.fn=4∨t.fn=5∨t.fn=6)(gU:t.n=j)(hm:v.net[j]?=some m) :
   Calls prog 70 #[pt D.wb,.agg (dY t).toArray] w λe w'=>e=.returned (.int .i64 (gT p t v).1)∧U W w' (bF W D p (gT p t v).2::L):=by
 have dO:=(a2.1 hm).1;have gj:=hv.IU dO;rw[Dz hm]at gj;obtain⟨hw,df,yg⟩:=hv.pl m.2.1 gj.1;have p8:=hv.net.1;replace I:=bF.open I;obtain⟨adP,cP,adN,cN,adE,cE,xs,es,⟨eN,dm,eR⟩,I⟩:=I;have b7:xs.length=v.ps.length:=by rw[← dm,a8]
 obtain⟨ys,mI,ju,I⟩:=cg.open (I.pick (cg 60 adN v.net.length cN v.net));have lJ:ys.length=v.net.length:=by rw[← mI,a8]
 obtain⟨y,hy,iR⟩:∃ y,ys[j]?=some y∧y.2.2=m:=by
  have h1:(ys.map (·.2.2))[j]?=some m:=by rw[mI,hm]
  rw[bd,aD (by omega)]at h1;exact⟨_,aD (by omega),by simpa using h1⟩
 subst iR;obtain⟨bE,on,rfl,_⟩:=(I.pick (Sl 60 3 adN v.net.length cN (rows ca ys))).bU adN (by omega);refine EN func70 ntmps70 rfl rfl λa E=>?_;refine BX 1 E I λb3 a w E I=>?_;change U W w (aa b3 58 (dY t)::_) at I;refine aV 3 (λw0 w'=>Rd w' b3 0 (dY t)∧Rd w' D.wb 0 [pt D.mb,.slice adP xs.length cP,.slice (some ⟨bE,on,none⟩) v.net.length cN,.slice adE es.length cE]) [9,10] [0,1001,2,3,4,6,7,8,3005,1009,1010,11,12] E I λa w E I hH=>?_;have hC:=hH.at w ⟨I.ai (b:=b3),I.ai (b:=D.wb)⟩;refine RH 1 E I hH hC λa E=>?_;refine SS E (ae E (hC.1 3 _ rfl)) λa E=>?_;refine RH 2 E I hH hC λa E=>?_;rw[bu (by omega)]at E;refine RH 4 E I hH hC λa E=>?_;refine QH E (λw hc=>ae E (hc.1 3 _ rfl)) hC λa E=>?_;refine RH 0 E I hH hC λa E=>?_;refine bA E (cv E rfl (s:=10)) (ae E (hC.2 2 _ rfl)) rfl λa E=>?_;refine RH 3 E I hH hC λa E=>?_;rw[bu (by omega)]at E;refine aV 2 (λw0 w'=>(Rd w' b3 0 (dY t)∧Rd w' D.wb 0 [pt D.mb,.slice adP xs.length cP,.slice (some ⟨bE,on,none⟩) v.net.length cN,.slice adE es.length cE])∧Rd w' bE (on+j*3) (ca y)) [5,8] [0,1,2,4,3003,3005,6,3007,1008,1009] E I λa w E I hH=>?_;have hC:=hH.at w ⟨⟨I.ai (b:=b3),I.ai (b:=D.wb)⟩,jt ot (I.cQ bE on (by omega)) hy⟩;refine RH 4 E I hH hC λa E=>?_;refine QH E (λw hc=>ae E (hc.1.2 2 _ rfl)) hC λa E=>?_;refine QH E (λw hc=>ae E (hc.1.1 3 _ rfl)) hC λa E=>?_;rw[gU]at E;refine RH 1 E I hH hC λa E=>?_;refine QH E (λw hc=>bT E yN rfl Ty.t60 (hc.2)) hC λa E=>?_;refine RH 0 E I hH hC λa E=>?_;refine e5 E rfl I Ty.t60 rfl λb5 a w E I ho=>?_;clear ho;replace hC:=hH.at w ⟨⟨I.ai (b:=b3),I.ai (b:=D.wb)⟩,jt ot (I.cQ bE on (by omega)) hy⟩;refine RH 0 E I hH hC λa E=>?_;refine SA 0 E I λa w E I=>?_;refine RN 0 E I λa E=>?_;refine IF 5 E I (λao a E=>?_) λao a E=>?_
 ·
  refine BY 6 E I (λbW a E=>?_) λbW a E=>?_
  ·
   refine RT 10 E I ?_;have ho:t.a<0∨(y.2.2.2.2.length:Int)≤t.a:=by omega
   rw[wj (by assumption) gU hm,aj ho];exact⟨rfl,bF.DR (adP:=adP) (cP:=cP) (adN:=some ⟨bE,on,none⟩) (cN:=cN) (adE:=adE) (cE:=cE) (net:=v.net) (ys:=ys) eN dm eR mI I.sub⟩
  refine IF 7 E I (λay a E=>?_) λay a E=>?_
  ·
   refine RT 2 E I ?_;have ho:t.a<0∨(y.2.2.2.2.length:Int)≤t.a:=by omega
   rw[wj (by assumption) gU hm,aj ho];exact⟨rfl,bF.DR (adP:=adP) (cP:=cP) (adN:=some ⟨bE,on,none⟩) (cN:=cN) (adE:=adE) (cE:=cE) (net:=v.net) (ys:=ys) eN dm eR mI I.sub⟩
  refine RN 1 E I λa E=>?_;have ho:¬ (t.a<0∨(y.2.2.2.2.length:Int)≤t.a):=by omega
  obtain⟨A,hA⟩:∃ A:Nat,t.a=A:=⟨t.a.toNat,by omega⟩;have DS:A<y.2.2.2.2.length:=by omega
  have Cn:=Jf (I.pick (ah cd ys)) hy;replace I:=I.bQ 5 1 none;refine RN 2 E I λa E=>?_;refine hO E rfl I bj Ty.t5 rfl rfl (by decide) (λh0=>Cn.get h0) (by rw[dA];omega) (ez _) (by omega) λnU lH a w E I=>?_;rw[nil_append,ei]at I;rw[ei]at E;refine RN 2 E I λa E=>?_;have ag1:=((I.pick (Sl 5 1 nU y.2.2.2.2.length lH (bc y.2.2.2.2))).sl nU).2;obtain⟨bb,pre,post,⟨h3,h4,rfl,h6⟩,gN⟩:=(I.pick (Sl 5 1 nU y.2.2.2.2.length lH (bc y.2.2.2.2))).mh (by omega);replace I:=gN;clear gN;have hb:(pre++bc y.2.2.2.2++post)[pre.length+A]?=some (.int .u8 (y.2.2.2.2[A].toNat:Int)):=by
   rw[dz,pJ (by omega),show pre.length+A-pre.length=A from by omega,mM (by rw[dA];exact DS)];simp[bc,DS]
  refine aV 0 (λw0 w'=>Rd w' b3 0 (dY t)∧w'.cell? ⟨bb,pre.length+A,none⟩=some (.int .u8 (y.2.2.2.2[A].toNat:Int))) [6,7,8] [0,1,5,3002,3,3004,1006,1007,1008,9,10,1011] E I λa w E I hH=>?_;have hC:=hH.at w ⟨I.ai (b:=b3),I.bC (b:=bb) hb⟩;refine RH 3 E I hH hC λa E=>?_;refine QH E (λw hc=>ae E (hc.1 1 _ rfl)) hC λa E=>?_;rw[hA]at E;refine RH 1 E I hH hC λa E=>?_;refine QH E (λw hc=>ae E (hc.2)) hC λa E=>?_;refine RH 0 E I hH hC λa E=>?_;refine SS E (ae E (hC.1 2 _ rfl)) λa E=>?_;refine RH 1 E I hH hC λa E=>?_;refine SS E (gA E fk dF) λa E=>?_;rw[Qk]at E;refine RH 2 E I hH hC λa E=>?_;refine ST 0 E I (λa w E I=>?_) (hlt:=(by simp only[aM,dA];omega));refine RN 0 E I λa E=>?_;rw[Ao (by rw[dA];exact DS),PB]at I;have Ql:=U.jh (n:=y.2.2.2.2.length) (c:=lH) (sz:=1) (I.j5 bb) (by rw[dA,bz,fB]) h4 h6;replace I:=Ql;clear Ql;have p9:=((I.pick (Sl 60 3 (some ⟨bE,on,none⟩) v.net.length cN (rows ca ys))).sl (some ⟨bE,on,none⟩)).2;obtain⟨jx,wx,Qm,⟨rN,ti,xD,Qn⟩,gN⟩:=(I.pick (Sl 60 3 (some ⟨bE,on,none⟩) v.net.length cN (rows ca ys))).mh (by omega);replace I:=gN;clear gN;obtain⟨rfl,rfl⟩:bE=jx∧on=wx.length:=by simpa using xD
  refine aV 1 (λw0 w'=>Rd w' b3 0 (dY t)∧Rd w' D.wb 0 [pt D.mb,.slice adP xs.length cP,.slice (some ⟨bE,wx.length,none⟩) v.net.length cN,.slice adE es.length cE]) [5] [0,1,2,4,6,3003,1005,7,8,1009] E I λa w E I hH=>?_;have hC:=hH.at w ⟨I.ai (b:=b3),I.ai (b:=D.wb)⟩;refine RH 5 E I hH hC λa E=>?_;refine QH E (λw hc=>ae E (hc.2 2 _ rfl)) hC λa E=>?_;refine RH 0 E I hH hC λa E=>?_;refine SS E (ae E (hC.1 3 _ rfl)) λa E=>?_;rw[gU]at E;refine RH 2 E I hH hC λa E=>?_;refine ST 0 E I (λa w E I=>?_) (hlt:=(by simp only[aM];omega));refine RT 2 E I ?_;rw[wj (by assumption) gU hm,ag ho];refine⟨rfl,?_⟩;rw[hA,c9,br,aD DS,Option.getD_some];obtain⟨q7,AB⟩:=a2.1 hy;obtain⟨Y,xe⟩:∃ Y:Mx,Y=(some ⟨bb,pre.length,none⟩,lH,(y.2.2.1,y.2.2.2.1,y.2.2.2.2.set A (y.2.2.2.2[A] ^^^ gi t.b))):=⟨_,rfl⟩;have e1:(rows ca ys).set (j*3+2) (.slice (some ⟨bb,pre.length,none⟩) y.2.2.2.2.length lH)=rows ca (ys.set j Y):=qO ot ys (i:=j) (k:=2) Y q7 (by decide) (by rw[AB,xe];simp[ca,bz]);rw[Nat.add_assoc,Ao (by rw[rN];omega),e1]at I;have h8:=U.jh (n:=v.net.length) (c:=cN) (sz:=3) (I.j5 bE) (by rw[jC ot,bz,lJ]) ti Qn;have h9:=((h8.pick (ah cd ys)).fA q7).tail;have IZ:Sl 5 1 (some ⟨bb,pre.length,none⟩) y.2.2.2.2.length lH (bc (y.2.2.2.2.set A (y.2.2.2.2[A] ^^^ gi t.b)))=cd Y:=by rw[xe,cd];simp only[bz]
  have fO:=(h9.pick (ah cd (ys.eraseIdx j))).pick (Sl 5 1 (some ⟨bb,pre.length,none⟩) y.2.2.2.2.length lH (bc (y.2.2.2.2.set A (y.2.2.2.2[A] ^^^ gi t.b))));rw[IZ]at fO;have nz:=U.la (f:=cd) q7 fO;refine bF.DR (adP:=adP) (cP:=cP) (adN:=some ⟨bE,wx.length,none⟩) (cN:=cN) (adE:=adE) (cE:=cE) (ys:=ys.set j Y) eN dm eR (by rw[jF,mI,xe]) ?_;rw[bz];exact nz.sub
 refine RN 0 E I λa E=>?_;refine b6 (M:=λa w=>∃ (cm:Option Addr) (cM:Nat) (zs:List Mx) (Z:SP),((zs.map (·.2.2)=(if t.fn=5 then v.net else v.net.eraseIdx j)∧(∀ w' L',U W w' (ah cd zs::Z::L')→aX w' y.1 y.2.2.2.2.length y.2.2.2.2)∧y.2.2.2.2.length≤y.2.1)∧Fr a 103 [(0,pt D.wb),(3,pt b3),(5,pt b5)])∧U W w (aa b5 60 (ca y)::aa b3 58 (dY t)::Sl 60 3 cm zs.length cM (rows ca zs)::ah cd zs::Z::aa D.wb 40 [pt D.mb,.slice adP xs.length cP,.slice cm zs.length cM,.slice adE es.length cE]::Sl 34 1 adP xs.length cP (xs.map dE)::ah (dg W p) xs::Sl 70 1 adE es.length cE (es.map bB)::ah e4 es::L)) ?_ ?_
 ·
  refine IF 4 E I (λbl a E=>?_) λbl a E=>?_
  ·
   refine RN 0 E I λa E=>?_;have p9:=((I.pick (Sl 60 3 (some ⟨bE,on,none⟩) v.net.length cN (rows ca ys))).sl (some ⟨bE,on,none⟩)).2;refine aV 0 (λw0 w'=>Rd w' b3 0 (dY t)∧Rd w' D.wb 0 [pt D.mb,.slice adP xs.length cP,.slice (some ⟨bE,on,none⟩) v.net.length cN,.slice adE es.length cE]) [6,8,13,15,16,17] [0,1,2,3,5,7,10,11,12,14,3004,3006,3008,9,3013,1015,1016,1017,1018,19,20,1021] E I λa w E I hH=>?_;have hC:=hH.at w ⟨I.ai (b:=b3),I.ai (b:=D.wb)⟩;refine RH 10 E I hH hC λa E=>?_;refine QH E (λw hc=>ae E (hc.2 2 _ rfl)) hC λa E=>?_;refine QH E (λw hc=>ae E (hc.1 3 _ rfl)) hC λa E=>?_;rw[gU]at E;refine RH 0 E I hH hC λa E=>?_;refine QH E (λw hc=>ae E (hc.1 3 _ rfl)) hC λa E=>?_;rw[gU]at E;refine RH 1 E I hH hC λa E=>?_;refine QH E (λw hc=>ae E (hc.2 2 _ rfl)) hC λa E=>?_;refine RH 0 E I hH hC λa E=>?_;refine SS E (ae E (hC.1 3 _ rfl)) λa E=>?_;rw[gU]at E;refine RH 2 E I hH hC λa E=>?_;have ael:fw (some ⟨bE,on,none⟩) 0 j 3=some ⟨bE,on,none⟩:=by
    by_cases h0:j=0
    ·subst h0;rfl
    ·rw[pK h0,Nat.zero_mul,Nat.add_zero]
   have ya:rows ca ys=rows ca (ys.take j)++rows ca (ys.drop j):=by rw[← kK,j6]
   have aem:rows ca ys=rows ca (ys.take (j+1))++rows ca (ys.drop (j+1)):=by rw[← kK,j6]
   have da:Rd w bE (on+(j+1)*3) (rows ca (ys.drop (j+1))):=by
    have h1:Rd w bE on (rows ca ys):=I.cQ bE on (by omega);have h2:=h1.part ((j+1)*3) ((ys.length-(j+1))*3);rw[aem,List.drop_left' (by rw[jC ot,eA];omega),gl (by rw[jC ot,c8];omega)]at h2;exact h2
   obtain⟨jx,wx,Qm,⟨rN,ti,xD,Qn⟩,gN⟩:=(I.pick (Sl 60 3 (some ⟨bE,on,none⟩) v.net.length cN (rows ca ys))).mh (by omega);obtain⟨rfl,rfl⟩:bE=jx∧on=wx.length:=by simpa using xD
   rw[ya,← dz wx,dz _ _ Qm]at gN;replace I:=U.jh (n:=j) (c:=j) (sz:=3) gN (by rw[jC ot,eA];omega) (a7 _) (by omega);clear gN;rw[ael]at E;refine hO E rfl I tp Ty.t60 rfl rfl (by decide) (λh0=>⟨bE,wx.length+(j+1)*3,pK (by omega),da⟩) (by rw[jC ot,c8];omega) (A5 aaY _) (by omega) λaen c86 a w E I=>?_;rw[← kK,← th]at I;have sW:j+(v.net.length-(j+1))=(ys.eraseIdx j).length:=by rw[List.length_eraseIdx_of_lt (by omega)];omega
   rw[sW]at I E;refine ST 2 E I (λa w E I=>?_);refine RN 0 E I λa E=>?_;obtain⟨q7,AB⟩:=a2.1 hy;have h1:=(I.pick (ah cd ys)).fA q7;rw[AB]at h1;have pw:y.2.2.2.2.length≤y.2.1:=(U.sl (L:=cd y::_) (k:=(fX.head:fX (Sl 5 1 y.1 y.2.2.2.2.length y.2.1 (bc y.2.2.2.2)::_) y.1 _ _ _ _ _ _)) h1 y.1).2;refine⟨aen,c86,ys.eraseIdx j,cd y,⟨⟨?_,λw' L' h=>?_,pw⟩,E.ab [0,3,5]⟩,h1.sub⟩
   ·rw[ag (by omega),← mI];simp only[th,cY,map_take,map_drop]
   ·have h2:=h.pick (cd y);exact U.cw (L:=cd y::_) h2 _ _ (k:=(fX.head:fX (Sl 5 1 y.1 y.2.2.2.2.length y.2.1 (bc y.2.2.2.2)::_) y.1 _ _ _ _ _ _)) rfl rfl
  refine RN 0 E I λa E=>?_;obtain⟨q7,AB⟩:=a2.1 hy;have pw:y.2.2.2.2.length≤y.2.1:=by
   have h1:=(I.pick (ah cd ys)).fA q7;rw[AB]at h1;exact (U.sl (L:=cd y::_) (k:=(fX.head:fX (Sl 5 1 y.1 y.2.2.2.2.length y.2.1 (bc y.2.2.2.2)::_) y.1 _ _ _ _ _ _)) h1 y.1).2
  refine⟨some ⟨bE,on,none⟩,cN,ys,Sl 5 1 none 0 0 [],⟨⟨by rw[aj (by omega)];exact mI,λw' L' h=>Jf h hy,pw⟩,E.ab [0,3,5]⟩,?_⟩;rw[lJ];exact (I.bQ 5 1 none).sub
 clear E;(try clear I);rintro a w ⟨cm,cM,zs,Z,⟨⟨ry,aeo,pw⟩,E⟩,I⟩;refine IF 5 E I (λbO a E=>?_) λbO a E=>?_
 ·
  refine RT 2 E I ?_;have jz:zs.length=(v.net.eraseIdx j).length:=by rw[← a8 (f:=(·.2.2)),ry,ag (by omega)]
  rw[DA (by assumption) gU hm];rw[ag (by omega)]at ry;refine⟨rfl,?_⟩;refine bF.DR (adP:=adP) (cP:=cP) (adN:=cm) (cN:=cM) (adE:=adE) (cE:=cE) (ys:=zs) eN dm eR ry ?_;rw[← jz];exact I.sub
 refine RN 1 E I λa E=>?_;obtain⟨x,hx⟩:∃ x,xs[y.2.2.2.1]?=some (x,an v y.2.2.2.1):=DM dm (by omega);have uJ:(xs.map dE)[y.2.2.2.1]?=some (pt x.pb):=by rw[bd,hx];rfl
 obtain⟨bp,op,rfl,_⟩:=(I.pick (Sl 34 1 adP xs.length cP (xs.map dE))).bU adP (by omega);refine aV 0 (λw0 w'=>(Rd w' b5 0 (ca y)∧Rd w' D.wb 0 [pt D.mb,.slice (some ⟨bp,op,none⟩) xs.length cP,.slice cm zs.length cM,.slice adE es.length cE])∧Rd w' bp op (xs.map dE)) [5,9] [0,1,2,4,8,3003,3005,6,3007,1009,1010,11] E I λa w E I hH=>?_;have hC:=hH.at w ⟨⟨I.ai (b:=b5),I.ai (b:=D.wb)⟩,I.cQ bp op (by omega)⟩;refine RH 5 E I hH hC λa E=>?_;refine QH E (λw hc=>ae E (hc.1.2 1 _ rfl)) hC λa E=>?_;refine QH E (λw hc=>ae E (hc.1.1 1 _ rfl)) hC λa E=>?_;refine RH 1 E I hH hC λa E=>?_;refine QH E (λw hc=>ae E (hc.2 _ _ uJ)) hC λa E=>?_;refine RH 0 E I hH hC λa E=>?_;refine SS E (ae E (hC.1.1 2 _ rfl)) λa E=>?_;replace I:=DO (I.pick (ah (dg W p) xs)) hx;refine RH 0 E I hH hC λa E=>?_;refine CL 0 E I (acP (bs:=y.2.2.2.2) (I.pick (bZ W x p (an v y.2.2.2.1))) hw a6 aF (by omega) pw (λw' dj=>aeo w' _ ((dj.pick Z).pick (ah cd zs)))) λa w E I=>?_;refine RN 1 E I λa E=>?_;refine RT 0 E I ?_;rw[DB (by omega) (by omega) gU hm];refine⟨rfl,?_⟩;have jz:zs.length=(if t.fn=5 then v.net else v.net.eraseIdx j).length:=by rw[← a8 (f:=(·.2.2)),ry]
 have h1:=cg.close ((I.pick (ah cd zs)).pick (Sl 60 3 cm zs.length cM (rows ca zs))) ry jz.symm;refine bF.put (adP:=some ⟨bp,op,none⟩) (cP:=cP) (adN:=cm) (cN:=cM) (adE:=adE) (cE:=cE) eN dm eR hx (if t.fn=5 then v.net else v.net.eraseIdx j) ?_;rw[← jz];exact h1.sub
end
end
section
section
variable {W w:World}{L:List SP}{c:Nat}{p:Pr}{v:Wd}{D:oB}{t:fU}{cf:Cf}
theorem aep (I:U W w (bF W D p v::L))(hv:bN p cf c v)(a6:dp p)(aF:p.title.size≤1000000000)(hf:t.fn=3∨t.fn=4∨t.fn=5∨t.fn=6) :
   Calls prog 70 #[pt D.wb,.agg (dY t).toArray] w λe w'=>e=.returned (.int .i64 (gT p t v).1)∧U W w' (bF W D p (gT p t v).2::L):=by
 by_cases h0:t.n<0∨(v.net.length:Int)≤t.n
 ·rw[PY h0];exact aej I h0
 ·exact aek (j:=t.n.toNat) I hv a6 aF hf (by omega) (aD (by omega))
theorem aeq (I:U W w (bF W D p v::L))(hv:bN p cf c v)(a6:dp p)(aF:p.title.size≤1000000000)(hf:3≤t.fn∧t.fn≤6) :
   Calls prog 50 #[pt D.wb,.agg (dY t).toArray] w λe w'=>e=.returned (.int .i64 (bx p t v).1)∧U W w' (bF W D p (bx p t v).2::L):=by
 have aS:bx p t v=gT p t v:=by rw[bx,ag (by omega),aj hf]
 rw[aS];refine EN func50 ntmps50 rfl rfl λa E=>?_;refine BX 1 E I λb3 a w E I=>?_;change U W w (aa b3 58 (dY t)::_) at I;refine RN 7 E I λa E=>?_;rw[bu (by omega)]at E;refine RN 4 E I λa E=>?_;rw[bu (by omega)]at E;refine RN 7 E I λa E=>?_;rw[dr (by omega)]at E;refine RN 4 E I λa E=>?_;rw[dr (by omega)]at E;refine CL 4 E I (aep (I.pick (bF W D p v)) hv a6 aF (by omega)) λa w E I=>?_;refine RT 1 E I ?_;exact⟨rfl,I.sub⟩
theorem aer (I:U W w (bF W D p v::L))(hv:bN p cf c v)(a6:dp p)(aF:p.title.size≤1000000000)(hc:c≤1000000) :
   Calls prog 50 #[pt D.wb,.agg (dY t).toArray] w λe w'=>e=.returned (.int .i64 (bx p t v).1)∧U W w' (bF W D p (bx p t v).2::L):=by
 by_cases hf:3≤t.fn∧t.fn≤6
 ·exact aeq I hv a6 aF hf
 ·exact aei I hv a6 aF hc hf
end
end
section
section
variable {W w:World}{L:List SP}{c i:Nat}{p:Pr}{v:Wd}{B:jP}
theorem aes (I:U W w (aN W B p c v::L))(hi:i<v.ps.length)(sW:v.ev.length=v.ps.length)(hl:(v.ev.getD i []).length≤1000000000) :
   Calls prog 34 #[pt B.mb,.int .i64 i] w λe w'=>∃ ad c',e=.returned (.slice ad (v.ev.getD i []).length c')∧U W w' (Sl 135 1 ad (v.ev.getD i []).length c' ((v.ev.getD i []).map cC)::aN W B p c v::L):=by
 replace I:=aN.yh I;obtain⟨adL,cL,adE,cE,xs,es,⟨h1,h2,h3⟩,I⟩:=I;have b7:xs.length=v.ps.length:=by rw[← h2,a8]
 have aet:es.length=v.ps.length:=by rw[← sW,← h3,a8]
 obtain⟨iM,iN,l,lI⟩:∃ iM iN l,es[i]?=some (iM,iN,l):=⟨_,_,_,aD (by omega)⟩;obtain⟨ym,pG⟩:=a2.1 lI;have rj:v.ev.getD i []=l:=by rw[← h3,br,bd,lI];rfl
 rw[rj]at hl ⊢;refine EN func34 ntmps34 rfl rfl λa E=>?_;refine CL 6 E I (sV ((I.pick (Sl 81 1 adL xs.length cL (xs.map cG))).pick (aa B.mb 107 [.slice adL xs.length cL,pt B.q,.slice adE es.length cE])) (by omega)) λa w E I=>?_;refine RN 1 E I λa E=>?_;replace E:=E.aQ 8;refine RN 2 E I λa E=>?_;obtain⟨jd,oE,rfl,gD⟩:=(I.pick (Sl 90 1 adE es.length cE (es.map bB))).bU adE (by omega);have my:=gD i (.slice iM l.length iN) (by rw[bd,lI];rfl);refine RN 6 E I λa E=>?_;refine SS E (ae E (my)) λa E=>?_;replace I:=(I.pick (ah eH es)).fA ym;rw[pG]at I;change U W w (Sl 135 1 iM l.length iN (l.map cC)::_) at I;refine aY 0 E I (PT I hl) λad2 c2 a w E I=>?_;refine RT 1 E I ?_;refine⟨ad2,c2,rfl,?_⟩;have h4:=(I.pick (ah eH (es.eraseIdx i))).pick (Sl 135 1 iM l.length iN (l.map cC));have h5:U W w (ah eH es::_):=U.ye (f:=eH) ym (by rw[pG];exact h4);have h6:U W w (aN W B p c v::Sl 135 1 ad2 l.length c2 (l.map cC)::L):=aN.wk (adL:=adL) (cL:=cL) (adE:=some ⟨jd,oE,none⟩) (cE:=cE) (xs:=xs) (es:=es) h5.sub h1 h2 h3;exact h6.sub
end
end
section
def qB (v:Wd):Prop:=∀ i,i<v.ps.length→(an v i).k.ev=[]
theorem aeu {v:Wd}{i:Nat}(hi:i<v.ps.length)(hl:v.ev.length=v.ps.length)(h:(an v i).k.ev=[]):Dr i v=v:=by
 have h1:(⟨{ (an v i).k with ev:=[] },(an v i).g⟩:Pl)=v.ps[i]:=by
  rw[show ({ (an v i).k with ev:=[] }:Ks)=(an v i).k from by rw[← h]];show an v i=_;rw[an,br,aD hi];rfl
 have h2:v.ev.getD i []++(an v i).k.ev=v.ev[i]'(by omega):=by
  rw[h,append_nil,br,aD (by omega)];rfl
 rw[Dr,h1,h2,mT,mT]
theorem Qo {v:Wd}(hl:v.ev.length=v.ps.length)(h:qB v):∀ i,i≤v.ps.length→cB v i=v
 | 0,_=>rfl
 | i+1,hi=>by
  show Dr i (cB v i)=v;rw[Qo hl h i (by omega)];exact aeu (by omega) hl (h i (by omega))
theorem Qp {v:Wd}(hl:v.ev.length=v.ps.length)(h:qB v):mf v=v:=Qo hl h _ (a7 _)
theorem Qq (v:Wd):qB (mf v):=λi hi=>by
 have h1:i<v.ps.length:=by rw[mf,(sT v _).1]at hi;exact hi
 rw[mf,An v (a7 _),aj h1]
theorem aev {p:Pr}{t:fU}{v:Wd}(h:t.fn=7):(bx p t v).2=v:=by
 rw[bx,ag (by omega),ag (by omega),gK];split
 ·rfl
 ·rw[ag (by omega),ag (by omega),ag (by omega)]
theorem aew {p:Pr}{t:fU}{v:Wd}(h:qB v):qB (b0 p t v):=by
 unfold b0;split
 ·exact h
 ·exact Qq _
section
variable {W w:World}{L:List SP}{c i:Nat}{p:Pr}{v:Wd}{B:jP}{D:oB}{t:fU}{cf:Cf}
theorem Qr {mb:Nat}(hmb:mb=B.mb)(I:U W w (aN W B p c v::L))(hB:B.Ok p (c+10))(hv:bN p cf c v)(kj:9*c+100≤1000000000) :
   Calls prog 29 #[pt mb,.agg (dY t).toArray] w λe w'=>∃ z:Int,e=.returned (.int .i64 z)∧(t.fn≠7→z=(bx p t v).1)∧(t.fn=7→DE B t v z)∧U W w' (aN W B p (c+10) (mf (bx p t v).2)::L):=by
 subst hmb;exact P0 I hB hv kj
set_option maxHeartbeats 2000000 in
theorem aex (I:U W w (aN W B p c v::bF W D p v::L))(yn:D.mb=B.mb)(hB:B.Ok p (c+10))(hv:bN p cf c v)(DT:qB v)(kj:9*c+100≤1000000000)
   (Qs:∀ (w:World) (u:Wd),bN p cf (c+10) u→qB u→U W w (aN W B p (c+10) u::bF W D p u::L)→Calls prog 33 #[pt D.wb] w λe w'=>e=.returned (.bool true)∧U W w' (aN W B p (c+10) u::bF W D p u::L)) :
   Calls prog 32 #[pt D.wb,.agg (dY t).toArray] w λe w'=>e=.returned (.bool true)∧U W w' (aN W B p (c+10) (b0 p t v)::bF W D p (b0 p t v)::L):=by
 have kT:=hB.c;have hu:=hv.step (s:=t);refine EN func32 ntmps32 rfl rfl λa E=>?_;refine BX 1 E I λb3 a w E I=>?_;change U W w (aa b3 58 (dY t)::_) at I;refine IF 6 E I (λak a E=>?_) λak a E=>?_
 ·
  refine RN 1 E I λa E=>?_;replace I:=bF.open (I.pick (bF W D p v));obtain⟨adP,cP,adN,cN,adE,cE,xs,es,⟨eN,dm,eR⟩,I⟩:=I;refine bM 0 [4] [0,1,2,3003,1004,1005] E I λa w E I hH hC=>?_;refine RH 5 E I hH hC λa E=>?_;refine bg 0 E I (Qr yn (I.pick (aN W B p c v)) hB hv kj) λz a w E ⟨_,_,I⟩=>?_;refine RN 1 E I λa E=>?_;rw[aev (by assumption),Qp hv.ev DT]at I;replace I:=bF.close (v:=v) (D:=D) (I.sub (M:=aa D.wb 40 [pt D.mb,.slice adP xs.length cP,.slice adN v.net.length cN,.slice adE es.length cE]::Sl 34 1 adP xs.length cP (xs.map dE)::ah (dg W p) xs::cg 60 adN v.net.length cN v.net::Sl 70 1 adE es.length cE (es.map bB)::ah e4 es::aN W B p (c+10) v::L)) eN dm eR;refine CL 1 E I (Qs _ v (hv.more (by omega)) DT (I.pick (aN W B p (c+10) v))) λa w E I=>?_;refine RT 1 E I ?_;rw[b0,aj (by assumption)];exact⟨rfl,I⟩
 refine CL 3 E I (aer (I.pick (bF W D p v)) hv hB.pr hB.sz (by omega)) λa w E I=>?_;refine RN 3 E I λa E=>?_;generalize Qt:(bx p t v).2=u at I hu;replace I:=bF.open (I.pick (bF W D p u));obtain⟨adP,cP,adN,cN,adE,cE,Aw,Ax,⟨eN,dm,eR⟩,I⟩:=I;have b7:Aw.length=u.ps.length:=by rw[← dm,a8]
 have sW:Ax.length=u.ps.length:=by rw[← hu.ev,← eR,a8]
 have x8:=hu.len;refine bM 0 [4] [0,1,2,6,3003,1004,1005,7] E I λa w E I hH hC=>?_;refine RH 6 E I hH hC λa E=>?_;refine bg 0 E I (Qr yn (I.pick (aN W B p c v)) hB hv kj) λz a w E ⟨cW,_,I⟩=>?_;rw[cW (by assumption)]at E;rw[Qt]at I;refine RN 1 E I λa E=>?_;rw[bu (by simp)]at E;refine RN 4 E I λa E=>?_;refine aL (λμ a w=>∃ (i:Nat) (xs:List (gh×Pl)) (es:List kA),(μ=u.ps.length-i∧(i≤u.ps.length∧xs.length=u.ps.length∧es.length=u.ps.length)∧xs.map (·.1)=D.nh∧xs.map (·.2)=(cB u i).ps∧es.map (·.2.2)=(cB u i).ev)∧Fr a 65 [(0,pt D.wb),(6,.int .i64 i)]∧U W w (aa D.wb 40 [pt D.mb,.slice adP u.ps.length cP,.slice adN u.net.length cN,.slice adE u.ps.length cE]::Sl 34 1 adP u.ps.length cP (xs.map dE)::ah (dg W p) xs::cg 60 adN u.net.length cN u.net::Sl 70 1 adE u.ps.length cE (es.map bB)::ah e4 es::aN W B p (c+10) (mf u)::L)) (u.ps.length) (⟨0,Aw,Ax,⟨rfl,⟨by omega,b7,sW⟩,eN,dm,eR⟩,E.ab [0,6],(by rw[b7,sW]at I;exact I.sub)⟩) ?_;clear E I;rintro μ a w ⟨i,xs,es,⟨rfl,⟨hi,Ay,Az⟩,vA,ug,ri⟩,E,I⟩;refine IF 9 E I (λay a E=>?_) λay a E=>?_
 ·
  have aG:i<u.ps.length:=by omega
  obtain⟨x,hx⟩:∃ x,xs[i]?=some (x,(an (cB u i) i)):=DM ug (by omega);have uJ:(xs.map dE)[i]?=some (pt x.pb):=by rw[bd,hx];rfl
  have hd:=hu.cB (i:=i) (by omega);obtain⟨hw,df,yg⟩:=hd.pl i (by rw[(sT u i).1];exact aG);have I6:=hd.kY;have P1:=hw.wc.kY;obtain⟨iM,iN,l,lI⟩:∃ iM iN l,es[i]?=some (iM,iN,l):=⟨_,_,_,aD (by omega)⟩;obtain⟨_,pG⟩:=a2.1 lI;have hR:l.length≤9*(c+2):=(I6 l (by rw[← ri];exact cX.2 ⟨(iM,iN,l),by rw[← pG];exact jj _,rfl⟩)).1;refine RN 1 E I λa E=>?_;obtain⟨bp,op,rfl,_⟩:=(I.pick (Sl 34 1 adP u.ps.length cP (xs.map dE))).bU adP (by omega);obtain⟨jd,oE,rfl,_⟩:=(I.pick (Sl 70 1 adE u.ps.length cE (es.map bB))).bU adE (by omega);replace I:=bZ.open (DO (I.pick (ah (dg W p) xs)) hx);refine aV 0 (λw0 w'=>(Rd w' D.wb 0 [pt D.mb,.slice (some ⟨bp,op,none⟩) u.ps.length cP,.slice adN u.net.length cN,.slice (some ⟨jd,oE,none⟩) u.ps.length cE]∧Rd w' jd oE (es.map bB))∧Rd w' bp op (xs.map dE)∧Rd w' x.pb 0 (e0 p x (an (cB u i) i).g)) [8,10,11,15,17,18,19,20,21,22,23] [0,1,2,4,5,6,7,9,12,13,14,16,3003,3008,3010,3011,1015,1017,1018,1019,1020,1021,1022,1023,24,1025] E I λa w E I hH=>?_;have hC:=hH.at w ⟨⟨I.ai (b:=D.wb),I.cQ jd oE (by omega)⟩,I.cQ bp op (by omega),I.ai (b:=x.pb)⟩;refine RH 12 E I hH hC λa E=>?_;refine QH E (λw hc=>ae E (hc.1.1 3 _ rfl)) hC λa E=>?_;refine QH E (λw hc=>ae E (hc.1.1 3 _ rfl)) hC λa E=>?_;refine RH 1 E I hH hC λa E=>?_;refine QH E (λw hc=>ae E (hc.1.2 i (.slice iM l.length iN) (by rw[bd,lI];rfl))) hC λa E=>?_;refine RH 0 E I hH hC λa E=>?_;refine SS E (ae E (hC.1.1 1 _ rfl)) λa E=>?_;refine RH 1 E I hH hC λa E=>?_;refine SS E (ae E (hC.2.1 i _ uJ)) λa E=>?_;refine RH 2 E I hH hC λa E=>?_;refine SS E (ae E (hC.2.2 0 _ rfl)) λa E=>?_;refine RH 0 E I hH hC λa E=>?_;refine aY 0 E I (acp (I.pick (aZ x.core (an (cB u i) i).k))) λam jQ a w E I=>?_;replace hC:=hH.at w ⟨⟨I.ai (b:=D.wb),I.cQ jd oE (by omega)⟩,I.cQ bp op (by omega),I.ai (b:=x.pb)⟩;replace I:=(I.pick (ah e4 es)).fA (i:=i) (by omega);rw[pG]at I;change U W w (Sl 102 3 iM l.length iN (rows bV l)::_) at I;refine RH 0 E I hH hC λa E=>?_;refine hO E rfl I wV Ty.t102 rfl rfl (by decide) (λh0=>(I.pick (Sl 102 3 am (an (cB u i) i).k.ev.length jQ (rows bV (an (cB u i) i).k.ev))).bU am h0) (by rw[jC CK]) (A5 Hu _) (by omega) λyo yp a w E I=>?_;replace hC:=hH.at w ⟨⟨I.ai (b:=D.wb),I.cQ jd oE (by omega)⟩,I.cQ bp op (by omega),I.ai (b:=x.pb)⟩;have hcE:=((I.pick (Sl 70 1 (some ⟨jd,oE,none⟩) u.ps.length cE (es.map bB))).sl (some ⟨jd,oE,none⟩)).2;obtain⟨jx,pre,post,⟨h3,h4,h5,h6⟩,gN⟩:=(I.pick (Sl 70 1 (some ⟨jd,oE,none⟩) u.ps.length cE (es.map bB))).mh (by omega);replace I:=gN;clear gN;obtain⟨rfl,rfl⟩:jd=jx∧oE=pre.length:=by simpa using h5
  refine RH 1 E I hH hC λa E=>?_;refine ST 0 E I (λa w E I=>?_) (hlt:=(by simp only[aM,a8];omega));refine RN 3 E I λa E=>?_;have rj:(cB u i).ev.getD i []=l:=by rw[← ri,br,bd,lI];rfl
  have I7:(es.map bB).set i (.slice yo (l.length+(an (cB u i) i).k.ev.length) yp)=(es.set i (yo,yp,l++(an (cB u i) i).k.ev)).map bB:=by
   rw[jF,bB,aM]
  have dB:=I;rw[Ao (by rw[a8];omega),I7]at dB;replace dB:=U.jh (n:=u.ps.length) (c:=cE) (sz:=1) (dB.j5 jd) (by rw[a8,bz];omega) h4 h6;have Ap:=bZ.fold dB x p ⟨{ (an (cB u i) i).k with ev:=[] },(an (cB u i) i).g⟩;have hk:=U.la (f:=dg W p) (x:=(x,⟨{ (an (cB u i) i).k with ev:=[] },(an (cB u i) i).g⟩)) (i:=i) (by omega) ((Ap.pick (ah (dg W p) (xs.eraseIdx i))).pick (bZ W x p ⟨{ (an (cB u i) i).k with ev:=[] },(an (cB u i) i).g⟩));have qp:Sl 102 3 yo (l.length+(an (cB u i) i).k.ev.length) yp (rows bV l++rows bV (an (cB u i) i).k.ev)=e4 (yo,yp,l++(an (cB u i) i).k.ev):=by
   rw[e4,aM,kK]
  have hq:=(hk.pick (ah e4 (es.eraseIdx i))).pick (Sl 102 3 yo (l.length+(an (cB u i) i).k.ev.length) yp (rows bV l++rows bV (an (cB u i) i).k.ev));rw[qp]at hq;have eU:=U.la (f:=e4) (i:=i) (by omega) hq;refine⟨u.ps.length-(i+1),by omega,i+1,xs.set i (x,⟨{ (an (cB u i) i).k with ev:=[] },(an (cB u i) i).g⟩),es.set i (yo,yp,l++(an (cB u i) i).k.ev),⟨rfl,⟨by omega,by rw[bz];exact Ay,by rw[bz];exact Az⟩,(DQ hx).2.trans vA,?_,?_⟩,E.ab [0,6],?_⟩
  ·rw[jF,ug];rfl
  ·rw[jF,ri,← rj];rfl
  ·rw[(DQ hx).1];exact eU.sub
 refine RN 1 E I λa E=>?_;obtain rfl:i=u.ps.length:=by omega
 have ew:b0 p t v=mf u:=by rw[b0,ag (by assumption),Qt]
 rw[ew];have hD:U W w (bF W D p (mf u)::aN W B p (c+10) (mf u)::L):=by
  refine bF.close (adP:=adP) (cP:=cP) (adN:=adN) (cN:=cN) (adE:=adE) (cE:=cE) (xs:=xs) (es:=es) ?_ vA ug ri;rw[Ay,Az,show (mf u).net=u.net from (sT u _).2.1];exact I.sub
 replace I:=hD.pick (aN W B p (c+10) (mf u));refine CL 1 E I (Qs _ (mf u) (hu.drain.more (by omega)) (Qq u) I) λa w E I=>?_;refine RT 1 E I ?_;exact⟨rfl,I⟩
end
end
section
section
variable {p:Pr}{cf:Cf}{K:Int→Prop}{G G':List (List UInt8)}{v:Wd}{c i j x y:Nat}{n:Nat}{T:Nat→Nat}{net:List Ml}{ev:List (List kv)}{m:Ml}{q:Pk}{b:UInt8}
theorem wy (hi:i<n):an (fJ p cf n) i=eE p (dH cf i):=by
 rw[an,fJ,br,bd,getElem?_range hi];rfl
theorem s0:(fJ p cf n).ps.length=n:=by rw[fJ,a8,length_range]
theorem uL (h:eY cf)(hi:i<cf.n.toNat):eY (dH cf i):=by
 obtain⟨⟨h1,h2,h3⟩,h4⟩:=h;refine⟨⟨h1,?_,h3⟩,h4⟩;show fE (i:Int) 0 (cf.n-1);unfold fE at h1 ⊢;omega
theorem Jg (h:eY cf):bN p cf 0 (fJ p cf cf.n.toNat):=by
 refine⟨h,s0,?_,λi hi=>?_,⟨Nat.zero_le _,λm hm=>by cases hm⟩,λe he=>?_⟩
 ·rw[s0];exact kN
 ·rw[s0]at hi;rw[wy hi];have h1:=uL h hi;obtain⟨mr,h2⟩:=wq p h1;refine⟨cy.new h1,?_,by rw[h2];exact a7 _⟩;rw[h2];exact (WC.new h1).2.2
 ·have h1:=DU (show e∈List.replicate _ [] from he);subst h1;exact⟨Nat.zero_le _,λx hx=>by cases hx⟩
theorem Qv (h:eY cf):qB (fJ p cf cf.n.toNat):=λi hi=>by
 rw[s0]at hi;rw[wy hi];obtain⟨mr,h2⟩:=wq p (uL h hi);rw[h2];rfl
theorem AD (h:eY cf)(hi:i<cf.n.toNat)(hj:j<cf.n.toNat):bo (fJ p cf cf.n.toNat) i j=cf.aJ.toNat:=by
 rw[bo,wy hi];obtain⟨mr,h2⟩:=wq p (uL h hi);rw[h2];show ((List.replicate cf.n.toNat (List.replicate cf.aJ.toNat (0:UInt8))).getD j []).length=_;rw[br,List.getElem?_replicate,aj hj];exact kN
theorem Qw (h:eY cf)(hi:i<cf.n.toNat)(hj:j<cf.n.toNat):au (eE p (dH cf i)).k j=fF cf.aJ.toNat:=by
 obtain⟨mr,h2⟩:=wq p (uL h hi);rw[h2,au,br];show ((List.replicate cf.n.toNat (fF cf.aJ.toNat))[j]?).getD _=_;rw[List.getElem?_replicate,aj hj];rfl
theorem gL.new (h:eY cf):gL p cf K (List.replicate cf.n.toNat (List.replicate cf.aJ.toNat 0)) (fJ p cf cf.n.toNat):=by
 have hl:=s0 (p:=p) (cf:=cf) (n:=cf.n.toNat);refine⟨λi hi=>?_,λa b E hb DJ=>?_,λi hi=>?_,λm hm=>(by cases hm),λl hl e he=>?_,λi hi=>?_⟩
 ·rw[hl]at hi;rw[wy hi];have h1:=uL h hi;obtain⟨mr,h2⟩:=wq p h1;refine⟨cy.new h1,by rw[h2];exact Ext.refl _,by rw[h2];rfl,λj hj=>?_⟩;have lN:j<cf.n.toNat:=by
   rw[h2]at hj;have:j<(List.replicate cf.n.toNat (fF cf.aJ.toNat)).length:=hj
   rwa [kN]at this
  rw[Qw h hi lN];exact⟨rfl,Nat.zero_le _,λh=>absurd h (by show ¬ 0<0;omega)⟩
 ·rw[hl]at E hb;rw[AD h hb E,AD h E hb,qz,wy E,Qw h E hb];exact⟨a7 _,Nat.le_add_right _ _⟩
 ·rw[hl]at hi;rw[AD h hi hi];have h1:cf.aJ.toNat≤aw (an (fJ p cf cf.n.toNat) i).k:=by
   rw[wy hi];obtain⟨mr,h2⟩:=wq p (uL h hi);rw[h2];have hc:=(WC.new (uL h hi)).1;refine He hc.lE λl hl=>?_;have:=DU (show l∈List.replicate cf.n.toNat (List.replicate cf.aJ.toNat (0:UInt8)) from hl);rw[this,kN];exact a7 _
  omega
 ·have h1:=DU (show l∈List.replicate _ [] from hl);subst h1;cases he
 ·rw[Qv h i hi] ;intro e he;cases he
structure Lv (p:Pr)(cf:Cf)(T:Nat→Nat)(v:Wd):Prop where
 ok:∃ c,bN p cf c v
 j4:∃ G,gL p cf (·=1) G v
 op:∀ i,i<v.ps.length→(an v i).k.cl=false∧(an v i).k.now≤T i∧(an v i).k.ev=[]
 ev:∀ l∈v.ev,l=[]
theorem Lv.more (h:Lv p cf T v){T':Nat→Nat}(ht:∀ i,i<v.ps.length→T i≤T' i):Lv p cf T' v:=⟨h.ok,h.j4,λi hi=>⟨(h.op i hi).1,eS (h.op i hi).2.1 (ht i hi),(h.op i hi).2.2⟩,h.ev⟩
theorem Lv.calm (h:Lv p cf T v):qB v:=λi hi=>(h.op i hi).2.2
theorem Lv.still (h:Lv p cf T v):mf v=v:=by
 obtain⟨c,hv⟩:=h.ok;exact Qp hv.ev h.calm
theorem Lv.new (h:eY cf):Lv p cf (λ_=>0) (fJ p cf cf.n.toNat):=⟨⟨0,Jg h⟩,⟨_,gL.new h⟩,λi hi=>by
 rw[s0]at hi;rw[wy hi];obtain⟨mr,h2⟩:=wq p (uL h hi);rw[h2];exact⟨rfl,a7 _,rfl⟩,λl hl=>DU (show l∈List.replicate _ [] from hl)⟩
theorem Lv.Jh (h:Lv p cf T v)(hi:i<v.ps.length)(hj:j<v.ps.length):aw (an v i).k≤bo v i j:=by
 obtain⟨c,hv⟩:=h.ok;exact xJ (vF (by rw[(hv.pl i hi).1.wc.ls,hv.rB hi];exact hj))
theorem Lv.Ji (h:Lv p cf T v)(hi:i<v.ps.length)(hx:∀ j,j<v.ps.length→x≤bo v i j):x≤aw (an v i).k:=by
 obtain⟨c,hv⟩:=h.ok;refine He (hv.pl i hi).1.wc.lE λl hl=>?_;obtain⟨j,hj,rfl⟩:=zJ hl;rw[(hv.pl i hi).1.wc.ls,hv.rB hi]at hj;have:=hx j hj;rw[bo,br,aD (by rw[(hv.pl i hi).1.wc.ls,hv.rB hi];exact hj)]at this;exact this
theorem Lv.front {h:Nat}(jK:Lv p cf T v)(hi:i<v.ps.length)(hx:∀ j,j<v.ps.length→h≤bo v i j)(hy:j<v.ps.length)(he:bo v i j=h):aw (an v i).k=h :=
 Nat.le_antisymm (he ▸ jK.Jh hi hy) (jK.Ji hi hx)
theorem Lv.head (h:Lv p cf T v)(hi:i<v.ps.length):aH (an v i).k=bo v i i:=by
 obtain⟨c,hv⟩:=h.ok;rw[aH,(hv.rC hi).1];rfl
theorem Lv.aey (h:Lv p cf T v)(hi:i<v.ps.length)(hj:j<v.ps.length):bo v i j≤bo v j j:=by
 obtain⟨c,hv⟩:=h.ok;obtain⟨G,jf⟩:=h.j4;exact (jf.DI hv hi hj).1
theorem Lv.al (h:Lv p cf T v)(hi:i<v.ps.length)(b n:Int):Lv p cf T (b0 p ⟨1,i,b,n⟩ v)∧(b0 p ⟨1,i,b,n⟩ v).net=v.net∧(b0 p ⟨1,i,b,n⟩ v).ps.length=v.ps.length ∧
   (∀ x y,bo (b0 p ⟨1,i,b,n⟩ v) x y=bo v x y+if (x=i∧y=i)∧bo v i i<1000∧bo v i i<cf.bt.toNat+aw (an v i).k then 1 else 0) ∧
   (bo v i i<1000∧bo v i i<cf.bt.toNat+aw (an v i).k→(bx p ⟨1,i,b,n⟩ v).1=0):=by
 obtain⟨c,hv⟩:=h.ok;obtain⟨G,jf⟩:=h.j4;obtain⟨eF,yk,b9,hn,_⟩:=hv.rC hi;have aS:bx p ⟨1,i,b,n⟩ v=((dM p (gi b) (an v i)).1,{ v with ps:=v.ps.set i (dM p (gi b) (an v i)).2 }):=by
  rw[bx,ag (by show ¬ ((1:Int)<1∨(8:Int)<1);omega),ag (by show ¬ ((3:Int)≤1∧(1:Int)≤6);omega),Dx rfl rfl hi]
 obtain⟨⟨G',h1⟩,h2⟩:=jf.al hv hi (gi b);have sN:=hv.al hi (gi b);have w4:(dM p (gi b) (an v i)).2.k.cl=(an v i).k.cl∧(dM p (gi b) (an v i)).2.k.now=(an v i).k.now∧(dM p (gi b) (an v i)).2.k.ev=(an v i).k.ev:=by
  by_cases h0:(dM p (gi b) (an v i)).1=0
  ·obtain⟨_,mr,hk⟩:=(jf.pl i hi).al h0;rw[hk];exact⟨rfl,rfl,rfl⟩
  ·rw[P5 (hv.pl i hi).1 h0];exact⟨rfl,rfl,rfl⟩
 have jK:Lv p cf T { v with ps:=v.ps.set i (dM p (gi b) (an v i)).2 }:=⟨⟨_,sN⟩,⟨G',h1⟩,λj hj=>by
  have lN:j<v.ps.length:=by have:j<(v.ps.set i _).length:=hj;rwa [bz]at this
  rw[rA hi];split
  ·rename_i e;subst e;rw[w4.1,w4.2.1,w4.2.2];exact h.op _ hi
  ·exact h.op j lN,h.ev⟩
 have ew:b0 p ⟨1,i,b,n⟩ v={ v with ps:=v.ps.set i (dM p (gi b) (an v i)).2 }:=by
  rw[b0,ag (by show ¬ (1:Int)=7;omega),aS,jK.still]
 have Jj:(dM p (gi b) (an v i)).1=0↔bo v i i<1000∧bo v i i<cf.bt.toNat+aw (an v i).k:=by
  have hd:=h.head hi;show (c5 (gi b) (an v i).k).1=0↔_;rw[c5,ag (by rw[(h.op i hi).1];decide),← hd,← yk];split
  ·exact⟨λh=>absurd h (by intro e;cases e),λh=>by omega⟩
  ·split
   ·exact⟨λh=>absurd h (by intro e;cases e),λh=>by omega⟩
   ·exact⟨λ_=>by omega,λ_=>rfl⟩
 rw[ew];refine⟨jK,rfl,bz,λx y=>?_,λh=>by rw[aS];exact Jj.2 h⟩;rw[h2];by_cases e:x=i∧y=i
 ·by_cases e2:(dM p (gi b) (an v i)).1=0
  ·rw[aj ⟨e,e2⟩,aj ⟨e,Jj.1 e2⟩]
  ·rw[ag (λh=>e2 h.2),ag (λh=>e2 (Jj.2 h.2))]
 ·rw[ag (λh=>e h.1),ag (λh=>e h.1)]
noncomputable def rD (v:Wd)(i:Nat):List Ml:=((List.range v.ps.length).filter (·≠i)).map λj=>(i,j,aT (dW (an v i).k j))
theorem aez {k:Ks}(hc:k.cl=false)(hn:k.now<39):bw k=((bH k).map λi=>(k.me,i,aT (dW k i)),{ k with now:=k.now+1 }):=by
 rw[bw,ag (by rw[hc];decide)];simp only;have:(bH { k with now:=k.now+1 }).find? (λi=>decide (jL { k with now:=k.now+1 } i))=none:=by
  rw[List.find?_eq_none];intro i _;rw[qK,jL];show ¬ (_+40≤k.now+1);omega
 rw[this];rfl
theorem Qx:∀ {l net:List Ml},net.length+l.length≤300→eG net l=net++l
 | [],net,_=>by rw[append_nil];rfl
 | m::l,net,h=>by
  rw[eV]at h;show eG (pB net m) l=_;rw[pB,aj (by omega),Qx (by rw[aM,jJ];omega),dz];rfl
theorem Lv.tick (h:Lv p cf T v)(hT:T i<39)(hi:i<v.ps.length)(hf:v.net.length+v.ps.length≤300)(b n:Int):Lv p cf (λj=>if j=i then T j+1 else T j) (b0 p ⟨2,i,b,n⟩ v)∧(b0 p ⟨2,i,b,n⟩ v).net=v.net++rD v i∧(b0 p ⟨2,i,b,n⟩ v).ps.length=v.ps.length ∧
   (∀ x y,bo (b0 p ⟨2,i,b,n⟩ v) x y=bo v x y)∧(∀ m∈rD v i,qA m=bo v i i)∧(bx p ⟨2,i,b,n⟩ v).1=0:=by
 obtain⟨c,hv⟩:=h.ok;obtain⟨G,jf⟩:=h.j4;obtain⟨eF,yk,b9,hn,_⟩:=hv.rC hi;have ho:=h.op i hi;have gk:=aez ho.1 (by omega);have gz:(bw (an v i).k).1=rD v i:=by rw[gk,rD,bH,hn,eF]
 have mi:(rD v i).length≤v.ps.length:=by
  rw[rD,a8];exact eS (p0 _ _) (by rw[length_range];exact a7 _)
 have aS:bx p ⟨2,i,b,n⟩ v=(0,{ v with ps:=v.ps.set i ⟨(bw (an v i).k).2,(an v i).g⟩,net:=eG v.net (bw (an v i).k).1 }):=by
  rw[bx,ag (by show ¬ ((2:Int)<1∨(8:Int)<2);omega),ag (by show ¬ ((3:Int)≤2∧(2:Int)≤6);omega),yf rfl rfl hi]
 obtain⟨h1,h2⟩:=jf.tick hv hi rfl;have jK:Lv p cf (λj=>if j=i then T j+1 else T j) { v with ps:=v.ps.set i ⟨(bw (an v i).k).2,(an v i).g⟩,net:=eG v.net (bw (an v i).k).1 }:=⟨⟨_,hv.tick hi⟩,⟨G,h1⟩,λj hj=>by
  have lN:j<v.ps.length:=by have:j<(v.ps.set i _).length:=hj;rwa [bz]at this
  rw[rA hi];split
  ·rename_i e;subst e;show (bw (an v i).k).2.cl=false∧(bw (an v i).k).2.now≤_∧(bw (an v i).k).2.ev=[];rw[gk];exact⟨ho.1,by show (an v i).k.now+1≤if i=i then _ else _;rw[aj rfl];omega,ho.2.2⟩
  ·have:=h.op j lN;exact⟨this.1,by split <;> omega,this.2.2⟩,h.ev⟩
 have ew:b0 p ⟨2,i,b,n⟩ v={ v with ps:=v.ps.set i ⟨(bw (an v i).k).2,(an v i).g⟩,net:=eG v.net (bw (an v i).k).1 }:=by
  rw[b0,ag (by show ¬ (2:Int)=7;omega),aS,jK.still]
 rw[ew];refine⟨jK,?_,bz,λx y=>h2 x y,λm hm=>?_,by rw[aS]⟩
 ·show eG v.net (bw (an v i).k).1=_;rw[gz,Qx (by omega)]
 ·rw[← gz]at hm;obtain⟨q,_,hq⟩:=jf.Qd hv hi rfl hm;exact hq
theorem Lv.DK (h:Lv p cf T v)(hn:∀ m∈net,m∈v.net)(hl:net.length≤v.net.length):Lv p cf T { v with net:=net }:=by
 obtain⟨c,hv⟩:=h.ok;obtain⟨G,jf⟩:=h.j4;exact⟨⟨_,hv.IV (by have:=hv.net.1;omega) λm hm=>hv.net.2 m (hn m hm)⟩,⟨G,jf.DK hn⟩,h.op,h.ev⟩
theorem Lv.aeA (h:Lv p cf T v)(xf:m∈v.net)(zd:∀ m∈net,m∈v.net)(hl:net.length≤v.net.length):Lv p cf T { v with ps:=v.ps.set m.2.1 (dN p m.2.2 (an v m.2.1)).2,net:=net }∧(dN p m.2.2 (an v m.2.1)).1=0 ∧
   (∀ x y,bo { v with ps:=v.ps.set m.2.1 (dN p m.2.2 (an v m.2.1)).2,net:=net } x y=if x=m.2.1∧y=m.1 then max (bo v x y) (qA m) else bo v x y)∧m.1<v.ps.length∧m.2.1<v.ps.length∧m.1≠m.2.1:=by
 obtain⟨c,hv⟩:=h.ok;obtain⟨G,jf⟩:=h.j4;obtain⟨q,hq⟩:=jf.net m xf;obtain⟨h1,h2⟩:=jf.recv hv xf zd;have hi:=hq.lt.2;obtain⟨eF,yk,b9,hn,_⟩:=hv.rC hi;obtain⟨_,h0,mr,hk⟩:=(jf.pl _ hi).zQ hq.j4 (h.op _ hi).1 (by rw[hq.to,eF]) (by rw[hq.fr,hn];have:=hq.lt.1;omega) (by rw[hq.id,b9]) hq.kind;rw[← hq.bs]at h0 hk;have p8:=hv.net.1;refine⟨⟨⟨_,hv.recv hi m.2.2 (net:=net) (by omega) λm hm=>hv.net.2 m (zd m hm)⟩,⟨G,h1⟩,λj hj=>?_,h.ev⟩,h0,λx y=>?_,hq.lt.1,hi,λe=>hq.j4.may.2.2.1 (by rw[hq.fr,hq.to,e])⟩
 ·have lN:j<v.ps.length:=by have:j<(v.ps.set m.2.1 _).length:=hj;rwa [bz]at this
  rw[rA hi];split
  ·rename_i e;subst e;rw[hk];exact h.op _ hi
  ·exact h.op j lN
 ·rw[h2];by_cases e:x=m.2.1∧y=m.1
  ·rw[aj ⟨e,(h.op _ hi).1⟩,aj e]
  ·rw[ag (λh=>e h.1),ag e]
theorem Qy (p:Pr){r:List Ml}(hm:v.net=m::r)(a b:Int):bx p ⟨3,a,b,0⟩ v=((dN p m.2.2 (an v m.2.1)).1,{ v with ps:=v.ps.set m.2.1 (dN p m.2.2 (an v m.2.1)).2,net:=r }):=by
 rw[bx,ag (by show ¬ ((3:Int)<1∨(8:Int)<3);omega),aj (by show (3:Int)≤3∧(3:Int)≤6;omega),DB (j:=0) (m:=m) (by show (3:Int)≠4;omega) (by show (3:Int)≠6;omega) rfl (by rw[hm];rfl)];show (_,Wd.mk _ (if (3:Int)=5 then v.net else v.net.eraseIdx 0) _)=_;rw[ag (by omega),hm];rfl
theorem Lv.send (h:Lv p cf T v){r:List Ml}(hm:v.net=m::r)(a b:Int):Lv p cf T (b0 p ⟨3,a,b,0⟩ v)∧(b0 p ⟨3,a,b,0⟩ v).net=r∧(b0 p ⟨3,a,b,0⟩ v).ps.length=v.ps.length ∧
   (∀ x y,bo (b0 p ⟨3,a,b,0⟩ v) x y=if x=m.2.1∧y=m.1 then max (bo v x y) (qA m) else bo v x y)∧(bx p ⟨3,a,b,0⟩ v).1=0∧m.1<v.ps.length∧m.2.1<v.ps.length∧m.1≠m.2.1:=by
 obtain⟨h1,h2,h3,h4⟩:=h.aeA (m:=m) (net:=r) (by rw[hm];exact iq) (λm' pD=>by rw[hm];exact gx _ pD) (by rw[hm,eV];omega);have ew:b0 p ⟨3,a,b,0⟩ v={ v with ps:=v.ps.set m.2.1 (dN p m.2.2 (an v m.2.1)).2,net:=r }:=by
  rw[b0,ag (by show ¬ (3:Int)=7;omega),Qy p hm,h1.still]
 rw[ew];exact⟨h1,rfl,bz,h3,by rw[Qy p hm];exact h2,h4⟩
theorem Lv.drop (h:Lv p cf T v){r:List Ml}(hm:v.net=m::r)(a b:Int):Lv p cf T (b0 p ⟨4,a,b,0⟩ v)∧(b0 p ⟨4,a,b,0⟩ v).net=r∧(b0 p ⟨4,a,b,0⟩ v).ps.length=v.ps.length ∧
   ∀ x y,bo (b0 p ⟨4,a,b,0⟩ v) x y=bo v x y:=by
 have aS:(bx p ⟨4,a,b,0⟩ v).2={ v with net:=r }:=by
  rw[bx,ag (by show ¬ ((4:Int)<1∨(8:Int)<4);omega),aj (by show (3:Int)≤4∧(4:Int)≤6;omega),DA (j:=0) (m:=m) rfl rfl (by rw[hm];rfl),hm];rfl
 have jK:Lv p cf T { v with net:=r }:=h.DK (λm gz=>by rw[hm];exact gx _ gz) (by rw[hm,eV];omega);have ew:b0 p ⟨4,a,b,0⟩ v={ v with net:=r }:=by
  rw[b0,ag (by show ¬ (4:Int)=7;omega),aS,jK.still]
 rw[ew];exact⟨jK,rfl,rfl,λx y=>rfl⟩
end
end
section
structure DV (p:Pr)(cf:Cf)(t h:Nat)(v:Wd):Prop where
 lK:Lv p cf (λ_=>t) v
 net:v.net=[]
 rB:∀ x y,x<v.ps.length→y<v.ps.length→bo v x y=h
section
variable {p:Pr}{cf:Cf}{y:Nat}
theorem DV.new (hm:eY cf):DV p cf 0 cf.aJ.toNat (fJ p cf cf.n.toNat) :=
 ⟨Lv.new hm,rfl,λx y hx hy=>by rw[s0]at hx hy;exact AD hm hx hy⟩
end
end
section
section
variable {W w:World}{L:List SP}{c c' m i:Nat}{ad av:Option Addr}{ev:List (Nat×Nat×Nat)}{e:kv}{M:jN}{p:Pr}{s:Pl}{cf:Cf}
theorem aeB (I:U W w (Sl 135 1 ad ev.length c (ev.map cC)::L))(hn:ev.length≤1000000000)(ho:∀ e∈ev,uk e):Calls prog 55 #[.slice ad ev.length c] w λr w'=>∃ av c',r=.returned (.slice av ev.length c')∧U W w' (Sl 102 3 av ev.length c' (rows bV ev)::L):=by
 refine EN func55 ntmps55 rfl rfl λa E=>?_;refine RN 7 E I λa E=>?_;replace I:=I.bQ 102 3 none;refine aL (λμ a w=>∃ (i:Nat) (m8:Option Addr) (co:Nat),(μ=ev.length-i∧i≤ev.length)∧Fr a 20 [(0,.slice ad ev.length c),(3,.slice m8 i co),(4,.int .i64 i)]∧U W w (Sl 102 3 m8 i co (rows bV (ev.take i))::Sl 135 1 ad ev.length c (ev.map cC)::L)) (ev.length) (⟨0,none,0,⟨rfl,by omega⟩,E.ab [0,3,4],(show U W w (Sl 102 3 none 0 0 (rows bV (ev.take 0))::_) from I).sub⟩) ?_;clear E I;rintro μ a w ⟨i,m8,co,⟨rfl,hi⟩,E,I⟩;refine IF 6 E I (λak a E=>?_) λak a E=>?_
 ·
  have aG:i<ev.length:=by omega
  obtain⟨bi,oi,rfl,qd⟩:=(I.pick (Sl 135 1 ad ev.length c (ev.map cC))).bU ad (by omega);have fo:=qd i (cC ev[i]) (by rw[bd,aD aG];rfl);have Qz:=ho _ (jj aG);generalize Ai:ev[i]=x at fo Qz;have my:Rd w bi (oi+i) [cC x]:=by
   intro k v hk;cases k with
   | zero=>simp at hk;subst hk;exact fo
   | succ k=>simp at hk
  refine RN 5 E I λa E=>?_;refine SS E (bT E ES rfl Ty.t135 (my)) λa E=>?_;refine CL 0 E I (aaR I Qz) λa w E I=>?_;refine RN 0 E I λa E=>?_;refine ct E rfl I wV Ty.t102 rfl rfl rfl rfl (by decide) (by decide) λiD a w E I ho=>?_;clear ho;refine RN 0 E I λa E=>?_;refine cR E rfl I wV Ty.t102 rfl rfl I.ai rfl (λv hv=>Hu x v (by simpa using hv)) (by decide) (by decide) (by omega) λIu Iv a w E I=>?_;rw[show rows bV (ev.take i)++_=rows bV (ev.take (i+1)) from by rw[← List.take_append_getElem aG,kK,Ai];rfl]at I;refine RN 4 E I λa E=>?_;exact⟨ev.length-(i+1),by omega,i+1,Iu,Iv,⟨rfl,by omega⟩,E.ab [0,3,4],I.sub⟩
 refine RT 3 E I ?_;obtain rfl:i=ev.length:=by omega
 rw[lf]at I;exact⟨m8,co,rfl,I.sub⟩
theorem aeC (I:U W w (Sl 102 3 ad ev.length c (rows bV ev)::Sl 102 3 av ev.length c' (rows bV ev)::L))(hn:ev.length≤1000000000):Calls prog 54 #[.slice ad ev.length c,.slice av ev.length c'] w λr w'=>r=.returned (.bool true)∧U W w' (Sl 102 3 ad ev.length c (rows bV ev)::Sl 102 3 av ev.length c' (rows bV ev)::L):=by
 refine EN func54 ntmps54 rfl rfl λa E=>?_;refine RN 9 E I λa E=>?_;rw[bu (by omega)]at E;refine RN 4 E I λa E=>?_;refine aL (λμ a w=>∃ (i:Nat),(μ=ev.length-i∧i≤ev.length)∧Fr a 27 [(0,.slice ad ev.length c),(1,.slice av ev.length c'),(5,.int .i64 i)]∧U W w (Sl 102 3 ad ev.length c (rows bV ev)::Sl 102 3 av ev.length c' (rows bV ev)::L)) (ev.length) (⟨0,⟨rfl,by omega⟩,E.ab [0,1,5],I⟩) ?_;clear E I;rintro μ a w ⟨i,⟨rfl,hi⟩,E,I⟩;refine IF 6 E I (λao a E=>?_) λao a E=>?_
 ·
  have aG:i<ev.length:=by omega
  refine RN 2 E I λa E=>?_;obtain⟨m2,o5,rfl,fP⟩:=I.drew.bU ad (by omega);obtain⟨Jk,Jl,rfl,qv⟩:=I.drew.tail.bU av (by omega);replace fP:=jt CK fP (aD aG);replace qv:=jt CK qv (aD aG);generalize ev[i]=x at fP qv;refine rT 0 (λw'=>Rd w' m2 (o5+i*3) (bV x)∧Rd w' Jk (Jl+i*3) (bV x)) [7] [0,1,2,4,5,6,3003,1007,1008,9] E I λa E=>?_;replace I:=I.drew;generalize w.drew=w at I fP qv ⊢;have hC:Rd w m2 (o5+i*3) (bV x)∧Rd w Jk (Jl+i*3) (bV x):=⟨fP,qv⟩;have hH:=Hd.any (λw'=>Rd w' m2 (o5+i*3) (bV x)∧Rd w' Jk (Jl+i*3) (bV x));refine RH 6 E I hH hC λa E=>?_;refine QH E (λw hc=>bT E Bd rfl Ty.t102 (hc.1)) hC λa E=>?_;refine RH 0 E I hH hC λa E=>?_;refine SS E (bT E Bd rfl Ty.t102 (hC.2)) λa E=>?_;refine RH 0 E I hH hC λa E=>?_;refine CL 0 E I (acS I) λa w E I=>?_;refine RN 1 E I λa E=>?_;replace E:=E.aQ 26;refine RN 4 E I λa E=>?_;exact⟨ev.length-(i+1),by omega,i+1,⟨rfl,by omega⟩,E.ab [0,1,5],I⟩
 refine RT 2 E I ?_;exact⟨rfl,I⟩
theorem aeD (I:U W w (fu W M p cf i s::L)) :
   Calls prog 56 #[pt M.mb,.agg (bS cf).toArray] w λe w'=>e=.returned (.bool true)∧U W w' (fu W M p cf i s::L):=by
 replace I:=fu.open I;obtain⟨m,⟨rfl,hI,hc⟩,I⟩:=I;exact (adQ I hI hc).mono λe w' ⟨h1,h2⟩=>⟨h1,fu.close h2 hI (a7 _) rfl hc⟩
end
end
section
def AE (W:World)(p:Pr)(ad:Option Addr)(c:Nat):Prop:=(rows dS p.ops).length=p.ops.length*4∧p.ops.length≤c∧(0<p.ops.length→∃ b off,ad=some ⟨b,off,none⟩∧b<W.heap.size∧Rd W b off (rows dS p.ops))
def DW (W:World)(nh:List gh)(cf:Cf)(tb:List UInt8):Prop:=∀ r∈nh,r.gs=⟨cf.bh,cf.order,tb⟩∧aX W r.adT tb.length tb
section
variable {W w:World}{L:List SP}{n c cP cT i:Nat}{ad adP adT:Option Addr}{p:Pr}{tb:List UInt8}{cf:Cf}{g6:Bool}
theorem AE.ro (h:AE W p ad c)(I:U W w L):U W w (aA W p ad c::L):=I.Xs h.1 h.2.1 h.2.2
theorem Rd.lt {b off:Nat}{v:Value}{vs:List Value}(h:Rd w b off (v::vs)):b<w.heap.size:=by
 have h1:=h 0 v rfl;rcases gX b w.heap.size with h2 | h2
 ·exact h2
 ·rw[World.cell?]at h1;simp[h2]at h1
theorem U.roW (I:U W w (aA W p ad c::L)):AE w p ad c:=by
 obtain⟨h1,h2⟩:=I.ro ad;refine⟨h1,h2,λh0=>?_⟩;obtain⟨b,off,rfl,hr⟩:=I.sg ad h0;refine⟨b,off,rfl,?_,hr⟩;cases hl:rows dS p.ops with
 | nil=>rw[hl]at h1;simp at h1;omega
 | cons v vs=>rw[hl]at hr;exact hr.lt
theorem QA (I:U W w L):∀ n:Nat,U W w (ah e4 (List.replicate n (none,0,[]))::L)
 | 0=>U.ji I
 | n+1=>U.wQ (f:=e4) (x:=(none,0,[])) ((QA I n).bQ 102 3 none)
set_option maxHeartbeats 1000000 in
theorem aeE (gj:ox (dH cf 0) p tb)(I:U W w L)(AF:AE W p adP cP)(hn:tb.length=n)(a6:dp p)(aF:p.title.size≤1000000000)(eb:p.ops.length≤1000000000)(eQ:tb.length≤1099511627776)(hT:∀ w',U W w' []→aX w' adT tb.length tb) :
   Calls prog 30 #[.agg (bS cf).toArray,.agg (bR p adP cP).toArray,.slice adT n cT,.bool g6] w λr w'=>∃ (B:jP) (D:oB),r=.returned (pt D.wb)∧(D.mb=B.mb∧wu B.fz cf tb g6 cf.n.toNat∧DW W D.nh cf tb)∧U W w' (aN W B p 0 (fJ p cf cf.n.toNat)::bF W D p (fJ p cf cf.n.toNat)::L):=by
 have p9:=gj.1.1.1;unfold fE at p9;obtain⟨N,hN⟩:∃ N:Nat,(dH cf 0).n=N:=⟨(dH cf 0).n.toNat,by omega⟩;replace hN:cf.n=N:=hN;have oA:2≤N∧N≤8:=by
  have h1:(dH cf 0).n=cf.n:=rfl;omega
 have hTW:aX W adT tb.length tb:=hT W (U.start W);rw[show cf.n.toNat=N from by omega];refine EN func30 ntmps30 rfl rfl λa E=>?_;refine BX 1 E I λb4 a w E I=>?_;change U W w (aa b4 28 (bS cf)::_) at I;refine BX 0 E I λb5 a w E I=>?_;change U W w (aa b5 45 (bR p adP cP)::_) at I;refine ST 3 E I (λa w E I=>?_);refine RN 0 E I λa E=>?_;change U W w (aa b4 28 (bS (dH cf 0))::_) at I;refine RN 5 E I λa E=>?_;replace I:=AF.ro I;refine bg 0 E I (Qg (cf:=dH cf 0) gj I hn aF eb eQ (λw' dj=>hT _ dj.nil)) λB a w E ⟨hB,I⟩=>?_;refine RN 5 E I λa E=>?_;rw[show (dH cf 0).n.toNat=N from by show cf.n.toNat=N;omega]at I hB;replace I:U W w (aN W B p 0 (fJ p cf N)::aA W p adP cP::_):=I;replace I:=I.sub (M:=aN W B p 0 (fJ p cf N)::aa b4 28 (bS (dH cf 0))::aa b5 45 (bR p adP cP)::L);refine RN 5 E I λa E=>?_;replace E:=E.aQ 24;refine RN 3 E I λa E=>?_;replace E:=E.aQ 27;refine RN 5 E I λa E=>?_;rw[show (dH cf 0).n=(N:Int) from hN]at E;refine rO E rfl I underlying38 Ty.t70 rfl (by omega) (by omega) λuM a w E I ho=>?_;clear ho;rw[Dc _ rfl]at I;refine BX 1 E I λjV a w E I=>?_;refine RN 1 E I λa E=>?_;replace I:=U.ji (f:=dg W p) (I.bQ 34 1 none);refine RN 3 E I λa E=>?_;refine aL (λμ a w=>∃ (i:Nat) (adL:Option Addr) (cL:Nat) (rs:List (gh×Pl)) (me:Int),(μ=N-i∧(i≤N∧rs.length=i)∧rs.map (·.2)=(List.range i).map (λi=>eE p (dH cf i))∧DW W (rs.map (·.1)) cf tb)∧Fr a 56 [(2,.slice adT n cT),(4,pt b4),(5,pt b5),(11,pt jV),(12,.int .i64 i)]∧U W w (aa jV 40 [pt B.mb,.slice adL i cL,.slice none 0 0,.slice (some ⟨uM,0,none⟩) N N]::Sl 34 1 adL i cL (rs.map dE)::ah (dg W p) rs::aa uM 70 (List.replicate N (.slice none 0 0))::aa b4 28 (bS { cf with me:=me })::aa b5 45 (bR p adP cP)::aN W B p 0 (fJ p cf N)::L)) (N) (⟨0,none,0,[],0,⟨rfl,⟨by omega,rfl⟩,rfl,λr h=>by cases h⟩,E.ab [2,4,5,11,12],(show U W w (ah (dg W p) []::Sl 34 1 none 0 0 (([]:List (gh×Pl)).map dE)::aa jV 40 _::aa uM 70 _::aN W B p 0 (fJ p cf N)::aa b4 28 (bS { cf with me:=0 })::_) from I).sub⟩) ?_;clear E I;rintro μ a w ⟨i,adL,cL,rs,me,⟨rfl,⟨hi,gD⟩,eO,kn⟩,E,I⟩;refine RN 5 E I λa E=>?_;rw[hN]at E;refine IF 1 E I (λao a E=>?_) λao a E=>?_
 ·
  have aG:i<N:=by omega
  have Jc:=Qe (i:=i) gj (by show (i:Int)<(dH cf 0).n;rw[show (dH cf 0).n=(N:Int) from hN];omega);refine ST 4 E I (λa w E I=>?_);refine RN 0 E I λa E=>?_;replace I:U W w (aa b4 28 (bS (dH cf i))::_):=I;refine aV 0 (λw0 w'=>Rd w' jV 0 [pt B.mb,.slice adL i cL,.slice none 0 0,.slice (some ⟨uM,0,none⟩) N N]∧Rd w' b4 0 (bS (dH cf i))∧Rd w' b5 0 (bR p adP cP)) [5,6,8,9] [0,1,2,3,7,3004,3005,1006,1008,1009,1010,11,12,1013] E I λa w E I hH=>?_;have hC:=hH.at w ⟨I.ai (b:=jV),I.ai (b:=b4),I.ai (b:=b5)⟩;refine RH 5 E I hH hC λa E=>?_;refine QH E (λw hc=>ae E (hc.1 1 _ rfl)) hC λa E=>?_;refine QH E (λw hc=>bT E rU rfl Ty.t28 (hc.2.1)) hC λa E=>?_;refine RH 0 E I hH hC λa E=>?_;refine SS E (bT E n2 rfl Ty.t45 (hC.2.2)) λa E=>?_;replace I:=AF.ro I;refine RH 0 E I hH hC λa E=>?_;refine bg 0 E I (ady (cf:=dH cf i) Jc.1 I hn a6 aF) λr a w E ⟨hr,I⟩=>?_;replace hC:=hH.at w ⟨I.ai (b:=jV),I.ai (b:=b4),I.ai (b:=b5)⟩;refine RH 0 E I hH hC λa E=>?_;refine ct E rfl I EW Ty.t34 rfl rfl rfl rfl (by decide) (by decide) λTF a w E I ho=>?_;clear ho;replace hC:=hH.at w ⟨I.ai (b:=jV),I.ai (b:=b4),I.ai (b:=b5)⟩;refine RH 0 E I hH hC λa E=>?_;refine cR E rfl I EW Ty.t34 rfl rfl I.ai rfl (by simp[Value.oneCell']) (by decide) (by decide) (by omega) λsB sC a w E I=>?_;rw[show List.map dE rs++_=(rs++[((r:gh),eE p (dH cf i))]).map dE from by rw[cY];rfl]at I;refine ST 2 E I (λa w E I=>?_);refine RN 3 E I λa E=>?_;have kU:U W w (dg W p (r,eE p (dH cf i))::_):=(I.pick (ah (dg W p) rs)).pick (bZ W r p (eE p (dH cf i)));have hA:=U.j7 (f:=dg W p) (x:=(r,eE p (dH cf i))) kU;refine⟨N-(i+1),by omega,i+1,sB,sC,rs++[(r,eE p (dH cf i))],i,⟨rfl,⟨by omega,by rw[aM,gD];rfl⟩,?_,?_⟩,E.ab [2,4,5,11,12],?_⟩
  ·rw[cY,eO,range_succ,cY];rfl
  ·intro x hx;rw[cY]at hx;rcases e7.1 hx with hx | hx
   ·exact kn x hx
   ·rw[iP.1 hx,hr.2];exact⟨hr.1,hTW⟩
  ·rw[show ({ cf with me:=(i:Int) }:Cf)=dH cf i from rfl];exact hA.sub
 obtain rfl:i=N:=by omega
 refine RT 3 E I ?_;have h1:=I.j5 uM;rw[show List.replicate i (Value.slice none 0 0)=[]++(List.replicate i ((none,0,[]):kA)).map bB++[] from by rw[nil_append,append_nil,map_replicate];rfl]at h1;have h2:=QA (U.jh (n:=i) (c:=i) (sz:=1) h1 (by rw[a8,kN,fB]) (a7 _) (by simp)) i;simp only[length_nil]at h2;have h3:=cg.nil (e:=60) h2;refine⟨B,⟨jV,B.mb,rs.map (·.1)⟩,rfl,⟨rfl,hB,kn⟩,?_⟩;have h4:U W w (bF W ⟨jV,B.mb,rs.map (·.1)⟩ p (fJ p cf i)::aN W B p 0 (fJ p cf i)::L):=by
  refine bF.close (adP:=adL) (cP:=cL) (adN:=none) (cN:=0) (adE:=some ⟨uM,0,none⟩) (cE:=i) (xs:=rs) (es:=List.replicate i (none,0,[])) ?_ rfl eO (by rw[map_replicate];rfl);rw[gD,kN];exact h3.sub (M:=aa jV 40 [pt B.mb,.slice adL i cL,.slice none 0 0,.slice (some ⟨uM,0,none⟩) i i]::Sl 34 1 adL i cL (rs.map dE)::ah (dg W p) rs::cg 60 none 0 0 []::Sl 70 1 (some ⟨uM,0,none⟩) i i ((List.replicate i ((none,0,[]):kA)).map bB)::ah e4 (List.replicate i (none,0,[]))::aN W B p 0 (fJ p cf i)::L)
 exact h4.sub
end
end
end Go.Proofs.YteoldcfapaiobaaGreat
