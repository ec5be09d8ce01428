/- A match of players of whom none lies, plainly: the document's R3. -/
import Derived.Test.YteoldcfapaiobaaGreatF14ArgC
import Derived.Test.YteoldcfapaiobaaGreatF06Ref
namespace Go.Proofs.YteoldcfapaiobaaGreat
open Tryz
open List (length_range nil_append length_nil mem_range getElem?_range getElem_map append_nil map_take map_drop range_succ getElem?_set_ne getElem?_set_self mem_append_left map_replicate)
open Go.RowKit
set_option linter.unusedVariables false
set_option linter.unusedSimpArgs false
set_option maxRecDepth 10000
set_option synthInstance.maxSize 4000
set_option synthInstance.maxHeartbeats 400000
section
def bq (v:Wd)(i j:Nat):Nat:=((an v i).k.ls.getD j []).length
def qn (v:Wd)(i j:Nat):Nat:=(au (an v i).k j).has
noncomputable def pw (m:Ml):Nat:=match ea m.2.2 with
 | some q=>if q.kind=1 then q.first.toNat+q.al.length else 0
 | none=>0
structure nM (p:Pr)(cf:Cf)(K:Int→Prop)(G:List (List UInt8))(v:Wd)(m:Ml)(q:Pk):Prop where
 iV:vC p G q
 kind:K q.kind
 fr:q.aV=m.1
 to:q.to=m.2.1
 bs:m.2.2=aS q
 lt:m.1<v.ps.length∧m.2.1<v.ps.length
 id:q.id=cf.id
 vD:q.kind=1→q.da.toNat≤bq v m.1 m.2.1∧q.first.toNat≤bq v m.2.1 m.1∧q.first.toNat+q.al.length≤q.da.toNat+cf.br.toNat
structure gA (p:Pr)(cf:Cf)(K:Int→Prop)(G:List (List UInt8))(v:Wd):Prop where
 pl:∀ i,i<v.ps.length→gO p G (an v i)
 ac:∀ i j,i<v.ps.length→j<v.ps.length→i≠j→qn v i j≤bq v j i∧bq v i j≤qn v i j+cf.br.toNat
 hd:∀ i,i<v.ps.length→bq v i i≤aw (an v i).k+cf.br.toNat
 net:∀ m∈v.net,∃ q,nM p cf K G v m q
 bx:∀ l∈v.ev,∀ e∈l,e.1≠3
 xD:∀ i,i<v.ps.length→∀ e∈(an v i).k.ev,e.1≠3
section
variable {p:Pr}{cf:Cf}{K:Int→Prop}{G G':List (List UInt8)}{v u:Wd}{c i j x y:Nat}{s':Pl}{net:List Ml}{ev:List (List km)}{m:Ml}{q:Pk}{t:fN}{b:UInt8}
theorem bL.ri (h:bL p cf c v)(hi:i<v.ps.length):(an v i).k.me=i∧(an v i).k.br=cf.br.toNat∧(an v i).k.id=cf.id∧(an v i).k.n=v.ps.length∧(an v i).k.aK=cf.aK.toNat:=by
 have h1:=(h.pl i hi).2.1;have h2:(fl (an v i).k).me=(i:Int):=by rw[h1]
 have h3:(fl (an v i).k).br=cf.br:=by rw[h1]
 have h4:(fl (an v i).k).id=cf.id:=by rw[h1]
 have h5:(fl (an v i).k).aK=cf.aK:=by rw[h1]
 simp only[fl]at h2 h3 h4 h5;exact⟨by omega,by omega,h4,h.kn hi,by omega⟩
theorem bL.ON (h:bL p cf c v):1≤cf.br.toNat∧cf.br.toNat≤16:=by
 have h1:=h.may.2.1.2.1;unfold fB at h1;omega
theorem ub (hi:i<v.ps.length):bq ⟨v.ps.set i s',net,ev⟩ x y=if i=x then (s'.k.ls.getD y []).length else bq v x y:=by
 rw[bq,rf hi];split <;> rfl
theorem acS (hi:i<v.ps.length):qn ⟨v.ps.set i s',net,ev⟩ x y=if i=x then (au s'.k y).has else qn v x y:=by
 rw[qn,rf hi];split <;> rfl
theorem HH (hi:i<v.ps.length):v.ps.set i (an v i)=v.ps:=by
 rw[an,bl,aD hi];exact l7 _
theorem OO {l:List (List UInt8)}{a:List UInt8}(hi:i<l.length):((l.set i a).getD j []).length=if i=j then a.length else (l.getD j []).length:=by
 rw[bl,jZ];split
 ·rename_i h;subst h;rfl
 ·rw[bl]
theorem acT {l a:List UInt8}{f:Nat}(h1:f≤l.length)(h2:f+a.length≤1000)(h3:l.length≤1000):(du l f a).length=max l.length (f+a.length):=by
 rw[du,ag (by omega),aI,et,c5];omega
theorem acU (now head:Nat)(q:Pk)(z:Pe):(fW now head q z).has=if z.has<q.da.toNat∧q.da.toNat≤head then q.da.toNat else z.has:=by
 unfold fW;simp only;split <;> rfl
theorem gA.CE (h:gA p cf K G v)(hv:bL p cf c v)(hi:i<v.ps.length)(hj:j<v.ps.length):bq v i j≤bq v j j∧(G.getD j []).length=bq v j j:=by
 have h1:=(h.pl j hj).own;rw[(hv.ri hj).1]at h1;obtain⟨t,ht⟩:=(h.pl i hi).ext.2 j (by rw[(hv.pl i hi).1.wc.ls,(hv.ri hi).2.2.2.1];exact hj);have h2:(G.getD j []).length=bq v j j:=by rw[← h1];rfl
 refine⟨?_,h2⟩;rw[← h2,ht,aI,bq];omega
theorem gA.OP (h:gA p cf K G v)(hv:bL p cf c v):G.length=v.ps.length∧G≠[]:=by
 have h0:=hv.len;have h1:=h.pl 0 (by omega);exact⟨by rw[h1.lens,hv.kn (by omega)],h1.HG⟩
theorem nM.more (h:nM p cf K G v m q)(xE:Ext G G')(h0:G≠[])(iU:G.length=v.ps.length)(hl:u.ps.length=v.ps.length)(hk:∀ a b,bq v a b≤bq u a b):nM p cf K G' u m q:=by
 refine⟨h.iV.ext xE h0 (by have:=h.lt.1;have:=h.fr;omega),h.kind,h.fr,h.to,h.bs,by rw[hl];exact h.lt,h.id,λh1=>?_⟩;obtain⟨cH,dq,a3⟩:=h.vD h1;exact⟨fG cH (hk _ _),fG dq (hk _ _),a3⟩
theorem nM.dec (h:nM p cf K G v m q):ea m.2.2=some q:=by rw[h.bs];exact K2 h.iV.may h.iV.sum
theorem nM.val (h:nM p cf K G v m q):pw m=if q.kind=1 then q.first.toNat+q.al.length else 0:=by rw[pw,h.dec]
theorem gA.put (h:gA p cf K G v)(hv:bL p cf c v)(hi:i<v.ps.length)(hH:gO p G' s')(xE:Ext G G')(hO:∀ j,j≠i→G'.getD j []=G.getD j [])(hk:∀ j,bq v i j≤(s'.k.ls.getD j []).length)
   (ke:∀ j,j<v.ps.length→j≠i→(au s'.k j).has≤bq v j i∧(s'.k.ls.getD j []).length≤(au s'.k j).has+cf.br.toNat) (gW:(s'.k.ls.getD i []).length≤aw s'.k+cf.br.toNat)
   (HI:∀ e∈s'.k.ev,e.1≠3) (HJ:∀ m∈net,m∈v.net∨∃ q,nM p cf K G' ⟨v.ps.set i s',net,ev⟩ m q) (qe:∀ l∈ev,∀ e∈l,e.1≠3):gA p cf K G' ⟨v.ps.set i s',net,ev⟩:=by
 have hg:=h.OP hv;have hl:(⟨v.ps.set i s',net,ev⟩:Wd).ps.length=v.ps.length:=bw;have hm:∀ a b,bq v a b≤bq ⟨v.ps.set i s',net,ev⟩ a b:=λa b=>by
  rw[ub hi];split
  ·rename_i e;subst e;exact hk b
  ·exact bf _
 refine⟨λj hj=>?_,λa b E hb CF=>?_,λj hj=>?_,λm gS=>?_,qe,λj hj=>?_⟩
 ·rw[hl]at hj;rw[rf hi];split
  ·exact hH
  ·rename_i e;exact (h.pl j hj).more xE (by rw[(hv.ri hj).1];exact hO j (λe2=>e e2.symm))
 ·rw[hl]at E hb;rw[ub hi,ub hi,acS hi];by_cases h1:i=a
  ·subst h1;rw[ak rfl,ag CF,ak rfl];exact ke b hb (Ne.symm CF)
  ·rw[ag h1,ag h1];have h3:=h.ac a b E hb CF;by_cases h2:i=b
   ·subst h2;rw[ak rfl];exact⟨fG h3.1 (hk a),h3.2⟩
   ·rw[ag h2];exact h3
 ·rw[hl]at hj;rw[ub hi,rf hi];split
  ·rename_i e;subst e;exact gW
  ·exact h.hd j hj
 ·rcases HJ m gS with h1 | h1
  ·obtain⟨q,hq⟩:=h.net m h1;exact⟨q,hq.more xE hg.2 hg.1 hl hm⟩
  ·exact h1
 ·rw[hl]at hj;rw[rf hi];split
  ·exact HI
  ·exact h.xD j hj
theorem gA.al (h:gA p cf K G v)(hv:bL p cf c v)(hi:i<v.ps.length)(b:UInt8):(∃ G',gA p cf K G' { v with ps:=v.ps.set i (dK p b (an v i)).2 }) ∧
   ∀ x y,bq { v with ps:=v.ps.set i (dK p b (an v i)).2 } x y=bq v x y+if (x=i∧y=i)∧(dK p b (an v i)).1=0 then 1 else 0:=by
 obtain⟨eB,xF,b6,hn,_⟩:=hv.ri hi;by_cases h0:(dK p b (an v i)).1=0
 ·obtain⟨hH,mr,hk⟩:=(h.pl i hi).al h0;obtain⟨g1,iJ,m8,m9⟩:=vb (k:=(an v i).k) (b:=b) h0;rw[eB]at hH hk;have aF:i<(an v i).k.ls.length:=by rw[(hv.pl i hi).1.wc.ls,hn];exact hi
  have fb:(dK p b (an v i)).2.k.ls=(an v i).k.ls.set i ((an v i).k.ls.getD i []++[b]):=by rw[hk]
  have gH:∀ j,au (dK p b (an v i)).2.k j=au (an v i).k j:=λj=>by rw[au,hk];rfl
  have ic:∀ j,((dK p b (an v i)).2.k.ls.getD j []).length=bq v i j+if i=j then 1 else 0:=λj=>by
   rw[fb,OO aF];split
   ·rename_i e;subst e;rw[aI];rfl
   ·rfl
  have fw:aw (an v i).k≤aw (dK p b (an v i)).2.k:=by
   rw[aw,aw,fb];exact Ext.set.front (hv.pl i hi).1.wc.lu
  have gW:aG (an v i).k=bq v i i:=by rw[aG,eB];rfl
  refine⟨⟨_,h.put hv hi hH Ext.set (λj hj=>?_) (λj=>?_) (λj hj gT=>?_) ?_ ?_ (λm hm=>.inl hm) h.bx⟩,λx y=>?_⟩
  ·rw[bl,getElem?_set_ne (Ne.symm hj),← bl]
  ·rw[ic];omega
  ·rw[ic,gH,ag (Ne.symm gT),Nat.add_zero];exact h.ac i j hi hj (Ne.symm gT)
  ·rw[ic,ak rfl];omega
  ·rw[hk];exact h.xD i hi
  ·rw[ub hi];by_cases e:i=x
   ·subst e;rw[ak rfl,ic];by_cases e2:i=y
    ·rw[ak e2,ak ⟨⟨rfl,e2.symm⟩,h0⟩]
    ·rw[ag e2,ag (λh=>e2 h.1.2.symm)]
   ·rw[ag e,ag (λh=>e h.1.1.symm),Nat.add_zero]
 ·rw[OI (hv.pl i hi).1 h0,HH hi];exact⟨⟨G,h⟩,λx y=>by rw[ag (λh=>h0 h.2)];rfl⟩
theorem gA.acV (h:gA p cf K G v)(hn:∀ m∈net,m∈v.net):gA p cf K G { v with net:=net } :=
 ⟨h.pl,h.ac,h.hd,λm hm=>(h.net m (hn m hm)).imp λq hq=>⟨hq.iV,hq.kind,hq.fr,hq.to,hq.bs,hq.lt,hq.id,hq.vD⟩,h.bx,h.xD⟩
theorem gA.recv (h:gA p cf K G v)(hv:bL p cf c v)(hm:m∈v.net)(hn:∀ m∈net,m∈v.net):gA p cf K G { v with ps:=v.ps.set m.2.1 (dB p m.2.2 (an v m.2.1)).2,net:=net } ∧
   ∀ x y,bq { v with ps:=v.ps.set m.2.1 (dB p m.2.2 (an v m.2.1)).2,net:=net } x y=if (x=m.2.1∧y=m.1)∧(an v m.2.1).k.cl=false then max (bq v x y) (pw m) else bq v x y:=by
 obtain⟨q,hq⟩:=h.net m hm;obtain⟨ed,hi⟩:=hq.lt;obtain⟨eB,xF,b6,n1,_⟩:=hv.ri hi;have FQ:q.aV.toNat=m.1:=by have:=hq.fr;omega
 have jU:m.1≠m.2.1:=λe=>hq.iV.may.2.2.1 (by rw[hq.fr,hq.to,e]);rw[hq.bs];generalize I:an v m.2.1=s at *;have zl:=h.pl _ hi;have sF:=hv.pl _ hi;rw[I]at zl sF;cases hc:s.k.cl with
 | true =>
  have h0:(dB p (aS q) s).1≠0:=by
   show (dm (aS q) s.k).1≠0;rw[dm,ak hc];show (6:Int)≠0;decide
  rw[OJ sF.1 h0,← I,HH hi];exact⟨h.acV hn,λx y=>by rw[ag (λh=>by have:=h.2;cases this)];rfl⟩
 | false =>
  have sD:m.1<s.k.ps.length:=by rw[sF.1.wc.ps,n1];exact ed
  have aF:m.1<s.k.ls.length:=by rw[sF.1.wc.ls,n1];exact ed
  have ke:=h.ac _ _ hi ed (Ne.symm jU);have oS:=h.CE hv ed hi;have pC:=h.CE hv hi ed;have jf:=(hv.pl _ ed).1.wc.mq (i:=m.1) (by rw[hv.kn ed];exact ed);have j7:=sF.1.wc.mq (i:=m.1) (by rw[n1];exact ed);have OQ:aG s.k=bq v m.2.1 m.2.1:=by rw[aG,eB,bq,I]
  rcases hq.iV.may.2.2.2.2 with ⟨h1,_⟩ | ⟨h1,_⟩
  ·obtain⟨hH,h0,mr,hk⟩:=zl.y6 hq.iV hc (by rw[hq.to,eB]) (by rw[hq.fr,n1];omega) (by rw[hq.id,b6]) h1;obtain⟨s1,s2,vQ⟩:=hq.vD h1;obtain⟨g1,iJ⟩:=hq.iV.vD h1;rw[FQ]at hk g1;have y9:bq v m.2.1 m.1=(s.k.ls.getD m.1 []).length:=by rw[bq,I]
   have eF:=acT (l:=s.k.ls.getD m.1 []) (a:=q.al) (f:=q.first.toNat) (by rw[← y9];exact s2) (by rw[pC.2]at g1;rw[bq]at g1;omega) j7;have fb:(dB p (aS q) s).2.k.ls=s.k.ls.set m.1 (du (s.k.ls.getD m.1 []) q.first.toNat q.al):=by rw[hk]
   have ic:∀ j,((dB p (aS q) s).2.k.ls.getD j []).length=if m.1=j then max (bq v m.2.1 m.1) (q.first.toNat+q.al.length) else bq v m.2.1 j:=λj=>by
    rw[fb,OO aF,eF,bq,bq,I]
   have gH:∀ j,au (dB p (aS q) s).2.k j=if j=m.1 then fW s.k.now (aG s.k) q (au s.k m.1) else au s.k j:=λj=>by
    rw[au,hk];exact w8 sD
   have fw:aw s.k≤aw (dB p (aS q) s).2.k:=by
    have h5:=sh (aS q) s.k;obtain⟨t5,h6⟩:=L3 (s.k.ls.getD m.1 []) q.first.toNat q.al;rw[aw,aw,fb,h6];exact Ext.set.front sF.1.wc.lu
   refine⟨h.put hv hi hH (Ext.refl _) (λ_ _=>rfl) (λj=>?_) (λj hj gT=>?_) ?_ ?_ (λm hm=>.inl (hn m hm)) h.bx,λx y=>?_⟩
   ·rw[ic];split
    ·rename_i e;subst e;omega
    ·exact bf _
   ·rw[ic,gH];have xG:=h.ac _ _ hi hj (Ne.symm gT);by_cases e:j=m.1
    ·subst e;rw[ak rfl,ak rfl,acU];rw[qn,I]at xG;rw[bq]at oS;simp only[bq] at *;split <;> omega
    ·rw[ag (Ne.symm e),ag e];rw[qn,I]at xG;exact xG
   ·rw[ic,ag jU];have:=h.hd _ hi;rw[I]at this;omega
   ·rw[hk];have:=h.xD _ hi;rw[I]at this;exact this
   ·rw[ub hi,ic,hq.val,ak h1];by_cases e:m.2.1=x
    ·subst e;rw[ak rfl];by_cases e2:m.1=y
     ·subst e2;rw[ak rfl,ak ⟨⟨rfl,rfl⟩,rfl⟩]
     ·rw[ag e2,ag (λh=>e2 h.1.2.symm)]
    ·rw[ag e,ag (λh=>e h.1.1.symm)]
  ·obtain⟨hH,h0,hk⟩:=zl.bye hq.iV hc (by rw[hq.to,eB]) (by rw[hq.fr,n1];omega) (by rw[hq.id,b6]) h1;rw[FQ]at hk;have fb:(dB p (aS q) s).2.k.ls=s.k.ls:=by rw[hk]
   have ic:∀ j,((dB p (aS q) s).2.k.ls.getD j []).length=bq v m.2.1 j:=λj=>by rw[fb,bq,I]
   have gH:∀ j,(au (dB p (aS q) s).2.k j).has=(au s.k j).has:=λj=>by
    rw[au,hk];show ((s.k.ps.set _ _).getD j (fC 0)).has=_;rw[w8 sD];split
    ·rename_i e;subst e;rfl
    ·rfl
   refine⟨h.put hv hi hH (Ext.refl _) (λ_ _=>rfl) (λj=>?_) (λj hj gT=>?_) ?_ ?_ (λm hm=>.inl (hn m hm)) h.bx,λx y=>?_⟩
   ·rw[ic];exact bf _
   ·have xG:=h.ac _ _ hi hj (Ne.symm gT);rw[qn,I]at xG;rw[ic,gH];exact xG
   ·have:=h.hd _ hi;rw[I]at this;rw[ic,aw,fb];exact this
   ·rw[hk];intro e he;rcases eS.1 he with he | he
    ·have:=h.xD _ hi;rw[I]at this;exact this e he
    ·rw[iH.1 he];show (1:Nat)≠3;decide
   ·have td:pw m=0:=by rw[hq.val,ag (by omega)]
    rw[ub hi,ic,td,Nat.max_zero];by_cases e:m.2.1=x
    ·subst e;rw[ak rfl];split <;> rfl
    ·rw[ag e,ag (λh=>e h.1.1.symm)]
theorem acW {k:Ks}(h:m∈(bt k).1):∃ j,j<k.n∧j≠k.me∧m=(k.me,j,aS (dO k j)):=by
 unfold bt at h;split at h
 ·cases h
 ·simp only at h;split at h
  ·cases h
  ·obtain⟨j,hj,rfl⟩:=cR.1 h;obtain⟨h1,h2⟩:=xc.1 hj;exact⟨j,h1,h2,rfl⟩
theorem gA.same (h:gA p cf K G v)(hv:bL p cf c v)(hi:i<v.ps.length)(hH:gO p G s')(fb:s'.k.ls=(an v i).k.ls)(gH:s'.k.ps=(an v i).k.ps)(HI:∀ e∈s'.k.ev,e.1≠3)
   (HJ:∀ m∈net,m∈v.net∨∃ q,nM p cf K G v m q) (qe:∀ l∈ev,∀ e∈l,e.1≠3):gA p cf K G ⟨v.ps.set i s',net,ev⟩∧∀ x y,bq ⟨v.ps.set i s',net,ev⟩ x y=bq v x y:=by
 have pf:∀ x y,bq ⟨v.ps.set i s',net,ev⟩ x y=bq v x y:=λx y=>by
  rw[ub hi];split
  ·rename_i e;subst e;rw[fb];rfl
  ·rfl
 have hg:=h.OP hv;refine⟨h.put hv hi hH (Ext.refl _) (λ_ _=>rfl) (λj=>by rw[fb];exact bf _) (λj hj gT=>?_) ?_ HI (λm hm=>(HJ m hm).imp_right λ⟨q,hq⟩=>⟨q,hq.more (Ext.refl _) hg.2 hg.1 bw λa b=>by rw[pf];exact bf _⟩) qe,pf⟩
 ·rw[fb,au,gH];exact h.ac i j hi hj (Ne.symm gT)
 ·rw[aw,fb];exact h.hd i hi
theorem gA.OR (h:gA p cf K G v)(hv:bL p cf c v)(hi:i<v.ps.length)(HK:K 1)(hm:m∈(bt (an v i).k).1):∃ q,nM p cf K G v m q∧pw m=bq v i i:=by
 obtain⟨eB,xF,b6,hn,_⟩:=hv.ri hi;obtain⟨j,hj,bD,rfl⟩:=acW hm;rw[hn]at hj;rw[eB]at bD;have ke:=h.ac i j hi hj (Ne.symm bD);have hb:=h.CE hv hj hi;have gW:=h.hd i hi;have ed:aw (an v i).k≤bq v i j:=w4 (va (by rw[(hv.pl i hi).1.wc.ls,hn];exact hj));have OQ:aG (an v i).k=bq v i i:=by rw[aG,eB];rfl
 have hw:=hv.ON;have iV:=(h.pl i hi).zx (i:=j) (by rw[hn];exact hj) (by rw[eB];exact bD) (by rw[OQ];rw[qn]at ke;omega);have ic:(dO (an v i).k j).first.toNat+(dO (an v i).k j).al.length=bq v i i:=by
  show (((au (an v i).k j).has:Nat):Int).toNat+((((an v i).k.ls.getD (an v i).k.me []).drop (au (an v i).k j).has).take 32).length=_;rw[qn]at ke;rw[et,c5,eB,c6];show _+min 32 (bq v i i-_)=_;omega
 have hq:nM p cf K G v ((an v i).k.me,j,aS (dO (an v i).k j)) (dO (an v i).k j):=by
  refine⟨iV,HK,rfl,rfl,rfl,⟨by rw[eB];exact hi,hj⟩,b6,λ_=>⟨?_,?_,?_⟩⟩
  ·show ((((an v i).k.ls.getD j []).length:Nat):Int).toNat≤bq v (an v i).k.me j;rw[eB,c6];exact bf _
  ·show (((au (an v i).k j).has:Nat):Int).toNat≤bq v j (an v i).k.me;rw[eB,c6];exact ke.1
  ·rw[ic];show _≤((((an v i).k.ls.getD j []).length:Nat):Int).toNat+_;rw[c6];show _≤bq v i j+_;omega
 exact⟨_,hq,by rw[hq.val,ak (show (dO (an v i).k j).kind=1 from rfl),ic]⟩
theorem acX (k:Ks):(bt k).2.ls=k.ls∧(bt k).2.ps=k.ps∧∀ e∈(bt k).2.ev,e∈k.ev∨e.1=2:=by
 rcases xd k with h1 | ⟨_,h1 | ⟨i,_,h1⟩⟩ <;> rw[h1]
 ·exact⟨rfl,rfl,λe he=>.inl he⟩
 ·exact⟨rfl,rfl,λe he=>.inl he⟩
 ·refine⟨rfl,rfl,λe he=>?_⟩;rcases eS.1 he with he | he
  ·exact .inl he
  ·rw[iH.1 he];exact .inr rfl
theorem gA.tick (h:gA p cf K G v)(hv:bL p cf c v)(hi:i<v.ps.length)(HK:K 1):gA p cf K G { v with ps:=v.ps.set i ⟨(bt (an v i).k).2,(an v i).g⟩,net:=eC v.net (bt (an v i).k).1 } ∧
   ∀ x y,bq { v with ps:=v.ps.set i ⟨(bt (an v i).k).2,(an v i).g⟩,net:=eC v.net (bt (an v i).k).1 } x y=bq v x y:=by
 obtain⟨h1,h2,h3⟩:=acX (an v i).k;refine h.same hv hi (h.pl i hi).tick h1 h2 (λe he=>?_) (λm hm=>(Hq hm).imp_right λhm=>(h.OR hv hi HK hm).imp λq hq=>hq.1) h.bx;rcases h3 e he with h4 | h4
 ·exact h.xD i hi e h4
 ·omega
theorem vE (p:Pr){cf:Cf}(h:eW cf):∃ mr,(eA p cf).k={ fm cf with mr:=mr }:=by
 refine HF (G:=(fm cf).ls) (xe (p:=p) h) (Ext.refl _) λi hi=>?_;have pK:au (fm cf) i=fC cf.aK.toNat∨au (fm cf) i=fC 0:=by
  rw[au,bl];show ((List.replicate cf.n.toNat (fC cf.aK.toNat))[i]?).getD (fC 0)=_∨((List.replicate cf.n.toNat (fC cf.aK.toNat))[i]?).getD (fC 0)=_;rw[List.getElem?_replicate];split
  ·exact .inl rfl
  ·exact .inr rfl
 have h2:(au (fm cf) i).frame=0:=by rcases pK with e | e <;> rw[e] <;> rfl
 show m2 p _ (au (fm cf) i).frame _;rw[h2];exact⟨Nat.zero_le _,λh=>absurd h (by omega)⟩
end
end
section
def fP.zN:fP→Bool
 | .mu _=>true
 | .pl _=>false
def dC (cf:Cf)(i:Nat):Cf:={ cf with me:=i }
def gf (p:Pr)(cf:Cf)(n:Nat):Wd:=⟨(List.range n).map λi=>eA p (dC cf i),[],List.replicate n []⟩
def vF (fx:List fF)(cf:Cf)(tb:List UInt8)(gB:Bool)(n:Nat):Prop:=fx.map (·.cf)=(List.range n).map (dC cf)∧∀ x∈fx,x.z.gs=⟨cf.bg,cf.order,tb⟩∧x.z.zN=gB
theorem acY {cf:Cf}{i:Nat}(h:eW (dC cf 0))(hi:(i:Int)<cf.n):eW (dC cf i):=by
 obtain⟨⟨h1,h2,h3⟩,h4⟩:=h;refine⟨⟨h1,?_,h3⟩,h4⟩;show fB (i:Int) 0 (cf.n-1);unfold fB;omega
theorem OS {cf:Cf}{p:Pr}{tb:List UInt8}{i:Nat}(h:nL (dC cf 0) p tb)(hi:(i:Int)<cf.n):nL (dC cf i) p tb:=⟨acY h.1 hi,h.2⟩
section
variable {W w:World}{L:List SP}{n c cP cT i:Nat}{ad adP adT:Option Addr}{p:Pr}{tb:List UInt8}{cf:Cf}{gB:Bool}
theorem acZ (gb:nL cf p tb)(I:U W w (aA W p adP cP::L))(hn:tb.length=n)(aH:p.title.size≤1000000000)(dY:p.ops.length≤1000000000)(eM:tb.length≤1099511627776)(hT:∀ w',U W w' (aA W p adP cP::L)→aW w' adT tb.length tb) :
   Calls prog 60 #[.agg (bV cf).toArray,.agg (bP p adP cP).toArray,.slice adT n cT] w λr w'=>∃ B:jo,r=.returned (.tuple #[pt B.pb,.int .i64 0])∧B.gs=⟨cf.bg,cf.order,tb⟩∧U W w' (aP W B p (eA p cf)::aA W p adP cP::L) :=
 (acg I hn aH dY eM hT).mono λr w' h=>h.elim (λh=>h.2) λh=>absurd gb h.1
theorem ac0 (gb:nL cf p tb)(I:U W w (aA W p adP cP::L))(hn:tb.length=n)(aH:p.title.size≤1000000000)(dY:p.ops.length≤1000000000)(eM:tb.length≤1099511627776)(hT:∀ w',U W w' (aA W p adP cP::L)→aW w' adT tb.length tb) :
   Calls prog 43 #[.agg (bV cf).toArray,.agg (bP p adP cP).toArray,.slice adT n cT,.bool gB] w λr w'=>∃ z:fP,r=.returned (.tuple #[.iface z.t (.pointer (some z.ad)),.int .i64 0])∧(z.gs=⟨cf.bg,cf.order,tb⟩∧z.zN=gB)∧U W w' (fF.J W p ⟨cf,z⟩ 0 (eA p cf)::aA W p adP cP::L):=by
 refine EN func43 ntmps43 rfl rfl λa E=>?_;refine BX 1 E I λb4 a w E I=>?_;change U W w (aa b4 28 (bV cf)::_) at I;refine BX 0 E I λb5 a w E I=>?_;change U W w (aa b5 45 (bP p adP cP)::_) at I;refine IF 5 E I (λaj a E=>?_) λaj a E=>?_
 ·
  refine bj 4 E I (acm gb (I.pick (aA W p adP cP)) hn aH dY eM (λw' df=>hT _ df.sub)) λM a w E ⟨hg,I⟩=>?_;refine RT 11 E I ?_;exact⟨.mu M,rfl,⟨hg,by rw[show gB=true from by simpa using aj];rfl⟩,(show U W w (fF.J W p ⟨cf,.mu M⟩ 0 (eA p cf)::_) from I).sub⟩
 refine bj 4 E I (acZ gb (I.pick (aA W p adP cP)) hn aH dY eM (λw' df=>hT _ df.sub)) λB a w E ⟨hg,I⟩=>?_;refine RT 11 E I ?_;exact⟨.pl B,rfl,⟨hg,by rw[show gB=false from by simpa using aj];rfl⟩,(show U W w (fF.J W p ⟨cf,.pl B⟩ 0 (eA p cf)::_) from I).sub⟩
theorem OT (I:U W w L):∀ n:Nat,U W w (ah eD (List.replicate n (none,0,[]))::L)
 | 0=>U.iY I
 | n+1=>U.v7 (f:=eD) (x:=(none,0,[])) ((OT I n).bN 135 1 none)
theorem OU (gb:nL (dC cf 0) p tb)(I:U W w (aA W p adP cP::L))(hn:tb.length=n)(aH:p.title.size≤1000000000)(dY:p.ops.length≤1000000000)(eM:tb.length≤1099511627776)(hT:∀ w',U W w' (aA W p adP cP::L)→aW w' adT tb.length tb) :
   Calls prog 24 #[.agg (bV cf).toArray,.agg (bP p adP cP).toArray,.slice adT n cT,.bool gB] w λr w'=>∃ B:jI,r=.returned (.tuple #[pt B.mb,.int .i64 0])∧vF B.fx cf tb gB cf.n.toNat∧U W w' (aN W B p 0 (gf p cf cf.n.toNat)::aA W p adP cP::L):=by
 have pV:=gb.1.1.1;unfold fB at pV;obtain⟨N,hN⟩:∃ N:Nat,(dC cf 0).n=N:=⟨(dC cf 0).n.toNat,by omega⟩;replace hN:cf.n=N:=hN;have hN2:2≤N∧N≤8:=by
  have h1:(dC cf 0).n=cf.n:=rfl;omega
 rw[show cf.n.toNat=N from by omega];refine EN func24 ntmps24 rfl rfl λa E=>?_;refine BX 1 E I λb4 a w E I=>?_;change U W w (aa b4 28 (bV cf)::_) at I;refine BX 0 E I λb5 a w E I=>?_;change U W w (aa b5 45 (bP p adP cP)::_) at I;refine bj 3 E I (abX I) λq a w E I=>?_;refine BX 1 E I λqW a w E I=>?_;refine RN 1 E I λa E=>?_;replace I:=U.iY (f:=cB W p 0) (I.bN 81 1 none);refine RN 7 E I λa E=>?_;rw[hN,show min (max (N:Int) 1) 8=(N:Int) from by omega]at E;refine aQ (λμ a w=>∃ (i:Nat) (adL:Option Addr) (cL:Nat) (xs:List (fF×Pl)) (me:Int),(μ=N-i∧(i≤N∧xs.length=i)∧xs.map (·.2)=(List.range i).map (λi=>eA p (dC cf i))∧vF (xs.map (·.1)) cf tb gB i)∧Fr a 58 [(2,.slice adT n cT),(3,.bool gB),(4,pt b4),(5,pt b5),(10,pt qW),(20,.int .i64 N),(21,.int .i64 i)]∧U W w (aa qW 107 [.slice adL i cL,pt q,.slice none 0 0]::Sl 81 1 adL i cL (xs.map cF)::ah (cB W p 0) xs::bK q []::aa b4 28 (bV { cf with me:=me })::aa b5 45 (bP p adP cP)::aA W p adP cP::L)) (N) (⟨0,none,0,[],cf.me,⟨rfl,⟨by omega,rfl⟩,rfl,rfl,λx h=>by cases h⟩,E.ab [2,3,4,5,10,20,21],(show U W w (ah (cB W p 0) []::Sl 81 1 none 0 0 (([]:List (fF×Pl)).map cF)::_) from I).sub⟩) ?_;clear E I;rintro μ a w ⟨i,adL,cL,xs,me,⟨rfl,⟨hi,ca⟩,dj,eN⟩,E,I⟩;refine IF 3 E I (λaj a E=>?_) λaj a E=>?_
 ·
  have aF:i<N:=by omega
  have HL:=OS (i:=i) gb (by omega);refine ST 7 E I (λa w E I=>?_);refine RN 0 E I λa E=>?_;change U W w (aa b4 28 (bV (dC cf i))::_) at I;refine bj 5 E I (ac0 HL (I.pick (aA W p adP cP)) hn aH dY eM (λw' df=>hT _ df.sub)) λz a w E ⟨hz,I⟩=>?_;refine RN 9 E I λa E=>?_;replace E:=E.aM 35;refine RN 7 E I λa E=>?_;refine cr E rfl I underlying104 Ty.t81 rfl rfl rfl rfl (by decide) (by decide) λb43 a w E I ho=>?_;clear ho;replace I:=I.pick (Sl 81 1 adL i cL (xs.map cF));refine RN 0 E I λa E=>?_;refine cQ E rfl I underlying104 Ty.t81 rfl rfl I.ai rfl (by simp[Value.oneCell']) (by decide) (by decide) (by omega) λnK ly a w E I=>?_;rw[show List.map cF xs++_=(xs++[((⟨dC cf i,z⟩:fF),eA p (dC cf i))]).map cF from by rw[cW];rfl]at I;refine ST 2 E I (λa w E I=>?_);refine RN 2 E I λa E=>?_;have kO:=(I.pick (ah (cB W p 0) xs)).pick (fF.J W p ⟨dC cf i,z⟩ 0 (eA p (dC cf i)));have hA:=U.j0 (f:=cB W p 0) (x:=(⟨dC cf i,z⟩,eA p (dC cf i))) kO;refine⟨N-(i+1),by omega,i+1,nK,ly,xs++[(⟨dC cf i,z⟩,eA p (dC cf i))],i,⟨rfl,⟨by omega,by rw[aI,ca];rfl⟩,?_,?_⟩,E.ab [2,3,4,5,10,20,21],?_⟩
  ·rw[cW,dj,range_succ,cW];rfl
  ·refine⟨?_,λx hx=>?_⟩
   ·rw[cW,cW,range_succ,cW,eN.1];rfl
   ·rw[cW]at hx;rcases eS.1 hx with hx | hx
    ·exact eN.2 x hx
    ·rw[iH.1 hx];exact hz
  ·rw[show ({ cf with me:=(i:Int) }:Cf)=dC cf i from rfl];exact hA.sub
 obtain rfl:i=N:=by omega
 refine RN 7 E I λa E=>?_;refine rz E rfl I underlying105 Ty.t90 rfl (by omega) (by omega) λCG a w E I ho=>?_;clear ho;rw[Cd _ rfl]at I;refine ST 2 E I (λa w E I=>?_);refine RT 4 E I ?_;refine⟨⟨qW,q,xs.map (·.1)⟩,rfl,eN,?_⟩;have h1:=I.jX CG;rw[show List.replicate i (Value.slice none 0 0)=[]++(List.replicate i ((none,0,[]):ku)).map bx++[] from by rw[nil_append,append_nil,map_replicate];rfl]at h1;have h2:=OT (U.iX (n:=i) (c:=i) (sz:=1) h1 (by rw[a8,kH,fU]) (bf _) (by simp)) i;refine aN.vB (adL:=adL) (cL:=cL) (adE:=some ⟨CG,0,none⟩) (cE:=i) (xs:=xs) (es:=List.replicate i (none,0,[])) ?_ rfl dj (by rw[map_replicate];rfl);rw[ca,kH];simp only[length_nil]at h2;show U W w (aa qW 107 [.slice adL i cL,pt q,.slice (some ⟨CG,0,none⟩) i i]::Sl 81 1 adL i cL (xs.map cF)::ah (cB W p 0) xs::bK q []::Sl 90 1 (some ⟨CG,0,none⟩) i i ((List.replicate i ((none,0,[]):ku)).map bx)::ah eD (List.replicate i (none,0,[]))::aA W p adP cP::L);exact h2.sub
end
end
section
abbrev dD (x:ga×Pl):Value:=pt x.1.pb
def dd (W:World)(p:Pr)(x:ga×Pl):SP:=b0 W x.1 p x.2
def eZ (x:ku):SP:=Sl 102 3 x.1 x.2.2.length x.2.1 (rows bW x.2.2)
structure ot where
 wb:Nat
 mb:Nat
 m3:List ga
def bC (W:World)(D:ot)(p:Pr)(v:Wd):SP:=λh=>∃ i:(Option Addr×Nat)×(Option Addr×Nat)×(Option Addr×Nat)×List (ga×Pl)×List ku,(i.2.2.2.1.map (·.1)=D.m3∧i.2.2.2.1.map (·.2)=v.ps∧i.2.2.2.2.map (·.2.2)=v.ev) ∧
 cn [aa D.wb 40 [pt D.mb,.slice i.1.1 i.2.2.2.1.length i.1.2,.slice i.2.1.1 v.net.length i.2.1.2,.slice i.2.2.1.1 i.2.2.2.2.length i.2.2.1.2],
  Sl 34 1 i.1.1 i.2.2.2.1.length i.1.2 (i.2.2.2.1.map dD),ah (dd W p) i.2.2.2.1,cg 60 i.2.1.1 v.net.length i.2.1.2 v.net,Sl 70 1 i.2.2.1.1 i.2.2.2.2.length i.2.2.1.2 (i.2.2.2.2.map bx),ah eZ i.2.2.2.2] h
section
variable {W w:World}{L:List SP}{n c k cP cN cE wb i:Nat}{ad adP adN adE:Option Addr}{p:Pr}{v:Wd}{D:ot}{x0 x1 x3:Value}{l net:List Ml}{xs:List (ga×Pl)}{es:List ku}
theorem bC.open (I:U W w (bC W D p v::L)):∃ (adP:Option Addr) (cP:Nat) (adN:Option Addr) (cN:Nat) (adE:Option Addr) (cE:Nat) (xs:List (ga×Pl)) (es:List ku),(xs.map (·.1)=D.m3∧xs.map (·.2)=v.ps∧es.map (·.2.2)=v.ev) ∧
   U W w (aa D.wb 40 [pt D.mb,.slice adP xs.length cP,.slice adN v.net.length cN,.slice adE es.length cE] ::
    Sl 34 1 adP xs.length cP (xs.map dD)::ah (dd W p) xs::cg 60 adN v.net.length cN v.net::Sl 70 1 adE es.length cE (es.map bx)::ah eZ es::L):=by
 obtain⟨i,h1,I⟩:=I.jL (ι:=(Option Addr×Nat)×(Option Addr×Nat)×(Option Addr×Nat)×List (ga×Pl)×List ku) (p:=λi=>i.2.2.2.1.map (·.1)=D.m3∧i.2.2.2.1.map (·.2)=v.ps∧i.2.2.2.2.map (·.2.2)=v.ev)
  (B:=λi h=>cn [aa D.wb 40 [pt D.mb,.slice i.1.1 i.2.2.2.1.length i.1.2,.slice i.2.1.1 v.net.length i.2.1.2,.slice i.2.2.1.1 i.2.2.2.2.length i.2.2.1.2],
  Sl 34 1 i.1.1 i.2.2.2.1.length i.1.2 (i.2.2.2.1.map dD),ah (dd W p) i.2.2.2.1,cg 60 i.2.1.1 v.net.length i.2.1.2 v.net,Sl 70 1 i.2.2.1.1 i.2.2.2.2.length i.2.2.1.2 (i.2.2.2.2.map bx),ah eZ i.2.2.2.2] h) λ_ h=>h
 obtain⟨⟨adP,cP⟩,⟨adN,cN⟩,⟨adE,cE⟩,xs,es⟩:=i;exact⟨adP,cP,adN,cN,adE,cE,xs,es,h1,I.open (M:=[_,_,_,_,_,_]) λ_ h=>h⟩
theorem bC.close (I:U W w (aa D.wb 40 [pt D.mb,.slice adP xs.length cP,.slice adN v.net.length cN,.slice adE es.length cE] ::
     Sl 34 1 adP xs.length cP (xs.map dD)::ah (dd W p) xs::cg 60 adN v.net.length cN v.net::Sl 70 1 adE es.length cE (es.map bx)::ah eZ es::L))
 (h1:xs.map (·.1)=D.m3) (h2:xs.map (·.2)=v.ps) (h3:es.map (·.2.2)=v.ev):U W w (bC W D p v::L) :=
 U.shut (M:=[_,_,_,_,_,_]) I λ_ h=>⟨((adP,cP),(adN,cN),(adE,cE),xs,es),⟨h1,h2,h3⟩,h⟩
theorem OV (I:U W w (cg 60 ad n c l::cg 60 adN k cN net::aa wb 40 [x0,x1,.slice adN k cN,x3]::L))(hn:n≤1000)(hk:net.length≤300) :
   Calls prog 72 #[pt wb,.slice ad n c] w λe w'=>e=.returned (.tuple #[])∧∃ OW OX,U W w' (cg 60 OW (eC net l).length OX (eC net l)::aa wb 40 [x0,x1,.slice OW (eC net l).length OX,x3]::L):=by
 obtain⟨xs,eG,ca,I⟩:=cg.open I;have ba:xs.length=n:=by rw[← ca,← eG,a8]
 subst ba;obtain⟨ys,mw,jl,I⟩:=cg.open (I.pick (cg 60 adN k cN net));subst jl;refine EN func72 ntmps72 rfl rfl λa E=>?_;refine RN 2 E I λa E=>?_;refine aQ (λμ a w=>∃ (i:Nat) (adN:Option Addr) (cN:Nat) (ys:List Mx) (N:List Ml),(μ=xs.length-i∧i≤xs.length∧N=eC net (l.take i)∧ys.map (·.2.2)=N)∧Fr a 30 [(0,pt wb),(1,.slice ad xs.length c),(4,.int .i64 i)]∧U W w (aa wb 40 [x0,x1,.slice adN N.length cN,x3]::Sl 60 3 adN N.length cN (rows b7 ys)::ah cc ys::Sl 60 3 ad xs.length c (rows b7 xs)::ah cc (xs.drop i)::L)) (xs.length) (⟨0,adN,cN,ys,net,⟨rfl,by omega,rfl,mw⟩,E.ab [0,1,4],(show U W w (Sl 60 3 adN net.length cN (rows b7 ys)::ah cc ys::Sl 60 3 ad xs.length c (rows b7 xs)::ah cc (xs.drop 0)::_) from I).sub⟩) ?_;clear E I;rintro μ a w ⟨i,adN,cN,ys,N,⟨rfl,hi,hN,lB⟩,E,I⟩;refine IF 6 E I (λaj a E=>?_) λaj a E=>?_
 ·
  have aF:i<xs.length:=by omega
  have zD:i<l.length:=by omega
  have hNl:N.length≤300:=by rw[hN];exact Hr hk
  have HM:=NZ net zD;rw[← hN]at HM;obtain⟨x,hx⟩:∃ x,x=xs[i]:=⟨_,rfl⟩;have ac1:x.2.2=l[i]:=by
   have h1:(xs.map (·.2.2))[i]?=l[i]?:=by rw[eG]
   rw[bn,aD aF,aD zD,← hx]at h1;simpa using h1
  have e9:xs[i]?=some x:=by rw[hx];exact aD aF
  refine IF 8 E I (λao a E=>?_) λao a E=>?_
  ·
   refine RN 0 E I λa E=>?_;obtain⟨bi,oi,rfl,pZ⟩:=(I.drew.pick (Sl 60 3 ad xs.length c (rows b7 xs))).bU ad (by omega);replace pZ:=jk oc pZ (aD aF);rw[← hx]at pZ;refine rE 0 (λw'=>Rd w' wb 0 [x0,x1,.slice adN N.length cN,x3]∧Rd w' bi (oi+i*3) (b7 x)) [8,9] [0,1,2,3,5,6,7,3004,1008,1009,1010,11,12,1013] E I λa E=>?_;replace I:=I.drew;generalize w.drew=w at I pZ ⊢;have hC:Rd w wb 0 [x0,x1,.slice adN N.length cN,x3]∧Rd w bi (oi+i*3) (b7 x):=⟨I.ai (b:=wb),pZ⟩;have hH:=Hd.any (λw'=>Rd w' wb 0 [x0,x1,.slice adN N.length cN,x3]∧Rd w' bi (oi+i*3) (b7 x));refine RH 7 E I hH hC λa E=>?_;refine QH E (λw hc=>ae E (hc.1 2 _ rfl)) hC λa E=>?_;refine RH 0 E I hH hC λa E=>?_;refine SS E (bT E underlying60 rfl Ty.t60 (hC.2)) λa E=>?_;refine RH 0 E I hH hC λa E=>?_;refine cr E rfl I underlying37 Ty.t60 rfl rfl rfl rfl (by decide) (by decide) λKh a w E I ho=>?_;clear ho;replace hC:=hH.at w ⟨I.ai (b:=wb),jk oc (I.cK bi oi (by omega)) e9⟩;refine RH 0 E I hH hC λa E=>?_;refine cQ E rfl I underlying37 Ty.t60 rfl rfl I.ai rfl (by simp[Value.oneCell']) (by decide) (by decide) (by omega) λEu Ew a w E I=>?_;rw[show rows b7 ys++_=rows b7 (ys++[x]) from by rw[kE];rfl]at I;refine ST 2 E I (λa w E I=>?_);refine RN 3 E I λa E=>?_;rw[kF aF,← hx]at I;have h1:U W w (cc x::ah cc (xs.drop (i+1))::_):=U.fy (l:=x::xs.drop (i+1)) (i:=0) (I.pick (ah cc (x::xs.drop (i+1)))) (by simp);have h3:=U.j0 (f:=cc) (x:=x) ((h1.pick (ah cc ys)).pick (cc x));refine⟨xs.length-(i+1),by omega,i+1,Eu,Ew,ys++[x],N++[l[i]],⟨rfl,by omega,by rw[HM,ph,ak (by omega)],by rw[cW,lB,← ac1];rfl⟩,E.ab [0,1,4],?_⟩;rw[aI,jD];exact h3.sub
  refine RN 3 E I λa E=>?_;rw[kF aF,← hx]at I;have h1:U W w (cc x::ah cc (xs.drop (i+1))::_):=U.fy (l:=x::xs.drop (i+1)) (i:=0) (I.pick (ah cc (x::xs.drop (i+1)))) (by simp);exact⟨xs.length-(i+1),by omega,i+1,adN,cN,ys,N,⟨rfl,by omega,by rw[HM,ph,ag (by omega)],lB⟩,E.ab [0,1,4],h1.sub⟩
 refine RT 0 E I ?_;obtain rfl:i=xs.length:=by omega
 rw[gg (by omega)]at hN;subst hN;exact⟨rfl,adN,cN,(cg.close (I.sub (M:=Sl 60 3 adN (eC net l).length cN (rows b7 ys)::ah cc ys::aa wb 40 [x0,x1,.slice adN (eC net l).length cN,x3]::L)) lB rfl)⟩
end
end
section
section
variable {W w:World}{L:List SP}{c k cP cN cE wb i:Nat}{adP adN adE:Option Addr}{p:Pr}{v:Wd}{D:ot}{net:List Ml}{xs:List (ga×Pl)}{es:List ku}{x:ga}{s xp s':Pl}{t:fN}{cf:Cf}
theorem CH {ps:List Pl}(h2:xs.map (·.2)=ps)(hi:i<xs.length):∃ x,xs[i]?=some (x,ps.getD i Cp):=by
 refine⟨xs[i].1,?_⟩;rw[aD hi,bl,← h2,bn,aD hi];rfl
theorem CI (I:U W w (ah (dd W p) xs::L))(hx:xs[i]?=some (x,s)):U W w (b0 W x p s::ah (dd W p) (xs.eraseIdx i)::L):=by
 obtain⟨hi,h1⟩:=a2.1 hx;have h2:=I.fy hi;rw[h1]at h2;exact h2
theorem CJ (I:U W w (b0 W x p s::ah (dd W p) (xs.eraseIdx i)::L))(hx:xs[i]?=some (x,s)):U W w (ah (dd W p) xs::L):=by
 obtain⟨hi,h1⟩:=a2.1 hx;refine U.xz hi ?_;rw[h1];exact I
theorem CK (hx:xs[i]?=some (x,s)):(xs.set i (x,s')).map dD=xs.map dD∧(xs.set i (x,s')).map (·.1)=xs.map (·.1):=by
 obtain⟨hi,h1⟩:=a2.1 hx;constructor
 ·rw[jy,show dD (x,s')=(xs.map dD)[i]'(by rw[a8];exact hi) from by rw[getElem_map,h1],l7]
 ·rw[jy];show (xs.map (·.1)).set i x=_;rw[show x=(xs.map (·.1))[i]'(by rw[a8];exact hi) from by rw[getElem_map,h1],l7]
theorem bC.put (h1:xs.map (·.1)=D.m3)(h2:xs.map (·.2)=v.ps)(h3:es.map (·.2.2)=v.ev)(hx:xs[i]?=some (x,xp))(net:List Ml)
   (I:U W w (b0 W x p s'::ah (dd W p) (xs.eraseIdx i)::aa D.wb 40 [pt D.mb,.slice adP xs.length cP,.slice adN net.length cN,.slice adE es.length cE] ::
    Sl 34 1 adP xs.length cP (xs.map dD)::cg 60 adN net.length cN net::Sl 70 1 adE es.length cE (es.map bx)::ah eZ es::L)) :
   U W w (bC W D p { v with ps:=v.ps.set i s',net:=net }::L):=by
 obtain⟨hi,_⟩:=a2.1 hx;have h4:=U.kZ (f:=dd W p) (x:=(x,s')) hi I;refine bC.close (adP:=adP) (cP:=cP) (adN:=adN) (cN:=cN) (adE:=adE) (cE:=cE) (xs:=xs.set i (x,s')) (es:=es) ?_ ((CK hx).2.trans h1) (by rw[jy,h2]) h3;rw[bw,(CK hx).1];exact h4.sub
theorem OY (b:Int):IntKind.u8.wrap (IntKind.i64.wrap ((BitVec.ofInt IntKind.i64.bits b &&& BitVec.ofInt IntKind.i64.bits 255).toNat))=((dP b).toNat:Int):=by
 have h1:(BitVec.ofInt IntKind.i64.bits b &&& BitVec.ofInt IntKind.i64.bits 255).toNat=(b%256).toNat:=by
  have h2:(BitVec.ofInt 64 b &&& BitVec.ofInt 64 255).toNat=(BitVec.ofInt 64 b).toNat%256:=by
   rw[BitVec.toNat_and,show (BitVec.ofInt 64 255).toNat=2 ^ 8-1 from rfl,Nat.and_two_pow_sub_one_eq_mod]
  show (BitVec.ofInt 64 b &&& BitVec.ofInt 64 255).toNat=_;rw[h2,BitVec.toNat_ofInt];omega
 rw[h1,fN.u8,dP,dP];have h3:=Int.emod_nonneg b (show (256:Int)≠0 by decide);have h4:=Int.emod_lt_of_pos b (show (0:Int)<256 by decide);have h5:IntKind.i64.wrap ((b%256).toNat:Int)=b%256:=by rw[fH (by omega) (by omega)];omega
 rw[h5,Int.emod_emod_of_dvd _ (by decide)]
set_option maxHeartbeats 1000000 in
theorem ac2 (I:U W w (bC W D p v::L))(hv:bL p cf c v)(a6:dk p)(aH:p.title.size≤1000000000)(hc:c≤1000000)(hf:¬ (3≤t.fn∧t.fn≤6)) :
   Calls prog 50 #[pt D.wb,.agg (dV t).toArray] w λe w'=>e=.returned (.int .i64 (bu p t v).1)∧U W w' (bC W D p (bu p t v).2::L):=by
 replace I:=bC.open I;obtain⟨adP,cP,adN,cN,adE,cE,xs,es,⟨ew,dj,eN⟩,I⟩:=I;have ca:xs.length=v.ps.length:=by rw[← dj,a8]
 have cp:∀ w',U W w' (aa D.wb 40 [pt D.mb,.slice adP xs.length cP,.slice adN v.net.length cN,.slice adE es.length cE]::Sl 34 1 adP xs.length cP (xs.map dD)::ah (dd W p) xs::cg 60 adN v.net.length cN v.net::Sl 70 1 adE es.length cE (es.map bx)::ah eZ es::L)→U W w' (bC W D p v::L):=λw' h=>bC.close h ew dj eN;refine EN func50 ntmps50 rfl rfl λa E=>?_;refine BX 1 E I λb3 a w E I=>?_;change U W w (aa b3 58 (dV t)::_) at I;refine BY 7 E I (λbX a E=>?_) λbX a E=>?_
 ·
  refine RT 7 E I ?_;rw[bu,ak (by omega)];exact⟨rfl,cp _ I.sub⟩
 refine IF 4 E I (λaj a E=>?_) λaj a E=>?_
 ·
  refine RT 2 E I ?_;rw[bu,ak (by omega)];exact⟨rfl,cp _ I.sub⟩
 refine RN 0 E I λa E=>?_;refine cd (M:=λa w=>(¬ (t.fn<1∨8<t.fn)∧Fr a 74 [(0,pt D.wb),(3,pt b3),(4,.int .i64 0)])∧U W w (aa b3 58 (dV t)::aa D.wb 40 [pt D.mb,.slice adP xs.length cP,.slice adN v.net.length cN,.slice adE es.length cE]::Sl 34 1 adP xs.length cP (xs.map dD)::ah (dd W p) xs::cg 60 adN v.net.length cN v.net::Sl 70 1 adE es.length cE (es.map bx)::ah eZ es::L)) ?_ ?_
 ·
  refine BY 5 E I (λbX a E=>?_) λbX a E=>?_
  ·
   refine RN 4 E I λa E=>?_;rw[bo (by omega)]at E;refine RN 1 E I λa E=>?_;exact⟨⟨by omega,E.ab [0,3,4]⟩,I.sub⟩
  refine RN 5 E I λa E=>?_;exact⟨⟨by omega,E.ab [0,3,4]⟩,I.sub⟩
 clear E;(try clear I);rintro a w ⟨⟨hJ,E⟩,I⟩;refine cd (M:=λa w=>(∃ i:Nat,(t.a=i∧i<v.ps.length)∧Fr a 74 [(0,pt D.wb),(3,pt b3),(4,.int .i64 0)])∧U W w (aa b3 58 (dV t)::aa D.wb 40 [pt D.mb,.slice adP xs.length cP,.slice adN v.net.length cN,.slice adE es.length cE]::Sl 34 1 adP xs.length cP (xs.map dD)::ah (dd W p) xs::cg 60 adN v.net.length cN v.net::Sl 70 1 adE es.length cE (es.map bx)::ah eZ es::L)) ?_ ?_
 ·
  refine aX 1 (λw0 w'=>Rd w' b3 0 (dV t)∧Rd w' D.wb 0 [pt D.mb,.slice adP xs.length cP,.slice adN v.net.length cN,.slice adE es.length cE]) [9,10] [0,1001,2,3,4,6,7,8,3005,1009,1010,11,12] E I λa w E I hH=>?_;have hC:=hH.at w ⟨I.ai (b:=b3),I.ai (b:=D.wb)⟩;refine RH 1 E I hH hC λa E=>?_;refine SS E (ae E (hC.1 1 _ rfl)) λa E=>?_;refine RH 2 E I hH hC λa E=>?_;refine E.by (s:=28) (λbX E=>?_) (λbX E=>?_)
  ·
   refine RH 9 E I hH hC λa E=>?_;refine RT 3 E I ?_;have ho:t.a<0∨(v.ps.length:Int)≤t.a:=by omega
   have aR:bu p t v=(7,v):=by rw[bu,ag (by omega),ag hf,gz,ak ho]
   rw[aR];exact⟨rfl,cp _ I.sub⟩
  refine RH 4 E I hH hC λa E=>?_;refine QH E (λw hc=>ae E (hc.1 1 _ rfl)) hC λa E=>?_;refine RH 0 E I hH hC λa E=>?_;refine bm E (bQ E rfl (s:=28)) (ae E (hC.2 1 _ rfl)) rfl λa E=>?_;refine RH 3 E I hH hC λa E=>?_;refine IF 0 E I (λay a E=>?_) λay a E=>?_
  ·
   refine RT 2 E I ?_;have ho:t.a<0∨(v.ps.length:Int)≤t.a:=by omega
   have aR:bu p t v=(7,v):=by rw[bu,ag (by omega),ag hf,gz,ak ho]
   rw[aR];exact⟨rfl,cp _ I.sub⟩
  refine RN 0 E I λa E=>?_;exact⟨⟨t.a.toNat,⟨by omega,by omega⟩,E.ab [0,3,4]⟩,I.sub⟩
 clear E;(try clear I);rintro a w ⟨⟨i,⟨gd,hi⟩,E⟩,I⟩;refine RN 1 E I λa E=>?_;obtain⟨x,hx⟩:∃ x,xs[i]?=some (x,an v i):=CH dj (by omega);have aR:bu p t v=gz p t v:=by rw[bu,ag hJ,ag hf]
 obtain⟨hw,dc,xB⟩:=hv.pl i hi;have uc:(xs.map dD)[i]?=some (pt x.pb):=by rw[bn,hx];rfl
 obtain⟨bp,op,rfl,_⟩:=(I.pick (Sl 34 1 adP xs.length cP (xs.map dD))).bU adP (by omega);refine aX 0 (λw0 w'=>(Rd w' b3 0 (dV t)∧Rd w' D.wb 0 [pt D.mb,.slice (some ⟨bp,op,none⟩) xs.length cP,.slice adN v.net.length cN,.slice adE es.length cE])∧Rd w' bp op (xs.map dD)) [5] [0,1,2,4,3003,1005,6,1007,8] E I λa w E I hH=>?_;have hC:=hH.at w ⟨⟨I.ai (b:=b3),I.ai (b:=D.wb)⟩,I.cK bp op (by omega)⟩;refine RH 4 E I hH hC λa E=>?_;refine QH E (λw hc=>ae E (hc.1.2 1 _ rfl)) hC λa E=>?_;refine RH 0 E I hH hC λa E=>?_;refine SS E (ae E (hC.1.1 1 _ rfl)) λa E=>?_;rw[gd]at E;refine RH 1 E I hH hC λa E=>?_;refine SS E (ae E (hC.2 i _ uc)) λa E=>?_;refine RH 1 E I hH hC λa E=>?_;refine RN 2 E I λa E=>?_;replace I:=CI (I.pick (ah (dd W p) xs)) hx;refine IF 5 E I (λbd a E=>?_) λbd a E=>?_
 ·
  refine RN 5 E I λa E=>?_;refine SS E (gn E underlying3 underlying5) λa E=>?_;rw[OY]at E;refine CL 0 E I (abF (x:=dP t.b) (I.pick (b0 W x p (an v i))) hw a6 aH) λa w E I=>?_;refine RT 1 E I ?_;rw[aR,Cw (by assumption) gd hi];exact⟨rfl,bC.put (adP:=some ⟨bp,op,none⟩) (cP:=cP) (adN:=adN) (cN:=cN) (adE:=adE) (cE:=cE) ew dj eN hx v.net I.sub⟩
 refine IF 3 E I (λbF a E=>?_) λbF a E=>?_
 ·
  replace I:=b0.open (I.pick (b0 W x p (an v i)));refine aY 5 E I (abv (I.pick (aZ x.core (an v i).k)) hw.wc (by omega)) λHN o2 a w E I=>?_;refine CL 0 E I (OV (((I.pick (aa D.wb 40 [pt D.mb,.slice (some ⟨bp,op,none⟩) xs.length cP,.slice adN v.net.length cN,.slice adE es.length cE])).pick (cg 60 adN v.net.length cN v.net)).pick (cg 60 HN (bt (an v i).k).1.length o2 (bt (an v i).k).1)) (NW hw.wc) hv.net.1) λa w E ⟨vG,vH,I⟩=>?_;refine RN 0 E I λa E=>?_;replace I:=b0.fold I x p ⟨(bt (an v i).k).2,(an v i).g⟩;refine RT 2 E I ?_;rw[aR]
  first
   | (rw[xA (by assumption) gd hi];exact⟨rfl,bC.put (adP:=some ⟨bp,op,none⟩) (cP:=cP) (adN:=vG) (cN:=vH) (adE:=adE) (cE:=cE) ew dj eN hx (eC v.net (bt (an v i).k).1) I.sub⟩)
   | (rw[zE (by assumption) gd hi];exact⟨rfl,bC.put (adP:=some ⟨bp,op,none⟩) (cP:=cP) (adN:=vG) (cN:=vH) (adE:=adE) (cE:=cE) ew dj eN hx (eC v.net (cy (an v i).k).1) I.sub⟩)
   | (rw[zF (by omega) gd hi];exact⟨rfl,cp _ (CJ ((I.pick (ah (dd W p) (xs.eraseIdx i))).pick (b0 W x p (an v i))) hx).sub⟩)
 refine IF 3 E I (λeU a E=>?_) λeU a E=>?_
 ·
  replace I:=b0.open (I.pick (b0 W x p (an v i)));refine aY 5 E I (abr (I.pick (aZ x.core (an v i).k)) hw.wc) λHN o2 a w E I=>?_;refine CL 0 E I (OV (((I.pick (aa D.wb 40 [pt D.mb,.slice (some ⟨bp,op,none⟩) xs.length cP,.slice adN v.net.length cN,.slice adE es.length cE])).pick (cg 60 adN v.net.length cN v.net)).pick (cg 60 HN (cy (an v i).k).1.length o2 (cy (an v i).k).1)) (NX hw.wc) hv.net.1) λa w E ⟨vG,vH,I⟩=>?_;refine RN 0 E I λa E=>?_;replace I:=b0.fold I x p ⟨(cy (an v i).k).2,(an v i).g⟩;refine RT 2 E I ?_;rw[aR]
  first
   | (rw[xA (by assumption) gd hi];exact⟨rfl,bC.put (adP:=some ⟨bp,op,none⟩) (cP:=cP) (adN:=vG) (cN:=vH) (adE:=adE) (cE:=cE) ew dj eN hx (eC v.net (bt (an v i).k).1) I.sub⟩)
   | (rw[zE (by assumption) gd hi];exact⟨rfl,bC.put (adP:=some ⟨bp,op,none⟩) (cP:=cP) (adN:=vG) (cN:=vH) (adE:=adE) (cE:=cE) ew dj eN hx (eC v.net (cy (an v i).k).1) I.sub⟩)
   | (rw[zF (by omega) gd hi];exact⟨rfl,cp _ (CJ ((I.pick (ah (dd W p) (xs.eraseIdx i))).pick (b0 W x p (an v i))) hx).sub⟩)
 refine RT 2 E I ?_;rw[aR]
 first
  | (rw[xA (by assumption) gd hi];exact⟨rfl,bC.put (adP:=some ⟨bp,op,none⟩) (cP:=cP) (adN:=vG) (cN:=vH) (adE:=adE) (cE:=cE) ew dj eN hx (eC v.net (bt (an v i).k).1) I.sub⟩)
  | (rw[zE (by assumption) gd hi];exact⟨rfl,bC.put (adP:=some ⟨bp,op,none⟩) (cP:=cP) (adN:=vG) (cN:=vH) (adE:=adE) (cE:=cE) ew dj eN hx (eC v.net (cy (an v i).k).1) I.sub⟩)
  | (rw[zF (by omega) gd hi];exact⟨rfl,cp _ (CJ ((I.pick (ah (dd W p) (xs.eraseIdx i))).pick (b0 W x p (an v i))) hx).sub⟩)
end
end
section
section
variable {W w:World}{L L':List SP}{n c k cP cN cE wb i j:Nat}{adP adN adE:Option Addr}{p:Pr}{v:Wd}{D:ot}{net:List Ml}{xs:List (ga×Pl)}{es:List ku}{x:ga}{s:Pl}{t:fN}{cf:Cf}{m:Ml}
theorem ac3 (I:U W w (bC W D p v::L))(ho:t.n<0∨(v.net.length:Int)≤t.n) :
   Calls prog 70 #[pt D.wb,.agg (dV t).toArray] w λe w'=>e=.returned (.int .i64 3)∧U W w' (bC W D p v::L):=by
 replace I:=bC.open I;obtain⟨adP,cP,adN,cN,adE,cE,xs,es,⟨ew,dj,eN⟩,I⟩:=I;have cp:∀ w',U W w' (aa D.wb 40 [pt D.mb,.slice adP xs.length cP,.slice adN v.net.length cN,.slice adE es.length cE]::Sl 34 1 adP xs.length cP (xs.map dD)::ah (dd W p) xs::cg 60 adN v.net.length cN v.net::Sl 70 1 adE es.length cE (es.map bx)::ah eZ es::L)→U W w' (bC W D p v::L):=λw' h=>bC.close h ew dj eN;refine EN func70 ntmps70 rfl rfl λa E=>?_;refine BX 1 E I λb3 a w E I=>?_;change U W w (aa b3 58 (dV t)::_) at I;refine aX 3 (λw0 w'=>Rd w' b3 0 (dV t)∧Rd w' D.wb 0 [pt D.mb,.slice adP xs.length cP,.slice adN v.net.length cN,.slice adE es.length cE]) [9,10] [0,1001,2,3,4,6,7,8,3005,1009,1010,11,12] E I λa w E I hH=>?_;have hC:=hH.at w ⟨I.ai (b:=b3),I.ai (b:=D.wb)⟩;refine RH 1 E I hH hC λa E=>?_;refine SS E (ae E (hC.1 3 _ rfl)) λa E=>?_;refine RH 2 E I hH hC λa E=>?_;refine E.by (s:=10) (λbX E=>?_) (λbX E=>?_)
 ·
  refine RH 9 E I hH hC λa E=>?_;refine RT 3 E I ?_;exact⟨rfl,cp _ I.sub⟩
 refine RH 4 E I hH hC λa E=>?_;refine QH E (λw hc=>ae E (hc.1 3 _ rfl)) hC λa E=>?_;refine RH 0 E I hH hC λa E=>?_;refine bm E (bQ E rfl (s:=10)) (ae E (hC.2 2 _ rfl)) rfl λa E=>?_;refine RH 3 E I hH hC λa E=>?_;rw[dh (by omega)]at E;refine RT 3 E I ?_;exact⟨rfl,cp _ I.sub⟩
theorem bC.CM {ys:List Mx}(h1:xs.map (·.1)=D.m3)(h2:xs.map (·.2)=v.ps)(h3:es.map (·.2.2)=v.ev)(hy:ys.map (·.2.2)=net)
   (I:U W w (Sl 60 3 adN net.length cN (rows b7 ys)::ah cc ys::aa D.wb 40 [pt D.mb,.slice adP xs.length cP,.slice adN net.length cN,.slice adE es.length cE]::Sl 34 1 adP xs.length cP (xs.map dD)::ah (dd W p) xs::Sl 70 1 adE es.length cE (es.map bx)::ah eZ es::L)) :
   U W w (bC W D p { v with net:=net }::L):=by
 have h4:=cg.close I hy rfl;exact bC.close (v:={ v with net:=net }) (h4.sub (M:=aa D.wb 40 [pt D.mb,.slice adP xs.length cP,.slice adN net.length cN,.slice adE es.length cE]::Sl 34 1 adP xs.length cP (xs.map dD)::ah (dd W p) xs::cg 60 adN net.length cN net::Sl 70 1 adE es.length cE (es.map bx)::ah eZ es::L)) h1 h2 h3
theorem HO {ys:List Mx}{y:Mx}(I:U W w (ah cc ys::L))(hy:ys[j]?=some y):aW w y.1 y.2.2.2.2.length y.2.2.2.2:=by
 obtain⟨h1,h2⟩:=a2.1 hy;have h3:=I.fy h1;rw[h2]at h3;exact U.cv (L:=cc y::_) h3 _ _ (k:=(fQ.head:fQ (Sl 5 1 y.1 y.2.2.2.2.length y.2.1 (bc y.2.2.2.2)::_) y.1 _ _ _ _ _ _)) rfl rfl
set_option maxHeartbeats 2000000 in
theorem ac4 (I:U W w (bC W D p v::L))(hv:bL p cf c v)(a6:dk p)(aH:p.title.size≤1000000000)(hf:t.fn=3∨t.fn=4∨t.fn=5∨t.fn=6)(gN:t.n=j)(hm:v.net[j]?=some m) :
   Calls prog 70 #[pt D.wb,.agg (dV t).toArray] w λe w'=>e=.returned (.int .i64 (gM p t v).1)∧U W w' (bC W D p (gM p t v).2::L):=by
 have eT:=(a2.1 hm).1;have gb:=hv.Hs eT;rw[Cy hm]at gb;obtain⟨hw,dc,xB⟩:=hv.pl m.2.1 gb.1;have np:=hv.net.1;replace I:=bC.open I;obtain⟨adP,cP,adN,cN,adE,cE,xs,es,⟨ew,dj,eN⟩,I⟩:=I;have ca:xs.length=v.ps.length:=by rw[← dj,a8]
 obtain⟨ys,mw,jl,I⟩:=cg.open (I.pick (cg 60 adN v.net.length cN v.net));have lB:ys.length=v.net.length:=by rw[← mw,a8]
 obtain⟨y,hy,jg⟩:∃ y,ys[j]?=some y∧y.2.2=m:=by
  have h1:(ys.map (·.2.2))[j]?=some m:=by rw[mw,hm]
  rw[bn,aD (by omega)]at h1;exact⟨_,aD (by omega),by simpa using h1⟩
 subst jg;obtain⟨bB,on,rfl,_⟩:=(I.pick (Sl 60 3 adN v.net.length cN (rows b7 ys))).bU adN (by omega);refine EN func70 ntmps70 rfl rfl λa E=>?_;refine BX 1 E I λb3 a w E I=>?_;change U W w (aa b3 58 (dV t)::_) at I;refine aX 3 (λw0 w'=>Rd w' b3 0 (dV t)∧Rd w' D.wb 0 [pt D.mb,.slice adP xs.length cP,.slice (some ⟨bB,on,none⟩) v.net.length cN,.slice adE es.length cE]) [9,10] [0,1001,2,3,4,6,7,8,3005,1009,1010,11,12] E I λa w E I hH=>?_;have hC:=hH.at w ⟨I.ai (b:=b3),I.ai (b:=D.wb)⟩;refine RH 1 E I hH hC λa E=>?_;refine SS E (ae E (hC.1 3 _ rfl)) λa E=>?_;refine RH 2 E I hH hC λa E=>?_;rw[bo (by omega)]at E;refine RH 4 E I hH hC λa E=>?_;refine QH E (λw hc=>ae E (hc.1 3 _ rfl)) hC λa E=>?_;refine RH 0 E I hH hC λa E=>?_;refine bm E (bQ E rfl (s:=10)) (ae E (hC.2 2 _ rfl)) rfl λa E=>?_;refine RH 3 E I hH hC λa E=>?_;rw[bo (by omega)]at E;refine aX 2 (λw0 w'=>(Rd w' b3 0 (dV t)∧Rd w' D.wb 0 [pt D.mb,.slice adP xs.length cP,.slice (some ⟨bB,on,none⟩) v.net.length cN,.slice adE es.length cE])∧Rd w' bB (on+j*3) (b7 y)) [5,8] [0,1,2,4,3003,3005,6,3007,1008,1009] E I λa w E I hH=>?_;have hC:=hH.at w ⟨⟨I.ai (b:=b3),I.ai (b:=D.wb)⟩,jk oc (I.cK bB on (by omega)) hy⟩;refine RH 4 E I hH hC λa E=>?_;refine QH E (λw hc=>ae E (hc.1.2 2 _ rfl)) hC λa E=>?_;refine QH E (λw hc=>ae E (hc.1.1 3 _ rfl)) hC λa E=>?_;rw[gN]at E;refine RH 1 E I hH hC λa E=>?_;refine QH E (λw hc=>bT E underlying60 rfl Ty.t60 (hc.2)) hC λa E=>?_;refine RH 0 E I hH hC λa E=>?_;refine e0 E rfl I Ty.t60 rfl λb5 a w E I ho=>?_;clear ho;replace hC:=hH.at w ⟨⟨I.ai (b:=b3),I.ai (b:=D.wb)⟩,jk oc (I.cK bB on (by omega)) hy⟩;refine RH 0 E I hH hC λa E=>?_;refine SA 0 E I λa w E I=>?_;refine RN 0 E I λa E=>?_;refine IF 5 E I (λao a E=>?_) λao a E=>?_
 ·
  refine BY 6 E I (λbX a E=>?_) λbX a E=>?_
  ·
   refine RT 10 E I ?_;have ho:t.a<0∨(y.2.2.2.2.length:Int)≤t.a:=by omega
   rw[ua (by assumption) gN hm,ak ho];exact⟨rfl,bC.CM (adP:=adP) (cP:=cP) (adN:=some ⟨bB,on,none⟩) (cN:=cN) (adE:=adE) (cE:=cE) (net:=v.net) (ys:=ys) ew dj eN mw I.sub⟩
  refine IF 7 E I (λay a E=>?_) λay a E=>?_
  ·
   refine RT 2 E I ?_;have ho:t.a<0∨(y.2.2.2.2.length:Int)≤t.a:=by omega
   rw[ua (by assumption) gN hm,ak ho];exact⟨rfl,bC.CM (adP:=adP) (cP:=cP) (adN:=some ⟨bB,on,none⟩) (cN:=cN) (adE:=adE) (cE:=cE) (net:=v.net) (ys:=ys) ew dj eN mw I.sub⟩
  refine RN 1 E I λa E=>?_;have ho:¬ (t.a<0∨(y.2.2.2.2.length:Int)≤t.a):=by omega
  obtain⟨A,hA⟩:∃ A:Nat,t.a=A:=⟨t.a.toNat,by omega⟩;have CO:A<y.2.2.2.2.length:=by omega
  have Bl:=HO (I.pick (ah cc ys)) hy;replace I:=I.bN 5 1 none;refine RN 2 E I λa E=>?_;refine g9 E rfl I underlying22 Ty.t5 rfl rfl (by decide) (λh0=>Bl.get h0) (by rw[dy];omega) (ep _) (by omega) λnK ly a w E I=>?_;rw[nil_append,eE]at I;rw[eE]at E;refine RN 2 E I λa E=>?_;have agh:=((I.pick (Sl 5 1 nK y.2.2.2.2.length ly (bc y.2.2.2.2))).sl nK).2;obtain⟨bb,pre,post,⟨h3,h4,rfl,h6⟩,gF⟩:=(I.pick (Sl 5 1 nK y.2.2.2.2.length ly (bc y.2.2.2.2))).l4 (by omega);replace I:=gF;clear gF;have hb:(pre++bc y.2.2.2.2++post)[pre.length+A]?=some (.int .u8 (y.2.2.2.2[A].toNat:Int)):=by
   rw[dx,pA (by omega),show pre.length+A-pre.length=A from by omega,mA (by rw[dy];exact CO)];simp[bc,CO]
  refine aX 0 (λw0 w'=>Rd w' b3 0 (dV t)∧w'.cell? ⟨bb,pre.length+A,none⟩=some (.int .u8 (y.2.2.2.2[A].toNat:Int))) [6,7,8] [0,1,5,3002,3,3004,1006,1007,1008,9,10,1011] E I λa w E I hH=>?_;have hC:=hH.at w ⟨I.ai (b:=b3),I.bz (b:=bb) hb⟩;refine RH 3 E I hH hC λa E=>?_;refine QH E (λw hc=>ae E (hc.1 1 _ rfl)) hC λa E=>?_;rw[hA]at E;refine RH 1 E I hH hC λa E=>?_;refine QH E (λw hc=>ae E (hc.2)) hC λa E=>?_;refine RH 0 E I hH hC λa E=>?_;refine SS E (ae E (hC.1 2 _ rfl)) λa E=>?_;refine RH 1 E I hH hC λa E=>?_;refine SS E (gn E underlying3 underlying5) λa E=>?_;rw[OY]at E;refine RH 2 E I hH hC λa E=>?_;refine ST 0 E I (λa w E I=>?_) (hlt:=(by simp only[aI,dy];omega));refine RN 0 E I λa E=>?_;rw[zA (by rw[dy];exact CO),Ob]at I;have OZ:=U.iX (n:=y.2.2.2.2.length) (c:=ly) (sz:=1) (I.jX bb) (by rw[dy,bw,fU]) h4 h6;replace I:=OZ;clear OZ;have pV:=((I.pick (Sl 60 3 (some ⟨bB,on,none⟩) v.net.length cN (rows b7 ys))).sl (some ⟨bB,on,none⟩)).2;obtain⟨jr,vI,O0,⟨m8,m9,o0,CP⟩,gF⟩:=(I.pick (Sl 60 3 (some ⟨bB,on,none⟩) v.net.length cN (rows b7 ys))).l4 (by omega);replace I:=gF;clear gF;obtain⟨rfl,rfl⟩:bB=jr∧on=vI.length:=by simpa using o0
  refine aX 1 (λw0 w'=>Rd w' b3 0 (dV t)∧Rd w' D.wb 0 [pt D.mb,.slice adP xs.length cP,.slice (some ⟨bB,vI.length,none⟩) v.net.length cN,.slice adE es.length cE]) [5] [0,1,2,4,6,3003,1005,7,8,1009] E I λa w E I hH=>?_;have hC:=hH.at w ⟨I.ai (b:=b3),I.ai (b:=D.wb)⟩;refine RH 5 E I hH hC λa E=>?_;refine QH E (λw hc=>ae E (hc.2 2 _ rfl)) hC λa E=>?_;refine RH 0 E I hH hC λa E=>?_;refine SS E (ae E (hC.1 3 _ rfl)) λa E=>?_;rw[gN]at E;refine RH 2 E I hH hC λa E=>?_;refine ST 0 E I (λa w E I=>?_) (hlt:=(by simp only[aI];omega));refine RT 2 E I ?_;rw[ua (by assumption) gN hm,ag ho];refine⟨rfl,?_⟩;rw[hA,c6,bl,aD CO,Option.getD_some];obtain⟨qS,zO⟩:=a2.1 hy;obtain⟨Y,wz⟩:∃ Y:Mx,Y=(some ⟨bb,pre.length,none⟩,ly,(y.2.2.1,y.2.2.2.1,y.2.2.2.2.set A (y.2.2.2.2[A] ^^^ dP t.b))):=⟨_,rfl⟩;have e1:(rows b7 ys).set (j*3+2) (.slice (some ⟨bb,pre.length,none⟩) y.2.2.2.2.length ly)=rows b7 (ys.set j Y):=qD oc ys (i:=j) (k:=2) Y qS (by decide) (by rw[zO,wz];simp[b7,bw]);rw[Nat.add_assoc,zA (by rw[m8];omega),e1]at I;have h8:=U.iX (n:=v.net.length) (c:=cN) (sz:=3) (I.jX bB) (by rw[jv oc,bw,lB]) m9 CP;have h9:=((h8.pick (ah cc ys)).fy qS).tail;have Hw:Sl 5 1 (some ⟨bb,pre.length,none⟩) y.2.2.2.2.length ly (bc (y.2.2.2.2.set A (y.2.2.2.2[A] ^^^ dP t.b)))=cc Y:=by rw[wz,cc];simp only[bw]
  have fh:=(h9.pick (ah cc (ys.eraseIdx j))).pick (Sl 5 1 (some ⟨bb,pre.length,none⟩) y.2.2.2.2.length ly (bc (y.2.2.2.2.set A (y.2.2.2.2[A] ^^^ dP t.b))));rw[Hw]at fh;have lN:=U.kZ (f:=cc) qS fh;refine bC.CM (adP:=adP) (cP:=cP) (adN:=some ⟨bB,vI.length,none⟩) (cN:=cN) (adE:=adE) (cE:=cE) (ys:=ys.set j Y) ew dj eN (by rw[jy,mw,wz]) ?_;rw[bw];exact lN.sub
 refine RN 0 E I λa E=>?_;refine cd (M:=λa w=>∃ (ck:Option Addr) (cM:Nat) (zs:List Mx) (Z:SP),((zs.map (·.2.2)=(if t.fn=5 then v.net else v.net.eraseIdx j)∧(∀ w' L',U W w' (ah cc zs::Z::L')→aW w' y.1 y.2.2.2.2.length y.2.2.2.2)∧y.2.2.2.2.length≤y.2.1)∧Fr a 103 [(0,pt D.wb),(3,pt b3),(5,pt b5)])∧U W w (aa b5 60 (b7 y)::aa b3 58 (dV t)::Sl 60 3 ck zs.length cM (rows b7 zs)::ah cc zs::Z::aa D.wb 40 [pt D.mb,.slice adP xs.length cP,.slice ck zs.length cM,.slice adE es.length cE]::Sl 34 1 adP xs.length cP (xs.map dD)::ah (dd W p) xs::Sl 70 1 adE es.length cE (es.map bx)::ah eZ es::L)) ?_ ?_
 ·
  refine IF 4 E I (λbd a E=>?_) λbd a E=>?_
  ·
   refine RN 0 E I λa E=>?_;have pV:=((I.pick (Sl 60 3 (some ⟨bB,on,none⟩) v.net.length cN (rows b7 ys))).sl (some ⟨bB,on,none⟩)).2;refine aX 0 (λw0 w'=>Rd w' b3 0 (dV t)∧Rd w' D.wb 0 [pt D.mb,.slice adP xs.length cP,.slice (some ⟨bB,on,none⟩) v.net.length cN,.slice adE es.length cE]) [6,8,13,15,16,17] [0,1,2,3,5,7,10,11,12,14,3004,3006,3008,9,3013,1015,1016,1017,1018,19,20,1021] E I λa w E I hH=>?_;have hC:=hH.at w ⟨I.ai (b:=b3),I.ai (b:=D.wb)⟩;refine RH 10 E I hH hC λa E=>?_;refine QH E (λw hc=>ae E (hc.2 2 _ rfl)) hC λa E=>?_;refine QH E (λw hc=>ae E (hc.1 3 _ rfl)) hC λa E=>?_;rw[gN]at E;refine RH 0 E I hH hC λa E=>?_;refine QH E (λw hc=>ae E (hc.1 3 _ rfl)) hC λa E=>?_;rw[gN]at E;refine RH 1 E I hH hC λa E=>?_;refine QH E (λw hc=>ae E (hc.2 2 _ rfl)) hC λa E=>?_;refine RH 0 E I hH hC λa E=>?_;refine SS E (ae E (hC.1 3 _ rfl)) λa E=>?_;rw[gN]at E;refine RH 2 E I hH hC λa E=>?_;have ac5:ft (some ⟨bB,on,none⟩) 0 j 3=some ⟨bB,on,none⟩:=by
    by_cases h0:j=0
    ·subst h0;rfl
    ·rw[pB h0,Nat.zero_mul,Nat.add_zero]
   have xv:rows b7 ys=rows b7 (ys.take j)++rows b7 (ys.drop j):=by rw[← kE,jY]
   have ac6:rows b7 ys=rows b7 (ys.take (j+1))++rows b7 (ys.drop (j+1)):=by rw[← kE,jY]
   have c7:Rd w bB (on+(j+1)*3) (rows b7 (ys.drop (j+1))):=by
    have h1:Rd w bB on (rows b7 ys):=I.cK bB on (by omega);have h2:=h1.part ((j+1)*3) ((ys.length-(j+1))*3);rw[ac6,List.drop_left' (by rw[jv oc,et];omega),gg (by rw[jv oc,c5];omega)]at h2;exact h2
   obtain⟨jr,vI,O0,⟨m8,m9,o0,CP⟩,gF⟩:=(I.pick (Sl 60 3 (some ⟨bB,on,none⟩) v.net.length cN (rows b7 ys))).l4 (by omega);obtain⟨rfl,rfl⟩:bB=jr∧on=vI.length:=by simpa using o0
   rw[xv,← dx vI,dx _ _ O0]at gF;replace I:=U.iX (n:=j) (c:=j) (sz:=3) gF (by rw[jv oc,et];omega) (bf _) (by omega);clear gF;rw[ac5]at E;refine g9 E rfl I underlying37 Ty.t60 rfl rfl (by decide) (λh0=>⟨bB,vI.length+(j+1)*3,pB (by omega),c7⟩) (by rw[jv oc,c5];omega) (Af ZP _) (by omega) λac7 c86 a w E I=>?_;rw[← kE,← sT]at I;have sC:j+(v.net.length-(j+1))=(ys.eraseIdx j).length:=by rw[List.length_eraseIdx_of_lt (by omega)];omega
   rw[sC]at I E;refine ST 2 E I (λa w E I=>?_);refine RN 0 E I λa E=>?_;obtain⟨qS,zO⟩:=a2.1 hy;have h1:=(I.pick (ah cc ys)).fy qS;rw[zO]at h1;have pa:y.2.2.2.2.length≤y.2.1:=(U.sl (L:=cc y::_) (k:=(fQ.head:fQ (Sl 5 1 y.1 y.2.2.2.2.length y.2.1 (bc y.2.2.2.2)::_) y.1 _ _ _ _ _ _)) h1 y.1).2;refine⟨ac7,c86,ys.eraseIdx j,cc y,⟨⟨?_,λw' L' h=>?_,pa⟩,E.ab [0,3,5]⟩,h1.sub⟩
   ·rw[ag (by omega),← mw];simp only[sT,cW,map_take,map_drop]
   ·have h2:=h.pick (cc y);exact U.cv (L:=cc y::_) h2 _ _ (k:=(fQ.head:fQ (Sl 5 1 y.1 y.2.2.2.2.length y.2.1 (bc y.2.2.2.2)::_) y.1 _ _ _ _ _ _)) rfl rfl
  refine RN 0 E I λa E=>?_;obtain⟨qS,zO⟩:=a2.1 hy;have pa:y.2.2.2.2.length≤y.2.1:=by
   have h1:=(I.pick (ah cc ys)).fy qS;rw[zO]at h1;exact (U.sl (L:=cc y::_) (k:=(fQ.head:fQ (Sl 5 1 y.1 y.2.2.2.2.length y.2.1 (bc y.2.2.2.2)::_) y.1 _ _ _ _ _ _)) h1 y.1).2
  refine⟨some ⟨bB,on,none⟩,cN,ys,Sl 5 1 none 0 0 [],⟨⟨by rw[ak (by omega)];exact mw,λw' L' h=>HO h hy,pa⟩,E.ab [0,3,5]⟩,?_⟩;rw[lB];exact (I.bN 5 1 none).sub
 clear E;(try clear I);rintro a w ⟨ck,cM,zs,Z,⟨⟨ra,ac8,pa⟩,E⟩,I⟩;refine IF 5 E I (λbF a E=>?_) λbF a E=>?_
 ·
  refine RT 2 E I ?_;have iI:zs.length=(v.net.eraseIdx j).length:=by rw[← a8 (f:=(·.2.2)),ra,ag (by omega)]
  rw[HC (by assumption) gN hm];rw[ag (by omega)]at ra;refine⟨rfl,?_⟩;refine bC.CM (adP:=adP) (cP:=cP) (adN:=ck) (cN:=cM) (adE:=adE) (cE:=cE) (ys:=zs) ew dj eN ra ?_;rw[← iI];exact I.sub
 refine RN 1 E I λa E=>?_;obtain⟨x,hx⟩:∃ x,xs[y.2.2.2.1]?=some (x,an v y.2.2.2.1):=CH dj (by omega);have uc:(xs.map dD)[y.2.2.2.1]?=some (pt x.pb):=by rw[bn,hx];rfl
 obtain⟨bp,op,rfl,_⟩:=(I.pick (Sl 34 1 adP xs.length cP (xs.map dD))).bU adP (by omega);refine aX 0 (λw0 w'=>(Rd w' b5 0 (b7 y)∧Rd w' D.wb 0 [pt D.mb,.slice (some ⟨bp,op,none⟩) xs.length cP,.slice ck zs.length cM,.slice adE es.length cE])∧Rd w' bp op (xs.map dD)) [5,9] [0,1,2,4,8,3003,3005,6,3007,1009,1010,11] E I λa w E I hH=>?_;have hC:=hH.at w ⟨⟨I.ai (b:=b5),I.ai (b:=D.wb)⟩,I.cK bp op (by omega)⟩;refine RH 5 E I hH hC λa E=>?_;refine QH E (λw hc=>ae E (hc.1.2 1 _ rfl)) hC λa E=>?_;refine QH E (λw hc=>ae E (hc.1.1 1 _ rfl)) hC λa E=>?_;refine RH 1 E I hH hC λa E=>?_;refine QH E (λw hc=>ae E (hc.2 _ _ uc)) hC λa E=>?_;refine RH 0 E I hH hC λa E=>?_;refine SS E (ae E (hC.1.1 2 _ rfl)) λa E=>?_;replace I:=CI (I.pick (ah (dd W p) xs)) hx;refine RH 0 E I hH hC λa E=>?_;refine CL 0 E I (abG (bs:=y.2.2.2.2) (I.pick (b0 W x p (an v y.2.2.2.1))) hw a6 aH (by omega) pa (λw' df=>ac8 w' _ ((df.pick Z).pick (ah cc zs)))) λa w E I=>?_;refine RN 1 E I λa E=>?_;refine RT 0 E I ?_;rw[zH (by omega) (by omega) gN hm];refine⟨rfl,?_⟩;have iI:zs.length=(if t.fn=5 then v.net else v.net.eraseIdx j).length:=by rw[← a8 (f:=(·.2.2)),ra]
 have h1:=cg.close ((I.pick (ah cc zs)).pick (Sl 60 3 ck zs.length cM (rows b7 zs))) ra iI.symm;refine bC.put (adP:=some ⟨bp,op,none⟩) (cP:=cP) (adN:=ck) (cN:=cM) (adE:=adE) (cE:=cE) ew dj eN hx (if t.fn=5 then v.net else v.net.eraseIdx j) ?_;rw[← iI];exact h1.sub
end
end
section
section
variable {W w:World}{L:List SP}{c:Nat}{p:Pr}{v:Wd}{D:ot}{t:fN}{cf:Cf}
theorem ac9 (I:U W w (bC W D p v::L))(hv:bL p cf c v)(a6:dk p)(aH:p.title.size≤1000000000)(hf:t.fn=3∨t.fn=4∨t.fn=5∨t.fn=6) :
   Calls prog 70 #[pt D.wb,.agg (dV t).toArray] w λe w'=>e=.returned (.int .i64 (gM p t v).1)∧U W w' (bC W D p (gM p t v).2::L):=by
 by_cases h0:t.n<0∨(v.net.length:Int)≤t.n
 ·rw[OB h0];exact ac3 I h0
 ·exact ac4 (j:=t.n.toNat) I hv a6 aH hf (by omega) (aD (by omega))
theorem ada (I:U W w (bC W D p v::L))(hv:bL p cf c v)(a6:dk p)(aH:p.title.size≤1000000000)(hf:3≤t.fn∧t.fn≤6) :
   Calls prog 50 #[pt D.wb,.agg (dV t).toArray] w λe w'=>e=.returned (.int .i64 (bu p t v).1)∧U W w' (bC W D p (bu p t v).2::L):=by
 have aR:bu p t v=gM p t v:=by rw[bu,ag (by omega),ak hf]
 rw[aR];refine EN func50 ntmps50 rfl rfl λa E=>?_;refine BX 1 E I λb3 a w E I=>?_;change U W w (aa b3 58 (dV t)::_) at I;refine RN 7 E I λa E=>?_;rw[bo (by omega)]at E;refine RN 4 E I λa E=>?_;rw[bo (by omega)]at E;refine RN 7 E I λa E=>?_;rw[dh (by omega)]at E;refine RN 4 E I λa E=>?_;rw[dh (by omega)]at E;refine CL 4 E I (ac9 (I.pick (bC W D p v)) hv a6 aH (by omega)) λa w E I=>?_;refine RT 1 E I ?_;exact⟨rfl,I.sub⟩
theorem adb (I:U W w (bC W D p v::L))(hv:bL p cf c v)(a6:dk p)(aH:p.title.size≤1000000000)(hc:c≤1000000) :
   Calls prog 50 #[pt D.wb,.agg (dV t).toArray] w λe w'=>e=.returned (.int .i64 (bu p t v).1)∧U W w' (bC W D p (bu p t v).2::L):=by
 by_cases hf:3≤t.fn∧t.fn≤6
 ·exact ada I hv a6 aH hf
 ·exact ac2 I hv a6 aH hc hf
end
end
section
section
variable {W w:World}{L:List SP}{c i:Nat}{p:Pr}{v:Wd}{B:jI}
theorem ade (I:U W w (aN W B p c v::L))(hi:i<v.ps.length)(sC:v.ev.length=v.ps.length)(hl:(v.ev.getD i []).length≤1000000000) :
   Calls prog 34 #[pt B.mb,.int .i64 i] w λe w'=>∃ ad c',e=.returned (.slice ad (v.ev.getD i []).length c')∧U W w' (Sl 135 1 ad (v.ev.getD i []).length c' ((v.ev.getD i []).map cA)::aN W B p c v::L):=by
 replace I:=aN.xC I;obtain⟨adL,cL,adE,cE,xs,es,⟨h1,h2,h3⟩,I⟩:=I;have ca:xs.length=v.ps.length:=by rw[← h2,a8]
 have adf:es.length=v.ps.length:=by rw[← sC,← h3,a8]
 obtain⟨iF,iG,l,lA⟩:∃ iF iG l,es[i]?=some (iF,iG,l):=⟨_,_,_,aD (by omega)⟩;obtain⟨xH,pv⟩:=a2.1 lA;have qZ:v.ev.getD i []=l:=by rw[← h3,bl,bn,lA];rfl
 rw[qZ]at hl ⊢;refine EN func34 ntmps34 rfl rfl λa E=>?_;refine CL 6 E I (sB ((I.pick (Sl 81 1 adL xs.length cL (xs.map cF))).pick (aa B.mb 107 [.slice adL xs.length cL,pt B.q,.slice adE es.length cE])) (by omega)) λa w E I=>?_;refine RN 1 E I λa E=>?_;replace E:=E.aM 8;refine RN 2 E I λa E=>?_;obtain⟨iT,oE,rfl,gq⟩:=(I.pick (Sl 90 1 adE es.length cE (es.map bx))).bU adE (by omega);have mf:=gq i (.slice iF l.length iG) (by rw[bn,lA];rfl);refine RN 6 E I λa E=>?_;refine SS E (ae E (mf)) λa E=>?_;replace I:=(I.pick (ah eD es)).fy xH;rw[pv]at I;change U W w (Sl 135 1 iF l.length iG (l.map cA)::_) at I;refine aY 0 E I (Ow I hl) λad2 c2 a w E I=>?_;refine RT 1 E I ?_;refine⟨ad2,c2,rfl,?_⟩;have h4:=(I.pick (ah eD (es.eraseIdx i))).pick (Sl 135 1 iF l.length iG (l.map cA));have h5:U W w (ah eD es::_):=U.xz (f:=eD) xH (by rw[pv];exact h4);have h6:U W w (aN W B p c v::Sl 135 1 ad2 l.length c2 (l.map cA)::L):=aN.vB (adL:=adL) (cL:=cL) (adE:=some ⟨iT,oE,none⟩) (cE:=cE) (xs:=xs) (es:=es) h5.sub h1 h2 h3;exact h6.sub
end
end
section
def qo (v:Wd):Prop:=∀ i,i<v.ps.length→(an v i).k.ev=[]
theorem adg {v:Wd}{i:Nat}(hi:i<v.ps.length)(hl:v.ev.length=v.ps.length)(h:(an v i).k.ev=[]):Cq i v=v:=by
 have h1:(⟨{ (an v i).k with ev:=[] },(an v i).g⟩:Pl)=v.ps[i]:=by
  rw[show ({ (an v i).k with ev:=[] }:Ks)=(an v i).k from by rw[← h]];show an v i=_;rw[an,bl,aD hi];rfl
 have h2:v.ev.getD i []++(an v i).k.ev=v.ev[i]'(by omega):=by
  rw[h,append_nil,bl,aD (by omega)];rfl
 rw[Cq,h1,h2,l7,l7]
theorem O1 {v:Wd}(hl:v.ev.length=v.ps.length)(h:qo v):∀ i,i≤v.ps.length→cz v i=v
 | 0,_=>rfl
 | i+1,hi=>by
  show Cq i (cz v i)=v;rw[O1 hl h i (by omega)];exact adg (by omega) hl (h i (by omega))
theorem CQ {v:Wd}(hl:v.ev.length=v.ps.length)(h:qo v):lz v=v:=O1 hl h _ (bf _)
theorem O2 (v:Wd):qo (lz v):=λi hi=>by
 have h1:i<v.ps.length:=by rw[lz,(rh v _).1]at hi;exact hi
 rw[lz,zy v (bf _),ak h1]
theorem adh {p:Pr}{t:fN}{v:Wd}(h:t.fn=7):(bu p t v).2=v:=by
 rw[bu,ag (by omega),ag (by omega),gz];split
 ·rfl
 ·rw[ag (by omega),ag (by omega),ag (by omega)]
theorem adi {p:Pr}{t:fN}{v:Wd}(h:qo v):qo (bO p t v):=by
 unfold bO;split
 ·exact h
 ·exact O2 _
section
variable {W w:World}{L:List SP}{c i:Nat}{p:Pr}{v:Wd}{B:jI}{D:ot}{t:fN}{cf:Cf}
theorem O3 {mb:Nat}(hmb:mb=B.mb)(I:U W w (aN W B p c v::L))(hB:B.Ok p (c+10))(hv:bL p cf c v)(kc:9*c+100≤1000000000) :
   Calls prog 29 #[pt mb,.agg (dV t).toArray] w λe w'=>∃ z:Int,e=.returned (.int .i64 z)∧(t.fn≠7→z=(bu p t v).1)∧(t.fn=7→CA B t v z)∧U W w' (aN W B p (c+10) (lz (bu p t v).2)::L):=by
 subst hmb;exact OD I hB hv kc
set_option maxHeartbeats 2000000 in
theorem adj (I:U W w (aN W B p c v::bC W D p v::L))(xI:D.mb=B.mb)(hB:B.Ok p (c+10))(hv:bL p cf c v)(CR:qo v)(kc:9*c+100≤1000000000)
   (O4:∀ (w:World) (u:Wd),bL p cf (c+10) u→qo u→U W w (aN W B p (c+10) u::bC W D p u::L)→Calls prog 33 #[pt D.wb] w λe w'=>e=.returned (.bool true)∧U W w' (aN W B p (c+10) u::bC W D p u::L)) :
   Calls prog 32 #[pt D.wb,.agg (dV t).toArray] w λe w'=>e=.returned (.bool true)∧U W w' (aN W B p (c+10) (bO p t v)::bC W D p (bO p t v)::L):=by
 have jQ:=hB.c;have hu:=hv.step (s:=t);refine EN func32 ntmps32 rfl rfl λa E=>?_;refine BX 1 E I λb3 a w E I=>?_;change U W w (aa b3 58 (dV t)::_) at I;refine IF 6 E I (λaj a E=>?_) λaj a E=>?_
 ·
  refine RN 1 E I λa E=>?_;replace I:=bC.open (I.pick (bC W D p v));obtain⟨adP,cP,adN,cN,adE,cE,xs,es,⟨ew,dj,eN⟩,I⟩:=I;refine bS 0 [4] [0,1,2,3003,1004,1005] E I λa w E I hH hC=>?_;refine RH 5 E I hH hC λa E=>?_;refine bj 0 E I (O3 xI (I.pick (aN W B p c v)) hB hv kc) λz a w E ⟨_,_,I⟩=>?_;refine RN 1 E I λa E=>?_;rw[adh (by assumption),CQ hv.ev CR]at I;replace I:=bC.close (v:=v) (D:=D) (I.sub (M:=aa D.wb 40 [pt D.mb,.slice adP xs.length cP,.slice adN v.net.length cN,.slice adE es.length cE]::Sl 34 1 adP xs.length cP (xs.map dD)::ah (dd W p) xs::cg 60 adN v.net.length cN v.net::Sl 70 1 adE es.length cE (es.map bx)::ah eZ es::aN W B p (c+10) v::L)) ew dj eN;refine CL 1 E I (O4 _ v (hv.more (by omega)) CR (I.pick (aN W B p (c+10) v))) λa w E I=>?_;refine RT 1 E I ?_;rw[bO,ak (by assumption)];exact⟨rfl,I⟩
 refine CL 3 E I (adb (I.pick (bC W D p v)) hv hB.pr hB.sz (by omega)) λa w E I=>?_;refine RN 3 E I λa E=>?_;generalize O5:(bu p t v).2=u at I hu;replace I:=bC.open (I.pick (bC W D p u));obtain⟨adP,cP,adN,cN,adE,cE,zI,zJ,⟨ew,dj,eN⟩,I⟩:=I;have ca:zI.length=u.ps.length:=by rw[← dj,a8]
 have sC:zJ.length=u.ps.length:=by rw[← hu.ev,← eN,a8]
 have xt:=hu.len;refine bS 0 [4] [0,1,2,6,3003,1004,1005,7] E I λa w E I hH hC=>?_;refine RH 6 E I hH hC λa E=>?_;refine bj 0 E I (O3 xI (I.pick (aN W B p c v)) hB hv kc) λz a w E ⟨cV,_,I⟩=>?_;rw[cV (by assumption)]at E;rw[O5]at I;refine RN 1 E I λa E=>?_;rw[bo (by simp)]at E;refine RN 4 E I λa E=>?_;refine aQ (λμ a w=>∃ (i:Nat) (xs:List (ga×Pl)) (es:List ku),(μ=u.ps.length-i∧(i≤u.ps.length∧xs.length=u.ps.length∧es.length=u.ps.length)∧xs.map (·.1)=D.m3∧xs.map (·.2)=(cz u i).ps∧es.map (·.2.2)=(cz u i).ev)∧Fr a 65 [(0,pt D.wb),(6,.int .i64 i)]∧U W w (aa D.wb 40 [pt D.mb,.slice adP u.ps.length cP,.slice adN u.net.length cN,.slice adE u.ps.length cE]::Sl 34 1 adP u.ps.length cP (xs.map dD)::ah (dd W p) xs::cg 60 adN u.net.length cN u.net::Sl 70 1 adE u.ps.length cE (es.map bx)::ah eZ es::aN W B p (c+10) (lz u)::L)) (u.ps.length) (⟨0,zI,zJ,⟨rfl,⟨by omega,ca,sC⟩,ew,dj,eN⟩,E.ab [0,6],(by rw[ca,sC]at I;exact I.sub)⟩) ?_;clear E I;rintro μ a w ⟨i,xs,es,⟨rfl,⟨hi,zK,zL⟩,u4,tD,qY⟩,E,I⟩;refine IF 9 E I (λay a E=>?_) λay a E=>?_
 ·
  have aF:i<u.ps.length:=by omega
  obtain⟨x,hx⟩:∃ x,xs[i]?=some (x,(an (cz u i) i)):=CH tD (by omega);have uc:(xs.map dD)[i]?=some (pt x.pb):=by rw[bn,hx];rfl
  have hd:=hu.cz (i:=i) (by omega);obtain⟨hw,dc,xB⟩:=hd.pl i (by rw[(rh u i).1];exact aF);have HE:=hd.kT;have OE:=hw.wc.kT;obtain⟨iF,iG,l,lA⟩:∃ iF iG l,es[i]?=some (iF,iG,l):=⟨_,_,_,aD (by omega)⟩;obtain⟨_,pv⟩:=a2.1 lA;have hs:l.length≤9*(c+2):=(HE l (by rw[← qY];exact cR.2 ⟨(iF,iG,l),by rw[← pv];exact iZ _,rfl⟩)).1;refine RN 1 E I λa E=>?_;obtain⟨bp,op,rfl,_⟩:=(I.pick (Sl 34 1 adP u.ps.length cP (xs.map dD))).bU adP (by omega);obtain⟨iT,oE,rfl,_⟩:=(I.pick (Sl 70 1 adE u.ps.length cE (es.map bx))).bU adE (by omega);replace I:=b0.open (CI (I.pick (ah (dd W p) xs)) hx);refine aX 0 (λw0 w'=>(Rd w' D.wb 0 [pt D.mb,.slice (some ⟨bp,op,none⟩) u.ps.length cP,.slice adN u.net.length cN,.slice (some ⟨iT,oE,none⟩) u.ps.length cE]∧Rd w' iT oE (es.map bx))∧Rd w' bp op (xs.map dD)∧Rd w' x.pb 0 (eY p x (an (cz u i) i).g)) [8,10,11,15,17,18,19,20,21,22,23] [0,1,2,4,5,6,7,9,12,13,14,16,3003,3008,3010,3011,1015,1017,1018,1019,1020,1021,1022,1023,24,1025] E I λa w E I hH=>?_;have hC:=hH.at w ⟨⟨I.ai (b:=D.wb),I.cK iT oE (by omega)⟩,I.cK bp op (by omega),I.ai (b:=x.pb)⟩;refine RH 12 E I hH hC λa E=>?_;refine QH E (λw hc=>ae E (hc.1.1 3 _ rfl)) hC λa E=>?_;refine QH E (λw hc=>ae E (hc.1.1 3 _ rfl)) hC λa E=>?_;refine RH 1 E I hH hC λa E=>?_;refine QH E (λw hc=>ae E (hc.1.2 i (.slice iF l.length iG) (by rw[bn,lA];rfl))) hC λa E=>?_;refine RH 0 E I hH hC λa E=>?_;refine SS E (ae E (hC.1.1 1 _ rfl)) λa E=>?_;refine RH 1 E I hH hC λa E=>?_;refine SS E (ae E (hC.2.1 i _ uc)) λa E=>?_;refine RH 2 E I hH hC λa E=>?_;refine SS E (ae E (hC.2.2 0 _ rfl)) λa E=>?_;refine RH 0 E I hH hC λa E=>?_;refine aY 0 E I (abg (I.pick (aZ x.core (an (cz u i) i).k))) λam jJ a w E I=>?_;replace hC:=hH.at w ⟨⟨I.ai (b:=D.wb),I.cK iT oE (by omega)⟩,I.cK bp op (by omega),I.ai (b:=x.pb)⟩;replace I:=(I.pick (ah eZ es)).fy (i:=i) (by omega);rw[pv]at I;change U W w (Sl 102 3 iF l.length iG (rows bW l)::_) at I;refine RH 0 E I hH hC λa E=>?_;refine g9 E rfl I underlying70 Ty.t102 rfl rfl (by decide) (λh0=>(I.pick (Sl 102 3 am (an (cz u i) i).k.ev.length jJ (rows bW (an (cz u i) i).k.ev))).bU am h0) (by rw[jv BK]) (Af F1 _) (by omega) λxJ xK a w E I=>?_;replace hC:=hH.at w ⟨⟨I.ai (b:=D.wb),I.cK iT oE (by omega)⟩,I.cK bp op (by omega),I.ai (b:=x.pb)⟩;have hcE:=((I.pick (Sl 70 1 (some ⟨iT,oE,none⟩) u.ps.length cE (es.map bx))).sl (some ⟨iT,oE,none⟩)).2;obtain⟨jr,pre,post,⟨h3,h4,h5,h6⟩,gF⟩:=(I.pick (Sl 70 1 (some ⟨iT,oE,none⟩) u.ps.length cE (es.map bx))).l4 (by omega);replace I:=gF;clear gF;obtain⟨rfl,rfl⟩:iT=jr∧oE=pre.length:=by simpa using h5
  refine RH 1 E I hH hC λa E=>?_;refine ST 0 E I (λa w E I=>?_) (hlt:=(by simp only[aI,a8];omega));refine RN 3 E I λa E=>?_;have qZ:(cz u i).ev.getD i []=l:=by rw[← qY,bl,bn,lA];rfl
  have zM:(es.map bx).set i (.slice xJ (l.length+(an (cz u i) i).k.ev.length) xK)=(es.set i (xJ,xK,l++(an (cz u i) i).k.ev)).map bx:=by
   rw[jy,bx,aI]
  have dz:=I;rw[zA (by rw[a8];omega),zM]at dz;replace dz:=U.iX (n:=u.ps.length) (c:=cE) (sz:=1) (dz.jX iT) (by rw[a8,bw];omega) h4 h6;have zB:=b0.fold dz x p ⟨{ (an (cz u i) i).k with ev:=[] },(an (cz u i) i).g⟩;have hk:=U.kZ (f:=dd W p) (x:=(x,⟨{ (an (cz u i) i).k with ev:=[] },(an (cz u i) i).g⟩)) (i:=i) (by omega) ((zB.pick (ah (dd W p) (xs.eraseIdx i))).pick (b0 W x p ⟨{ (an (cz u i) i).k with ev:=[] },(an (cz u i) i).g⟩));have qe:Sl 102 3 xJ (l.length+(an (cz u i) i).k.ev.length) xK (rows bW l++rows bW (an (cz u i) i).k.ev)=eZ (xJ,xK,l++(an (cz u i) i).k.ev):=by
   rw[eZ,aI,kE]
  have hq:=(hk.pick (ah eZ (es.eraseIdx i))).pick (Sl 102 3 xJ (l.length+(an (cz u i) i).k.ev.length) xK (rows bW l++rows bW (an (cz u i) i).k.ev));rw[qe]at hq;have eQ:=U.kZ (f:=eZ) (i:=i) (by omega) hq;refine⟨u.ps.length-(i+1),by omega,i+1,xs.set i (x,⟨{ (an (cz u i) i).k with ev:=[] },(an (cz u i) i).g⟩),es.set i (xJ,xK,l++(an (cz u i) i).k.ev),⟨rfl,⟨by omega,by rw[bw];exact zK,by rw[bw];exact zL⟩,(CK hx).2.trans u4,?_,?_⟩,E.ab [0,6],?_⟩
  ·rw[jy,tD];rfl
  ·rw[jy,qY,← qZ];rfl
  ·rw[(CK hx).1];exact eQ.sub
 refine RN 1 E I λa E=>?_;obtain rfl:i=u.ps.length:=by omega
 have eI:bO p t v=lz u:=by rw[bO,ag (by assumption),O5]
 rw[eI];have hD:U W w (bC W D p (lz u)::aN W B p (c+10) (lz u)::L):=by
  refine bC.close (adP:=adP) (cP:=cP) (adN:=adN) (cN:=cN) (adE:=adE) (cE:=cE) (xs:=xs) (es:=es) ?_ u4 tD qY;rw[zK,zL,show (lz u).net=u.net from (rh u _).2.1];exact I.sub
 replace I:=hD.pick (aN W B p (c+10) (lz u));refine CL 1 E I (O4 _ (lz u) (hu.drain.more (by omega)) (O2 u) I) λa w E I=>?_;refine RT 1 E I ?_;exact⟨rfl,I⟩
end
end
section
section
variable {p:Pr}{cf:Cf}{K:Int→Prop}{G G':List (List UInt8)}{v:Wd}{c i j x y:Nat}{n:Nat}{T:Nat→Nat}{net:List Ml}{ev:List (List km)}{m:Ml}{q:Pk}{b:UInt8}
theorem vJ (hi:i<n):an (gf p cf n) i=eA p (dC cf i):=by
 rw[an,gf,bl,bn,getElem?_range hi];rfl
theorem sG:(gf p cf n).ps.length=n:=by rw[gf,a8,length_range]
theorem ud (h:eW cf)(hi:i<cf.n.toNat):eW (dC cf i):=by
 obtain⟨⟨h1,h2,h3⟩,h4⟩:=h;refine⟨⟨h1,?_,h3⟩,h4⟩;show fB (i:Int) 0 (cf.n-1);unfold fB at h1 ⊢;omega
theorem HP (h:eW cf):bL p cf 0 (gf p cf cf.n.toNat):=by
 refine⟨h,sG,?_,λi hi=>?_,⟨Nat.zero_le _,λm hm=>by cases hm⟩,λe he=>?_⟩
 ·rw[sG];exact kH
 ·rw[sG]at hi;rw[vJ hi];have h1:=ud h hi;obtain⟨mr,h2⟩:=vE p h1;refine⟨cu.new h1,?_,by rw[h2];exact bf _⟩;rw[h2];exact (WC.new h1).2.2
 ·have h1:=CS (show e∈List.replicate _ [] from he);subst h1;exact⟨Nat.zero_le _,λx hx=>by cases hx⟩
theorem O6 (h:eW cf):qo (gf p cf cf.n.toNat):=λi hi=>by
 rw[sG]at hi;rw[vJ hi];obtain⟨mr,h2⟩:=vE p (ud h hi);rw[h2];rfl
theorem zP (h:eW cf)(hi:i<cf.n.toNat)(hj:j<cf.n.toNat):bq (gf p cf cf.n.toNat) i j=cf.aK.toNat:=by
 rw[bq,vJ hi];obtain⟨mr,h2⟩:=vE p (ud h hi);rw[h2];show ((List.replicate cf.n.toNat (List.replicate cf.aK.toNat (0:UInt8))).getD j []).length=_;rw[bl,List.getElem?_replicate,ak hj];exact kH
theorem O7 (h:eW cf)(hi:i<cf.n.toNat)(hj:j<cf.n.toNat):au (eA p (dC cf i)).k j=fC cf.aK.toNat:=by
 obtain⟨mr,h2⟩:=vE p (ud h hi);rw[h2,au,bl];show ((List.replicate cf.n.toNat (fC cf.aK.toNat))[j]?).getD _=_;rw[List.getElem?_replicate,ak hj];rfl
theorem gA.new (h:eW cf):gA p cf K (List.replicate cf.n.toNat (List.replicate cf.aK.toNat 0)) (gf p cf cf.n.toNat):=by
 have hl:=sG (p:=p) (cf:=cf) (n:=cf.n.toNat);refine⟨λi hi=>?_,λa b E hb CF=>?_,λi hi=>?_,λm hm=>(by cases hm),λl hl e he=>?_,λi hi=>?_⟩
 ·rw[hl]at hi;rw[vJ hi];have h1:=ud h hi;obtain⟨mr,h2⟩:=vE p h1;refine⟨cu.new h1,by rw[h2];exact Ext.refl _,by rw[h2];rfl,λj hj=>?_⟩;have lG:j<cf.n.toNat:=by
   rw[h2]at hj;have:j<(List.replicate cf.n.toNat (fC cf.aK.toNat)).length:=hj
   rwa [kH]at this
  rw[O7 h hi lG];exact⟨rfl,Nat.zero_le _,λh=>absurd h (by show ¬ 0<0;omega)⟩
 ·rw[hl]at E hb;rw[zP h hb E,zP h E hb,qn,vJ E,O7 h E hb];exact⟨bf _,Nat.le_add_right _ _⟩
 ·rw[hl]at hi;rw[zP h hi hi];have h1:cf.aK.toNat≤aw (an (gf p cf cf.n.toNat) i).k:=by
   rw[vJ hi];obtain⟨mr,h2⟩:=vE p (ud h hi);rw[h2];have hc:=(WC.new (ud h hi)).1;refine FL hc.lu λl hl=>?_;have:=CS (show l∈List.replicate cf.n.toNat (List.replicate cf.aK.toNat (0:UInt8)) from hl);rw[this,kH];exact bf _
  omega
 ·have h1:=CS (show l∈List.replicate _ [] from hl);subst h1;cases he
 ·rw[O6 h i hi] ;intro e he;cases he
structure Lv (p:Pr)(cf:Cf)(T:Nat→Nat)(v:Wd):Prop where
 ok:∃ c,bL p cf c v
 iV:∃ G,gA p cf (·=1) G v
 op:∀ i,i<v.ps.length→(an v i).k.cl=false∧(an v i).k.now≤T i∧(an v i).k.ev=[]
 ev:∀ l∈v.ev,l=[]
theorem Lv.more (h:Lv p cf T v){T':Nat→Nat}(ht:∀ i,i<v.ps.length→T i≤T' i):Lv p cf T' v:=⟨h.ok,h.iV,λi hi=>⟨(h.op i hi).1,fG (h.op i hi).2.1 (ht i hi),(h.op i hi).2.2⟩,h.ev⟩
theorem Lv.calm (h:Lv p cf T v):qo v:=λi hi=>(h.op i hi).2.2
theorem Lv.still (h:Lv p cf T v):lz v=v:=by
 obtain⟨c,hv⟩:=h.ok;exact CQ hv.ev h.calm
theorem Lv.new (h:eW cf):Lv p cf (λ_=>0) (gf p cf cf.n.toNat):=⟨⟨0,HP h⟩,⟨_,gA.new h⟩,λi hi=>by
 rw[sG]at hi;rw[vJ hi];obtain⟨mr,h2⟩:=vE p (ud h hi);rw[h2];exact⟨rfl,bf _,rfl⟩,λl hl=>CS (show l∈List.replicate _ [] from hl)⟩
theorem Lv.len (h:Lv p cf T v):v.ps.length=cf.n.toNat∧2≤v.ps.length∧v.ps.length≤8:=by
 obtain⟨c,hv⟩:=h.ok;exact⟨hv.n,hv.len⟩
theorem Lv.O8 (h:Lv p cf T v)(hi:i<v.ps.length)(hj:j<v.ps.length):aw (an v i).k≤bq v i j:=by
 obtain⟨c,hv⟩:=h.ok;exact w4 (va (by rw[(hv.pl i hi).1.wc.ls,hv.kn hi];exact hj))
theorem Lv.O9 (h:Lv p cf T v)(hi:i<v.ps.length)(hx:∀ j,j<v.ps.length→x≤bq v i j):x≤aw (an v i).k:=by
 obtain⟨c,hv⟩:=h.ok;refine FL (hv.pl i hi).1.wc.lu λl hl=>?_;obtain⟨j,hj,rfl⟩:=yZ hl;rw[(hv.pl i hi).1.wc.ls,hv.kn hi]at hj;have:=hx j hj;rw[bq,bl,aD (by rw[(hv.pl i hi).1.wc.ls,hv.kn hi];exact hj)]at this;exact this
theorem Lv.front {h:Nat}(kS:Lv p cf T v)(hi:i<v.ps.length)(hx:∀ j,j<v.ps.length→h≤bq v i j)(hy:j<v.ps.length)(he:bq v i j=h):aw (an v i).k=h :=
 D3 (he ▸ kS.O8 hi hy) (kS.O9 hi hx)
theorem Lv.head (h:Lv p cf T v)(hi:i<v.ps.length):aG (an v i).k=bq v i i:=by
 obtain⟨c,hv⟩:=h.ok;rw[aG,(hv.ri hi).1];rfl
theorem Lv.adk (h:Lv p cf T v)(hi:i<v.ps.length)(hj:j<v.ps.length):bq v i j≤bq v j j:=by
 obtain⟨c,hv⟩:=h.ok;obtain⟨G,iU⟩:=h.iV;exact (iU.CE hv hi hj).1
theorem Lv.al (h:Lv p cf T v)(hi:i<v.ps.length)(b n:Int):Lv p cf T (bO p ⟨1,i,b,n⟩ v)∧(bO p ⟨1,i,b,n⟩ v).net=v.net∧(bO p ⟨1,i,b,n⟩ v).ps.length=v.ps.length ∧
   (∀ x y,bq (bO p ⟨1,i,b,n⟩ v) x y=bq v x y+if (x=i∧y=i)∧bq v i i<1000∧bq v i i<cf.br.toNat+aw (an v i).k then 1 else 0) ∧
   (bq v i i<1000∧bq v i i<cf.br.toNat+aw (an v i).k→(bu p ⟨1,i,b,n⟩ v).1=0):=by
 obtain⟨c,hv⟩:=h.ok;obtain⟨G,iU⟩:=h.iV;obtain⟨eB,xF,b6,hn,_⟩:=hv.ri hi;have aR:bu p ⟨1,i,b,n⟩ v=((dK p (dP b) (an v i)).1,{ v with ps:=v.ps.set i (dK p (dP b) (an v i)).2 }):=by
  rw[bu,ag (by show ¬ ((1:Int)<1∨(8:Int)<1);omega),ag (by show ¬ ((3:Int)≤1∧(1:Int)≤6);omega),Cw rfl rfl hi]
 obtain⟨⟨G',h1⟩,h2⟩:=iU.al hv hi (dP b);have sm:=hv.al hi (dP b);have wj:(dK p (dP b) (an v i)).2.k.cl=(an v i).k.cl∧(dK p (dP b) (an v i)).2.k.now=(an v i).k.now∧(dK p (dP b) (an v i)).2.k.ev=(an v i).k.ev:=by
  by_cases h0:(dK p (dP b) (an v i)).1=0
  ·obtain⟨_,mr,hk⟩:=(iU.pl i hi).al h0;rw[hk];exact⟨rfl,rfl,rfl⟩
  ·rw[OI (hv.pl i hi).1 h0];exact⟨rfl,rfl,rfl⟩
 have kS:Lv p cf T { v with ps:=v.ps.set i (dK p (dP b) (an v i)).2 }:=⟨⟨_,sm⟩,⟨G',h1⟩,λj hj=>by
  have lG:j<v.ps.length:=by have:j<(v.ps.set i _).length:=hj;rwa [bw]at this
  rw[rf hi];split
  ·rename_i e;subst e;rw[wj.1,wj.2.1,wj.2.2];exact h.op _ hi
  ·exact h.op j lG,h.ev⟩
 have eI:bO p ⟨1,i,b,n⟩ v={ v with ps:=v.ps.set i (dK p (dP b) (an v i)).2 }:=by
  rw[bO,ag (by show ¬ (1:Int)=7;omega),aR,kS.still]
 have HQ:(dK p (dP b) (an v i)).1=0↔bq v i i<1000∧bq v i i<cf.br.toNat+aw (an v i).k:=by
  have hd:=h.head hi;show (c1 (dP b) (an v i).k).1=0↔_;rw[c1,ag (by rw[(h.op i hi).1];decide),← hd,← xF];split
  ·exact⟨λh=>absurd h (by intro e;cases e),λh=>by omega⟩
  ·split
   ·exact⟨λh=>absurd h (by intro e;cases e),λh=>by omega⟩
   ·exact⟨λ_=>by omega,λ_=>rfl⟩
 rw[eI];refine⟨kS,rfl,bw,λx y=>?_,λh=>by rw[aR];exact HQ.2 h⟩;rw[h2];by_cases e:x=i∧y=i
 ·by_cases e2:(dK p (dP b) (an v i)).1=0
  ·rw[ak ⟨e,e2⟩,ak ⟨e,HQ.1 e2⟩]
  ·rw[ag (λh=>e2 h.2),ag (λh=>e2 (HQ.2 h.2))]
 ·rw[ag (λh=>e h.1),ag (λh=>e h.1)]
noncomputable def nN (v:Wd)(i:Nat):List Ml:=((List.range v.ps.length).filter (·≠i)).map λj=>(i,j,aS (dO (an v i).k j))
theorem adl {k:Ks}(hc:k.cl=false)(hn:k.now<39):bt k=((bG k).map λi=>(k.me,i,aS (dO k i)),{ k with now:=k.now+1 }):=by
 rw[bt,ag (by rw[hc];decide)];simp only;have:(bG { k with now:=k.now+1 }).find? (λi=>decide (jE { k with now:=k.now+1 } i))=none:=by
  rw[List.find?_eq_none];intro i _;rw[oA,jE];show ¬ (_+40≤k.now+1);omega
 rw[this];rfl
theorem Pa:∀ {l net:List Ml},net.length+l.length≤300→eC net l=net++l
 | [],net,_=>by rw[append_nil];rfl
 | m::l,net,h=>by
  rw[eR]at h;show eC (ph net m) l=_;rw[ph,ak (by omega),Pa (by rw[aI,jD];omega),dx];rfl
theorem Lv.tick (h:Lv p cf T v)(hT:T i<39)(hi:i<v.ps.length)(hf:v.net.length+v.ps.length≤300)(b n:Int):Lv p cf (λj=>if j=i then T j+1 else T j) (bO p ⟨2,i,b,n⟩ v)∧(bO p ⟨2,i,b,n⟩ v).net=v.net++nN v i∧(bO p ⟨2,i,b,n⟩ v).ps.length=v.ps.length ∧
   (∀ x y,bq (bO p ⟨2,i,b,n⟩ v) x y=bq v x y)∧(∀ m∈nN v i,pw m=bq v i i)∧(bu p ⟨2,i,b,n⟩ v).1=0:=by
 obtain⟨c,hv⟩:=h.ok;obtain⟨G,iU⟩:=h.iV;obtain⟨eB,xF,b6,hn,_⟩:=hv.ri hi;have ho:=h.op i hi;have gd:=adl ho.1 (by omega);have gS:(bt (an v i).k).1=nN v i:=by rw[gd,nN,bG,hn,eB]
 have mE:(nN v i).length≤v.ps.length:=by
  rw[nN,a8];exact fG (pO _ _) (by rw[length_range];exact bf _)
 have aR:bu p ⟨2,i,b,n⟩ v=(0,{ v with ps:=v.ps.set i ⟨(bt (an v i).k).2,(an v i).g⟩,net:=eC v.net (bt (an v i).k).1 }):=by
  rw[bu,ag (by show ¬ ((2:Int)<1∨(8:Int)<2);omega),ag (by show ¬ ((3:Int)≤2∧(2:Int)≤6);omega),xA rfl rfl hi]
 obtain⟨h1,h2⟩:=iU.tick hv hi rfl;have kS:Lv p cf (λj=>if j=i then T j+1 else T j) { v with ps:=v.ps.set i ⟨(bt (an v i).k).2,(an v i).g⟩,net:=eC v.net (bt (an v i).k).1 }:=⟨⟨_,hv.tick hi⟩,⟨G,h1⟩,λj hj=>by
  have lG:j<v.ps.length:=by have:j<(v.ps.set i _).length:=hj;rwa [bw]at this
  rw[rf hi];split
  ·rename_i e;subst e;show (bt (an v i).k).2.cl=false∧(bt (an v i).k).2.now≤_∧(bt (an v i).k).2.ev=[];rw[gd];exact⟨ho.1,by show (an v i).k.now+1≤if i=i then _ else _;rw[ak rfl];omega,ho.2.2⟩
  ·have:=h.op j lG;exact⟨this.1,by split <;> omega,this.2.2⟩,h.ev⟩
 have eI:bO p ⟨2,i,b,n⟩ v={ v with ps:=v.ps.set i ⟨(bt (an v i).k).2,(an v i).g⟩,net:=eC v.net (bt (an v i).k).1 }:=by
  rw[bO,ag (by show ¬ (2:Int)=7;omega),aR,kS.still]
 rw[eI];refine⟨kS,?_,bw,λx y=>h2 x y,λm hm=>?_,by rw[aR]⟩
 ·show eC v.net (bt (an v i).k).1=_;rw[gS,Pa (by omega)]
 ·rw[← gS]at hm;obtain⟨q,_,hq⟩:=iU.OR hv hi rfl hm;exact hq
theorem adm (hj:j<v.ps.length)(bD:j≠i):∃ m∈nN v i,m.1=i∧m.2.1=j :=
 ⟨(i,j,aS (dO (an v i).k j)),cR.2 ⟨j,List.mem_filter.2 ⟨mem_range.2 hj,by simpa using bD⟩,rfl⟩,rfl,rfl⟩
theorem adn:(nN v i).length≤v.ps.length:=by
 rw[nN,a8];exact fG (pO _ _) (by rw[length_range];exact bf _)
theorem Lv.ado (h:Lv p cf T v)(wA:m∈v.net)(yt:∀ m∈net,m∈v.net)(hl:net.length≤v.net.length):Lv p cf T { v with ps:=v.ps.set m.2.1 (dB p m.2.2 (an v m.2.1)).2,net:=net }∧(dB p m.2.2 (an v m.2.1)).1=0 ∧
   (∀ x y,bq { v with ps:=v.ps.set m.2.1 (dB p m.2.2 (an v m.2.1)).2,net:=net } x y=if x=m.2.1∧y=m.1 then max (bq v x y) (pw m) else bq v x y)∧m.1<v.ps.length∧m.2.1<v.ps.length∧m.1≠m.2.1:=by
 obtain⟨c,hv⟩:=h.ok;obtain⟨G,iU⟩:=h.iV;obtain⟨q,hq⟩:=iU.net m wA;obtain⟨h1,h2⟩:=iU.recv hv wA yt;have hi:=hq.lt.2;obtain⟨eB,xF,b6,hn,_⟩:=hv.ri hi;obtain⟨_,h0,mr,hk⟩:=(iU.pl _ hi).y6 hq.iV (h.op _ hi).1 (by rw[hq.to,eB]) (by rw[hq.fr,hn];have:=hq.lt.1;omega) (by rw[hq.id,b6]) hq.kind;rw[← hq.bs]at h0 hk;have np:=hv.net.1;refine⟨⟨⟨_,hv.recv hi m.2.2 (net:=net) (by omega) λm hm=>hv.net.2 m (yt m hm)⟩,⟨G,h1⟩,λj hj=>?_,h.ev⟩,h0,λx y=>?_,hq.lt.1,hi,λe=>hq.iV.may.2.2.1 (by rw[hq.fr,hq.to,e])⟩
 ·have lG:j<v.ps.length:=by have:j<(v.ps.set m.2.1 _).length:=hj;rwa [bw]at this
  rw[rf hi];split
  ·rename_i e;subst e;rw[hk];exact h.op _ hi
  ·exact h.op j lG
 ·rw[h2];by_cases e:x=m.2.1∧y=m.1
  ·rw[ak ⟨e,(h.op _ hi).1⟩,ak e]
  ·rw[ag (λh=>e h.1),ag e]
theorem HR (p:Pr){r:List Ml}(hm:v.net=m::r)(a b:Int):bu p ⟨3,a,b,0⟩ v=((dB p m.2.2 (an v m.2.1)).1,{ v with ps:=v.ps.set m.2.1 (dB p m.2.2 (an v m.2.1)).2,net:=r }):=by
 rw[bu,ag (by show ¬ ((3:Int)<1∨(8:Int)<3);omega),ak (by show (3:Int)≤3∧(3:Int)≤6;omega),zH (j:=0) (m:=m) (by show (3:Int)≠4;omega) (by show (3:Int)≠6;omega) rfl (by rw[hm];rfl)];show (_,Wd.mk _ (if (3:Int)=5 then v.net else v.net.eraseIdx 0) _)=_;rw[ag (by omega),hm];rfl
theorem Lv.send (h:Lv p cf T v){r:List Ml}(hm:v.net=m::r)(a b:Int):Lv p cf T (bO p ⟨3,a,b,0⟩ v)∧(bO p ⟨3,a,b,0⟩ v).net=r∧(bO p ⟨3,a,b,0⟩ v).ps.length=v.ps.length ∧
   (∀ x y,bq (bO p ⟨3,a,b,0⟩ v) x y=if x=m.2.1∧y=m.1 then max (bq v x y) (pw m) else bq v x y)∧(bu p ⟨3,a,b,0⟩ v).1=0∧m.1<v.ps.length∧m.2.1<v.ps.length∧m.1≠m.2.1:=by
 obtain⟨h1,h2,h3,h4⟩:=h.ado (m:=m) (net:=r) (by rw[hm];exact gY) (λm' pn=>by rw[hm];exact gP _ pn) (by rw[hm,eR];omega);have eI:bO p ⟨3,a,b,0⟩ v={ v with ps:=v.ps.set m.2.1 (dB p m.2.2 (an v m.2.1)).2,net:=r }:=by
  rw[bO,ag (by show ¬ (3:Int)=7;omega),HR p hm,h1.still]
 rw[eI];exact⟨h1,rfl,bw,h3,by rw[HR p hm];exact h2,h4⟩
noncomputable def py (p:Pr):Nat→Wd→Wd
 | 0,v=>v
 | k+1,v=>py p k (bO p ⟨3,0,0,0⟩ v)
theorem Lv.CT:∀ {l:List Ml} {v:Wd},Lv p cf T v→v.net=l→Lv p cf T (py p l.length v)∧(py p l.length v).net=[]∧(py p l.length v).ps.length=v.ps.length ∧
   (∀ x y,bq v x y≤bq (py p l.length v) x y)∧(∀ x,x<v.ps.length→bq (py p l.length v) x x=bq v x x)∧(∀ m∈l,pw m≤bq (py p l.length v) m.2.1 m.1)∧∀ x y,(∀ m∈l,m.2.1=x→m.1=y→False)→bq (py p l.length v) x y=bq v x y
 | [],v,h,hm=>⟨h,hm,rfl,λ_ _=>bf _,λ_ _=>rfl,λm hm=>(by cases hm),λ_ _ _=>rfl⟩
 | m::l,v,h,hm=>by
  obtain⟨h1,h2,h3,h4,_,_,_,bD⟩:=h.send hm 0 0;obtain⟨g1,iJ,m8,m9,o0,CP,adp⟩:=Lv.CT h1 h2;rw[eR];show Lv p cf T (py p l.length _)∧_;have adr:∀ x y,bq v x y≤bq (bO p ⟨3,0,0,0⟩ v) x y:=λx y=>by rw[h4];split <;> omega
  refine⟨g1,iJ,m8.trans h3,λx y=>fG (adr x y) (m9 x y),λx hx=>?_,λm' pn=>?_,λx y bR=>?_⟩
  ·have:=o0 x (by rw[h3];exact hx);refine this.trans ?_;rw[h4,ag];exact λe=>bD (e.2.symm.trans e.1)
  ·rcases List.mem_cons.1 pn with rfl | pn
   ·refine fG ?_ (m9 _ _);rw[h4,ak ⟨rfl,rfl⟩];omega
   ·exact CP m' pn
  ·refine (adp x y λm' pn=>bR m' (gP _ pn)).trans ?_;rw[h4,ag (λe=>bR m gY e.1.symm e.2.symm)]
end
end
section
noncomputable def ue (p:Pr)(tk:Nat→Bool)(b:Int)(v:Wd):Nat→Wd
 | 0=>v
 | i+1=>if tk i=true then bO p ⟨2,i,0,0⟩ (bO p ⟨1,i,b+i,0⟩ (ue p tk b v i)) else bO p ⟨1,i,b+i,0⟩ (ue p tk b v i)
noncomputable def vK (p:Pr)(v:Wd):Wd:=py p v.net.length v
structure uf (p:Pr)(cf:Cf)(t:Nat)(h:Nat→Nat)(v:Wd):Prop where
 lC:Lv p cf (λ_=>t) v
 net:v.net=[]
 hd:∀ x,x<v.ps.length→bq v x x=h x
 fr:∀ x,x<v.ps.length→h x<cf.br.toNat+aw (an v x).k
structure pz (p:Pr)(cf:Cf)(t h:Nat)(v:Wd):Prop where
 lC:Lv p cf (λ_=>t) v
 net:v.net=[]
 kn:∀ x y,x<v.ps.length→y<v.ps.length→bq v x y=h
section
variable {p:Pr}{cf:Cf}{v u:Wd}{i j x y k t:Nat}{h:Nat→Nat}{tk:Nat→Bool}
theorem pz.new (hm:eW cf):pz p cf 0 cf.aK.toNat (gf p cf cf.n.toNat) :=
 ⟨Lv.new hm,rfl,λx y hx hy=>by rw[sG]at hx hy;exact zP hm hx hy⟩
theorem pz.front (e:pz p cf t k v)(hi:i<v.ps.length):aw (an v i).k=k∧aG (an v i).k=k:=by
 have h1:=e.kn i i hi hi;exact⟨e.lC.front hi (λj hj=>by rw[e.kn i j hi hj];exact bf _) hi h1,by rw[e.lC.head hi,h1]⟩
theorem pz.base (e:pz p cf t k v):uf p cf t (λ_=>k) v:=by
 obtain⟨c,hv⟩:=e.lC.ok;exact⟨e.lC,e.net,λx hx=>e.kn x x hx hx,λx hx=>by rw[(e.front hx).1];have:=hv.ON.1;omega⟩
structure rj (p:Pr)(cf:Cf)(t:Nat)(h:Nat→Nat)(tk:Nat→Bool)(i:Nat)(v u:Wd):Prop where
 lC:Lv p cf (λj=>if j<i then t+1 else t) u
 len:u.ps.length=v.ps.length
 HS:u.net.length≤i*v.ps.length
 kn:∀ x y,x<v.ps.length→y<v.ps.length→bq u x y=if x=y∧x<i then h x+1 else bq v x y
 on:∀ x y,x<v.ps.length→y<i→x≠y→tk y=true→∃ m∈u.net,(m.1=y∧m.2.1=x)∧pw m=h y+1
 of:∀ m∈u.net,m.1<i
theorem uf.half (e:uf p cf t h v):rj p cf t h tk 0 v v :=
 ⟨e.lC.more λi hi=>by rw[ag (Nat.not_lt_zero _)];exact bf _,rfl,by rw[e.net];exact Nat.zero_le _,λx y hx hy=>by rw[ag (λh=>Nat.not_lt_zero _ h.2)],λx y _ hy=>absurd hy (Nat.not_lt_zero _),λm hm=>by rw[e.net]at hm;cases hm⟩
theorem rj.al (e:rj p cf t h tk i v u)(hB:uf p cf t h v)(hi:i<v.ps.length)(hh:∀ x,x<v.ps.length→h x<1000)(b n:Int):rj p cf t h (λj=>decide (j≠i)&&tk j) (i+1) v (bO p ⟨1,i,b,n⟩ u)∧(bO p ⟨1,i,b,n⟩ u).net=u.net∧Lv p cf (λj=>if j<i then t+1 else t) (bO p ⟨1,i,b,n⟩ u):=by
 obtain⟨h1,h2,h3,h4,_⟩:=e.lC.al (i:=i) (by rw[e.len];exact hi) b n;have hhi:=hh i hi;have h5:bq u i i=h i:=by rw[e.kn i i hi hi,ag (by omega),hB.hd i hi]
 have h6:aw (an v i).k≤aw (an u i).k:=e.lC.O9 (by rw[e.len];exact hi) λj hj=>by
  rw[e.len]at hj;have h7:=hB.lC.O8 hi hj;rw[e.kn i j hi hj,ag (by omega)];exact h7
 have h8:=hB.fr i hi;refine⟨⟨h1.more λj hj=>?_,h3.trans e.len,?_,λx y hx hy=>?_,λx y hx hy bD jC=>?_,λm hm=>?_⟩,h2,h1⟩
 ·split <;> split <;> omega
 ·rw[h2,Nat.succ_mul];have:=e.HS;omega
 ·rw[h4,e.kn x y hx hy];by_cases e1:x=i∧y=i
  ·obtain⟨rfl,rfl⟩:=e1;rw[ag (by omega),ak ⟨⟨rfl,rfl⟩,by omega,by omega⟩,ak (by omega),hB.hd _ hi]
  ·rw[ag (c:=(x=i∧y=i)∧_) (λh=>e1 h.1),Nat.add_zero];by_cases e2:x=y∧x<i
   ·rw[ak e2,ak (by omega)]
   ·rw[ag e2,ag (by omega)]
 ·simp only[fq,oA]at jC;rw[h2];exact e.on x y hx (by omega) bD jC.2
 ·rw[h2]at hm;have:=e.of m hm;omega
theorem rj.next (e:rj p cf t h tk i v u)(hB:uf p cf t h v)(hi:i<v.ps.length)(hh:∀ x,x<v.ps.length→h x<1000)(ht:t<39)(b n b' n':Int):rj p cf t h tk (i+1) v (bO p ⟨2,i,b',n'⟩ (bO p ⟨1,i,b,n⟩ u))∧(bO p ⟨2,i,b',n'⟩ (bO p ⟨1,i,b,n⟩ u)).net=u.net++nN (bO p ⟨1,i,b,n⟩ u) i:=by
 obtain⟨e1,h2,h1⟩:=e.al hB hi hh b n;have h3:=e1.len;have ib:=h1.len.2.2;have cC:i*v.ps.length≤8*8:=Nat.mul_le_mul (by omega) (by omega);have np:=e.HS;obtain⟨g1,iJ,m8,m9,o0,_⟩:=h1.tick (i:=i) (by show (if i<i then t+1 else t)<39;rw[ag (by omega)];exact ht) (by rw[h3];exact hi) (by rw[h2,h3];omega) b' n';refine⟨⟨g1.more λj hj=>?_,m8.trans h3,?_,λx y hx hy=>by rw[m9];exact e1.kn x y hx hy,λx y hx hy bD jC=>?_,λm hm=>?_⟩,by rw[iJ,h2]⟩
 ·show (if j=i then (if j<i then t+1 else t)+1 else if j<i then t+1 else t)≤if j<i+1 then t+1 else t
  split <;> split <;> (try split) <;> omega
 ·have:=adn (v:=bO p ⟨1,i,b,n⟩ u) (i:=i);rw[iJ,h2,aI,Nat.succ_mul];omega
 ·rw[iJ,h2];by_cases e2:y=i
  ·subst e2;obtain⟨m,hm,h5,h6⟩:=adm (v:=bO p ⟨1,y,b,n⟩ u) (i:=y) (j:=x) (by rw[h3];exact hx) bD;exact⟨m,List.mem_append_right _ hm,⟨h5,h6⟩,by rw[o0 m hm,e1.kn y y hi hi,ak ⟨rfl,by omega⟩]⟩
  ·obtain⟨m,hm,h5⟩:=e.on x y hx (by omega) bD jC;exact⟨m,mem_append_left _ hm,h5⟩
 ·rw[iJ,h2]at hm;rcases eS.1 hm with hm | hm
  ·have:=e.of m hm;omega
  ·obtain⟨j,_,rfl⟩:=cR.1 hm;show i<i+1;omega
theorem uf.Pb (hB:uf p cf t h v)(hh:∀ x,x<v.ps.length→h x<1000)(ht:t<39)(tk:Nat→Bool)(b:Int):∀ i,i≤v.ps.length→rj p cf t h tk i v (ue p tk b v i)
 | 0,_=>hB.half
 | i+1,hi=>by
  have h1:=hB.Pb hh ht tk b i (by omega);rw[ue];split
  ·exact (h1.next hB (by omega) hh ht _ _ _ _).1
  ·rename_i hk;have h2:=(h1.al hB (by omega) hh (b+i) 0).1;exact⟨h2.lC,h2.len,h2.HS,h2.kn,λx y hx hy bD jC=>h2.on x y hx hy bD (by
    simp only[fq,oA];exact⟨λe=>hk (by rw[← e];exact jC),jC⟩),h2.of⟩
structure ads (p:Pr)(cf:Cf)(t:Nat)(h:Nat→Nat)(tk:Nat→Bool)(v u:Wd):Prop where
 lC:Lv p cf (λ_=>t+1) u
 len:u.ps.length=v.ps.length
 net:u.net=[]
 hd:∀ x,x<v.ps.length→bq u x x=h x+1
 up:∀ x y,x<v.ps.length→y<v.ps.length→bq v x y≤bq u x y
 all:∀ x y,x<v.ps.length→y<v.ps.length→tk y=true→bq u x y=h y+1
theorem rj.CT (e:rj p cf t h tk v.ps.length v u)(hB:uf p cf t h v):ads p cf t h tk v (vK p u):=by
 obtain⟨h1,h2,h3,h4,h5,h6,_⟩:=e.lC.CT (l:=u.net) rfl;have hl:=h3.trans e.len;have HT:∀ y,y<v.ps.length→bq (py p u.net.length u) y y=h y+1:=λy hy=>by
  rw[h5 y (by rw[e.len];exact hy),e.kn y y hy hy,ak ⟨rfl,hy⟩]
 refine⟨h1.more λj hj=>by rw[hl]at hj;rw[ak hj];exact bf _,hl,h2,HT,λx y hx hy=>?_,λx y hx hy jC=>?_⟩
 ·refine fG ?_ (h4 x y);rw[e.kn x y hx hy];split
  ·rename_i e1;rw[e1.1,hB.hd y hy];omega
  ·exact bf _
 ·by_cases e1:x=y
  ·subst e1;exact HT x hx
  ·obtain⟨m,hm,⟨h7,h8⟩,h9⟩:=e.on x y hx hy e1 jC;have fh:=h6 m hm;rw[h7,h8,h9]at fh;have lN:=h1.adk (i:=x) (j:=y) (by rw[hl];exact hx) (by rw[hl];exact hy);rw[HT y hy]at lN;exact D3 lN fh
noncomputable def vL (p:Pr)(b:Int)(v:Wd):Wd:=vK p (ue p (λ_=>true) b v v.ps.length)
theorem pz.round (e:pz p cf t k v)(hh:k<1000)(ht:t<39)(b:Int):pz p cf (t+1) (k+1) (vL p b v)∧(vL p b v).ps.length=v.ps.length:=by
 have h1:=(e.base.Pb (λ_ _=>hh) ht (λ_=>true) b _ (bf _)).CT e.base;exact⟨⟨h1.lC,h1.net,λx y hx hy=>h1.all x y (by rw[← h1.len];exact hx) (by rw[← h1.len];exact hy) rfl⟩,h1.len⟩
end
end
section
theorem HU {a b c:Nat}(h:a ^^^ c=b ^^^ c):a=b:=by
 have h1:=di (· ^^^ c) h;simpa [Nat.xor_assoc] using h1
theorem adt {x y:Nat}(hx:x<4294967296)(hy:y<4294967296)(h:p1 x=p1 y):x=y:=by
 have hb:∀ z,z<4294967296→(z/2).testBit 31=false:=λz hz=>Nat.testBit_lt_two_pow (by omega);have hd:∀ z w,z<4294967296→w<4294967296→z/2 ^^^ 3988292384≠w/2:=λz w hz hw e=>by
  have h1:=di (Nat.testBit · 31) e;simp only[Nat.testBit_xor,hb z hz,hb w hw]at h1;exact absurd h1 (by decide)
 unfold p1 at h;split at h <;> split at h
 ·have:=HU h;omega
 ·exact absurd h (hd _ _ hx hy)
 ·exact absurd h.symm (hd _ _ hy hx)
 ·omega
theorem Pc {x y:Nat}(hx:x<4294967296)(hy:y<4294967296):∀ {k},lQ k x=lQ k y→x=y
 | 0,h=>h
 | k+1,h=>Pc hx hy (k:=k) (adt (wR hx k) (wR hy k) h)
theorem Pd {x y:Nat}{b c:UInt8}(hx:x<4294967296)(hy:y<4294967296)(h:oZ x b=oZ y c):x ^^^ b.toNat=y ^^^ c.toNat:=by
 have h1:=lk b;have h2:=lk c;exact Pc (Nat.xor_lt_two_pow (n:=32) hx (by show _<4294967296;omega)) (Nat.xor_lt_two_pow (n:=32) hy (by show _<4294967296;omega)) h
theorem Pf:∀ (bs:List UInt8) {x y:Nat},x<4294967296→y<4294967296→bs.foldl oZ x=bs.foldl oZ y→x=y
 | [],_,_,_,_,h=>h
 | b::bs,x,y,hx,hy,h=>HU (Pd hx hy (Pf bs (wS b hx) (wS b hy) h))
theorem adu {a b c:Nat}(h:c ^^^ a=c ^^^ b):a=b:=HU (c:=c) (by rw[Nat.xor_comm a,Nat.xor_comm b];exact h)
theorem Ph:∀ (bs:List UInt8) {i:Nat} {c:UInt8} {x:Nat},x<4294967296→(h:i<bs.length)→(bs.set i c).foldl oZ x=bs.foldl oZ x→c=bs[i]
 | b::bs,0,c,x,hx,_,h=>by
  have h1:=Pd hx hx (Pf bs (wS c hx) (wS b hx) h);exact UInt8.toNat.inj (adu h1)
 | b::bs,i+1,c,x,hx,hi,h=>Ph bs (i:=i) (wS b hx) (by simpa using hi) h
theorem adv {bs:List UInt8}{i:Nat}{c:UInt8}(hi:i<bs.length)(h:gJ (bs.set i c)=gJ bs):c=bs[i]:=by
 refine Ph bs (x:=4294967295) (by decide) hi ?_;have h1:=wT bs;have h2:=wT (bs.set i c);unfold gJ at h;show nt _=nt _;omega
theorem adw {q:Pk}{k:Nat}{c:UInt8}(hk:k<(hZ q).length)(hc:c≠(hZ q)[k]):ea ((hZ q).set k c)=none:=by
 refine Bk λp ⟨_,_,hp⟩=>?_;have hl:(eV p).length=(eV q).length:=by
  have h1:=di List.length hp;rw[bw,hZ,hZ,aI,aI,lS,lS]at h1;omega
 by_cases hb:k<(eV q).length
 ·have h2:(hZ q).set k c=(eV q).set k c++eJ (gJ (eV q)):=by rw[hZ,sN _ _ hb]
  rw[h2,hZ]at hp;obtain⟨h3,h4⟩:=List.append_inj hp (by rw[bw];exact hl);have h5:=KZ (yL _) (yL _) h4;rw[h3]at h5;have h6:=adv hb h5;refine hc (h6.trans ?_);simp only[hZ];rw[List.getElem_append_left hb]
 ·have h2:(hZ q).set k c=eV q++(eJ (gJ (eV q))).set (k-(eV q).length) c:=by rw[hZ,uu _ _ (by omega)]
  rw[h2,hZ]at hp;obtain⟨h3,h4⟩:=List.append_inj hp hl;rw[h3]at h4;have mS:k-(eV q).length<(eJ (gJ (eV q))).length:=by
   have h1:=hk;rw[hZ,aI]at h1;omega
  have h5:c=(eJ (gJ (eV q)))[k-(eV q).length]:=by
   have h6:=di (λl=>l[k-(eV q).length]?) h4;simp only[getElem?_set_self mS,aD mS]at h6;exact (p0 h6).symm
  refine hc (h5.trans ?_);simp only[hZ];rw[List.getElem_append_right (by omega)]
end
end Go.Proofs.YteoldcfapaiobaaGreat
