/- A match of players of whom none lies, plainly: the document's R3. -/
import Derived.Test.YteoldcfapaiobaaGreatC15ArgC
namespace Go.Proofs.YteoldcfapaiobaaGreat
open Tryz
open List (mem_cons_self length_range getElem?_append_right nil_append length_nil getElem?_range getElem_map eraseIdx_eq_take_drop_succ take_length append_nil mem_or_eq_of_mem_set getElem_mem map_take map_drop mem_singleton mem_of_mem_eraseIdx range_succ getElem?_set_ne set_getElem_self length_filter_le map_replicate)
open Go.RowKit
set_option linter.unusedVariables false
set_option linter.unusedSimpArgs false
set_option maxRecDepth 10000
set_option synthInstance.maxSize 4000
set_option synthInstance.maxHeartbeats 400000
section
def bF (v:Wd)(i j:Nat):Nat:=((an v i).k.ls.getD j []).length
def pJ (v:Wd)(i j:Nat):Nat:=(ar (an v i).k j).has
noncomputable def rD (m:Ml):Nat:=match ew m.2.2 with
 | some q=>if q.kind=1 then q.first.toNat+q.al.length else 0
 | none=>0
structure oL (p:Pr)(cf:Cf)(K:Int→Prop)(G:List (List UInt8))(v:Wd)(m:Ml)(q:Pk):Prop where
 kW:s6 p G q
 kind:K q.kind
 fr:q.aV=m.1
 to:q.to=m.2.1
 bs:m.2.2=aS q
 lt:m.1<v.ps.length∧m.2.1<v.ps.length
 id:q.id=cf.id
 uT:q.kind=1→q.c9.toNat≤bF v m.1 m.2.1∧q.first.toNat≤bF v m.2.1 m.1∧q.first.toNat+q.al.length≤q.c9.toNat+cf.bt.toNat
structure db (p:Pr)(cf:Cf)(K:Int→Prop)(G:List (List UInt8))(v:Wd):Prop where
 pl:∀ i,i<v.ps.length→fA p G (an v i)
 ac:∀ i j,i<v.ps.length→j<v.ps.length→i≠j→pJ v i j≤bF v j i∧bF v i j≤pJ v i j+cf.bt.toNat
 hd:∀ i,i<v.ps.length→bF v i i≤ax (an v i).k+cf.bt.toNat
 net:∀ m∈v.net,∃ q,oL p cf K G v m q
 bx:∀ l∈v.ev,∀ e∈l,e.1≠3
 s7:∀ i,i<v.ps.length→∀ e∈(an v i).k.ev,e.1≠3
section
variable {p:Pr}{cf:Cf}{K:Int→Prop}{G G':List (List UInt8)}{v u:Wd}{c i j x y:Nat}{s':Pl}{net:List Ml}{ev:List (List jy)}{m:Ml}{q:Pk}{t:fU}{b:UInt8}
theorem bD.oM (h:bD p cf c v)(hi:i<v.ps.length):(an v i).k.me=i∧(an v i).k.bt=cf.bt.toNat∧(an v i).k.id=cf.id∧(an v i).k.n=v.ps.length∧(an v i).k.aK=cf.aK.toNat:=by
 have h1:=(h.pl i hi).2.1;have h2:(ff (an v i).k).me=(i:Int):=by rw[h1]
 have h3:(ff (an v i).k).bt=cf.bt:=by rw[h1]
 have h4:(ff (an v i).k).id=cf.id:=by rw[h1]
 have h5:(ff (an v i).k).aK=cf.aK:=by rw[h1]
 simp only[ff]at h2 h3 h4 h5;exact⟨by omega,by omega,h4,h.s4 hi,by omega⟩
theorem bD.win (h:bD p cf c v):1≤cf.bt.toNat∧cf.bt.toNat≤16:=by
 have h1:=h.may.2.1.2.1;unfold fv at h1;omega
theorem s8 (hi:i<v.ps.length):bF ⟨v.ps.set i s',net,ev⟩ x y=if i=x then (s'.k.ls.getD y []).length else bF v x y:=by
 rw[bF,oG hi];split <;> rfl
theorem abX (hi:i<v.ps.length):pJ ⟨v.ps.set i s',net,ev⟩ x y=if i=x then (ar s'.k y).has else pJ v x y:=by
 rw[pJ,oG hi];split <;> rfl
theorem Nl (hi:i<v.ps.length):v.ps.set i (an v i)=v.ps:=by
 rw[an,bl,aI hi];exact set_getElem_self _
theorem Nm {l:List (List UInt8)}{a:List UInt8}(hi:i<l.length):((l.set i a).getD j []).length=if i=j then a.length else (l.getD j []).length:=by
 rw[bl,jF];split
 ·rename_i h;subst h;rfl
 ·rw[bl]
theorem abY {l a:List UInt8}{f:Nat}(h1:f≤l.length)(h2:f+a.length≤1000)(h3:l.length≤1000):(ds l f a).length=max l.length (f+a.length):=by
 rw[ds,ae (by omega),aL,et,c6];omega
theorem abZ (now head:Nat)(q:Pk)(z:Pe):(fQ now head q z).has=if z.has<q.c9.toNat∧q.c9.toNat≤head then q.c9.toNat else z.has:=by
 unfold fQ;simp only;split <;> rfl
theorem db.Gk (h:db p cf K G v)(hv:bD p cf c v)(hi:i<v.ps.length)(hj:j<v.ps.length):bF v i j≤bF v j j∧(G.getD j []).length=bF v j j:=by
 have h1:=(h.pl j hj).own;rw[(hv.oM hj).1]at h1;obtain⟨t,ht⟩:=(h.pl i hi).ext.2 j (by rw[(hv.pl i hi).1.wc.ls,(hv.oM hi).2.2.2.1];exact hj);have h2:(G.getD j []).length=bF v j j:=by rw[← h1];rfl
 refine⟨?_,h2⟩;rw[← h2,ht,aL,bF];omega
theorem db.Nn (h:db p cf K G v)(hv:bD p cf c v):G.length=v.ps.length∧G≠[]:=by
 have h0:=hv.len;have h1:=h.pl 0 (by omega);exact⟨by rw[h1.lens,hv.s4 (by omega)],h1.Gj⟩
theorem oL.more (h:oL p cf K G v m q)(Bp:Ext G G')(h0:G≠[])(lr:G.length=v.ps.length)(hl:u.ps.length=v.ps.length)(hk:∀ a b,bF v a b≤bF u a b):oL p cf K G' u m q:=by
 refine⟨h.kW.ext Bp h0 (by have:=h.lt.1;have:=h.fr;omega),h.kind,h.fr,h.to,h.bs,by rw[hl];exact h.lt,h.id,λh1=>?_⟩;obtain⟨cZ,dT,a3⟩:=h.uT h1;exact⟨gN cZ (hk _ _),gN dT (hk _ _),a3⟩
theorem oL.dec (h:oL p cf K G v m q):ew m.2.2=some q:=by rw[h.bs];exact JD h.kW.may h.kW.sum
theorem oL.val (h:oL p cf K G v m q):rD m=if q.kind=1 then q.first.toNat+q.al.length else 0:=by rw[rD,h.dec]
theorem db.put (h:db p cf K G v)(hv:bD p cf c v)(hi:i<v.ps.length)(hH:fA p G' s')(Bp:Ext G G')(mA:∀ j,j≠i→G'.getD j []=G.getD j [])(hk:∀ j,bF v i j≤(s'.k.ls.getD j []).length)
   (jT:∀ j,j<v.ps.length→j≠i→(ar s'.k j).has≤bF v j i∧(s'.k.ls.getD j []).length≤(ar s'.k j).has+cf.bt.toNat) (gJ:(s'.k.ls.getD i []).length≤ax s'.k+cf.bt.toNat)
   (Gl:∀ e∈s'.k.ev,e.1≠3) (Gm:∀ m∈net,m∈v.net∨∃ q,oL p cf K G' ⟨v.ps.set i s',net,ev⟩ m q) (py:∀ l∈ev,∀ e∈l,e.1≠3):db p cf K G' ⟨v.ps.set i s',net,ev⟩:=by
 have hg:=h.Nn hv;have hl:(⟨v.ps.set i s',net,ev⟩:Wd).ps.length=v.ps.length:=br;have hm:∀ a b,bF v a b≤bF ⟨v.ps.set i s',net,ev⟩ a b:=λa b=>by
  rw[s8 hi];split
  ·rename_i e;subst e;exact hk b
  ·exact bf _
 refine⟨λj hj=>?_,λa b E hb Bq=>?_,λj hj=>?_,λm gF=>?_,py,λj hj=>?_⟩
 ·rw[hl]at hj;rw[oG hi];split
  ·exact hH
  ·rename_i e;exact (h.pl j hj).more Bp (by rw[(hv.oM hj).1];exact mA j (λe2=>e e2.symm))
 ·rw[hl]at E hb;rw[s8 hi,s8 hi,abX hi];by_cases h1:i=a
  ·subst h1;rw[ak rfl,ae Bq,ak rfl];exact jT b hb (Ne.symm Bq)
  ·rw[ae h1,ae h1];have h3:=h.ac a b E hb Bq;by_cases h2:i=b
   ·subst h2;rw[ak rfl];exact⟨gN h3.1 (hk a),h3.2⟩
   ·rw[ae h2];exact h3
 ·rw[hl]at hj;rw[s8 hi,oG hi];split
  ·rename_i e;subst e;exact gJ
  ·exact h.hd j hj
 ·rcases Gm m gF with h1 | h1
  ·obtain⟨q,hq⟩:=h.net m h1;exact⟨q,hq.more Bp hg.2 hg.1 hl hm⟩
  ·exact h1
 ·rw[hl]at hj;rw[oG hi];split
  ·exact Gl
  ·exact h.s7 j hj
theorem db.al (h:db p cf K G v)(hv:bD p cf c v)(hi:i<v.ps.length)(b:UInt8):(∃ G',db p cf K G' { v with ps:=v.ps.set i (dE p b (an v i)).2 }) ∧
   ∀ x y,bF { v with ps:=v.ps.set i (dE p b (an v i)).2 } x y=bF v x y+if (x=i∧y=i)∧(dE p b (an v i)).1=0 then 1 else 0:=by
 obtain⟨dQ,s9,bO,hn,_⟩:=hv.oM hi;by_cases h0:(dE p b (an v i)).1=0
 ·obtain⟨hH,mr,hk⟩:=(h.pl i hi).al h0;obtain⟨g1,mH,qz,rO⟩:=uj (k:=(an v i).k) (b:=b) h0;rw[dQ]at hH hk;have aJ:i<(an v i).k.ls.length:=by rw[(hv.pl i hi).1.wc.ls,hn];exact hi
  have fe:(dE p b (an v i)).2.k.ls=(an v i).k.ls.set i ((an v i).k.ls.getD i []++[b]):=by rw[hk]
  have gz:∀ j,ar (dE p b (an v i)).2.k j=ar (an v i).k j:=λj=>by rw[ar,hk];rfl
  have hG:∀ j,((dE p b (an v i)).2.k.ls.getD j []).length=bF v i j+if i=j then 1 else 0:=λj=>by
   rw[fe,Nm aJ];split
   ·rename_i e;subst e;rw[aL];rfl
   ·rfl
  have fo:ax (an v i).k≤ax (dE p b (an v i)).2.k:=by
   rw[ax,ax,fe];exact Ext.set.front (hv.pl i hi).1.wc.kR
  have gJ:aF (an v i).k=bF v i i:=by rw[aF,dQ];rfl
  refine⟨⟨_,h.put hv hi hH Ext.set (λj hj=>?_) (λj=>?_) (λj hj gG=>?_) ?_ ?_ (λm hm=>.inl hm) h.bx⟩,λx y=>?_⟩
  ·rw[bl,getElem?_set_ne (Ne.symm hj),← bl]
  ·rw[hG];omega
  ·rw[hG,gz,ae (Ne.symm gG),Nat.add_zero];exact h.ac i j hi hj (Ne.symm gG)
  ·rw[hG,ak rfl];omega
  ·rw[hk];exact h.s7 i hi
  ·rw[s8 hi];by_cases e:i=x
   ·subst e;rw[ak rfl,hG];by_cases e2:i=y
    ·rw[ak e2,ak ⟨⟨rfl,e2.symm⟩,h0⟩]
    ·rw[ae e2,ae (λh=>e2 h.1.2.symm)]
   ·rw[ae e,ae (λh=>e h.1.1.symm),Nat.add_zero]
 ·rw[Nf (hv.pl i hi).1 h0,Nl hi];exact⟨⟨G,h⟩,λx y=>by rw[ae (λh=>h0 h.2)];rfl⟩
theorem db.No (h:db p cf K G v)(hn:∀ m∈net,m∈v.net):db p cf K G { v with net:=net } :=
 ⟨h.pl,h.ac,h.hd,λm hm=>(h.net m (hn m hm)).imp λq hq=>⟨hq.kW,hq.kind,hq.fr,hq.to,hq.bs,hq.lt,hq.id,hq.uT⟩,h.bx,h.s7⟩
theorem db.recv (h:db p cf K G v)(hv:bD p cf c v)(hm:m∈v.net)(hn:∀ m∈net,m∈v.net):db p cf K G { v with ps:=v.ps.set m.2.1 (dz p m.2.2 (an v m.2.1)).2,net:=net } ∧
   ∀ x y,bF { v with ps:=v.ps.set m.2.1 (dz p m.2.2 (an v m.2.1)).2,net:=net } x y=if (x=m.2.1∧y=m.1)∧(an v m.2.1).k.cl=false then max (bF v x y) (rD m) else bF v x y:=by
 obtain⟨q,hq⟩:=h.net m hm;obtain⟨gw,hi⟩:=hq.lt;obtain⟨dQ,s9,bO,qS,_⟩:=hv.oM hi;have Ew:q.aV.toNat=m.1:=by have:=hq.fr;omega
 have jx:m.1≠m.2.1:=λe=>hq.kW.may.2.2.1 (by rw[hq.fr,hq.to,e]);rw[hq.bs];generalize I:an v m.2.1=s at *;have yj:=h.pl _ hi;have rE:=hv.pl _ hi;rw[I]at yj rE;cases hc:s.k.cl with
 | true =>
  have h0:(dz p (aS q) s).1≠0:=by
   show (dh (aS q) s.k).1≠0;rw[dh,ak hc];show (6:Int)≠0;decide
  rw[Ng rE.1 h0,← I,Nl hi];exact⟨h.No hn,λx y=>by rw[ae (λh=>by have:=h.2;cases this)];rfl⟩
 | false =>
  have rB:m.1<s.k.ps.length:=by rw[rE.1.wc.ps,qS];exact gw
  have aJ:m.1<s.k.ls.length:=by rw[rE.1.wc.ls,qS];exact gw
  have jT:=h.ac _ _ hi gw (Ne.symm jx);have nu:=h.Gk hv gw hi;have nM:=h.Gk hv hi gw;have kD:=(hv.pl _ gw).1.wc.lL (i:=m.1) (by rw[hv.s4 gw];exact gw);have l3:=rE.1.wc.lL (i:=m.1) (by rw[qS];exact gw);have Np:aF s.k=bF v m.2.1 m.2.1:=by rw[aF,dQ,bF,I]
  rcases hq.kW.may.2.2.2.2 with ⟨h1,_⟩ | ⟨h1,_⟩
  ·obtain⟨hH,h0,mr,hk⟩:=yj.x6 hq.kW hc (by rw[hq.to,dQ]) (by rw[hq.fr,qS];omega) (by rw[hq.id,bO]) h1;obtain⟨s1,s2,u3⟩:=hq.uT h1;obtain⟨g1,mH⟩:=hq.kW.uT h1;rw[Ew]at hk g1;have x9:bF v m.2.1 m.1=(s.k.ls.getD m.1 []).length:=by rw[bF,I]
   have eB:=abY (l:=s.k.ls.getD m.1 []) (a:=q.al) (f:=q.first.toNat) (by rw[← x9];exact s2) (by rw[nM.2]at g1;rw[bF]at g1;omega) l3;have fe:(dz p (aS q) s).2.k.ls=s.k.ls.set m.1 (ds (s.k.ls.getD m.1 []) q.first.toNat q.al):=by rw[hk]
   have hG:∀ j,((dz p (aS q) s).2.k.ls.getD j []).length=if m.1=j then max (bF v m.2.1 m.1) (q.first.toNat+q.al.length) else bF v m.2.1 j:=λj=>by
    rw[fe,Nm aJ,eB,bF,bF,I]
   have gz:∀ j,ar (dz p (aS q) s).2.k j=if j=m.1 then fQ s.k.now (aF s.k) q (ar s.k m.1) else ar s.k j:=λj=>by
    rw[ar,hk];exact vW rB
   have fo:ax s.k≤ax (dz p (aS q) s).2.k:=by
    have h5:=ri (aS q) s.k;obtain⟨t5,h6⟩:=Kw (s.k.ls.getD m.1 []) q.first.toNat q.al;rw[ax,ax,fe,h6];exact Ext.set.front rE.1.wc.kR
   refine⟨h.put hv hi hH (Ext.refl _) (λ_ _=>rfl) (λj=>?_) (λj hj gG=>?_) ?_ ?_ (λm hm=>.inl (hn m hm)) h.bx,λx y=>?_⟩
   ·rw[hG];split
    ·rename_i e;subst e;omega
    ·exact bf _
   ·rw[hG,gz];have wF:=h.ac _ _ hi hj (Ne.symm gG);by_cases e:j=m.1
    ·subst e;rw[ak rfl,ak rfl,abZ];rw[pJ,I]at wF;rw[bF]at nu;simp only[bF] at *;split <;> omega
    ·rw[ae (Ne.symm e),ae e];rw[pJ,I]at wF;exact wF
   ·rw[hG,ae jx];have:=h.hd _ hi;rw[I]at this;omega
   ·rw[hk];have:=h.s7 _ hi;rw[I]at this;exact this
   ·rw[s8 hi,hG,hq.val,ak h1];by_cases e:m.2.1=x
    ·subst e;rw[ak rfl];by_cases e2:m.1=y
     ·subst e2;rw[ak rfl,ak ⟨⟨rfl,rfl⟩,rfl⟩]
     ·rw[ae e2,ae (λh=>e2 h.1.2.symm)]
    ·rw[ae e,ae (λh=>e h.1.1.symm)]
  ·obtain⟨hH,h0,hk⟩:=yj.Nk hq.kW hc (by rw[hq.to,dQ]) (by rw[hq.fr,qS];omega) (by rw[hq.id,bO]) h1;rw[Ew]at hk;have fe:(dz p (aS q) s).2.k.ls=s.k.ls:=by rw[hk]
   have hG:∀ j,((dz p (aS q) s).2.k.ls.getD j []).length=bF v m.2.1 j:=λj=>by rw[fe,bF,I]
   have gz:∀ j,(ar (dz p (aS q) s).2.k j).has=(ar s.k j).has:=λj=>by
    rw[ar,hk];show ((s.k.ps.set _ _).getD j (fw 0)).has=_;rw[vW rB];split
    ·rename_i e;subst e;rfl
    ·rfl
   refine⟨h.put hv hi hH (Ext.refl _) (λ_ _=>rfl) (λj=>?_) (λj hj gG=>?_) ?_ ?_ (λm hm=>.inl (hn m hm)) h.bx,λx y=>?_⟩
   ·rw[hG];exact bf _
   ·have wF:=h.ac _ _ hi hj (Ne.symm gG);rw[pJ,I]at wF;rw[hG,gz];exact wF
   ·have:=h.hd _ hi;rw[I]at this;rw[hG,ax,fe];exact this
   ·rw[hk];intro e he;rcases eM.1 he with he | he
    ·have:=h.s7 _ hi;rw[I]at this;exact this e he
    ·rw[mem_singleton.1 he];show (1:Nat)≠3;decide
   ·have tE:rD m=0:=by rw[hq.val,ae (by omega)]
    rw[s8 hi,hG,tE,Nat.max_zero];by_cases e:m.2.1=x
    ·subst e;rw[ak rfl];split <;> rfl
    ·rw[ae e,ae (λh=>e h.1.1.symm)]
theorem ab0 {k:Ks}(h:m∈(bo k).1):∃ j,j<k.n∧j≠k.me∧m=(k.me,j,aS (dP k j)):=by
 unfold bo at h;split at h
 ·cases h
 ·simp only at h;split at h
  ·cases h
  ·obtain⟨j,hj,rfl⟩:=c1.1 h;obtain⟨h1,h2⟩:=um.1 hj;exact⟨j,h1,h2,rfl⟩
theorem ab1 {k:Ks}(h:m∈(bu k).1):∃ j,j<k.n∧j≠k.me∧m=(k.me,j,aS (gl k j)):=by
 unfold bu at h;split at h
 ·cases h
 ·obtain⟨j,hj,rfl⟩:=c1.1 h;obtain⟨h1,h2⟩:=um.1 hj;exact⟨j,h1,h2,rfl⟩
theorem db.same (h:db p cf K G v)(hv:bD p cf c v)(hi:i<v.ps.length)(hH:fA p G s')(fe:s'.k.ls=(an v i).k.ls)(gz:s'.k.ps=(an v i).k.ps)(Gl:∀ e∈s'.k.ev,e.1≠3)
   (Gm:∀ m∈net,m∈v.net∨∃ q,oL p cf K G v m q) (py:∀ l∈ev,∀ e∈l,e.1≠3):db p cf K G ⟨v.ps.set i s',net,ev⟩∧∀ x y,bF ⟨v.ps.set i s',net,ev⟩ x y=bF v x y:=by
 have uz:∀ x y,bF ⟨v.ps.set i s',net,ev⟩ x y=bF v x y:=λx y=>by
  rw[s8 hi];split
  ·rename_i e;subst e;rw[fe];rfl
  ·rfl
 have hg:=h.Nn hv;refine⟨h.put hv hi hH (Ext.refl _) (λ_ _=>rfl) (λj=>by rw[fe];exact bf _) (λj hj gG=>?_) ?_ Gl (λm hm=>(Gm m hm).imp_right λ⟨q,hq⟩=>⟨q,hq.more (Ext.refl _) hg.2 hg.1 br λa b=>by rw[uz];exact bf _⟩) py,uz⟩
 ·rw[fe,ar,gz];exact h.ac i j hi hj (Ne.symm gG)
 ·rw[ax,fe];exact h.hd i hi
theorem db.Nq (h:db p cf K G v)(hv:bD p cf c v)(hi:i<v.ps.length)(yG:K 1)(hm:m∈(bo (an v i).k).1):∃ q,oL p cf K G v m q∧rD m=bF v i i:=by
 obtain⟨dQ,s9,bO,hn,_⟩:=hv.oM hi;obtain⟨j,hj,bN,rfl⟩:=ab0 hm;rw[hn]at hj;rw[dQ]at bN;have jT:=h.ac i j hi hj (Ne.symm bN);have hb:=h.Gk hv hj hi;have gJ:=h.hd i hi;have gw:ax (an v i).k≤bF v i j:=vS (ui (by rw[(hv.pl i hi).1.wc.ls,hn];exact hj));have Np:aF (an v i).k=bF v i i:=by rw[aF,dQ];rfl
 have hw:=hv.win;have kW:=(h.pl i hi).yw (i:=j) (by rw[hn];exact hj) (by rw[dQ];exact bN) (by rw[Np];rw[pJ]at jT;omega);have hG:(dP (an v i).k j).first.toNat+(dP (an v i).k j).al.length=bF v i i:=by
  show (((ar (an v i).k j).has:Nat):Int).toNat+((((an v i).k.ls.getD (an v i).k.me []).drop (ar (an v i).k j).has).take 32).length=_;rw[pJ]at jT;rw[et,c6,dQ,Int.toNat_natCast];show _+min 32 (bF v i i-_)=_;omega
 have hq:oL p cf K G v ((an v i).k.me,j,aS (dP (an v i).k j)) (dP (an v i).k j):=by
  refine⟨kW,yG,rfl,rfl,rfl,⟨by rw[dQ];exact hi,hj⟩,bO,λ_=>⟨?_,?_,?_⟩⟩
  ·show ((((an v i).k.ls.getD j []).length:Nat):Int).toNat≤bF v (an v i).k.me j;rw[dQ,Int.toNat_natCast];exact bf _
  ·show (((ar (an v i).k j).has:Nat):Int).toNat≤bF v j (an v i).k.me;rw[dQ,Int.toNat_natCast];exact jT.1
  ·rw[hG];show _≤((((an v i).k.ls.getD j []).length:Nat):Int).toNat+_;rw[Int.toNat_natCast];show _≤bF v i j+_;omega
 exact⟨_,hq,by rw[hq.val,ak (show (dP (an v i).k j).kind=1 from rfl),hG]⟩
theorem ab2 (k:Ks):(bo k).2.ls=k.ls∧(bo k).2.ps=k.ps∧∀ e∈(bo k).2.ev,e∈k.ev∨e.1=2:=by
 rcases vY k with h1 | ⟨_,h1 | ⟨i,_,h1⟩⟩ <;> rw[h1]
 ·exact⟨rfl,rfl,λe he=>.inl he⟩
 ·exact⟨rfl,rfl,λe he=>.inl he⟩
 ·refine⟨rfl,rfl,λe he=>?_⟩;rcases eM.1 he with he | he
  ·exact .inl he
  ·rw[mem_singleton.1 he];exact .inr rfl
theorem Nr (k:Ks):(bu k).2.ls=k.ls∧(bu k).2.ps=k.ps∧(bu k).2.ev=k.ev:=by
 unfold bu;split <;> exact⟨rfl,rfl,rfl⟩
theorem db.tick (h:db p cf K G v)(hv:bD p cf c v)(hi:i<v.ps.length)(yG:K 1):db p cf K G { v with ps:=v.ps.set i ⟨(bo (an v i).k).2,(an v i).g⟩,net:=dY v.net (bo (an v i).k).1 } ∧
   ∀ x y,bF { v with ps:=v.ps.set i ⟨(bo (an v i).k).2,(an v i).g⟩,net:=dY v.net (bo (an v i).k).1 } x y=bF v x y:=by
 obtain⟨h1,h2,h3⟩:=ab2 (an v i).k;refine h.same hv hi (h.pl i hi).tick h1 h2 (λe he=>?_) (λm hm=>(Ba hm).imp_right λhm=>(h.Nq hv hi yG hm).imp λq hq=>hq.1) h.bx;rcases h3 e he with h4 | h4
 ·exact h.s7 i hi e h4
 ·omega
theorem db.ko (h:db p cf K G v)(hv:bD p cf c v)(hi:i<v.ps.length)(yG:K 2):db p cf K G { v with ps:=v.ps.set i ⟨(bu (an v i).k).2,(an v i).g⟩,net:=dY v.net (bu (an v i).k).1 } ∧
   ∀ x y,bF { v with ps:=v.ps.set i ⟨(bu (an v i).k).2,(an v i).g⟩,net:=dY v.net (bu (an v i).k).1 } x y=bF v x y:=by
 obtain⟨h1,h2,h3⟩:=Nr (an v i).k;refine h.same hv hi (h.pl i hi).ko h1 h2 (λe he=>h.s7 i hi e (by rw[← h3];exact he)) (λm hm=>(Ba hm).imp_right λhm=>?_) h.bx;obtain⟨dQ,s9,bO,hn,_⟩:=hv.oM hi;obtain⟨j,hj,bN,rfl⟩:=ab1 hm;refine⟨gl (an v i).k j,(h.pl i hi).abW hj bN,yG,rfl,rfl,rfl,⟨by rw[dQ];exact hi,by rw[← hn];exact hj⟩,bO,λe=>absurd (show (2:Int)=1 from e) (by decide)⟩
theorem db.s3 (h:db p cf K G v)(hv:bD p cf c v)(hi:i<v.ps.length):db p cf K G (s3 i v)∧∀ x y,bF (Go.Proofs.YteoldcfapaiobaaGreat.s3 i v) x y=bF v x y:=by
 refine h.same hv hi (h.pl i hi).told rfl rfl (λe he=>by cases he) (λm hm=>.inl hm) (λl hl e he=>?_);rcases mem_or_eq_of_mem_set hl with h1 | h1
 ·exact h.bx l h1 e he
 ·rw[h1]at he;rcases eM.1 he with he | he
  ·by_cases h2:i<v.ev.length
   ·exact h.bx _ (uL (d:=[]) h2) e he
   ·rw[bl,iH (by omega)]at he;cases he
  ·exact h.s7 i hi e he
theorem db.b6 (h:db p cf K G v)(hv:bD p cf c v):∀ i,i≤v.ps.length→db p cf K G (b6 v i)∧∀ x y,bF (Go.Proofs.YteoldcfapaiobaaGreat.b6 v i) x y=bF v x y
 | 0,_=>⟨h,λ_ _=>rfl⟩
 | i+1,hi=>by
  obtain⟨h1,h2⟩:=h.b6 hv i (by omega);obtain⟨h3,h4⟩:=h1.s3 (i:=i) (hv.b6 (by omega)) (by rw[(pG v i).1];omega);exact⟨h3,λx y=>(h4 x y).trans (h2 x y)⟩
theorem db.drain (h:db p cf K G v)(hv:bD p cf c v):db p cf K G (jB v)∧∀ x y,bF (jB v) x y=bF v x y:=h.b6 hv _ (bf _)
theorem db.yw (h:db p cf K G v)(hv:bD p cf c v)(hf:t.fn≠6):db p cf K G (gb p t v).2:=by
 unfold gb;split
 ·exact h
 ·rename_i hr;split
  ·exact h.No λm hm=>mem_of_mem_eraseIdx hm
  ·refine (h.recv hv (m:=v.net.getD t.n.toNat (0,0,[])) (uL (by omega)) (λm hm=>?_)).1;split at hm
   ·exact hm
   ·exact mem_of_mem_eraseIdx hm
theorem uU (p:Pr){cf:Cf}(h:eN cf):∃ mr,(ez p cf).k={ fg cf with mr:=mr }:=by
 refine Gi (G:=(fg cf).ls) (vZ (p:=p) h) (Ext.refl _) λi hi=>?_;have oW:ar (fg cf) i=fw cf.aK.toNat∨ar (fg cf) i=fw 0:=by
  rw[ar,bl];show ((List.replicate cf.n.toNat (fw cf.aK.toNat))[i]?).getD (fw 0)=_∨((List.replicate cf.n.toNat (fw cf.aK.toNat))[i]?).getD (fw 0)=_;rw[List.getElem?_replicate];split
  ·exact .inl rfl
  ·exact .inr rfl
 have h2:(ar (fg cf) i).frame=0:=by rcases oW with e | e <;> rw[e] <;> rfl
 show lN p _ (ar (fg cf) i).frame _;rw[h2];exact⟨Nat.zero_le _,λh=>absurd h (by omega)⟩
end
end
section
def fJ.yH:fJ→Bool
 | .mu _=>true
 | .pl _=>false
def dS (cf:Cf)(i:Nat):Cf:={ cf with me:=i }
def fq (p:Pr)(cf:Cf)(n:Nat):Wd:=⟨(List.range n).map λi=>ez p (dS cf i),[],List.replicate n []⟩
def uV (fp:List fz)(cf:Cf)(tb:List UInt8)(jm:Bool)(n:Nat):Prop:=fp.map (·.cf)=(List.range n).map (dS cf)∧∀ x∈fp,x.z.gs=⟨cf.ba,cf.order,tb⟩∧x.z.yH=jm
theorem ab3 {cf:Cf}{i:Nat}(h:eN (dS cf 0))(hi:(i:Int)<cf.n):eN (dS cf i):=by
 obtain⟨⟨h1,h2,h3⟩,h4⟩:=h;refine⟨⟨h1,?_,h3⟩,h4⟩;show fv (i:Int) 0 (cf.n-1);unfold fv;omega
theorem Ns {cf:Cf}{p:Pr}{tb:List UInt8}{i:Nat}(h:oI (dS cf 0) p tb)(hi:(i:Int)<cf.n):oI (dS cf i) p tb:=⟨ab3 h.1 hi,h.2⟩
section
variable {W w:World}{L:List SP}{n c cP cT i:Nat}{ad adP adT:Option Addr}{p:Pr}{tb:List UInt8}{cf:Cf}{jm:Bool}
theorem ab4 (gM:oI cf p tb)(I:U W w (aA W p adP cP::L))(hn:tb.length=n)(aE:p.title.size≤1000000000)(dW:p.ops.length≤1000000000)(eJ:tb.length≤1099511627776)(hT:∀ V,U W V (aA W p adP cP::L)→a6 V adT tb.length tb) :
   Calls prog 60 #[.agg (cc cf).toArray,.agg (bP p adP cP).toArray,.slice adT n cT] w λr V=>∃ B:iR,r=.returned (.tuple #[pt B.pb,.int .i64 0])∧B.gs=⟨cf.ba,cf.order,tb⟩∧U W V (aP W B p (ez p cf)::aA W p adP cP::L) :=
 (abn I hn aE dW eJ hT).mono λr V h=>h.elim (λh=>h.2) λh=>absurd gM h.1
theorem ab5 (gM:oI cf p tb)(I:U W w (aA W p adP cP::L))(hn:tb.length=n)(aE:p.title.size≤1000000000)(dW:p.ops.length≤1000000000)(eJ:tb.length≤1099511627776)(hT:∀ V,U W V (aA W p adP cP::L)→a6 V adT tb.length tb) :
   Calls prog 43 #[.agg (cc cf).toArray,.agg (bP p adP cP).toArray,.slice adT n cT,.bool jm] w λr V=>∃ z:fJ,r=.returned (.tuple #[.iface z.t (.pointer (some z.ad)),.int .i64 0])∧(z.gs=⟨cf.ba,cf.order,tb⟩∧z.yH=jm)∧U W V (fz.J W p ⟨cf,z⟩ 0 (ez p cf)::aA W p adP cP::L):=by
 refine EN func43 ntmps43 rfl rfl λa E=>?_;refine BX 1 E I λb4 a w E I=>?_;change U W w (aa b4 28 (cc cf)::_) at I;refine BX 0 E I λb5 a w E I=>?_;change U W w (aa b5 45 (bP p adP cP)::_) at I;refine IF 5 E I (λaj a E=>?_) λaj a E=>?_
 ·
  refine bg 4 E I (abt gM (I.pick (aA W p adP cP)) hn aE dW eJ (λV dd=>hT _ dd.sub)) λM a w E ⟨hg,I⟩=>?_;refine RT 11 E I ?_;exact⟨.mu M,rfl,⟨hg,by rw[show jm=true from by simpa using aj];rfl⟩,(show U W w (fz.J W p ⟨cf,.mu M⟩ 0 (ez p cf)::_) from I).sub⟩
 refine bg 4 E I (ab4 gM (I.pick (aA W p adP cP)) hn aE dW eJ (λV dd=>hT _ dd.sub)) λB a w E ⟨hg,I⟩=>?_;refine RT 11 E I ?_;exact⟨.pl B,rfl,⟨hg,by rw[show jm=false from by simpa using aj];rfl⟩,(show U W w (fz.J W p ⟨cf,.pl B⟩ 0 (ez p cf)::_) from I).sub⟩
theorem Nt (I:U W w L):∀ n:Nat,U W w (ah eA (List.replicate n (none,0,[]))::L)
 | 0=>U.iI I
 | n+1=>U.vd (f:=eA) (x:=(none,0,[])) ((Nt I n).bM 135 1 none)
theorem Nu (gM:oI (dS cf 0) p tb)(I:U W w (aA W p adP cP::L))(hn:tb.length=n)(aE:p.title.size≤1000000000)(dW:p.ops.length≤1000000000)(eJ:tb.length≤1099511627776)(hT:∀ V,U W V (aA W p adP cP::L)→a6 V adT tb.length tb) :
   Calls prog 24 #[.agg (cc cf).toArray,.agg (bP p adP cP).toArray,.slice adT n cT,.bool jm] w λr V=>∃ B:jk,r=.returned (.tuple #[pt B.mb,.int .i64 0])∧uV B.fp cf tb jm cf.n.toNat∧U W V (aH W B p 0 (fq p cf cf.n.toNat)::aA W p adP cP::L):=by
 have o7:=gM.1.1.1;unfold fv at o7;obtain⟨N,hN⟩:∃ N:Nat,(dS cf 0).n=N:=⟨(dS cf 0).n.toNat,by omega⟩;replace hN:cf.n=N:=hN;have hN2:2≤N∧N≤8:=by
  have h1:(dS cf 0).n=cf.n:=rfl;omega
 rw[show cf.n.toNat=N from by omega];refine EN func24 ntmps24 rfl rfl λa E=>?_;refine BX 1 E I λb4 a w E I=>?_;change U W w (aa b4 28 (cc cf)::_) at I;refine BX 0 E I λb5 a w E I=>?_;change U W w (aa b5 45 (bP p adP cP)::_) at I;refine bg 3 E I (aa5 I) λq a w E I=>?_;refine BX 1 E I λuc a w E I=>?_;refine RN 1 E I λa E=>?_;replace I:=U.iI (f:=cy W p 0) (I.bM 81 1 none);refine RN 7 E I λa E=>?_;rw[hN,show min (max (N:Int) 1) 8=(N:Int) from by omega]at E;refine aR (λμ a w=>∃ (i:Nat) (adL:Option Addr) (cL:Nat) (xs:List (fz×Pl)) (me:Int),(μ=N-i∧(i≤N∧xs.length=i)∧xs.map (·.2)=(List.range i).map (λi=>ez p (dS cf i))∧uV (xs.map (·.1)) cf tb jm i)∧Fr a 58 [(2,.slice adT n cT),(3,.bool jm),(4,pt b4),(5,pt b5),(10,pt uc),(20,.int .i64 N),(21,.int .i64 i)]∧U W w (aa uc 107 [.slice adL i cL,pt q,.slice none 0 0]::Sl 81 1 adL i cL (xs.map cA)::ah (cy W p 0) xs::bJ q []::aa b4 28 (cc { cf with me:=me })::aa b5 45 (bP p adP cP)::aA W p adP cP::L)) (N) (⟨0,none,0,[],cf.me,⟨rfl,⟨by omega,rfl⟩,rfl,rfl,λx h=>by cases h⟩,E.ab [2,3,4,5,10,20,21],(show U W w (ah (cy W p 0) []::Sl 81 1 none 0 0 (([]:List (fz×Pl)).map cA)::_) from I).sub⟩) ?_;clear E I;rintro μ a w ⟨i,adL,cL,xs,me,⟨rfl,⟨hi,cj⟩,c3,dJ⟩,E,I⟩;refine IF 3 E I (λaj a E=>?_) λaj a E=>?_
 ·
  have aJ:i<N:=by omega
  have Gn:=Ns (i:=i) gM (by omega);refine ST 7 E I (λa w E I=>?_);refine RN 0 E I λa E=>?_;change U W w (aa b4 28 (cc (dS cf i))::_) at I;refine bg 5 E I (ab5 Gn (I.pick (aA W p adP cP)) hn aE dW eJ (λV dd=>hT _ dd.sub)) λz a w E ⟨hz,I⟩=>?_;refine RN 9 E I λa E=>?_;replace E:=E.aN 35;refine RN 7 E I λa E=>?_;refine cn E rfl I underlying104 Ty.t81 rfl rfl rfl rfl (by decide) (by decide) λb43 a w E I ho=>?_;clear ho;replace I:=I.pick (Sl 81 1 adL i cL (xs.map cA));refine RN 0 E I λa E=>?_;refine cI E rfl I underlying104 Ty.t81 rfl rfl I.ai rfl (by simp[Value.oneCell']) (by decide) (by decide) (by omega) λna kV a w E I=>?_;rw[show List.map cA xs++_=(xs++[((⟨dS cf i,z⟩:fz),ez p (dS cf i))]).map cA from by rw[cQ];rfl]at I;refine ST 2 E I (λa w E I=>?_);refine RN 2 E I λa E=>?_;have kj:=(I.pick (ah (cy W p 0) xs)).pick (fz.J W p ⟨dS cf i,z⟩ 0 (ez p (dS cf i)));have hA:=U.jG (f:=cy W p 0) (x:=(⟨dS cf i,z⟩,ez p (dS cf i))) kj;refine⟨N-(i+1),by omega,i+1,na,kV,xs++[(⟨dS cf i,z⟩,ez p (dS cf i))],i,⟨rfl,⟨by omega,by rw[aL,cj];rfl⟩,?_,?_⟩,E.ab [2,3,4,5,10,20,21],?_⟩
  ·rw[cQ,c3,range_succ,cQ];rfl
  ·refine⟨?_,λx hx=>?_⟩
   ·rw[cQ,cQ,range_succ,cQ,dJ.1];rfl
   ·rw[cQ]at hx;rcases eM.1 hx with hx | hx
    ·exact dJ.2 x hx
    ·rw[mem_singleton.1 hx];exact hz
  ·rw[show ({ cf with me:=(i:Int) }:Cf)=dS cf i from rfl];exact hA.sub
 obtain rfl:i=N:=by omega
 refine RN 7 E I λa E=>?_;refine qA E rfl I underlying105 Ty.t90 rfl (by omega) (by omega) λBs a w E I ho=>?_;clear ho;rw[AU _ rfl]at I;refine ST 2 E I (λa w E I=>?_);refine RT 4 E I ?_;refine⟨⟨uc,q,xs.map (·.1)⟩,rfl,dJ,?_⟩;have h1:=I.jD Bs;rw[show List.replicate i (Value.slice none 0 0)=[]++(List.replicate i ((none,0,[]):kr)).map bx++[] from by rw[nil_append,append_nil,map_replicate];rfl]at h1;have h2:=Nt (U.iG (n:=i) (c:=i) (sz:=1) h1 (by rw[bd,jK,Nat.mul_one]) (bf _) (by simp)) i;refine aH.s5 (adL:=adL) (cL:=cL) (adE:=some ⟨Bs,0,none⟩) (cE:=i) (xs:=xs) (es:=List.replicate i (none,0,[])) ?_ rfl c3 (by rw[map_replicate];rfl);rw[cj,jK];simp only[length_nil]at h2;show U W w (aa uc 107 [.slice adL i cL,pt q,.slice (some ⟨Bs,0,none⟩) i i]::Sl 81 1 adL i cL (xs.map cA)::ah (cy W p 0) xs::bJ q []::Sl 90 1 (some ⟨Bs,0,none⟩) i i ((List.replicate i ((none,0,[]):kr)).map bx)::ah eA (List.replicate i (none,0,[]))::aA W p adP cP::L);exact h2.sub
end
end
section
abbrev ek (x:fT×Pl):Value:=pt x.1.pb
def dj (W:World)(p:Pr)(x:fT×Pl):SP:=bX W x.1 p x.2
def fK (x:kr):SP:=Sl 102 3 x.1 x.2.2.length x.2.1 (rows bW x.2.2)
structure pK where
 wb:Nat
 mb:Nat
 mB:List fT
def bw (W:World)(D:pK)(p:Pr)(v:Wd):SP:=λh=>∃ i:(Option Addr×Nat)×(Option Addr×Nat)×(Option Addr×Nat)×List (fT×Pl)×List kr,(i.2.2.2.1.map (·.1)=D.mB∧i.2.2.2.1.map (·.2)=v.ps∧i.2.2.2.2.map (·.2.2)=v.ev) ∧
 cm [aa D.wb 40 [pt D.mb,.slice i.1.1 i.2.2.2.1.length i.1.2,.slice i.2.1.1 v.net.length i.2.1.2,.slice i.2.2.1.1 i.2.2.2.2.length i.2.2.1.2],
  Sl 34 1 i.1.1 i.2.2.2.1.length i.1.2 (i.2.2.2.1.map ek),ah (dj W p) i.2.2.2.1,cu 60 i.2.1.1 v.net.length i.2.1.2 v.net,Sl 70 1 i.2.2.1.1 i.2.2.2.2.length i.2.2.1.2 (i.2.2.2.2.map bx),ah fK i.2.2.2.2] h
section
variable {W w:World}{L:List SP}{n c k cP cN cE wb i:Nat}{ad adP adN adE:Option Addr}{p:Pr}{v:Wd}{D:pK}{x0 x1 x3:Value}{l net:List Ml}{xs:List (fT×Pl)}{es:List kr}
theorem bw.open (I:U W w (bw W D p v::L)):∃ (adP:Option Addr) (cP:Nat) (adN:Option Addr) (cN:Nat) (adE:Option Addr) (cE:Nat) (xs:List (fT×Pl)) (es:List kr),(xs.map (·.1)=D.mB∧xs.map (·.2)=v.ps∧es.map (·.2.2)=v.ev) ∧
   U W w (aa D.wb 40 [pt D.mb,.slice adP xs.length cP,.slice adN v.net.length cN,.slice adE es.length cE] ::
    Sl 34 1 adP xs.length cP (xs.map ek)::ah (dj W p) xs::cu 60 adN v.net.length cN v.net::Sl 70 1 adE es.length cE (es.map bx)::ah fK es::L):=by
 obtain⟨i,h1,I⟩:=I.jo (ι:=(Option Addr×Nat)×(Option Addr×Nat)×(Option Addr×Nat)×List (fT×Pl)×List kr) (p:=λi=>i.2.2.2.1.map (·.1)=D.mB∧i.2.2.2.1.map (·.2)=v.ps∧i.2.2.2.2.map (·.2.2)=v.ev)
  (B:=λi h=>cm [aa D.wb 40 [pt D.mb,.slice i.1.1 i.2.2.2.1.length i.1.2,.slice i.2.1.1 v.net.length i.2.1.2,.slice i.2.2.1.1 i.2.2.2.2.length i.2.2.1.2],
  Sl 34 1 i.1.1 i.2.2.2.1.length i.1.2 (i.2.2.2.1.map ek),ah (dj W p) i.2.2.2.1,cu 60 i.2.1.1 v.net.length i.2.1.2 v.net,Sl 70 1 i.2.2.1.1 i.2.2.2.2.length i.2.2.1.2 (i.2.2.2.2.map bx),ah fK i.2.2.2.2] h) λ_ h=>h
 obtain⟨⟨adP,cP⟩,⟨adN,cN⟩,⟨adE,cE⟩,xs,es⟩:=i;exact⟨adP,cP,adN,cN,adE,cE,xs,es,h1,I.open (M:=[_,_,_,_,_,_]) λ_ h=>h⟩
theorem bw.close (I:U W w (aa D.wb 40 [pt D.mb,.slice adP xs.length cP,.slice adN v.net.length cN,.slice adE es.length cE] ::
     Sl 34 1 adP xs.length cP (xs.map ek)::ah (dj W p) xs::cu 60 adN v.net.length cN v.net::Sl 70 1 adE es.length cE (es.map bx)::ah fK es::L))
 (h1:xs.map (·.1)=D.mB) (h2:xs.map (·.2)=v.ps) (h3:es.map (·.2.2)=v.ev):U W w (bw W D p v::L) :=
 U.shut (M:=[_,_,_,_,_,_]) I λ_ h=>⟨((adP,cP),(adN,cN),(adE,cE),xs,es),⟨h1,h2,h3⟩,h⟩
theorem Nv (I:U W w (cu 60 ad n c l::cu 60 adN k cN net::aa wb 40 [x0,x1,.slice adN k cN,x3]::L))(hn:n≤1000)(hk:net.length≤300) :
   Calls prog 72 #[pt wb,.slice ad n c] w λe V=>e=.returned (.tuple #[])∧∃ Nw Nx,U W V (cu 60 Nw (dY net l).length Nx (dY net l)::aa wb 40 [x0,x1,.slice Nw (dY net l).length Nx,x3]::L):=by
 obtain⟨xs,eC,cj,I⟩:=cu.open I;have a8:xs.length=n:=by rw[← cj,← eC,bd]
 subst a8;obtain⟨ys,nH,j3,I⟩:=cu.open (I.pick (cu 60 adN k cN net));subst j3;refine EN func72 ntmps72 rfl rfl λa E=>?_;refine RN 2 E I λa E=>?_;refine aR (λμ a w=>∃ (i:Nat) (adN:Option Addr) (cN:Nat) (ys:List Mx) (N:List Ml),(μ=xs.length-i∧i≤xs.length∧N=dY net (l.take i)∧ys.map (·.2.2)=N)∧Fr a 30 [(0,pt wb),(1,.slice ad xs.length c),(4,.int .i64 i)]∧U W w (aa wb 40 [x0,x1,.slice adN N.length cN,x3]::Sl 60 3 adN N.length cN (rows bZ ys)::ah b0 ys::Sl 60 3 ad xs.length c (rows bZ xs)::ah b0 (xs.drop i)::L)) (xs.length) (⟨0,adN,cN,ys,net,⟨rfl,by omega,rfl,nH⟩,E.ab [0,1,4],(show U W w (Sl 60 3 adN net.length cN (rows bZ ys)::ah b0 ys::Sl 60 3 ad xs.length c (rows bZ xs)::ah b0 (xs.drop 0)::_) from I).sub⟩) ?_;clear E I;rintro μ a w ⟨i,adN,cN,ys,N,⟨rfl,hi,hN,uW⟩,E,I⟩;refine IF 6 E I (λaj a E=>?_) λaj a E=>?_
 ·
  have aJ:i<xs.length:=by omega
  have yz:i<l.length:=by omega
  have hNl:N.length≤300:=by rw[hN];exact F3 hk
  have Gp:=Ms net yz;rw[← hN]at Gp;obtain⟨x,hx⟩:∃ x,x=xs[i]:=⟨_,rfl⟩;have ab6:x.2.2=l[i]:=by
   have h1:(xs.map (·.2.2))[i]?=l[i]?:=by rw[eC]
   rw[bm,aI aJ,aI yz,← hx]at h1;simpa using h1
  have eX:xs[i]?=some x:=by rw[hx];exact aI aJ
  refine IF 8 E I (λao a E=>?_) λao a E=>?_
  ·
   refine RN 0 E I λa E=>?_;obtain⟨bi,oi,rfl,pa⟩:=(I.drew.pick (Sl 60 3 ad xs.length c (rows bZ xs))).bY ad (by omega);replace pa:=jA oy pa (aI aJ);rw[← hx]at pa;refine qF 0 (λV=>Rd V wb 0 [x0,x1,.slice adN N.length cN,x3]∧Rd V bi (oi+i*3) (bZ x)) [8,9] [0,1,2,3,5,6,7,3004,1008,1009,1010,11,12,1013] E I λa E=>?_;replace I:=I.drew;generalize w.drew=w at I pa ⊢;have hC:Rd w wb 0 [x0,x1,.slice adN N.length cN,x3]∧Rd w bi (oi+i*3) (bZ x):=⟨I.ai (b:=wb),pa⟩;have hH:=Hd.any (λV=>Rd V wb 0 [x0,x1,.slice adN N.length cN,x3]∧Rd V bi (oi+i*3) (bZ x));refine RH 7 E I hH hC λa E=>?_;refine QH E (λw hc=>ag E (hc.1 2 _ rfl)) hC λa E=>?_;refine RH 0 E I hH hC λa E=>?_;refine SS E (bT E underlying60 rfl Ty.t60 (hC.2)) λa E=>?_;refine RH 0 E I hH hC λa E=>?_;refine cn E rfl I underlying37 Ty.t60 rfl rfl rfl rfl (by decide) (by decide) λIT a w E I ho=>?_;clear ho;replace hC:=hH.at w ⟨I.ai (b:=wb),jA oy (I.cC bi oi (by omega)) eX⟩;refine RH 0 E I hH hC λa E=>?_;refine cI E rfl I underlying37 Ty.t60 rfl rfl I.ai rfl (by simp[Value.oneCell']) (by decide) (by decide) (by omega) λC6 C7 a w E I=>?_;rw[show rows bZ ys++_=rows bZ (ys++[x]) from by rw[j9];rfl]at I;refine ST 2 E I (λa w E I=>?_);refine RN 3 E I λa E=>?_;rw[ka aJ,← hx]at I;have h1:U W w (b0 x::ah b0 (xs.drop (i+1))::_):=U.fE (l:=x::xs.drop (i+1)) (i:=0) (I.pick (ah b0 (x::xs.drop (i+1)))) (by simp);have h3:=U.jG (f:=b0) (x:=x) ((h1.pick (ah b0 ys)).pick (b0 x));refine⟨xs.length-(i+1),by omega,i+1,C6,C7,ys++[x],N++[l[i]],⟨rfl,by omega,by rw[Gp,oF,ak (by omega)],by rw[cQ,uW,← ab6];rfl⟩,E.ab [0,1,4],?_⟩;rw[aL,iP];exact h3.sub
  refine RN 3 E I λa E=>?_;rw[ka aJ,← hx]at I;have h1:U W w (b0 x::ah b0 (xs.drop (i+1))::_):=U.fE (l:=x::xs.drop (i+1)) (i:=0) (I.pick (ah b0 (x::xs.drop (i+1)))) (by simp);exact⟨xs.length-(i+1),by omega,i+1,adN,cN,ys,N,⟨rfl,by omega,by rw[Gp,oF,ae (by omega)],uW⟩,E.ab [0,1,4],h1.sub⟩
 refine RT 0 E I ?_;obtain rfl:i=xs.length:=by omega
 rw[fX (by omega)]at hN;subst hN;exact⟨rfl,adN,cN,(cu.close (I.sub (M:=Sl 60 3 adN (dY net l).length cN (rows bZ ys)::ah b0 ys::aa wb 40 [x0,x1,.slice adN (dY net l).length cN,x3]::L)) uW rfl)⟩
end
end
section
section
variable {W w:World}{L:List SP}{c k cP cN cE wb i:Nat}{adP adN adE:Option Addr}{p:Pr}{v:Wd}{D:pK}{net:List Ml}{xs:List (fT×Pl)}{es:List kr}{x:fT}{s wm s':Pl}{t:fU}{cf:Cf}
theorem Bt {ps:List Pl}(h2:xs.map (·.2)=ps)(hi:i<xs.length):∃ x,xs[i]?=some (x,ps.getD i A9):=by
 refine⟨xs[i].1,?_⟩;rw[aI hi,bl,← h2,bm,aI hi];rfl
theorem Bu (I:U W w (ah (dj W p) xs::L))(hx:xs[i]?=some (x,s)):U W w (bX W x p s::ah (dj W p) (xs.eraseIdx i)::L):=by
 obtain⟨hi,h1⟩:=a2.1 hx;have h2:=I.fE hi;rw[h1]at h2;exact h2
theorem Bv (I:U W w (bX W x p s::ah (dj W p) (xs.eraseIdx i)::L))(hx:xs[i]?=some (x,s)):U W w (ah (dj W p) xs::L):=by
 obtain⟨hi,h1⟩:=a2.1 hx;refine U.wC hi ?_;rw[h1];exact I
theorem Bw (hx:xs[i]?=some (x,s)):(xs.set i (x,s')).map ek=xs.map ek∧(xs.set i (x,s')).map (·.1)=xs.map (·.1):=by
 obtain⟨hi,h1⟩:=a2.1 hx;constructor
 ·rw[List.map_set,show ek (x,s')=(xs.map ek)[i]'(by rw[bd];exact hi) from by rw[getElem_map,h1],set_getElem_self]
 ·rw[List.map_set];show (xs.map (·.1)).set i x=_;rw[show x=(xs.map (·.1))[i]'(by rw[bd];exact hi) from by rw[getElem_map,h1],set_getElem_self]
theorem bw.put (h1:xs.map (·.1)=D.mB)(h2:xs.map (·.2)=v.ps)(h3:es.map (·.2.2)=v.ev)(hx:xs[i]?=some (x,wm))(net:List Ml)
   (I:U W w (bX W x p s'::ah (dj W p) (xs.eraseIdx i)::aa D.wb 40 [pt D.mb,.slice adP xs.length cP,.slice adN net.length cN,.slice adE es.length cE] ::
    Sl 34 1 adP xs.length cP (xs.map ek)::cu 60 adN net.length cN net::Sl 70 1 adE es.length cE (es.map bx)::ah fK es::L)) :
   U W w (bw W D p { v with ps:=v.ps.set i s',net:=net }::L):=by
 obtain⟨hi,_⟩:=a2.1 hx;have h4:=U.ky (f:=dj W p) (x:=(x,s')) hi I;refine bw.close (adP:=adP) (cP:=cP) (adN:=adN) (cN:=cN) (adE:=adE) (cE:=cE) (xs:=xs.set i (x,s')) (es:=es) ?_ ((Bw hx).2.trans h1) (by rw[List.map_set,h2]) h3;rw[br,(Bw hx).1];exact h4.sub
theorem Ny (b:Int):IntKind.u8.wrap (IntKind.i64.wrap ((BitVec.ofInt IntKind.i64.bits b &&& BitVec.ofInt IntKind.i64.bits 255).toNat))=((fV b).toNat:Int):=by
 have h1:(BitVec.ofInt IntKind.i64.bits b &&& BitVec.ofInt IntKind.i64.bits 255).toNat=(b%256).toNat:=by
  have h2:(BitVec.ofInt 64 b &&& BitVec.ofInt 64 255).toNat=(BitVec.ofInt 64 b).toNat%256:=by
   rw[BitVec.toNat_and,show (BitVec.ofInt 64 255).toNat=2 ^ 8-1 from rfl,Nat.and_two_pow_sub_one_eq_mod]
  show (BitVec.ofInt 64 b &&& BitVec.ofInt 64 255).toNat=_;rw[h2,BitVec.toNat_ofInt];omega
 rw[h1,fU.u8,fV,fV];have h3:=Int.emod_nonneg b (show (256:Int)≠0 by decide);have h4:=Int.emod_lt_of_pos b (show (0:Int)<256 by decide);have h5:IntKind.i64.wrap ((b%256).toNat:Int)=b%256:=by rw[gr (by omega) (by omega)];omega
 rw[h5,Int.emod_emod_of_dvd _ (by decide)]
set_option maxHeartbeats 1000000 in
theorem ab7 (I:U W w (bw W D p v::L))(hv:bD p cf c v)(a1:dg p)(aE:p.title.size≤1000000000)(hc:c≤1000000)(hf:¬ (3≤t.fn∧t.fn≤6)) :
   Calls prog 50 #[pt D.wb,.agg (ei t).toArray] w λe V=>e=.returned (.int .i64 (bq p t v).1)∧U W V (bw W D p (bq p t v).2::L):=by
 replace I:=bw.open I;obtain⟨adP,cP,adN,cN,adE,cE,xs,es,⟨eg,c3,dJ⟩,I⟩:=I;have cj:xs.length=v.ps.length:=by rw[← c3,bd]
 have cg:∀ V,U W V (aa D.wb 40 [pt D.mb,.slice adP xs.length cP,.slice adN v.net.length cN,.slice adE es.length cE]::Sl 34 1 adP xs.length cP (xs.map ek)::ah (dj W p) xs::cu 60 adN v.net.length cN v.net::Sl 70 1 adE es.length cE (es.map bx)::ah fK es::L)→U W V (bw W D p v::L):=λV h=>bw.close h eg c3 dJ;refine EN func50 ntmps50 rfl rfl λa E=>?_;refine BX 1 E I λb3 a w E I=>?_;change U W w (aa b3 58 (ei t)::_) at I;refine BY 7 E I (λbS a E=>?_) λbS a E=>?_
 ·
  refine RT 7 E I ?_;rw[bq,ak (by omega)];exact⟨rfl,cg _ I.sub⟩
 refine IF 4 E I (λaj a E=>?_) λaj a E=>?_
 ·
  refine RT 2 E I ?_;rw[bq,ak (by omega)];exact⟨rfl,cg _ I.sub⟩
 refine RN 0 E I λa E=>?_;refine b7 (M:=λa w=>(¬ (t.fn<1∨8<t.fn)∧Fr a 74 [(0,pt D.wb),(3,pt b3),(4,.int .i64 0)])∧U W w (aa b3 58 (ei t)::aa D.wb 40 [pt D.mb,.slice adP xs.length cP,.slice adN v.net.length cN,.slice adE es.length cE]::Sl 34 1 adP xs.length cP (xs.map ek)::ah (dj W p) xs::cu 60 adN v.net.length cN v.net::Sl 70 1 adE es.length cE (es.map bx)::ah fK es::L)) ?_ ?_
 ·
  refine BY 5 E I (λbS a E=>?_) λbS a E=>?_
  ·
   refine RN 4 E I λa E=>?_;rw[bn (by omega)]at E;refine RN 1 E I λa E=>?_;exact⟨⟨by omega,E.ab [0,3,4]⟩,I.sub⟩
  refine RN 5 E I λa E=>?_;exact⟨⟨by omega,E.ab [0,3,4]⟩,I.sub⟩
 clear E;(try clear I);rintro a w ⟨⟨gZ,E⟩,I⟩;refine b7 (M:=λa w=>(∃ i:Nat,(t.a=i∧i<v.ps.length)∧Fr a 74 [(0,pt D.wb),(3,pt b3),(4,.int .i64 0)])∧U W w (aa b3 58 (ei t)::aa D.wb 40 [pt D.mb,.slice adP xs.length cP,.slice adN v.net.length cN,.slice adE es.length cE]::Sl 34 1 adP xs.length cP (xs.map ek)::ah (dj W p) xs::cu 60 adN v.net.length cN v.net::Sl 70 1 adE es.length cE (es.map bx)::ah fK es::L)) ?_ ?_
 ·
  refine aZ 1 (λw0 V=>Rd V b3 0 (ei t)∧Rd V D.wb 0 [pt D.mb,.slice adP xs.length cP,.slice adN v.net.length cN,.slice adE es.length cE]) [9,10] [0,1001,2,3,4,6,7,8,3005,1009,1010,11,12] E I λa w E I hH=>?_;have hC:=hH.at w ⟨I.ai (b:=b3),I.ai (b:=D.wb)⟩;refine RH 1 E I hH hC λa E=>?_;refine SS E (ag E (hC.1 1 _ rfl)) λa E=>?_;refine RH 2 E I hH hC λa E=>?_;refine E.by (s:=28) (λbS E=>?_) (λbS E=>?_)
  ·
   refine RH 9 E I hH hC λa E=>?_;refine RT 3 E I ?_;have ho:t.a<0∨(v.ps.length:Int)≤t.a:=by omega
   have aQ:bq p t v=(7,v):=by rw[bq,ae (by omega),ae hf,gq,ak ho]
   rw[aQ];exact⟨rfl,cg _ I.sub⟩
  refine RH 4 E I hH hC λa E=>?_;refine QH E (λw hc=>ag E (hc.1 1 _ rfl)) hC λa E=>?_;refine RH 0 E I hH hC λa E=>?_;refine bE E (cS E rfl (s:=28)) (ag E (hC.2 1 _ rfl)) rfl λa E=>?_;refine RH 3 E I hH hC λa E=>?_;refine IF 0 E I (λay a E=>?_) λay a E=>?_
  ·
   refine RT 2 E I ?_;have ho:t.a<0∨(v.ps.length:Int)≤t.a:=by omega
   have aQ:bq p t v=(7,v):=by rw[bq,ae (by omega),ae hf,gq,ak ho]
   rw[aQ];exact⟨rfl,cg _ I.sub⟩
  refine RN 0 E I λa E=>?_;exact⟨⟨t.a.toNat,⟨by omega,by omega⟩,E.ab [0,3,4]⟩,I.sub⟩
 clear E;(try clear I);rintro a w ⟨⟨i,⟨fW,hi⟩,E⟩,I⟩;refine RN 1 E I λa E=>?_;obtain⟨x,hx⟩:∃ x,xs[i]?=some (x,an v i):=Bt c3 (by omega);have aQ:bq p t v=gq p t v:=by rw[bq,ae gZ,ae hf]
 obtain⟨hw,c5,wE⟩:=hv.pl i hi;have ta:(xs.map ek)[i]?=some (pt x.pb):=by rw[bm,hx];rfl
 obtain⟨bp,op,rfl,_⟩:=(I.pick (Sl 34 1 adP xs.length cP (xs.map ek))).bY adP (by omega);refine aZ 0 (λw0 V=>(Rd V b3 0 (ei t)∧Rd V D.wb 0 [pt D.mb,.slice (some ⟨bp,op,none⟩) xs.length cP,.slice adN v.net.length cN,.slice adE es.length cE])∧Rd V bp op (xs.map ek)) [5] [0,1,2,4,3003,1005,6,1007,8] E I λa w E I hH=>?_;have hC:=hH.at w ⟨⟨I.ai (b:=b3),I.ai (b:=D.wb)⟩,I.cC bp op (by omega)⟩;refine RH 4 E I hH hC λa E=>?_;refine QH E (λw hc=>ag E (hc.1.2 1 _ rfl)) hC λa E=>?_;refine RH 0 E I hH hC λa E=>?_;refine SS E (ag E (hC.1.1 1 _ rfl)) λa E=>?_;rw[fW]at E;refine RH 1 E I hH hC λa E=>?_;refine SS E (ag E (hC.2 i _ ta)) λa E=>?_;refine RH 1 E I hH hC λa E=>?_;refine RN 2 E I λa E=>?_;replace I:=Bu (I.pick (ah (dj W p) xs)) hx;refine IF 5 E I (λbh a E=>?_) λbh a E=>?_
 ·
  refine RN 5 E I λa E=>?_;refine SS E (gg E underlying3 underlying5) λa E=>?_;rw[Ny]at E;refine CL 0 E I (aaM (x:=fV t.b) (I.pick (bX W x p (an v i))) hw a1 aE) λa w E I=>?_;refine RT 1 E I ?_;rw[aQ,Bh (by assumption) fW hi];exact⟨rfl,bw.put (adP:=some ⟨bp,op,none⟩) (cP:=cP) (adN:=adN) (cN:=cN) (adE:=adE) (cE:=cE) eg c3 dJ hx v.net I.sub⟩
 refine IF 3 E I (λbR a E=>?_) λbR a E=>?_
 ·
  replace I:=bX.open (I.pick (bX W x p (an v i)));refine aY 5 E I (aaC (I.pick (aW x.core (an v i).k)) hw.wc (by omega)) λGq oj a w E I=>?_;refine CL 0 E I (Nv (((I.pick (aa D.wb 40 [pt D.mb,.slice (some ⟨bp,op,none⟩) xs.length cP,.slice adN v.net.length cN,.slice adE es.length cE])).pick (cu 60 adN v.net.length cN v.net)).pick (cu 60 Gq (bo (an v i).k).1.length oj (bo (an v i).k).1)) (Mq hw.wc) hv.net.1) λa w E ⟨uX,uY,I⟩=>?_;refine RN 0 E I λa E=>?_;replace I:=bX.fold I x p ⟨(bo (an v i).k).2,(an v i).g⟩;refine RT 2 E I ?_;rw[aQ]
  first
   | (rw[wD (by assumption) fW hi];exact⟨rfl,bw.put (adP:=some ⟨bp,op,none⟩) (cP:=cP) (adN:=uX) (cN:=uY) (adE:=adE) (cE:=cE) eg c3 dJ hx (dY v.net (bo (an v i).k).1) I.sub⟩)
   | (rw[uQ (by assumption) fW hi];exact⟨rfl,bw.put (adP:=some ⟨bp,op,none⟩) (cP:=cP) (adN:=uX) (cN:=uY) (adE:=adE) (cE:=cE) eg c3 dJ hx (dY v.net (bu (an v i).k).1) I.sub⟩)
   | (rw[yA (by omega) fW hi];exact⟨rfl,cg _ (Bv ((I.pick (ah (dj W p) (xs.eraseIdx i))).pick (bX W x p (an v i))) hx).sub⟩)
 refine IF 3 E I (λeE a E=>?_) λeE a E=>?_
 ·
  replace I:=bX.open (I.pick (bX W x p (an v i)));refine aY 5 E I (aaz (I.pick (aW x.core (an v i).k)) hw.wc) λGq oj a w E I=>?_;refine CL 0 E I (Nv (((I.pick (aa D.wb 40 [pt D.mb,.slice (some ⟨bp,op,none⟩) xs.length cP,.slice adN v.net.length cN,.slice adE es.length cE])).pick (cu 60 adN v.net.length cN v.net)).pick (cu 60 Gq (bu (an v i).k).1.length oj (bu (an v i).k).1)) (Mr hw.wc) hv.net.1) λa w E ⟨uX,uY,I⟩=>?_;refine RN 0 E I λa E=>?_;replace I:=bX.fold I x p ⟨(bu (an v i).k).2,(an v i).g⟩;refine RT 2 E I ?_;rw[aQ]
  first
   | (rw[wD (by assumption) fW hi];exact⟨rfl,bw.put (adP:=some ⟨bp,op,none⟩) (cP:=cP) (adN:=uX) (cN:=uY) (adE:=adE) (cE:=cE) eg c3 dJ hx (dY v.net (bo (an v i).k).1) I.sub⟩)
   | (rw[uQ (by assumption) fW hi];exact⟨rfl,bw.put (adP:=some ⟨bp,op,none⟩) (cP:=cP) (adN:=uX) (cN:=uY) (adE:=adE) (cE:=cE) eg c3 dJ hx (dY v.net (bu (an v i).k).1) I.sub⟩)
   | (rw[yA (by omega) fW hi];exact⟨rfl,cg _ (Bv ((I.pick (ah (dj W p) (xs.eraseIdx i))).pick (bX W x p (an v i))) hx).sub⟩)
 refine RT 2 E I ?_;rw[aQ]
 first
  | (rw[wD (by assumption) fW hi];exact⟨rfl,bw.put (adP:=some ⟨bp,op,none⟩) (cP:=cP) (adN:=uX) (cN:=uY) (adE:=adE) (cE:=cE) eg c3 dJ hx (dY v.net (bo (an v i).k).1) I.sub⟩)
  | (rw[uQ (by assumption) fW hi];exact⟨rfl,bw.put (adP:=some ⟨bp,op,none⟩) (cP:=cP) (adN:=uX) (cN:=uY) (adE:=adE) (cE:=cE) eg c3 dJ hx (dY v.net (bu (an v i).k).1) I.sub⟩)
  | (rw[yA (by omega) fW hi];exact⟨rfl,cg _ (Bv ((I.pick (ah (dj W p) (xs.eraseIdx i))).pick (bX W x p (an v i))) hx).sub⟩)
end
end
section
section
variable {W w:World}{L L':List SP}{n c k cP cN cE wb i j:Nat}{adP adN adE:Option Addr}{p:Pr}{v:Wd}{D:pK}{net:List Ml}{xs:List (fT×Pl)}{es:List kr}{x:fT}{s:Pl}{t:fU}{cf:Cf}{m:Ml}
theorem ab8 (I:U W w (bw W D p v::L))(ho:t.n<0∨(v.net.length:Int)≤t.n) :
   Calls prog 70 #[pt D.wb,.agg (ei t).toArray] w λe V=>e=.returned (.int .i64 3)∧U W V (bw W D p v::L):=by
 replace I:=bw.open I;obtain⟨adP,cP,adN,cN,adE,cE,xs,es,⟨eg,c3,dJ⟩,I⟩:=I;have cg:∀ V,U W V (aa D.wb 40 [pt D.mb,.slice adP xs.length cP,.slice adN v.net.length cN,.slice adE es.length cE]::Sl 34 1 adP xs.length cP (xs.map ek)::ah (dj W p) xs::cu 60 adN v.net.length cN v.net::Sl 70 1 adE es.length cE (es.map bx)::ah fK es::L)→U W V (bw W D p v::L):=λV h=>bw.close h eg c3 dJ;refine EN func70 ntmps70 rfl rfl λa E=>?_;refine BX 1 E I λb3 a w E I=>?_;change U W w (aa b3 58 (ei t)::_) at I;refine aZ 3 (λw0 V=>Rd V b3 0 (ei t)∧Rd V D.wb 0 [pt D.mb,.slice adP xs.length cP,.slice adN v.net.length cN,.slice adE es.length cE]) [9,10] [0,1001,2,3,4,6,7,8,3005,1009,1010,11,12] E I λa w E I hH=>?_;have hC:=hH.at w ⟨I.ai (b:=b3),I.ai (b:=D.wb)⟩;refine RH 1 E I hH hC λa E=>?_;refine SS E (ag E (hC.1 3 _ rfl)) λa E=>?_;refine RH 2 E I hH hC λa E=>?_;refine E.by (s:=10) (λbS E=>?_) (λbS E=>?_)
 ·
  refine RH 9 E I hH hC λa E=>?_;refine RT 3 E I ?_;exact⟨rfl,cg _ I.sub⟩
 refine RH 4 E I hH hC λa E=>?_;refine QH E (λw hc=>ag E (hc.1 3 _ rfl)) hC λa E=>?_;refine RH 0 E I hH hC λa E=>?_;refine bE E (cS E rfl (s:=10)) (ag E (hC.2 2 _ rfl)) rfl λa E=>?_;refine RH 3 E I hH hC λa E=>?_;rw[dk (by omega)]at E;refine RT 3 E I ?_;exact⟨rfl,cg _ I.sub⟩
theorem bw.By {ys:List Mx}(h1:xs.map (·.1)=D.mB)(h2:xs.map (·.2)=v.ps)(h3:es.map (·.2.2)=v.ev)(hy:ys.map (·.2.2)=net)
   (I:U W w (Sl 60 3 adN net.length cN (rows bZ ys)::ah b0 ys::aa D.wb 40 [pt D.mb,.slice adP xs.length cP,.slice adN net.length cN,.slice adE es.length cE]::Sl 34 1 adP xs.length cP (xs.map ek)::ah (dj W p) xs::Sl 70 1 adE es.length cE (es.map bx)::ah fK es::L)) :
   U W w (bw W D p { v with net:=net }::L):=by
 have h4:=cu.close I hy rfl;exact bw.close (v:={ v with net:=net }) (h4.sub (M:=aa D.wb 40 [pt D.mb,.slice adP xs.length cP,.slice adN net.length cN,.slice adE es.length cE]::Sl 34 1 adP xs.length cP (xs.map ek)::ah (dj W p) xs::cu 60 adN net.length cN net::Sl 70 1 adE es.length cE (es.map bx)::ah fK es::L)) h1 h2 h3
theorem Gr {ys:List Mx}{y:Mx}(I:U W w (ah b0 ys::L))(hy:ys[j]?=some y):a6 w y.1 y.2.2.2.2.length y.2.2.2.2:=by
 obtain⟨h1,h2⟩:=a2.1 hy;have h3:=I.fE h1;rw[h2]at h3;exact U.cF (L:=b0 y::_) h3 _ _ (k:=(fL.head:fL (Sl 5 1 y.1 y.2.2.2.2.length y.2.1 (bc y.2.2.2.2)::_) y.1 _ _ _ _ _ _)) rfl rfl
set_option maxHeartbeats 2000000 in
theorem ab9 (I:U W w (bw W D p v::L))(hv:bD p cf c v)(a1:dg p)(aE:p.title.size≤1000000000)(hf:t.fn=3∨t.fn=4∨t.fn=5∨t.fn=6)(gD:t.n=j)(hm:v.net[j]?=some m) :
   Calls prog 70 #[pt D.wb,.agg (ei t).toArray] w λe V=>e=.returned (.int .i64 (gb p t v).1)∧U W V (bw W D p (gb p t v).2::L):=by
 have dG:=(a2.1 hm).1;have gM:=hv.F4 dG;rw[Bj hm]at gM;obtain⟨hw,c5,wE⟩:=hv.pl m.2.1 gM.1;have o6:=hv.net.1;replace I:=bw.open I;obtain⟨adP,cP,adN,cN,adE,cE,xs,es,⟨eg,c3,dJ⟩,I⟩:=I;have cj:xs.length=v.ps.length:=by rw[← c3,bd]
 obtain⟨ys,nH,j3,I⟩:=cu.open (I.pick (cu 60 adN v.net.length cN v.net));have uW:ys.length=v.net.length:=by rw[← nH,bd]
 obtain⟨y,hy,l5⟩:∃ y,ys[j]?=some y∧y.2.2=m:=by
  have h1:(ys.map (·.2.2))[j]?=some m:=by rw[nH,hm]
  rw[bm,aI (by omega)]at h1;exact⟨_,aI (by omega),by simpa using h1⟩
 subst l5;obtain⟨bC,on,rfl,_⟩:=(I.pick (Sl 60 3 adN v.net.length cN (rows bZ ys))).bY adN (by omega);refine EN func70 ntmps70 rfl rfl λa E=>?_;refine BX 1 E I λb3 a w E I=>?_;change U W w (aa b3 58 (ei t)::_) at I;refine aZ 3 (λw0 V=>Rd V b3 0 (ei t)∧Rd V D.wb 0 [pt D.mb,.slice adP xs.length cP,.slice (some ⟨bC,on,none⟩) v.net.length cN,.slice adE es.length cE]) [9,10] [0,1001,2,3,4,6,7,8,3005,1009,1010,11,12] E I λa w E I hH=>?_;have hC:=hH.at w ⟨I.ai (b:=b3),I.ai (b:=D.wb)⟩;refine RH 1 E I hH hC λa E=>?_;refine SS E (ag E (hC.1 3 _ rfl)) λa E=>?_;refine RH 2 E I hH hC λa E=>?_;rw[bn (by omega)]at E;refine RH 4 E I hH hC λa E=>?_;refine QH E (λw hc=>ag E (hc.1 3 _ rfl)) hC λa E=>?_;refine RH 0 E I hH hC λa E=>?_;refine bE E (cS E rfl (s:=10)) (ag E (hC.2 2 _ rfl)) rfl λa E=>?_;refine RH 3 E I hH hC λa E=>?_;rw[bn (by omega)]at E;refine aZ 2 (λw0 V=>(Rd V b3 0 (ei t)∧Rd V D.wb 0 [pt D.mb,.slice adP xs.length cP,.slice (some ⟨bC,on,none⟩) v.net.length cN,.slice adE es.length cE])∧Rd V bC (on+j*3) (bZ y)) [5,8] [0,1,2,4,3003,3005,6,3007,1008,1009] E I λa w E I hH=>?_;have hC:=hH.at w ⟨⟨I.ai (b:=b3),I.ai (b:=D.wb)⟩,jA oy (I.cC bC on (by omega)) hy⟩;refine RH 4 E I hH hC λa E=>?_;refine QH E (λw hc=>ag E (hc.1.2 2 _ rfl)) hC λa E=>?_;refine QH E (λw hc=>ag E (hc.1.1 3 _ rfl)) hC λa E=>?_;rw[gD]at E;refine RH 1 E I hH hC λa E=>?_;refine QH E (λw hc=>bT E underlying60 rfl Ty.t60 (hc.2)) hC λa E=>?_;refine RH 0 E I hH hC λa E=>?_;refine eR E rfl I Ty.t60 rfl λb5 a w E I ho=>?_;clear ho;replace hC:=hH.at w ⟨⟨I.ai (b:=b3),I.ai (b:=D.wb)⟩,jA oy (I.cC bC on (by omega)) hy⟩;refine RH 0 E I hH hC λa E=>?_;refine SA 0 E I λa w E I=>?_;refine RN 0 E I λa E=>?_;refine IF 5 E I (λao a E=>?_) λao a E=>?_
 ·
  refine BY 6 E I (λbS a E=>?_) λbS a E=>?_
  ·
   refine RT 10 E I ?_;have ho:t.a<0∨(y.2.2.2.2.length:Int)≤t.a:=by omega
   rw[uR (by assumption) gD hm,ak ho];exact⟨rfl,bw.By (adP:=adP) (cP:=cP) (adN:=some ⟨bC,on,none⟩) (cN:=cN) (adE:=adE) (cE:=cE) (net:=v.net) (ys:=ys) eg c3 dJ nH I.sub⟩
  refine IF 7 E I (λay a E=>?_) λay a E=>?_
  ·
   refine RT 2 E I ?_;have ho:t.a<0∨(y.2.2.2.2.length:Int)≤t.a:=by omega
   rw[uR (by assumption) gD hm,ak ho];exact⟨rfl,bw.By (adP:=adP) (cP:=cP) (adN:=some ⟨bC,on,none⟩) (cN:=cN) (adE:=adE) (cE:=cE) (net:=v.net) (ys:=ys) eg c3 dJ nH I.sub⟩
  refine RN 1 E I λa E=>?_;have ho:¬ (t.a<0∨(y.2.2.2.2.length:Int)≤t.a):=by omega
  obtain⟨A,hA⟩:∃ A:Nat,t.a=A:=⟨t.a.toNat,by omega⟩;have Bz:A<y.2.2.2.2.length:=by omega
  have z6:=Gr (I.pick (ah b0 ys)) hy;replace I:=I.bM 5 1 none;refine RN 2 E I λa E=>?_;refine gV E rfl I underlying22 Ty.t5 rfl rfl (by decide) (λh0=>z6.get h0) (by rw[dw];omega) (ep _) (by omega) λna kV a w E I=>?_;rw[nil_append,Nat.zero_add]at I;rw[Nat.zero_add]at E;refine RN 2 E I λa E=>?_;have aeW:=((I.pick (Sl 5 1 na y.2.2.2.2.length kV (bc y.2.2.2.2))).sl na).2;obtain⟨bb,pre,post,⟨h3,h4,rfl,h6⟩,gx⟩:=(I.pick (Sl 5 1 na y.2.2.2.2.length kV (bc y.2.2.2.2))).lv (by omega);replace I:=gx;clear gx;have hb:(pre++bc y.2.2.2.2++post)[pre.length+A]?=some (.int .u8 (y.2.2.2.2[A].toNat:Int)):=by
   rw[dv,getElem?_append_right (by omega),show pre.length+A-pre.length=A from by omega,lS (by rw[dw];exact Bz)];simp[bc,Bz]
  refine aZ 0 (λw0 V=>Rd V b3 0 (ei t)∧V.cell? ⟨bb,pre.length+A,none⟩=some (.int .u8 (y.2.2.2.2[A].toNat:Int))) [6,7,8] [0,1,5,3002,3,3004,1006,1007,1008,9,10,1011] E I λa w E I hH=>?_;have hC:=hH.at w ⟨I.ai (b:=b3),I.bB (b:=bb) hb⟩;refine RH 3 E I hH hC λa E=>?_;refine QH E (λw hc=>ag E (hc.1 1 _ rfl)) hC λa E=>?_;rw[hA]at E;refine RH 1 E I hH hC λa E=>?_;refine QH E (λw hc=>ag E (hc.2)) hC λa E=>?_;refine RH 0 E I hH hC λa E=>?_;refine SS E (ag E (hC.1 2 _ rfl)) λa E=>?_;refine RH 1 E I hH hC λa E=>?_;refine SS E (gg E underlying3 underlying5) λa E=>?_;rw[Ny]at E;refine RH 2 E I hH hC λa E=>?_;refine ST 0 E I (λa w E I=>?_) (hlt:=(by simp only[aL,dw];omega));refine RN 0 E I λa E=>?_;rw[yx (by rw[dw];exact Bz),MG]at I;have Nz:=U.iG (n:=y.2.2.2.2.length) (c:=kV) (sz:=1) (I.jD bb) (by rw[dw,br,Nat.mul_one]) h4 h6;replace I:=Nz;clear Nz;have o7:=((I.pick (Sl 60 3 (some ⟨bC,on,none⟩) v.net.length cN (rows bZ ys))).sl (some ⟨bC,on,none⟩)).2;obtain⟨lq,uZ,NA,⟨qz,rO,vM,NB⟩,gx⟩:=(I.pick (Sl 60 3 (some ⟨bC,on,none⟩) v.net.length cN (rows bZ ys))).lv (by omega);replace I:=gx;clear gx;obtain⟨rfl,rfl⟩:bC=lq∧on=uZ.length:=by simpa using vM
  refine aZ 1 (λw0 V=>Rd V b3 0 (ei t)∧Rd V D.wb 0 [pt D.mb,.slice adP xs.length cP,.slice (some ⟨bC,uZ.length,none⟩) v.net.length cN,.slice adE es.length cE]) [5] [0,1,2,4,6,3003,1005,7,8,1009] E I λa w E I hH=>?_;have hC:=hH.at w ⟨I.ai (b:=b3),I.ai (b:=D.wb)⟩;refine RH 5 E I hH hC λa E=>?_;refine QH E (λw hc=>ag E (hc.2 2 _ rfl)) hC λa E=>?_;refine RH 0 E I hH hC λa E=>?_;refine SS E (ag E (hC.1 3 _ rfl)) λa E=>?_;rw[gD]at E;refine RH 2 E I hH hC λa E=>?_;refine ST 0 E I (λa w E I=>?_) (hlt:=(by simp only[aL];omega));refine RT 2 E I ?_;rw[uR (by assumption) gD hm,ae ho];refine⟨rfl,?_⟩;rw[hA,Int.toNat_natCast,bl,aI Bz,Option.getD_some];obtain⟨sw,yI⟩:=a2.1 hy;obtain⟨Y,vr⟩:∃ Y:Mx,Y=(some ⟨bb,pre.length,none⟩,kV,(y.2.2.1,y.2.2.2.1,y.2.2.2.2.set A (y.2.2.2.2[A] ^^^ fV t.b))):=⟨_,rfl⟩;have e1:(rows bZ ys).set (j*3+2) (.slice (some ⟨bb,pre.length,none⟩) y.2.2.2.2.length kV)=rows bZ (ys.set j Y):=pX oy ys (i:=j) (k:=2) Y sw (by decide) (by rw[yI,vr];simp[bZ,br]);rw[Nat.add_assoc,yx (by rw[qz];omega),e1]at I;have h8:=U.iG (n:=v.net.length) (c:=cN) (sz:=3) (I.jD bC) (by rw[iW oy,br,uW]) rO NB;have h9:=((h8.pick (ah b0 ys)).fE sw).tail;have F7:Sl 5 1 (some ⟨bb,pre.length,none⟩) y.2.2.2.2.length kV (bc (y.2.2.2.2.set A (y.2.2.2.2[A] ^^^ fV t.b)))=b0 Y:=by rw[vr,b0];simp only[br]
  have fF:=(h9.pick (ah b0 (ys.eraseIdx j))).pick (Sl 5 1 (some ⟨bb,pre.length,none⟩) y.2.2.2.2.length kV (bc (y.2.2.2.2.set A (y.2.2.2.2[A] ^^^ fV t.b))));rw[F7]at fF;have mO:=U.ky (f:=b0) sw fF;refine bw.By (adP:=adP) (cP:=cP) (adN:=some ⟨bC,uZ.length,none⟩) (cN:=cN) (adE:=adE) (cE:=cE) (ys:=ys.set j Y) eg c3 dJ (by rw[List.map_set,nH,vr]) ?_;rw[br];exact mO.sub
 refine RN 0 E I λa E=>?_;refine b7 (M:=λa w=>∃ (ck:Option Addr) (cM:Nat) (zs:List Mx) (Z:SP),((zs.map (·.2.2)=(if t.fn=5 then v.net else v.net.eraseIdx j)∧(∀ V L',U W V (ah b0 zs::Z::L')→a6 V y.1 y.2.2.2.2.length y.2.2.2.2)∧y.2.2.2.2.length≤y.2.1)∧Fr a 103 [(0,pt D.wb),(3,pt b3),(5,pt b5)])∧U W w (aa b5 60 (bZ y)::aa b3 58 (ei t)::Sl 60 3 ck zs.length cM (rows bZ zs)::ah b0 zs::Z::aa D.wb 40 [pt D.mb,.slice adP xs.length cP,.slice ck zs.length cM,.slice adE es.length cE]::Sl 34 1 adP xs.length cP (xs.map ek)::ah (dj W p) xs::Sl 70 1 adE es.length cE (es.map bx)::ah fK es::L)) ?_ ?_
 ·
  refine IF 4 E I (λbh a E=>?_) λbh a E=>?_
  ·
   refine RN 0 E I λa E=>?_;have o7:=((I.pick (Sl 60 3 (some ⟨bC,on,none⟩) v.net.length cN (rows bZ ys))).sl (some ⟨bC,on,none⟩)).2;refine aZ 0 (λw0 V=>Rd V b3 0 (ei t)∧Rd V D.wb 0 [pt D.mb,.slice adP xs.length cP,.slice (some ⟨bC,on,none⟩) v.net.length cN,.slice adE es.length cE]) [6,8,13,15,16,17] [0,1,2,3,5,7,10,11,12,14,3004,3006,3008,9,3013,1015,1016,1017,1018,19,20,1021] E I λa w E I hH=>?_;have hC:=hH.at w ⟨I.ai (b:=b3),I.ai (b:=D.wb)⟩;refine RH 10 E I hH hC λa E=>?_;refine QH E (λw hc=>ag E (hc.2 2 _ rfl)) hC λa E=>?_;refine QH E (λw hc=>ag E (hc.1 3 _ rfl)) hC λa E=>?_;rw[gD]at E;refine RH 0 E I hH hC λa E=>?_;refine QH E (λw hc=>ag E (hc.1 3 _ rfl)) hC λa E=>?_;rw[gD]at E;refine RH 1 E I hH hC λa E=>?_;refine QH E (λw hc=>ag E (hc.2 2 _ rfl)) hC λa E=>?_;refine RH 0 E I hH hC λa E=>?_;refine SS E (ag E (hC.1 3 _ rfl)) λa E=>?_;rw[gD]at E;refine RH 2 E I hH hC λa E=>?_;have aca:fk (some ⟨bC,on,none⟩) 0 j 3=some ⟨bC,on,none⟩:=by
    by_cases h0:j=0
    ·subst h0;rfl
    ·rw[oP h0,Nat.zero_mul,Nat.add_zero]
   have wx:rows bZ ys=rows bZ (ys.take j)++rows bZ (ys.drop j):=by rw[← j9,jE]
   have acb:rows bZ ys=rows bZ (ys.take (j+1))++rows bZ (ys.drop (j+1)):=by rw[← j9,jE]
   have de:Rd w bC (on+(j+1)*3) (rows bZ (ys.drop (j+1))):=by
    have h1:Rd w bC on (rows bZ ys):=I.cC bC on (by omega);have h2:=h1.part ((j+1)*3) ((ys.length-(j+1))*3);rw[acb,List.drop_left' (by rw[iW oy,et];omega),fX (by rw[iW oy,c6];omega)]at h2;exact h2
   obtain⟨lq,uZ,NA,⟨qz,rO,vM,NB⟩,gx⟩:=(I.pick (Sl 60 3 (some ⟨bC,on,none⟩) v.net.length cN (rows bZ ys))).lv (by omega);obtain⟨rfl,rfl⟩:bC=lq∧on=uZ.length:=by simpa using vM
   rw[wx,← dv uZ,dv _ _ NA]at gx;replace I:=U.iG (n:=j) (c:=j) (sz:=3) gx (by rw[iW oy,et];omega) (bf _) (by omega);clear gx;rw[aca]at E;refine gV E rfl I underlying37 Ty.t60 rfl rfl (by decide) (λh0=>⟨bC,uZ.length+(j+1)*3,oP (by omega),de⟩) (by rw[iW oy,c6];omega) (yZ Yv _) (by omega) λacd c86 a w E I=>?_;rw[← j9,← eraseIdx_eq_take_drop_succ]at I;have mz:j+(v.net.length-(j+1))=(ys.eraseIdx j).length:=by rw[List.length_eraseIdx_of_lt (by omega)];omega
   rw[mz]at I E;refine ST 2 E I (λa w E I=>?_);refine RN 0 E I λa E=>?_;obtain⟨sw,yI⟩:=a2.1 hy;have h1:=(I.pick (ah b0 ys)).fE sw;rw[yI]at h1;have oz:y.2.2.2.2.length≤y.2.1:=(U.sl (L:=b0 y::_) (k:=(fL.head:fL (Sl 5 1 y.1 y.2.2.2.2.length y.2.1 (bc y.2.2.2.2)::_) y.1 _ _ _ _ _ _)) h1 y.1).2;refine⟨acd,c86,ys.eraseIdx j,b0 y,⟨⟨?_,λV L' h=>?_,oz⟩,E.ab [0,3,5]⟩,h1.sub⟩
   ·rw[ae (by omega),← nH];simp only[eraseIdx_eq_take_drop_succ,cQ,map_take,map_drop]
   ·have h2:=h.pick (b0 y);exact U.cF (L:=b0 y::_) h2 _ _ (k:=(fL.head:fL (Sl 5 1 y.1 y.2.2.2.2.length y.2.1 (bc y.2.2.2.2)::_) y.1 _ _ _ _ _ _)) rfl rfl
  refine RN 0 E I λa E=>?_;obtain⟨sw,yI⟩:=a2.1 hy;have oz:y.2.2.2.2.length≤y.2.1:=by
   have h1:=(I.pick (ah b0 ys)).fE sw;rw[yI]at h1;exact (U.sl (L:=b0 y::_) (k:=(fL.head:fL (Sl 5 1 y.1 y.2.2.2.2.length y.2.1 (bc y.2.2.2.2)::_) y.1 _ _ _ _ _ _)) h1 y.1).2
  refine⟨some ⟨bC,on,none⟩,cN,ys,Sl 5 1 none 0 0 [],⟨⟨by rw[ak (by omega)];exact nH,λV L' h=>Gr h hy,oz⟩,E.ab [0,3,5]⟩,?_⟩;rw[uW];exact (I.bM 5 1 none).sub
 clear E;(try clear I);rintro a w ⟨ck,cM,zs,Z,⟨⟨qp,ace,oz⟩,E⟩,I⟩;refine IF 5 E I (λbR a E=>?_) λbR a E=>?_
 ·
  refine RT 2 E I ?_;have iU:zs.length=(v.net.eraseIdx j).length:=by rw[← bd (f:=(·.2.2)),qp,ae (by omega)]
  rw[Ge (by assumption) gD hm];rw[ae (by omega)]at qp;refine⟨rfl,?_⟩;refine bw.By (adP:=adP) (cP:=cP) (adN:=ck) (cN:=cM) (adE:=adE) (cE:=cE) (ys:=zs) eg c3 dJ qp ?_;rw[← iU];exact I.sub
 refine RN 1 E I λa E=>?_;obtain⟨x,hx⟩:∃ x,xs[y.2.2.2.1]?=some (x,an v y.2.2.2.1):=Bt c3 (by omega);have ta:(xs.map ek)[y.2.2.2.1]?=some (pt x.pb):=by rw[bm,hx];rfl
 obtain⟨bp,op,rfl,_⟩:=(I.pick (Sl 34 1 adP xs.length cP (xs.map ek))).bY adP (by omega);refine aZ 0 (λw0 V=>(Rd V b5 0 (bZ y)∧Rd V D.wb 0 [pt D.mb,.slice (some ⟨bp,op,none⟩) xs.length cP,.slice ck zs.length cM,.slice adE es.length cE])∧Rd V bp op (xs.map ek)) [5,9] [0,1,2,4,8,3003,3005,6,3007,1009,1010,11] E I λa w E I hH=>?_;have hC:=hH.at w ⟨⟨I.ai (b:=b5),I.ai (b:=D.wb)⟩,I.cC bp op (by omega)⟩;refine RH 5 E I hH hC λa E=>?_;refine QH E (λw hc=>ag E (hc.1.2 1 _ rfl)) hC λa E=>?_;refine QH E (λw hc=>ag E (hc.1.1 1 _ rfl)) hC λa E=>?_;refine RH 1 E I hH hC λa E=>?_;refine QH E (λw hc=>ag E (hc.2 _ _ ta)) hC λa E=>?_;refine RH 0 E I hH hC λa E=>?_;refine SS E (ag E (hC.1.1 2 _ rfl)) λa E=>?_;replace I:=Bu (I.pick (ah (dj W p) xs)) hx;refine RH 0 E I hH hC λa E=>?_;refine CL 0 E I (aaN (bs:=y.2.2.2.2) (I.pick (bX W x p (an v y.2.2.2.1))) hw a1 aE (by omega) oz (λV dd=>ace V _ ((dd.pick Z).pick (ah b0 zs)))) λa w E I=>?_;refine RN 1 E I λa E=>?_;refine RT 0 E I ?_;rw[Bk (by omega) (by omega) gD hm];refine⟨rfl,?_⟩;have iU:zs.length=(if t.fn=5 then v.net else v.net.eraseIdx j).length:=by rw[← bd (f:=(·.2.2)),qp]
 have h1:=cu.close ((I.pick (ah b0 zs)).pick (Sl 60 3 ck zs.length cM (rows bZ zs))) qp iU.symm;refine bw.put (adP:=some ⟨bp,op,none⟩) (cP:=cP) (adN:=ck) (cN:=cM) (adE:=adE) (cE:=cE) eg c3 dJ hx (if t.fn=5 then v.net else v.net.eraseIdx j) ?_;rw[← iU];exact h1.sub
end
end
section
section
variable {W w:World}{L:List SP}{c:Nat}{p:Pr}{v:Wd}{D:pK}{t:fU}{cf:Cf}
theorem acf (I:U W w (bw W D p v::L))(hv:bD p cf c v)(a1:dg p)(aE:p.title.size≤1000000000)(hf:t.fn=3∨t.fn=4∨t.fn=5∨t.fn=6) :
   Calls prog 70 #[pt D.wb,.agg (ei t).toArray] w λe V=>e=.returned (.int .i64 (gb p t v).1)∧U W V (bw W D p (gb p t v).2::L):=by
 by_cases h0:t.n<0∨(v.net.length:Int)≤t.n
 ·rw[M6 h0];exact ab8 I h0
 ·exact ab9 (j:=t.n.toNat) I hv a1 aE hf (by omega) (aI (by omega))
theorem acg (I:U W w (bw W D p v::L))(hv:bD p cf c v)(a1:dg p)(aE:p.title.size≤1000000000)(hf:3≤t.fn∧t.fn≤6) :
   Calls prog 50 #[pt D.wb,.agg (ei t).toArray] w λe V=>e=.returned (.int .i64 (bq p t v).1)∧U W V (bw W D p (bq p t v).2::L):=by
 have aQ:bq p t v=gb p t v:=by rw[bq,ae (by omega),ak hf]
 rw[aQ];refine EN func50 ntmps50 rfl rfl λa E=>?_;refine BX 1 E I λb3 a w E I=>?_;change U W w (aa b3 58 (ei t)::_) at I;refine RN 7 E I λa E=>?_;rw[bn (by omega)]at E;refine RN 4 E I λa E=>?_;rw[bn (by omega)]at E;refine RN 7 E I λa E=>?_;rw[dk (by omega)]at E;refine RN 4 E I λa E=>?_;rw[dk (by omega)]at E;refine CL 4 E I (acf (I.pick (bw W D p v)) hv a1 aE (by omega)) λa w E I=>?_;refine RT 1 E I ?_;exact⟨rfl,I.sub⟩
theorem ach (I:U W w (bw W D p v::L))(hv:bD p cf c v)(a1:dg p)(aE:p.title.size≤1000000000)(hc:c≤1000000) :
   Calls prog 50 #[pt D.wb,.agg (ei t).toArray] w λe V=>e=.returned (.int .i64 (bq p t v).1)∧U W V (bw W D p (bq p t v).2::L):=by
 by_cases hf:3≤t.fn∧t.fn≤6
 ·exact acg I hv a1 aE hf
 ·exact ab7 I hv a1 aE hc hf
end
end
section
section
variable {W w:World}{L:List SP}{c i:Nat}{p:Pr}{v:Wd}{B:jk}{y:Int}
theorem BA (I:U W w (aH W B p c v::L))(ho:y<0∨(v.ps.length:Int)≤y) :
   Calls prog 34 #[pt B.mb,.int .i64 y] w λe V=>e=.returned (.slice none 0 0)∧U W V (aH W B p c v::L):=by
 replace I:=aH.uS I;obtain⟨adL,cL,adE,cE,xs,es,⟨h1,h2,h3⟩,I⟩:=I;have hl:xs.length=v.ps.length:=by rw[← h2,bd]
 refine EN func34 ntmps34 rfl rfl λa E=>?_;refine CL 6 E I (MY I (by omega)) λa w E I=>?_;refine RN 0 E I λa E=>?_;refine SK (bE E rfl (MW E underlying81) rfl ?_);clear E a;intro a E;refine RN 0 E I λa E=>?_;replace E:=E.ef 8;refine RT 3 E I ?_;exact⟨rfl,aH.s5 I h1 h2 h3⟩
theorem Gt (I:U W w (aH W B p c v::L))(hi:i<v.ps.length)(mz:v.ev.length=v.ps.length)(hl:(v.ev.getD i []).length≤1000000000) :
   Calls prog 34 #[pt B.mb,.int .i64 i] w λe V=>∃ ad c',e=.returned (.slice ad (v.ev.getD i []).length c')∧U W V (Sl 135 1 ad (v.ev.getD i []).length c' ((v.ev.getD i []).map cx)::aH W B p c v::L):=by
 replace I:=aH.uS I;obtain⟨adL,cL,adE,cE,xs,es,⟨h1,h2,h3⟩,I⟩:=I;have cj:xs.length=v.ps.length:=by rw[← h2,bd]
 have aci:es.length=v.ps.length:=by rw[← mz,← h3,bd]
 obtain⟨im,iq,l,hK⟩:∃ im iq l,es[i]?=some (im,iq,l):=⟨_,_,_,aI (by omega)⟩;obtain⟨wG,oK⟩:=a2.1 hK;have qh:v.ev.getD i []=l:=by rw[← h3,bl,bm,hK];rfl
 rw[qh]at hl ⊢;refine EN func34 ntmps34 rfl rfl λa E=>?_;refine CL 6 E I (rA ((I.pick (Sl 81 1 adL xs.length cL (xs.map cA))).pick (aa B.mb 107 [.slice adL xs.length cL,pt B.q,.slice adE es.length cE])) (by omega)) λa w E I=>?_;refine RN 1 E I λa E=>?_;replace E:=E.aN 8;refine RN 2 E I λa E=>?_;obtain⟨eQ,oE,rfl,iM⟩:=(I.pick (Sl 90 1 adE es.length cE (es.map bx))).bY adE (by omega);have og:=iM i (.slice im l.length iq) (by rw[bm,hK];rfl);refine RN 6 E I λa E=>?_;refine SS E (ag E (og)) λa E=>?_;replace I:=(I.pick (ah eA es)).fE wG;rw[oK]at I;change U W w (Sl 135 1 im l.length iq (l.map cx)::_) at I;refine aY 0 E I (M0 I hl) λad2 c2 a w E I=>?_;refine RT 1 E I ?_;refine⟨ad2,c2,rfl,?_⟩;have h4:=(I.pick (ah eA (es.eraseIdx i))).pick (Sl 135 1 im l.length iq (l.map cx));have h5:U W w (ah eA es::_):=U.wC (f:=eA) wG (by rw[oK];exact h4);have h6:U W w (aH W B p c v::Sl 135 1 ad2 l.length c2 (l.map cx)::L):=aH.s5 (adL:=adL) (cL:=cL) (adE:=some ⟨eQ,oE,none⟩) (cE:=cE) (xs:=xs) (es:=es) h5.sub h1 h2 h3;exact h6.sub
end
end
section
def oN (v:Wd):Prop:=∀ i,i<v.ps.length→(an v i).k.ev=[]
theorem acj {v:Wd}{i:Nat}(hi:i<v.ps.length)(hl:v.ev.length=v.ps.length)(h:(an v i).k.ev=[]):s3 i v=v:=by
 have h1:(⟨{ (an v i).k with ev:=[] },(an v i).g⟩:Pl)=v.ps[i]:=by
  rw[show ({ (an v i).k with ev:=[] }:Ks)=(an v i).k from by rw[← h]];show an v i=_;rw[an,bl,aI hi];rfl
 have h2:v.ev.getD i []++(an v i).k.ev=v.ev[i]'(by omega):=by
  rw[h,append_nil,bl,aI (by omega)];rfl
 rw[s3,h1,h2,set_getElem_self,set_getElem_self]
theorem NC {v:Wd}(hl:v.ev.length=v.ps.length)(h:oN v):∀ i,i≤v.ps.length→b6 v i=v
 | 0,_=>rfl
 | i+1,hi=>by
  show s3 i (b6 v i)=v;rw[NC hl h i (by omega)];exact acj (by omega) hl (h i (by omega))
theorem ND {v:Wd}(hl:v.ev.length=v.ps.length)(h:oN v):jB v=v:=NC hl h _ (bf _)
theorem NF (v:Wd):oN (jB v):=λi hi=>by
 have h1:i<v.ps.length:=by rw[jB,(pG v _).1]at hi;exact hi
 rw[jB,wA v (bf _),ak h1]
theorem ack {p:Pr}{t:fU}{v:Wd}(h:t.fn=7):(bq p t v).2=v:=by
 rw[bq,ae (by omega),ae (by omega),gq];split
 ·rfl
 ·rw[ae (by omega),ae (by omega),ae (by omega)]
theorem acm {p:Pr}{t:fU}{v:Wd}(h:oN v):oN (cX p t v):=by
 unfold cX;split
 ·exact h
 ·exact NF _
section
variable {W w:World}{L:List SP}{c i:Nat}{p:Pr}{v:Wd}{B:jk}{D:pK}{t:fU}{cf:Cf}
theorem NG {mb:Nat}(pL:mb=B.mb)(I:U W w (aH W B p c v::L))(hB:B.Ok p (c+10))(hv:bD p cf c v)(k9:9*c+100≤1000000000) :
   Calls prog 29 #[pt mb,.agg (ei t).toArray] w λe V=>∃ z:Int,e=.returned (.int .i64 z)∧(t.fn≠7→z=(bq p t v).1)∧(t.fn=7→Bm B t v z)∧U W V (aH W B p (c+10) (jB (bq p t v).2)::L):=by
 subst pL;exact M8 I hB hv k9
set_option maxHeartbeats 2000000 in
theorem acn (I:U W w (aH W B p c v::bw W D p v::L))(wH:D.mb=B.mb)(hB:B.Ok p (c+10))(hv:bD p cf c v)(wI:oN v)(k9:9*c+100≤1000000000)
   (NH:∀ (w:World) (u:Wd),bD p cf (c+10) u→oN u→U W w (aH W B p (c+10) u::bw W D p u::L)→Calls prog 33 #[pt D.wb] w λe V=>e=.returned (.bool true)∧U W V (aH W B p (c+10) u::bw W D p u::L)) :
   Calls prog 32 #[pt D.wb,.agg (ei t).toArray] w λe V=>e=.returned (.bool true)∧U W V (aH W B p (c+10) (cX p t v)::bw W D p (cX p t v)::L):=by
 have mh:=hB.c;have hu:=hv.step (s:=t);refine EN func32 ntmps32 rfl rfl λa E=>?_;refine BX 1 E I λb3 a w E I=>?_;change U W w (aa b3 58 (ei t)::_) at I;refine IF 6 E I (λaj a E=>?_) λaj a E=>?_
 ·
  refine RN 1 E I λa E=>?_;replace I:=bw.open (I.pick (bw W D p v));obtain⟨adP,cP,adN,cN,adE,cE,xs,es,⟨eg,c3,dJ⟩,I⟩:=I;refine bQ 0 [4] [0,1,2,3003,1004,1005] E I λa w E I hH hC=>?_;refine RH 5 E I hH hC λa E=>?_;refine bg 0 E I (NG wH (I.pick (aH W B p c v)) hB hv k9) λz a w E ⟨_,_,I⟩=>?_;refine RN 1 E I λa E=>?_;rw[ack (by assumption),ND hv.ev wI]at I;replace I:=bw.close (v:=v) (D:=D) (I.sub (M:=aa D.wb 40 [pt D.mb,.slice adP xs.length cP,.slice adN v.net.length cN,.slice adE es.length cE]::Sl 34 1 adP xs.length cP (xs.map ek)::ah (dj W p) xs::cu 60 adN v.net.length cN v.net::Sl 70 1 adE es.length cE (es.map bx)::ah fK es::aH W B p (c+10) v::L)) eg c3 dJ;refine CL 1 E I (NH _ v (hv.more (by omega)) wI (I.pick (aH W B p (c+10) v))) λa w E I=>?_;refine RT 1 E I ?_;rw[cX,ak (by assumption)];exact⟨rfl,I⟩
 refine CL 3 E I (ach (I.pick (bw W D p v)) hv hB.pr hB.sz (by omega)) λa w E I=>?_;refine RN 3 E I λa E=>?_;generalize NI:(bq p t v).2=u at I hu;replace I:=bw.open (I.pick (bw W D p u));obtain⟨adP,cP,adN,cN,adE,cE,yC,yD,⟨eg,c3,dJ⟩,I⟩:=I;have cj:yC.length=u.ps.length:=by rw[← c3,bd]
 have mz:yD.length=u.ps.length:=by rw[← hu.ev,← dJ,bd]
 have pD:=hu.len;refine bQ 0 [4] [0,1,2,6,3003,1004,1005,7] E I λa w E I hH hC=>?_;refine RH 6 E I hH hC λa E=>?_;refine bg 0 E I (NG wH (I.pick (aH W B p c v)) hB hv k9) λz a w E ⟨c0,_,I⟩=>?_;rw[c0 (by assumption)]at E;rw[NI]at I;refine RN 1 E I λa E=>?_;rw[bn (by simp)]at E;refine RN 4 E I λa E=>?_;refine aR (λμ a w=>∃ (i:Nat) (xs:List (fT×Pl)) (es:List kr),(μ=u.ps.length-i∧(i≤u.ps.length∧xs.length=u.ps.length∧es.length=u.ps.length)∧xs.map (·.1)=D.mB∧xs.map (·.2)=(b6 u i).ps∧es.map (·.2.2)=(b6 u i).ev)∧Fr a 65 [(0,pt D.wb),(6,.int .i64 i)]∧U W w (aa D.wb 40 [pt D.mb,.slice adP u.ps.length cP,.slice adN u.net.length cN,.slice adE u.ps.length cE]::Sl 34 1 adP u.ps.length cP (xs.map ek)::ah (dj W p) xs::cu 60 adN u.net.length cN u.net::Sl 70 1 adE u.ps.length cE (es.map bx)::ah fK es::aH W B p (c+10) (jB u)::L)) (u.ps.length) (⟨0,yC,yD,⟨rfl,⟨by omega,cj,mz⟩,eg,c3,dJ⟩,E.ab [0,6],(by rw[cj,mz]at I;exact I.sub)⟩) ?_;clear E I;rintro μ a w ⟨i,xs,es,⟨rfl,⟨hi,yE,yF⟩,ud,sI,qg⟩,E,I⟩;refine IF 9 E I (λay a E=>?_) λay a E=>?_
 ·
  have aJ:i<u.ps.length:=by omega
  obtain⟨x,hx⟩:∃ x,xs[i]?=some (x,(an (b6 u i) i)):=Bt sI (by omega);have ta:(xs.map ek)[i]?=some (pt x.pb):=by rw[bm,hx];rfl
  have hd:=hu.b6 (i:=i) (by omega);obtain⟨hw,c5,wE⟩:=hd.pl i (by rw[(pG u i).1];exact aJ);have Gg:=hd.kQ;have M9:=hw.wc.kQ;obtain⟨im,iq,l,hK⟩:∃ im iq l,es[i]?=some (im,iq,l):=⟨_,_,_,aI (by omega)⟩;obtain⟨_,oK⟩:=a2.1 hK;have ib:l.length≤9*(c+2):=(Gg l (by rw[← qg];exact c1.2 ⟨(im,iq,l),by rw[← oK];exact getElem_mem _,rfl⟩)).1;refine RN 1 E I λa E=>?_;obtain⟨bp,op,rfl,_⟩:=(I.pick (Sl 34 1 adP u.ps.length cP (xs.map ek))).bY adP (by omega);obtain⟨eQ,oE,rfl,_⟩:=(I.pick (Sl 70 1 adE u.ps.length cE (es.map bx))).bY adE (by omega);replace I:=bX.open (Bu (I.pick (ah (dj W p) xs)) hx);refine aZ 0 (λw0 V=>(Rd V D.wb 0 [pt D.mb,.slice (some ⟨bp,op,none⟩) u.ps.length cP,.slice adN u.net.length cN,.slice (some ⟨eQ,oE,none⟩) u.ps.length cE]∧Rd V eQ oE (es.map bx))∧Rd V bp op (xs.map ek)∧Rd V x.pb 0 (eP p x (an (b6 u i) i).g)) [8,10,11,15,17,18,19,20,21,22,23] [0,1,2,4,5,6,7,9,12,13,14,16,3003,3008,3010,3011,1015,1017,1018,1019,1020,1021,1022,1023,24,1025] E I λa w E I hH=>?_;have hC:=hH.at w ⟨⟨I.ai (b:=D.wb),I.cC eQ oE (by omega)⟩,I.cC bp op (by omega),I.ai (b:=x.pb)⟩;refine RH 12 E I hH hC λa E=>?_;refine QH E (λw hc=>ag E (hc.1.1 3 _ rfl)) hC λa E=>?_;refine QH E (λw hc=>ag E (hc.1.1 3 _ rfl)) hC λa E=>?_;refine RH 1 E I hH hC λa E=>?_;refine QH E (λw hc=>ag E (hc.1.2 i (.slice im l.length iq) (by rw[bm,hK];rfl))) hC λa E=>?_;refine RH 0 E I hH hC λa E=>?_;refine SS E (ag E (hC.1.1 1 _ rfl)) λa E=>?_;refine RH 1 E I hH hC λa E=>?_;refine SS E (ag E (hC.2.1 i _ ta)) λa E=>?_;refine RH 2 E I hH hC λa E=>?_;refine SS E (ag E (hC.2.2 0 _ rfl)) λa E=>?_;refine RH 0 E I hH hC λa E=>?_;refine aY 0 E I (aao (I.pick (aW x.core (an (b6 u i) i).k))) λam jl a w E I=>?_;replace hC:=hH.at w ⟨⟨I.ai (b:=D.wb),I.cC eQ oE (by omega)⟩,I.cC bp op (by omega),I.ai (b:=x.pb)⟩;replace I:=(I.pick (ah fK es)).fE (i:=i) (by omega);rw[oK]at I;change U W w (Sl 102 3 im l.length iq (rows bW l)::_) at I;refine RH 0 E I hH hC λa E=>?_;refine gV E rfl I underlying70 Ty.t102 rfl rfl (by decide) (λh0=>(I.pick (Sl 102 3 am (an (b6 u i) i).k.ev.length jl (rows bW (an (b6 u i) i).k.ev))).bY am h0) (by rw[iW EF]) (yZ EG _) (by omega) λwJ wK a w E I=>?_;replace hC:=hH.at w ⟨⟨I.ai (b:=D.wb),I.cC eQ oE (by omega)⟩,I.cC bp op (by omega),I.ai (b:=x.pb)⟩;have hcE:=((I.pick (Sl 70 1 (some ⟨eQ,oE,none⟩) u.ps.length cE (es.map bx))).sl (some ⟨eQ,oE,none⟩)).2;obtain⟨lq,pre,post,⟨h3,h4,h5,h6⟩,gx⟩:=(I.pick (Sl 70 1 (some ⟨eQ,oE,none⟩) u.ps.length cE (es.map bx))).lv (by omega);replace I:=gx;clear gx;obtain⟨rfl,rfl⟩:eQ=lq∧oE=pre.length:=by simpa using h5
  refine RH 1 E I hH hC λa E=>?_;refine ST 0 E I (λa w E I=>?_) (hlt:=(by simp only[aL,bd];omega));refine RN 3 E I λa E=>?_;have qh:(b6 u i).ev.getD i []=l:=by rw[← qg,bl,bm,hK];rfl
  have Gh:(es.map bx).set i (.slice wJ (l.length+(an (b6 u i) i).k.ev.length) wK)=(es.set i (wJ,wK,l++(an (b6 u i) i).k.ev)).map bx:=by
   rw[List.map_set,bx,aL]
  have dx:=I;rw[yx (by rw[bd];omega),Gh]at dx;replace dx:=U.iG (n:=u.ps.length) (c:=cE) (sz:=1) (dx.jD eQ) (by rw[bd,br];omega) h4 h6;have uM:=bX.fold dx x p ⟨{ (an (b6 u i) i).k with ev:=[] },(an (b6 u i) i).g⟩;have hk:=U.ky (f:=dj W p) (x:=(x,⟨{ (an (b6 u i) i).k with ev:=[] },(an (b6 u i) i).g⟩)) (i:=i) (by omega) ((uM.pick (ah (dj W p) (xs.eraseIdx i))).pick (bX W x p ⟨{ (an (b6 u i) i).k with ev:=[] },(an (b6 u i) i).g⟩));have py:Sl 102 3 wJ (l.length+(an (b6 u i) i).k.ev.length) wK (rows bW l++rows bW (an (b6 u i) i).k.ev)=fK (wJ,wK,l++(an (b6 u i) i).k.ev):=by
   rw[fK,aL,j9]
  have hq:=(hk.pick (ah fK (es.eraseIdx i))).pick (Sl 102 3 wJ (l.length+(an (b6 u i) i).k.ev.length) wK (rows bW l++rows bW (an (b6 u i) i).k.ev));rw[py]at hq;have eL:=U.ky (f:=fK) (i:=i) (by omega) hq;refine⟨u.ps.length-(i+1),by omega,i+1,xs.set i (x,⟨{ (an (b6 u i) i).k with ev:=[] },(an (b6 u i) i).g⟩),es.set i (wJ,wK,l++(an (b6 u i) i).k.ev),⟨rfl,⟨by omega,by rw[br];exact yE,by rw[br];exact yF⟩,(Bw hx).2.trans ud,?_,?_⟩,E.ab [0,6],?_⟩
  ·rw[List.map_set,sI];rfl
  ·rw[List.map_set,qg,← qh];rfl
  ·rw[(Bw hx).1];exact eL.sub
 refine RN 1 E I λa E=>?_;obtain rfl:i=u.ps.length:=by omega
 have eF:cX p t v=jB u:=by rw[cX,ae (by assumption),NI]
 rw[eF];have hD:U W w (bw W D p (jB u)::aH W B p (c+10) (jB u)::L):=by
  refine bw.close (adP:=adP) (cP:=cP) (adN:=adN) (cN:=cN) (adE:=adE) (cE:=cE) (xs:=xs) (es:=es) ?_ ud sI qg;rw[yE,yF,show (jB u).net=u.net from (pG u _).2.1];exact I.sub
 replace I:=hD.pick (aH W B p (c+10) (jB u));refine CL 1 E I (NH _ (jB u) (hu.drain.more (by omega)) (NF u) I) λa w E I=>?_;refine RT 1 E I ?_;exact⟨rfl,I⟩
end
end
section
section
variable {p:Pr}{cf:Cf}{K:Int→Prop}{G G':List (List UInt8)}{v:Wd}{c i j x y:Nat}{n:Nat}{T:Nat→Nat}{net:List Ml}{ev:List (List jy)}{m:Ml}{q:Pk}{b:UInt8}
theorem u0 (hi:i<n):an (fq p cf n) i=ez p (dS cf i):=by
 rw[an,fq,bl,bm,getElem?_range hi];rfl
theorem rF:(fq p cf n).ps.length=n:=by rw[fq,bd,length_range]
theorem tc (h:eN cf)(hi:i<cf.n.toNat):eN (dS cf i):=by
 obtain⟨⟨h1,h2,h3⟩,h4⟩:=h;refine⟨⟨h1,?_,h3⟩,h4⟩;show fv (i:Int) 0 (cf.n-1);unfold fv at h1 ⊢;omega
theorem Gu (h:eN cf):bD p cf 0 (fq p cf cf.n.toNat):=by
 refine⟨h,rF,?_,λi hi=>?_,⟨Nat.zero_le _,λm hm=>by cases hm⟩,λe he=>?_⟩
 ·rw[rF];exact jK
 ·rw[rF]at hi;rw[u0 hi];have h1:=tc h hi;obtain⟨mr,h2⟩:=uU p h1;refine⟨cw.new h1,?_,by rw[h2];exact bf _⟩;rw[h2];exact (WC.new h1).2.2
 ·have h1:=List.eq_of_mem_replicate (show e∈List.replicate _ [] from he);subst h1;exact⟨Nat.zero_le _,λx hx=>by cases hx⟩
theorem NJ (h:eN cf):oN (fq p cf cf.n.toNat):=λi hi=>by
 rw[rF]at hi;rw[u0 hi];obtain⟨mr,h2⟩:=uU p (tc h hi);rw[h2];rfl
theorem BB (h:eN cf)(hi:i<cf.n.toNat)(hj:j<cf.n.toNat):bF (fq p cf cf.n.toNat) i j=cf.aK.toNat:=by
 rw[bF,u0 hi];obtain⟨mr,h2⟩:=uU p (tc h hi);rw[h2];show ((List.replicate cf.n.toNat (List.replicate cf.aK.toNat (0:UInt8))).getD j []).length=_;rw[bl,List.getElem?_replicate,ak hj];exact jK
theorem NK (h:eN cf)(hi:i<cf.n.toNat)(hj:j<cf.n.toNat):ar (ez p (dS cf i)).k j=fw cf.aK.toNat:=by
 obtain⟨mr,h2⟩:=uU p (tc h hi);rw[h2,ar,bl];show ((List.replicate cf.n.toNat (fw cf.aK.toNat))[j]?).getD _=_;rw[List.getElem?_replicate,ak hj];rfl
theorem db.new (h:eN cf):db p cf K (List.replicate cf.n.toNat (List.replicate cf.aK.toNat 0)) (fq p cf cf.n.toNat):=by
 have hl:=rF (p:=p) (cf:=cf) (n:=cf.n.toNat);refine⟨λi hi=>?_,λa b E hb Bq=>?_,λi hi=>?_,λm hm=>(by cases hm),λl hl e he=>?_,λi hi=>?_⟩
 ·rw[hl]at hi;rw[u0 hi];have h1:=tc h hi;obtain⟨mr,h2⟩:=uU p h1;refine⟨cw.new h1,by rw[h2];exact Ext.refl _,by rw[h2];rfl,λj hj=>?_⟩;have iS:j<cf.n.toNat:=by
   rw[h2]at hj;have:j<(List.replicate cf.n.toNat (fw cf.aK.toNat)).length:=hj
   rwa [jK]at this
  rw[NK h hi iS];exact⟨rfl,Nat.zero_le _,λh=>absurd h (by show ¬ 0<0;omega)⟩
 ·rw[hl]at E hb;rw[BB h hb E,BB h E hb,pJ,u0 E,NK h E hb];exact⟨bf _,Nat.le_add_right _ _⟩
 ·rw[hl]at hi;rw[BB h hi hi];have h1:cf.aK.toNat≤ax (an (fq p cf cf.n.toNat) i).k:=by
   rw[u0 hi];obtain⟨mr,h2⟩:=uU p (tc h hi);rw[h2];have hc:=(WC.new (tc h hi)).1;refine Ep hc.kR λl hl=>?_;have:=List.eq_of_mem_replicate (show l∈List.replicate cf.n.toNat (List.replicate cf.aK.toNat (0:UInt8)) from hl);rw[this,jK];exact bf _
  omega
 ·have h1:=List.eq_of_mem_replicate (show l∈List.replicate _ [] from hl);subst h1;cases he
 ·rw[NJ h i hi] ;intro e he;cases he
structure Lv (p:Pr)(cf:Cf)(T:Nat→Nat)(v:Wd):Prop where
 ok:∃ c,bD p cf c v
 kW:∃ G,db p cf (·=1) G v
 op:∀ i,i<v.ps.length→(an v i).k.cl=false∧(an v i).k.now≤T i∧(an v i).k.ev=[]
 ev:∀ l∈v.ev,l=[]
theorem Lv.calm (h:Lv p cf T v):oN v:=λi hi=>(h.op i hi).2.2
theorem Lv.still (h:Lv p cf T v):jB v=v:=by
 obtain⟨c,hv⟩:=h.ok;exact ND hv.ev h.calm
theorem Lv.new (h:eN cf):Lv p cf (λ_=>0) (fq p cf cf.n.toNat):=⟨⟨0,Gu h⟩,⟨_,db.new h⟩,λi hi=>by
 rw[rF]at hi;rw[u0 hi];obtain⟨mr,h2⟩:=uU p (tc h hi);rw[h2];exact⟨rfl,bf _,rfl⟩,λl hl=>List.eq_of_mem_replicate (show l∈List.replicate _ [] from hl)⟩
theorem Lv.aco (h:Lv p cf T v)(hi:i<v.ps.length)(hj:j<v.ps.length):ax (an v i).k≤bF v i j:=by
 obtain⟨c,hv⟩:=h.ok;exact vS (ui (by rw[(hv.pl i hi).1.wc.ls,hv.s4 hi];exact hj))
theorem Lv.acp (h:Lv p cf T v)(hi:i<v.ps.length)(hx:∀ j,j<v.ps.length→x≤bF v i j):x≤ax (an v i).k:=by
 obtain⟨c,hv⟩:=h.ok;refine Ep (hv.pl i hi).1.wc.kR λl hl=>?_;obtain⟨j,hj,rfl⟩:=List.getElem_of_mem hl;rw[(hv.pl i hi).1.wc.ls,hv.s4 hi]at hj;have:=hx j hj;rw[bF,bl,aI (by rw[(hv.pl i hi).1.wc.ls,hv.s4 hi];exact hj)]at this;exact this
theorem Lv.front {h:Nat}(q3:Lv p cf T v)(hi:i<v.ps.length)(hx:∀ j,j<v.ps.length→h≤bF v i j)(hy:j<v.ps.length)(he:bF v i j=h):ax (an v i).k=h :=
 Nat.le_antisymm (he ▸ q3.aco hi hy) (q3.acp hi hx)
theorem Lv.head (h:Lv p cf T v)(hi:i<v.ps.length):aF (an v i).k=bF v i i:=by
 obtain⟨c,hv⟩:=h.ok;rw[aF,(hv.oM hi).1];rfl
theorem Lv.al (h:Lv p cf T v)(hi:i<v.ps.length)(b n:Int):Lv p cf T (cX p ⟨1,i,b,n⟩ v)∧(cX p ⟨1,i,b,n⟩ v).net=v.net∧(cX p ⟨1,i,b,n⟩ v).ps.length=v.ps.length ∧
   (∀ x y,bF (cX p ⟨1,i,b,n⟩ v) x y=bF v x y+if (x=i∧y=i)∧bF v i i<1000∧bF v i i<cf.bt.toNat+ax (an v i).k then 1 else 0) ∧
   (bF v i i<1000∧bF v i i<cf.bt.toNat+ax (an v i).k→(bq p ⟨1,i,b,n⟩ v).1=0):=by
 obtain⟨c,hv⟩:=h.ok;obtain⟨G,lr⟩:=h.kW;obtain⟨dQ,s9,bO,hn,_⟩:=hv.oM hi;have aQ:bq p ⟨1,i,b,n⟩ v=((dE p (fV b) (an v i)).1,{ v with ps:=v.ps.set i (dE p (fV b) (an v i)).2 }):=by
  rw[bq,ae (by show ¬ ((1:Int)<1∨(8:Int)<1);omega),ae (by show ¬ ((3:Int)≤1∧(1:Int)≤6);omega),Bh rfl rfl hi]
 obtain⟨⟨G',h1⟩,h2⟩:=lr.al hv hi (fV b);have nC:=hv.al hi (fV b);have vj:(dE p (fV b) (an v i)).2.k.cl=(an v i).k.cl∧(dE p (fV b) (an v i)).2.k.now=(an v i).k.now∧(dE p (fV b) (an v i)).2.k.ev=(an v i).k.ev:=by
  by_cases h0:(dE p (fV b) (an v i)).1=0
  ·obtain⟨_,mr,hk⟩:=(lr.pl i hi).al h0;rw[hk];exact⟨rfl,rfl,rfl⟩
  ·rw[Nf (hv.pl i hi).1 h0];exact⟨rfl,rfl,rfl⟩
 have q3:Lv p cf T { v with ps:=v.ps.set i (dE p (fV b) (an v i)).2 }:=⟨⟨_,nC⟩,⟨G',h1⟩,λj hj=>by
  have iS:j<v.ps.length:=by have:j<(v.ps.set i _).length:=hj;rwa [br]at this
  rw[oG hi];split
  ·rename_i e;subst e;rw[vj.1,vj.2.1,vj.2.2];exact h.op _ hi
  ·exact h.op j iS,h.ev⟩
 have eF:cX p ⟨1,i,b,n⟩ v={ v with ps:=v.ps.set i (dE p (fV b) (an v i)).2 }:=by
  rw[cX,ae (by show ¬ (1:Int)=7;omega),aQ,q3.still]
 have Gv:(dE p (fV b) (an v i)).1=0↔bF v i i<1000∧bF v i i<cf.bt.toNat+ax (an v i).k:=by
  have hd:=h.head hi;show (cW (fV b) (an v i).k).1=0↔_;rw[cW,ae (by rw[(h.op i hi).1];decide),← hd,← s9];split
  ·exact⟨λh=>absurd h (by intro e;cases e),λh=>by omega⟩
  ·split
   ·exact⟨λh=>absurd h (by intro e;cases e),λh=>by omega⟩
   ·exact⟨λ_=>by omega,λ_=>rfl⟩
 rw[eF];refine⟨q3,rfl,br,λx y=>?_,λh=>by rw[aQ];exact Gv.2 h⟩;rw[h2];by_cases e:x=i∧y=i
 ·by_cases e2:(dE p (fV b) (an v i)).1=0
  ·rw[ak ⟨e,e2⟩,ak ⟨e,Gv.1 e2⟩]
  ·rw[ae (λh=>e2 h.2),ae (λh=>e2 (Gv.2 h.2))]
 ·rw[ae (λh=>e h.1),ae (λh=>e h.1)]
noncomputable def td (v:Wd)(i:Nat):List Ml:=((List.range v.ps.length).filter (·≠i)).map λj=>(i,j,aS (dP (an v i).k j))
theorem acq {k:Ks}(hc:k.cl=false)(hn:k.now<39):bo k=((bH k).map λi=>(k.me,i,aS (dP k i)),{ k with now:=k.now+1 }):=by
 rw[bo,ae (by rw[hc];decide)];simp only;have:(bH { k with now:=k.now+1 }).find? (λi=>decide (jg { k with now:=k.now+1 } i))=none:=by
  rw[List.find?_eq_none];intro i _;rw[decide_eq_true_eq,jg];show ¬ (_+40≤k.now+1);omega
 rw[this];rfl
theorem NL:∀ {l net:List Ml},net.length+l.length≤300→dY net l=net++l
 | [],net,_=>by rw[append_nil];rfl
 | m::l,net,h=>by
  rw[e7]at h;show dY (oF net m) l=_;rw[oF,ak (by omega),NL (by rw[aL,iP];omega),dv];rfl
theorem Lv.tick (h:Lv p cf T v)(hT:T i<39)(hi:i<v.ps.length)(hf:v.net.length+v.ps.length≤300)(b n:Int):Lv p cf (λj=>if j=i then T j+1 else T j) (cX p ⟨2,i,b,n⟩ v)∧(cX p ⟨2,i,b,n⟩ v).net=v.net++td v i∧(cX p ⟨2,i,b,n⟩ v).ps.length=v.ps.length ∧
   (∀ x y,bF (cX p ⟨2,i,b,n⟩ v) x y=bF v x y)∧(∀ m∈td v i,rD m=bF v i i)∧(bq p ⟨2,i,b,n⟩ v).1=0:=by
 obtain⟨c,hv⟩:=h.ok;obtain⟨G,lr⟩:=h.kW;obtain⟨dQ,s9,bO,hn,_⟩:=hv.oM hi;have ho:=h.op i hi;have fW:=acq ho.1 (by omega);have gF:(bo (an v i).k).1=td v i:=by rw[fW,td,bH,hn,dQ]
 have lX:(td v i).length≤v.ps.length:=by
  rw[td,bd];exact gN (length_filter_le _ _) (by rw[length_range];exact bf _)
 have aQ:bq p ⟨2,i,b,n⟩ v=(0,{ v with ps:=v.ps.set i ⟨(bo (an v i).k).2,(an v i).g⟩,net:=dY v.net (bo (an v i).k).1 }):=by
  rw[bq,ae (by show ¬ ((2:Int)<1∨(8:Int)<2);omega),ae (by show ¬ ((3:Int)≤2∧(2:Int)≤6);omega),wD rfl rfl hi]
 obtain⟨h1,h2⟩:=lr.tick hv hi rfl;have q3:Lv p cf (λj=>if j=i then T j+1 else T j) { v with ps:=v.ps.set i ⟨(bo (an v i).k).2,(an v i).g⟩,net:=dY v.net (bo (an v i).k).1 }:=⟨⟨_,hv.tick hi⟩,⟨G,h1⟩,λj hj=>by
  have iS:j<v.ps.length:=by have:j<(v.ps.set i _).length:=hj;rwa [br]at this
  rw[oG hi];split
  ·rename_i e;subst e;show (bo (an v i).k).2.cl=false∧(bo (an v i).k).2.now≤_∧(bo (an v i).k).2.ev=[];rw[fW];exact⟨ho.1,by show (an v i).k.now+1≤if i=i then _ else _;rw[ak rfl];omega,ho.2.2⟩
  ·have:=h.op j iS;exact⟨this.1,by split <;> omega,this.2.2⟩,h.ev⟩
 have eF:cX p ⟨2,i,b,n⟩ v={ v with ps:=v.ps.set i ⟨(bo (an v i).k).2,(an v i).g⟩,net:=dY v.net (bo (an v i).k).1 }:=by
  rw[cX,ae (by show ¬ (2:Int)=7;omega),aQ,q3.still]
 rw[eF];refine⟨q3,?_,br,λx y=>h2 x y,λm hm=>?_,by rw[aQ]⟩
 ·show dY v.net (bo (an v i).k).1=_;rw[gF,NL (by omega)]
 ·rw[← gF]at hm;obtain⟨q,_,hq⟩:=lr.Nq hv hi rfl hm;exact hq
theorem Lv.acr (h:Lv p cf T v)(vt:m∈v.net)(xr:∀ m∈net,m∈v.net)(hl:net.length≤v.net.length):Lv p cf T { v with ps:=v.ps.set m.2.1 (dz p m.2.2 (an v m.2.1)).2,net:=net }∧(dz p m.2.2 (an v m.2.1)).1=0 ∧
   (∀ x y,bF { v with ps:=v.ps.set m.2.1 (dz p m.2.2 (an v m.2.1)).2,net:=net } x y=if x=m.2.1∧y=m.1 then max (bF v x y) (rD m) else bF v x y)∧m.1<v.ps.length∧m.2.1<v.ps.length∧m.1≠m.2.1:=by
 obtain⟨c,hv⟩:=h.ok;obtain⟨G,lr⟩:=h.kW;obtain⟨q,hq⟩:=lr.net m vt;obtain⟨h1,h2⟩:=lr.recv hv vt xr;have hi:=hq.lt.2;obtain⟨dQ,s9,bO,hn,_⟩:=hv.oM hi;obtain⟨_,h0,mr,hk⟩:=(lr.pl _ hi).x6 hq.kW (h.op _ hi).1 (by rw[hq.to,dQ]) (by rw[hq.fr,hn];have:=hq.lt.1;omega) (by rw[hq.id,bO]) hq.kind;rw[← hq.bs]at h0 hk;have o6:=hv.net.1;refine⟨⟨⟨_,hv.recv hi m.2.2 (net:=net) (by omega) λm hm=>hv.net.2 m (xr m hm)⟩,⟨G,h1⟩,λj hj=>?_,h.ev⟩,h0,λx y=>?_,hq.lt.1,hi,λe=>hq.kW.may.2.2.1 (by rw[hq.fr,hq.to,e])⟩
 ·have iS:j<v.ps.length:=by have:j<(v.ps.set m.2.1 _).length:=hj;rwa [br]at this
  rw[oG hi];split
  ·rename_i e;subst e;rw[hk];exact h.op _ hi
  ·exact h.op j iS
 ·rw[h2];by_cases e:x=m.2.1∧y=m.1
  ·rw[ak ⟨e,(h.op _ hi).1⟩,ak e]
  ·rw[ae (λh=>e h.1),ae e]
theorem Gw (p:Pr){r:List Ml}(hm:v.net=m::r)(a b:Int):bq p ⟨3,a,b,0⟩ v=((dz p m.2.2 (an v m.2.1)).1,{ v with ps:=v.ps.set m.2.1 (dz p m.2.2 (an v m.2.1)).2,net:=r }):=by
 rw[bq,ae (by show ¬ ((3:Int)<1∨(8:Int)<3);omega),ak (by show (3:Int)≤3∧(3:Int)≤6;omega),Bk (j:=0) (m:=m) (by show (3:Int)≠4;omega) (by show (3:Int)≠6;omega) rfl (by rw[hm];rfl)];show (_,Wd.mk _ (if (3:Int)=5 then v.net else v.net.eraseIdx 0) _)=_;rw[ae (by omega),hm];rfl
theorem Lv.send (h:Lv p cf T v){r:List Ml}(hm:v.net=m::r)(a b:Int):Lv p cf T (cX p ⟨3,a,b,0⟩ v)∧(cX p ⟨3,a,b,0⟩ v).net=r∧(cX p ⟨3,a,b,0⟩ v).ps.length=v.ps.length ∧
   (∀ x y,bF (cX p ⟨3,a,b,0⟩ v) x y=if x=m.2.1∧y=m.1 then max (bF v x y) (rD m) else bF v x y)∧(bq p ⟨3,a,b,0⟩ v).1=0∧m.1<v.ps.length∧m.2.1<v.ps.length∧m.1≠m.2.1:=by
 obtain⟨h1,h2,h3,h4⟩:=h.acr (m:=m) (net:=r) (by rw[hm];exact mem_cons_self) (λm' wB=>by rw[hm];exact gO _ wB) (by rw[hm,e7];omega);have eF:cX p ⟨3,a,b,0⟩ v={ v with ps:=v.ps.set m.2.1 (dz p m.2.2 (an v m.2.1)).2,net:=r }:=by
  rw[cX,ae (by show ¬ (3:Int)=7;omega),Gw p hm,h1.still]
 rw[eF];exact⟨h1,rfl,br,h3,by rw[Gw p hm];exact h2,h4⟩
end
end
section
section
variable {W w:World}{L:List SP}{c c' m i:Nat}{ad av:Option Addr}{ev:List (Nat×Nat×Nat)}{e:jy}{M:ji}{p:Pr}{s:Pl}{cf:Cf}
theorem acs (I:U W w (Sl 135 1 ad ev.length c (ev.map cx)::L))(hn:ev.length≤1000000000)(ho:∀ e∈ev,sL e):Calls prog 55 #[.slice ad ev.length c] w λr V=>∃ av c',r=.returned (.slice av ev.length c')∧U W V (Sl 102 3 av ev.length c' (rows bW ev)::L):=by
 refine EN func55 ntmps55 rfl rfl λa E=>?_;refine RN 7 E I λa E=>?_;replace I:=I.bM 102 3 none;refine aR (λμ a w=>∃ (i:Nat) (mo:Option Addr) (co:Nat),(μ=ev.length-i∧i≤ev.length)∧Fr a 20 [(0,.slice ad ev.length c),(3,.slice mo i co),(4,.int .i64 i)]∧U W w (Sl 102 3 mo i co (rows bW (ev.take i))::Sl 135 1 ad ev.length c (ev.map cx)::L)) (ev.length) (⟨0,none,0,⟨rfl,by omega⟩,E.ab [0,3,4],(show U W w (Sl 102 3 none 0 0 (rows bW (ev.take 0))::_) from I).sub⟩) ?_;clear E I;rintro μ a w ⟨i,mo,co,⟨rfl,hi⟩,E,I⟩;refine IF 6 E I (λaj a E=>?_) λaj a E=>?_
 ·
  have aJ:i<ev.length:=by omega
  obtain⟨bi,oi,rfl,pa⟩:=(I.pick (Sl 135 1 ad ev.length c (ev.map cx))).bY ad (by omega);have fb:=pa i (cx ev[i]) (by rw[bm,aI aJ];rfl);have NM:=ho _ (getElem_mem aJ);generalize yr:ev[i]=x at fb NM;have og:Rd w bi (oi+i) [cx x]:=by
   intro k v hk;cases k with
   | zero=>simp at hk;subst hk;exact fb
   | succ k=>simp at hk
  refine RN 5 E I λa E=>?_;refine SS E (bT E underlying135 rfl Ty.t135 (og)) λa E=>?_;refine CL 0 E I (Yo I NM) λa w E I=>?_;refine RN 0 E I λa E=>?_;refine cn E rfl I underlying70 Ty.t102 rfl rfl rfl rfl (by decide) (by decide) λhZ a w E I ho=>?_;clear ho;refine RN 0 E I λa E=>?_;refine cI E rfl I underlying70 Ty.t102 rfl rfl I.ai rfl (λv hv=>EG x v (by simpa using hv)) (by decide) (by decide) (by omega) λFH FI a w E I=>?_;rw[show rows bW (ev.take i)++_=rows bW (ev.take (i+1)) from by rw[← List.take_append_getElem aJ,j9,yr];rfl]at I;refine RN 4 E I λa E=>?_;exact⟨ev.length-(i+1),by omega,i+1,FH,FI,⟨rfl,by omega⟩,E.ab [0,3,4],I.sub⟩
 refine RT 3 E I ?_;obtain rfl:i=ev.length:=by omega
 rw[take_length]at I;exact⟨mo,co,rfl,I.sub⟩
theorem acu (I:U W w (Sl 102 3 ad ev.length c (rows bW ev)::Sl 102 3 av ev.length c' (rows bW ev)::L))(hn:ev.length≤1000000000):Calls prog 54 #[.slice ad ev.length c,.slice av ev.length c'] w λr V=>r=.returned (.bool true)∧U W V (Sl 102 3 ad ev.length c (rows bW ev)::Sl 102 3 av ev.length c' (rows bW ev)::L):=by
 refine EN func54 ntmps54 rfl rfl λa E=>?_;refine RN 9 E I λa E=>?_;rw[bn (by omega)]at E;refine RN 4 E I λa E=>?_;refine aR (λμ a w=>∃ (i:Nat),(μ=ev.length-i∧i≤ev.length)∧Fr a 27 [(0,.slice ad ev.length c),(1,.slice av ev.length c'),(5,.int .i64 i)]∧U W w (Sl 102 3 ad ev.length c (rows bW ev)::Sl 102 3 av ev.length c' (rows bW ev)::L)) (ev.length) (⟨0,⟨rfl,by omega⟩,E.ab [0,1,5],I⟩) ?_;clear E I;rintro μ a w ⟨i,⟨rfl,hi⟩,E,I⟩;refine IF 6 E I (λao a E=>?_) λao a E=>?_
 ·
  have aJ:i<ev.length:=by omega
  refine RN 2 E I λa E=>?_;obtain⟨mg,ox,rfl,e9⟩:=I.drew.bY ad (by omega);obtain⟨Gx,Gy,rfl,pC⟩:=I.drew.tail.bY av (by omega);replace e9:=jA EF e9 (aI aJ);replace pC:=jA EF pC (aI aJ);generalize ev[i]=x at e9 pC;refine qF 0 (λV=>Rd V mg (ox+i*3) (bW x)∧Rd V Gx (Gy+i*3) (bW x)) [7] [0,1,2,4,5,6,3003,1007,1008,9] E I λa E=>?_;replace I:=I.drew;generalize w.drew=w at I e9 pC ⊢;have hC:Rd w mg (ox+i*3) (bW x)∧Rd w Gx (Gy+i*3) (bW x):=⟨e9,pC⟩;have hH:=Hd.any (λV=>Rd V mg (ox+i*3) (bW x)∧Rd V Gx (Gy+i*3) (bW x));refine RH 6 E I hH hC λa E=>?_;refine QH E (λw hc=>bT E underlying102 rfl Ty.t102 (hc.1)) hC λa E=>?_;refine RH 0 E I hH hC λa E=>?_;refine SS E (bT E underlying102 rfl Ty.t102 (hC.2)) λa E=>?_;refine RH 0 E I hH hC λa E=>?_;refine CL 0 E I (aaQ I) λa w E I=>?_;refine RN 1 E I λa E=>?_;replace E:=E.aN 26;refine RN 4 E I λa E=>?_;exact⟨ev.length-(i+1),by omega,i+1,⟨rfl,by omega⟩,E.ab [0,1,5],I⟩
 refine RT 2 E I ?_;exact⟨rfl,I⟩
theorem acv (I:U W w (fh W M p cf i s::L)) :
   Calls prog 56 #[pt M.mb,.agg (cc cf).toArray] w λe V=>e=.returned (.bool true)∧U W V (fh W M p cf i s::L):=by
 replace I:=fh.open I;obtain⟨m,⟨rfl,hI,hc⟩,I⟩:=I;exact (abI I hI hc).mono λe V ⟨h1,h2⟩=>⟨h1,fh.close h2 hI (bf _) rfl hc⟩
end
end
section
def yJ (W:World)(p:Pr)(ad:Option Addr)(c:Nat):Prop:=(rows dL p.ops).length=p.ops.length*4∧p.ops.length≤c∧(0<p.ops.length→∃ b off,ad=some ⟨b,off,none⟩∧b<W.heap.size∧Rd W b off (rows dL p.ops))
def BC (W:World)(mB:List fT)(cf:Cf)(tb:List UInt8):Prop:=∀ r∈mB,r.gs=⟨cf.ba,cf.order,tb⟩∧a6 W r.adT tb.length tb
section
variable {W w:World}{L:List SP}{n c cP cT i:Nat}{ad adP adT:Option Addr}{p:Pr}{tb:List UInt8}{cf:Cf}{jm:Bool}
theorem yJ.ro (h:yJ W p ad c)(I:U W w L):U W w (aA W p ad c::L):=I.Uv h.1 h.2.1 h.2.2
theorem Rd.lt {b off:Nat}{v:Value}{vs:List Value}(h:Rd w b off (v::vs)):b<w.heap.size:=by
 have h1:=h 0 v rfl;rcases Nat.lt_or_ge b w.heap.size with h2 | h2
 ·exact h2
 ·rw[World.cell?]at h1;simp[h2]at h1
theorem U.roW (I:U W w (aA W p ad c::L)):yJ w p ad c:=by
 obtain⟨h1,h2⟩:=I.ro ad;refine⟨h1,h2,λh0=>?_⟩;obtain⟨b,off,rfl,hr⟩:=I.qQ ad h0;refine⟨b,off,rfl,?_,hr⟩;cases hl:rows dL p.ops with
 | nil=>rw[hl]at h1;simp at h1;omega
 | cons v vs=>rw[hl]at hr;exact hr.lt
theorem NN (I:U W w L):∀ n:Nat,U W w (ah fK (List.replicate n (none,0,[]))::L)
 | 0=>U.iI I
 | n+1=>U.vd (f:=fK) (x:=(none,0,[])) ((NN I n).bM 102 3 none)
set_option maxHeartbeats 1000000 in
theorem acw (gM:oI (dS cf 0) p tb)(I:U W w L)(yK:yJ W p adP cP)(hn:tb.length=n)(a1:dg p)(aE:p.title.size≤1000000000)(dW:p.ops.length≤1000000000)(eJ:tb.length≤1099511627776)(hT:∀ V,U W V []→a6 V adT tb.length tb) :
   Calls prog 30 #[.agg (cc cf).toArray,.agg (bP p adP cP).toArray,.slice adT n cT,.bool jm] w λr V=>∃ (B:jk) (D:pK),r=.returned (pt D.wb)∧(D.mb=B.mb∧uV B.fp cf tb jm cf.n.toNat∧BC W D.mB cf tb)∧U W V (aH W B p 0 (fq p cf cf.n.toNat)::bw W D p (fq p cf cf.n.toNat)::L):=by
 have o7:=gM.1.1.1;unfold fv at o7;obtain⟨N,hN⟩:∃ N:Nat,(dS cf 0).n=N:=⟨(dS cf 0).n.toNat,by omega⟩;replace hN:cf.n=N:=hN;have hN2:2≤N∧N≤8:=by
  have h1:(dS cf 0).n=cf.n:=rfl;omega
 have hTW:a6 W adT tb.length tb:=hT W (U.start W);rw[show cf.n.toNat=N from by omega];refine EN func30 ntmps30 rfl rfl λa E=>?_;refine BX 1 E I λb4 a w E I=>?_;change U W w (aa b4 28 (cc cf)::_) at I;refine BX 0 E I λb5 a w E I=>?_;change U W w (aa b5 45 (bP p adP cP)::_) at I;refine ST 3 E I (λa w E I=>?_);refine RN 0 E I λa E=>?_;change U W w (aa b4 28 (cc (dS cf 0))::_) at I;refine RN 5 E I λa E=>?_;replace I:=yK.ro I;refine bg 0 E I (Nu (cf:=dS cf 0) gM I hn aE dW eJ (λV dd=>hT _ dd.nil)) λB a w E ⟨hB,I⟩=>?_;refine RN 5 E I λa E=>?_;rw[show (dS cf 0).n.toNat=N from by show cf.n.toNat=N;omega]at I hB;replace I:U W w (aH W B p 0 (fq p cf N)::aA W p adP cP::_):=I;replace I:=I.sub (M:=aH W B p 0 (fq p cf N)::aa b4 28 (cc (dS cf 0))::aa b5 45 (bP p adP cP)::L);refine RN 5 E I λa E=>?_;replace E:=E.aN 24;refine RN 3 E I λa E=>?_;replace E:=E.aN 27;refine RN 5 E I λa E=>?_;rw[show (dS cf 0).n=(N:Int) from hN]at E;refine qA E rfl I underlying38 Ty.t70 rfl (by omega) (by omega) λte a w E I ho=>?_;clear ho;rw[AU _ rfl]at I;refine BX 1 E I λjY a w E I=>?_;refine RN 1 E I λa E=>?_;replace I:=U.iI (f:=dj W p) (I.bM 34 1 none);refine RN 3 E I λa E=>?_;refine aR (λμ a w=>∃ (i:Nat) (adL:Option Addr) (cL:Nat) (rs:List (fT×Pl)) (me:Int),(μ=N-i∧(i≤N∧rs.length=i)∧rs.map (·.2)=(List.range i).map (λi=>ez p (dS cf i))∧BC W (rs.map (·.1)) cf tb)∧Fr a 56 [(2,.slice adT n cT),(4,pt b4),(5,pt b5),(11,pt jY),(12,.int .i64 i)]∧U W w (aa jY 40 [pt B.mb,.slice adL i cL,.slice none 0 0,.slice (some ⟨te,0,none⟩) N N]::Sl 34 1 adL i cL (rs.map ek)::ah (dj W p) rs::aa te 70 (List.replicate N (.slice none 0 0))::aa b4 28 (cc { cf with me:=me })::aa b5 45 (bP p adP cP)::aH W B p 0 (fq p cf N)::L)) (N) (⟨0,none,0,[],0,⟨rfl,⟨by omega,rfl⟩,rfl,λr h=>by cases h⟩,E.ab [2,4,5,11,12],(show U W w (ah (dj W p) []::Sl 34 1 none 0 0 (([]:List (fT×Pl)).map ek)::aa jY 40 _::aa te 70 _::aH W B p 0 (fq p cf N)::aa b4 28 (cc { cf with me:=0 })::_) from I).sub⟩) ?_;clear E I;rintro μ a w ⟨i,adL,cL,rs,me,⟨rfl,⟨hi,iM⟩,eT,jV⟩,E,I⟩;refine RN 5 E I λa E=>?_;rw[hN]at E;refine IF 1 E I (λao a E=>?_) λao a E=>?_
 ·
  have aJ:i<N:=by omega
  have Gn:=Ns (i:=i) gM (by show (i:Int)<(dS cf 0).n;rw[show (dS cf 0).n=(N:Int) from hN];omega);refine ST 4 E I (λa w E I=>?_);refine RN 0 E I λa E=>?_;replace I:U W w (aa b4 28 (cc (dS cf i))::_):=I;refine aZ 0 (λw0 V=>Rd V jY 0 [pt B.mb,.slice adL i cL,.slice none 0 0,.slice (some ⟨te,0,none⟩) N N]∧Rd V b4 0 (cc (dS cf i))∧Rd V b5 0 (bP p adP cP)) [5,6,8,9] [0,1,2,3,7,3004,3005,1006,1008,1009,1010,11,12,1013] E I λa w E I hH=>?_;have hC:=hH.at w ⟨I.ai (b:=jY),I.ai (b:=b4),I.ai (b:=b5)⟩;refine RH 5 E I hH hC λa E=>?_;refine QH E (λw hc=>ag E (hc.1 1 _ rfl)) hC λa E=>?_;refine QH E (λw hc=>bT E underlying28 rfl Ty.t28 (hc.2.1)) hC λa E=>?_;refine RH 0 E I hH hC λa E=>?_;refine SS E (bT E underlying45 rfl Ty.t45 (hC.2.2)) λa E=>?_;replace I:=yK.ro I;refine RH 0 E I hH hC λa E=>?_;refine bg 0 E I (abu (cf:=dS cf i) Gn.1 I hn a1 aE) λr a w E ⟨hr,I⟩=>?_;replace hC:=hH.at w ⟨I.ai (b:=jY),I.ai (b:=b4),I.ai (b:=b5)⟩;refine RH 0 E I hH hC λa E=>?_;refine cn E rfl I underlying36 Ty.t34 rfl rfl rfl rfl (by decide) (by decide) λQt a w E I ho=>?_;clear ho;replace hC:=hH.at w ⟨I.ai (b:=jY),I.ai (b:=b4),I.ai (b:=b5)⟩;refine RH 0 E I hH hC λa E=>?_;refine cI E rfl I underlying36 Ty.t34 rfl rfl I.ai rfl (by simp[Value.oneCell']) (by decide) (by decide) (by omega) λq5 q6 a w E I=>?_;rw[show List.map ek rs++_=(rs++[((r:fT),ez p (dS cf i))]).map ek from by rw[cQ];rfl]at I;refine ST 2 E I (λa w E I=>?_);refine RN 3 E I λa E=>?_;have kj:U W w (dj W p (r,ez p (dS cf i))::_):=(I.pick (ah (dj W p) rs)).pick (bX W r p (ez p (dS cf i)));have hA:=U.jG (f:=dj W p) (x:=(r,ez p (dS cf i))) kj;refine⟨N-(i+1),by omega,i+1,q5,q6,rs++[(r,ez p (dS cf i))],i,⟨rfl,⟨by omega,by rw[aL,iM];rfl⟩,?_,?_⟩,E.ab [2,4,5,11,12],?_⟩
  ·rw[cQ,eT,range_succ,cQ];rfl
  ·intro x hx;rw[cQ]at hx;rcases eM.1 hx with hx | hx
   ·exact jV x hx
   ·rw[mem_singleton.1 hx,hr.2];exact⟨hr.1,hTW⟩
  ·rw[show ({ cf with me:=(i:Int) }:Cf)=dS cf i from rfl];exact hA.sub
 obtain rfl:i=N:=by omega
 refine RT 3 E I ?_;have h1:=I.jD te;rw[show List.replicate i (Value.slice none 0 0)=[]++(List.replicate i ((none,0,[]):kr)).map bx++[] from by rw[nil_append,append_nil,map_replicate];rfl]at h1;have h2:=NN (U.iG (n:=i) (c:=i) (sz:=1) h1 (by rw[bd,jK,Nat.mul_one]) (bf _) (by simp)) i;simp only[length_nil]at h2;have h3:=cu.nil (e:=60) h2;refine⟨B,⟨jY,B.mb,rs.map (·.1)⟩,rfl,⟨rfl,hB,jV⟩,?_⟩;have h4:U W w (bw W ⟨jY,B.mb,rs.map (·.1)⟩ p (fq p cf i)::aH W B p 0 (fq p cf i)::L):=by
  refine bw.close (adP:=adL) (cP:=cL) (adN:=none) (cN:=0) (adE:=some ⟨te,0,none⟩) (cE:=i) (xs:=rs) (es:=List.replicate i (none,0,[])) ?_ rfl eT (by rw[map_replicate];rfl);rw[iM,jK];exact h3.sub (M:=aa jY 40 [pt B.mb,.slice adL i cL,.slice none 0 0,.slice (some ⟨te,0,none⟩) i i]::Sl 34 1 adL i cL (rs.map ek)::ah (dj W p) rs::cu 60 none 0 0 []::Sl 70 1 (some ⟨te,0,none⟩) i i ((List.replicate i ((none,0,[]):kr)).map bx)::ah fK (List.replicate i (none,0,[]))::aH W B p 0 (fq p cf i)::L)
 exact h4.sub
end
end
end Go.Proofs.YteoldcfapaiobaaGreat
