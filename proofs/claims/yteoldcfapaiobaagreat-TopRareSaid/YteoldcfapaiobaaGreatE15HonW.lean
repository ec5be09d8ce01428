/- A match of players of whom none lies, plainly: the document's R3. -/
import Derived.Test.YteoldcfapaiobaaGreatE14ArgC
namespace Go.Proofs.YteoldcfapaiobaaGreat
open Tryz
open List (mem_cons_self length_range getElem?_append_right nil_append length_nil mem_range getElem?_range getElem_map eraseIdx_eq_take_drop_succ take_length append_nil getElem_mem map_take map_drop mem_singleton range_succ getElem?_set_ne set_getElem_self length_filter_le mem_append_left map_replicate)
open Go.RowKit
set_option linter.unusedVariables false
set_option linter.unusedSimpArgs false
set_option maxRecDepth 10000
set_option synthInstance.maxSize 4000
set_option synthInstance.maxHeartbeats 400000
section
def bl (v:Wd)(i j:Nat):Nat:=((an v i).k.ls.getD j []).length
def pT (v:Wd)(i j:Nat):Nat:=(au (an v i).k j).has
noncomputable def pU (m:Ml):Nat:=match eu m.2.2 with
 | some q=>if q.kind=1 then q.first.toNat+q.al.length else 0
 | none=>0
structure oT (p:Pr)(cf:Cf)(K:Int→Prop)(G:List (List UInt8))(v:Wd)(m:Ml)(q:Pk):Prop where
 kb:uY p G q
 kind:K q.kind
 fr:q.aW=m.1
 to:q.to=m.2.1
 bs:m.2.2=aR q
 lt:m.1<v.ps.length∧m.2.1<v.ps.length
 id:q.id=cf.id
 uZ:q.kind=1→q.c7.toNat≤bl v m.1 m.2.1∧q.first.toNat≤bl v m.2.1 m.1∧q.first.toNat+q.al.length≤q.c7.toNat+cf.bt.toNat
structure gw (p:Pr)(cf:Cf)(K:Int→Prop)(G:List (List UInt8))(v:Wd):Prop where
 pl:∀ i,i<v.ps.length→gK p G (an v i)
 ac:∀ i j,i<v.ps.length→j<v.ps.length→i≠j→pT v i j≤bl v j i∧bl v i j≤pT v i j+cf.bt.toNat
 hd:∀ i,i<v.ps.length→bl v i i≤aw (an v i).k+cf.bt.toNat
 net:∀ m∈v.net,∃ q,oT p cf K G v m q
 bx:∀ l∈v.ev,∀ e∈l,e.1≠3
 wQ:∀ i,i<v.ps.length→∀ e∈(an v i).k.ev,e.1≠3
section
variable {p:Pr}{cf:Cf}{K:Int→Prop}{G G':List (List UInt8)}{v u:Wd}{c i j x y:Nat}{s':Pl}{net:List Ml}{ev:List (List j6)}{m:Ml}{q:Pk}{t:fH}{b:UInt8}
theorem bL.qI (h:bL p cf c v)(hi:i<v.ps.length):(an v i).k.me=i∧(an v i).k.bt=cf.bt.toNat∧(an v i).k.id=cf.id∧(an v i).k.n=v.ps.length∧(an v i).k.aJ=cf.aJ.toNat:=by
 have h1:=(h.pl i hi).2.1;have h2:(fe (an v i).k).me=(i:Int):=by rw[h1]
 have h3:(fe (an v i).k).bt=cf.bt:=by rw[h1]
 have h4:(fe (an v i).k).id=cf.id:=by rw[h1]
 have h5:(fe (an v i).k).aJ=cf.aJ:=by rw[h1]
 simp only[fe]at h2 h3 h4 h5;exact⟨by omega,by omega,h4,h.kn hi,by omega⟩
theorem bL.win (h:bL p cf c v):1≤cf.bt.toNat∧cf.bt.toNat≤16:=by
 have h1:=h.may.2.1.2.1;unfold fx at h1;omega
theorem tm (hi:i<v.ps.length):bl ⟨v.ps.set i s',net,ev⟩ x y=if i=x then (s'.k.ls.getD y []).length else bl v x y:=by
 rw[bl,qG hi];split <;> rfl
theorem ach (hi:i<v.ps.length):pT ⟨v.ps.set i s',net,ev⟩ x y=if i=x then (au s'.k y).has else pT v x y:=by
 rw[pT,qG hi];split <;> rfl
theorem NR (hi:i<v.ps.length):v.ps.set i (an v i)=v.ps:=by
 rw[an,bn,aE hi];exact set_getElem_self _
theorem NS {l:List (List UInt8)}{a:List UInt8}(hi:i<l.length):((l.set i a).getD j []).length=if i=j then a.length else (l.getD j []).length:=by
 rw[bn,jL];split
 ·rename_i h;subst h;rfl
 ·rw[bn]
theorem aci {l a:List UInt8}{f:Nat}(h1:f≤l.length)(h2:f+a.length≤1000)(h3:l.length≤1000):(dp l f a).length=max l.length (f+a.length):=by
 rw[dp,ag (by omega),aL,ep,c3];omega
theorem acj (now head:Nat)(q:Pk)(z:Pe):(fP now head q z).has=if z.has<q.c7.toNat∧q.c7.toNat≤head then q.c7.toNat else z.has:=by
 unfold fP;simp only;split <;> rfl
theorem gw.BS (h:gw p cf K G v)(hv:bL p cf c v)(hi:i<v.ps.length)(hj:j<v.ps.length):bl v i j≤bl v j j∧(G.getD j []).length=bl v j j:=by
 have h1:=(h.pl j hj).own;rw[(hv.qI hj).1]at h1;obtain⟨t,ht⟩:=(h.pl i hi).ext.2 j (by rw[(hv.pl i hi).1.wc.ls,(hv.qI hi).2.2.2.1];exact hj);have h2:(G.getD j []).length=bl v j j:=by rw[← h1];rfl
 refine⟨?_,h2⟩;rw[← h2,ht,aL,bl];omega
theorem gw.NT (h:gw p cf K G v)(hv:bL p cf c v):G.length=v.ps.length∧G≠[]:=by
 have h0:=hv.len;have h1:=h.pl 0 (by omega);exact⟨by rw[h1.lens,hv.kn (by omega)],h1.GR⟩
theorem oT.more (h:oT p cf K G v m q)(rR:Ext G G')(h0:G≠[])(jw:G.length=v.ps.length)(hl:u.ps.length=v.ps.length)(hk:∀ a b,bl v a b≤bl u a b):oT p cf K G' u m q:=by
 refine⟨h.kb.ext rR h0 (by have:=h.lt.1;have:=h.fr;omega),h.kind,h.fr,h.to,h.bs,by rw[hl];exact h.lt,h.id,λh1=>?_⟩;obtain⟨de,dG,a3⟩:=h.uZ h1;exact⟨ft de (hk _ _),ft dG (hk _ _),a3⟩
theorem oT.dec (h:oT p cf K G v m q):eu m.2.2=some q:=by rw[h.bs];exact Kc h.kb.may h.kb.sum
theorem oT.val (h:oT p cf K G v m q):pU m=if q.kind=1 then q.first.toNat+q.al.length else 0:=by rw[pU,h.dec]
theorem gw.put (h:gw p cf K G v)(hv:bL p cf c v)(hi:i<v.ps.length)(hH:gK p G' s')(rR:Ext G G')(jx:∀ j,j≠i→G'.getD j []=G.getD j [])(hk:∀ j,bl v i j≤(s'.k.ls.getD j []).length)
   (jZ:∀ j,j<v.ps.length→j≠i→(au s'.k j).has≤bl v j i∧(s'.k.ls.getD j []).length≤(au s'.k j).has+cf.bt.toNat) (gS:(s'.k.ls.getD i []).length≤aw s'.k+cf.bt.toNat)
   (GS:∀ e∈s'.k.ev,e.1≠3) (GU:∀ m∈net,m∈v.net∨∃ q,oT p cf K G' ⟨v.ps.set i s',net,ev⟩ m q) (pL:∀ l∈ev,∀ e∈l,e.1≠3):gw p cf K G' ⟨v.ps.set i s',net,ev⟩:=by
 have hg:=h.NT hv;have hl:(⟨v.ps.set i s',net,ev⟩:Wd).ps.length=v.ps.length:=bu;have hm:∀ a b,bl v a b≤bl ⟨v.ps.set i s',net,ev⟩ a b:=λa b=>by
  rw[tm hi];split
  ·rename_i e;subst e;exact hk b
  ·exact a7 _
 refine⟨λj hj=>?_,λa b E hb BT=>?_,λj hj=>?_,λm gO=>?_,pL,λj hj=>?_⟩
 ·rw[hl]at hj;rw[qG hi];split
  ·exact hH
  ·rename_i e;exact (h.pl j hj).more rR (by rw[(hv.qI hj).1];exact jx j (λe2=>e e2.symm))
 ·rw[hl]at E hb;rw[tm hi,tm hi,ach hi];by_cases h1:i=a
  ·subst h1;rw[ak rfl,ag BT,ak rfl];exact jZ b hb (Ne.symm BT)
  ·rw[ag h1,ag h1];have h3:=h.ac a b E hb BT;by_cases h2:i=b
   ·subst h2;rw[ak rfl];exact⟨ft h3.1 (hk a),h3.2⟩
   ·rw[ag h2];exact h3
 ·rw[hl]at hj;rw[tm hi,qG hi];split
  ·rename_i e;subst e;exact gS
  ·exact h.hd j hj
 ·rcases GU m gO with h1 | h1
  ·obtain⟨q,hq⟩:=h.net m h1;exact⟨q,hq.more rR hg.2 hg.1 hl hm⟩
  ·exact h1
 ·rw[hl]at hj;rw[qG hi];split
  ·exact GS
  ·exact h.wQ j hj
theorem gw.al (h:gw p cf K G v)(hv:bL p cf c v)(hi:i<v.ps.length)(b:UInt8):(∃ G',gw p cf K G' { v with ps:=v.ps.set i (dE p b (an v i)).2 }) ∧
   ∀ x y,bl { v with ps:=v.ps.set i (dE p b (an v i)).2 } x y=bl v x y+if (x=i∧y=i)∧(dE p b (an v i)).1=0 then 1 else 0:=by
 obtain⟨ek,wR,b6,hn,_⟩:=hv.qI hi;by_cases h0:(dE p b (an v i)).1=0
 ·obtain⟨hH,mr,hk⟩:=(h.pl i hi).al h0;obtain⟨g1,iA,l8,lH⟩:=uv (k:=(an v i).k) (b:=b) h0;rw[ek]at hH hk;have aH:i<(an v i).k.ls.length:=by rw[(hv.pl i hi).1.wc.ls,hn];exact hi
  have eQ:(dE p b (an v i)).2.k.ls=(an v i).k.ls.set i ((an v i).k.ls.getD i []++[b]):=by rw[hk]
  have gD:∀ j,au (dE p b (an v i)).2.k j=au (an v i).k j:=λj=>by rw[au,hk];rfl
  have hQ:∀ j,((dE p b (an v i)).2.k.ls.getD j []).length=bl v i j+if i=j then 1 else 0:=λj=>by
   rw[eQ,NS aH];split
   ·rename_i e;subst e;rw[aL];rfl
   ·rfl
  have fp:aw (an v i).k≤aw (dE p b (an v i)).2.k:=by
   rw[aw,aw,eQ];exact Ext.set.front (hv.pl i hi).1.wc.k0
  have gS:aD (an v i).k=bl v i i:=by rw[aD,ek];rfl
  refine⟨⟨_,h.put hv hi hH Ext.set (λj hj=>?_) (λj=>?_) (λj hj gP=>?_) ?_ ?_ (λm hm=>.inl hm) h.bx⟩,λx y=>?_⟩
  ·rw[bn,getElem?_set_ne (Ne.symm hj),← bn]
  ·rw[hQ];omega
  ·rw[hQ,gD,ag (Ne.symm gP),Nat.add_zero];exact h.ac i j hi hj (Ne.symm gP)
  ·rw[hQ,ak rfl];omega
  ·rw[hk];exact h.wQ i hi
  ·rw[tm hi];by_cases e:i=x
   ·subst e;rw[ak rfl,hQ];by_cases e2:i=y
    ·rw[ak e2,ak ⟨⟨rfl,e2.symm⟩,h0⟩]
    ·rw[ag e2,ag (λh=>e2 h.1.2.symm)]
   ·rw[ag e,ag (λh=>e h.1.1.symm),Nat.add_zero]
 ·rw[NN (hv.pl i hi).1 h0,NR hi];exact⟨⟨G,h⟩,λx y=>by rw[ag (λh=>h0 h.2)];rfl⟩
theorem gw.ack (h:gw p cf K G v)(hn:∀ m∈net,m∈v.net):gw p cf K G { v with net:=net } :=
 ⟨h.pl,h.ac,h.hd,λm hm=>(h.net m (hn m hm)).imp λq hq=>⟨hq.kb,hq.kind,hq.fr,hq.to,hq.bs,hq.lt,hq.id,hq.uZ⟩,h.bx,h.wQ⟩
theorem gw.recv (h:gw p cf K G v)(hv:bL p cf c v)(hm:m∈v.net)(hn:∀ m∈net,m∈v.net):gw p cf K G { v with ps:=v.ps.set m.2.1 (dF p m.2.2 (an v m.2.1)).2,net:=net } ∧
   ∀ x y,bl { v with ps:=v.ps.set m.2.1 (dF p m.2.2 (an v m.2.1)).2,net:=net } x y=if (x=m.2.1∧y=m.1)∧(an v m.2.1).k.cl=false then max (bl v x y) (pU m) else bl v x y:=by
 obtain⟨q,hq⟩:=h.net m hm;obtain⟨dZ,hi⟩:=hq.lt;obtain⟨ek,wR,b6,nD,_⟩:=hv.qI hi;have E2:q.aW.toNat=m.1:=by have:=hq.fr;omega
 have jG:m.1≠m.2.1:=λe=>hq.kb.may.2.2.1 (by rw[hq.fr,hq.to,e]);rw[hq.bs];generalize I:an v m.2.1=s at *;have yC:=h.pl _ hi;have rS:=hv.pl _ hi;rw[I]at yC rS;cases hc:s.k.cl with
 | true =>
  have h0:(dF p (aR q) s).1≠0:=by
   show (dw (aR q) s.k).1≠0;rw[dw,ak hc];show (6:Int)≠0;decide
  rw[acf rS.1 h0,← I,NR hi];exact⟨h.ack hn,λx y=>by rw[ag (λh=>by have:=h.2;cases this)];rfl⟩
 | false =>
  have rP:m.1<s.k.ps.length:=by rw[rS.1.wc.ps,nD];exact dZ
  have aH:m.1<s.k.ls.length:=by rw[rS.1.wc.ls,nD];exact dZ
  have jZ:=h.ac _ _ hi dZ (Ne.symm jG);have oh:=h.BS hv dZ hi;have o0:=h.BS hv hi dZ;have kN:=(hv.pl _ dZ).1.wc.lW (i:=m.1) (by rw[hv.kn dZ];exact dZ);have kq:=rS.1.wc.lW (i:=m.1) (by rw[nD];exact dZ);have NU:aD s.k=bl v m.2.1 m.2.1:=by rw[aD,ek,bl,I]
  rcases hq.kb.may.2.2.2.2 with ⟨h1,_⟩ | ⟨h1,_⟩
  ·obtain⟨hH,h0,mr,hk⟩:=yC.yn hq.kb hc (by rw[hq.to,ek]) (by rw[hq.fr,nD];omega) (by rw[hq.id,b6]) h1;obtain⟨s1,s2,vc⟩:=hq.uZ h1;obtain⟨g1,iA⟩:=hq.kb.uZ h1;rw[E2]at hk g1;have yq:bl v m.2.1 m.1=(s.k.ls.getD m.1 []).length:=by rw[bl,I]
   have eB:=aci (l:=s.k.ls.getD m.1 []) (a:=q.al) (f:=q.first.toNat) (by rw[← yq];exact s2) (by rw[o0.2]at g1;rw[bl]at g1;omega) kq;have eQ:(dF p (aR q) s).2.k.ls=s.k.ls.set m.1 (dp (s.k.ls.getD m.1 []) q.first.toNat q.al):=by rw[hk]
   have hQ:∀ j,((dF p (aR q) s).2.k.ls.getD j []).length=if m.1=j then max (bl v m.2.1 m.1) (q.first.toNat+q.al.length) else bl v m.2.1 j:=λj=>by
    rw[eQ,NS aH,eB,bl,bl,I]
   have gD:∀ j,au (dF p (aR q) s).2.k j=if j=m.1 then fP s.k.now (aD s.k) q (au s.k m.1) else au s.k j:=λj=>by
    rw[au,hk];exact wi rP
   have fp:aw s.k≤aw (dF p (aR q) s).2.k:=by
    have h5:=rD (aR q) s.k;obtain⟨t5,h6⟩:=K7 (s.k.ls.getD m.1 []) q.first.toNat q.al;rw[aw,aw,eQ,h6];exact Ext.set.front rS.1.wc.k0
   refine⟨h.put hv hi hH (Ext.refl _) (λ_ _=>rfl) (λj=>?_) (λj hj gP=>?_) ?_ ?_ (λm hm=>.inl (hn m hm)) h.bx,λx y=>?_⟩
   ·rw[hQ];split
    ·rename_i e;subst e;omega
    ·exact a7 _
   ·rw[hQ,gD];have wS:=h.ac _ _ hi hj (Ne.symm gP);by_cases e:j=m.1
    ·subst e;rw[ak rfl,ak rfl,acj];rw[pT,I]at wS;rw[bl]at oh;simp only[bl] at *;split <;> omega
    ·rw[ag (Ne.symm e),ag e];rw[pT,I]at wS;exact wS
   ·rw[hQ,ag jG];have:=h.hd _ hi;rw[I]at this;omega
   ·rw[hk];have:=h.wQ _ hi;rw[I]at this;exact this
   ·rw[tm hi,hQ,hq.val,ak h1];by_cases e:m.2.1=x
    ·subst e;rw[ak rfl];by_cases e2:m.1=y
     ·subst e2;rw[ak rfl,ak ⟨⟨rfl,rfl⟩,rfl⟩]
     ·rw[ag e2,ag (λh=>e2 h.1.2.symm)]
    ·rw[ag e,ag (λh=>e h.1.1.symm)]
  ·obtain⟨hH,h0,hk⟩:=yC.bye hq.kb hc (by rw[hq.to,ek]) (by rw[hq.fr,nD];omega) (by rw[hq.id,b6]) h1;rw[E2]at hk;have eQ:(dF p (aR q) s).2.k.ls=s.k.ls:=by rw[hk]
   have hQ:∀ j,((dF p (aR q) s).2.k.ls.getD j []).length=bl v m.2.1 j:=λj=>by rw[eQ,bl,I]
   have gD:∀ j,(au (dF p (aR q) s).2.k j).has=(au s.k j).has:=λj=>by
    rw[au,hk];show ((s.k.ps.set _ _).getD j (fy 0)).has=_;rw[wi rP];split
    ·rename_i e;subst e;rfl
    ·rfl
   refine⟨h.put hv hi hH (Ext.refl _) (λ_ _=>rfl) (λj=>?_) (λj hj gP=>?_) ?_ ?_ (λm hm=>.inl (hn m hm)) h.bx,λx y=>?_⟩
   ·rw[hQ];exact a7 _
   ·have wS:=h.ac _ _ hi hj (Ne.symm gP);rw[pT,I]at wS;rw[hQ,gD];exact wS
   ·have:=h.hd _ hi;rw[I]at this;rw[hQ,aw,eQ];exact this
   ·rw[hk];intro e he;rcases eP.1 he with he | he
    ·have:=h.wQ _ hi;rw[I]at this;exact this e he
    ·rw[mem_singleton.1 he];show (1:Nat)≠3;decide
   ·have sx:pU m=0:=by rw[hq.val,ag (by omega)]
    rw[tm hi,hQ,sx,Nat.max_zero];by_cases e:m.2.1=x
    ·subst e;rw[ak rfl];split <;> rfl
    ·rw[ag e,ag (λh=>e h.1.1.symm)]
theorem acm {k:Ks}(h:m∈(br k).1):∃ j,j<k.n∧j≠k.me∧m=(k.me,j,aR (dK k j)):=by
 unfold br at h;split at h
 ·cases h
 ·simp only at h;split at h
  ·cases h
  ·obtain⟨j,hj,rfl⟩:=cV.1 h;obtain⟨h1,h2⟩:=wk.1 hj;exact⟨j,h1,h2,rfl⟩
theorem gw.same (h:gw p cf K G v)(hv:bL p cf c v)(hi:i<v.ps.length)(hH:gK p G s')(eQ:s'.k.ls=(an v i).k.ls)(gD:s'.k.ps=(an v i).k.ps)(GS:∀ e∈s'.k.ev,e.1≠3)
   (GU:∀ m∈net,m∈v.net∨∃ q,oT p cf K G v m q) (pL:∀ l∈ev,∀ e∈l,e.1≠3):gw p cf K G ⟨v.ps.set i s',net,ev⟩∧∀ x y,bl ⟨v.ps.set i s',net,ev⟩ x y=bl v x y:=by
 have uG:∀ x y,bl ⟨v.ps.set i s',net,ev⟩ x y=bl v x y:=λx y=>by
  rw[tm hi];split
  ·rename_i e;subst e;rw[eQ];rfl
  ·rfl
 have hg:=h.NT hv;refine⟨h.put hv hi hH (Ext.refl _) (λ_ _=>rfl) (λj=>by rw[eQ];exact a7 _) (λj hj gP=>?_) ?_ GS (λm hm=>(GU m hm).imp_right λ⟨q,hq⟩=>⟨q,hq.more (Ext.refl _) hg.2 hg.1 bu λa b=>by rw[uG];exact a7 _⟩) pL,uG⟩
 ·rw[eQ,au,gD];exact h.ac i j hi hj (Ne.symm gP)
 ·rw[aw,eQ];exact h.hd i hi
theorem gw.NV (h:gw p cf K G v)(hv:bL p cf c v)(hi:i<v.ps.length)(GV:K 1)(hm:m∈(br (an v i).k).1):∃ q,oT p cf K G v m q∧pU m=bl v i i:=by
 obtain⟨ek,wR,b6,hn,_⟩:=hv.qI hi;obtain⟨j,hj,bD,rfl⟩:=acm hm;rw[hn]at hj;rw[ek]at bD;have jZ:=h.ac i j hi hj (Ne.symm bD);have hb:=h.BS hv hj hi;have gS:=h.hd i hi;have dZ:aw (an v i).k≤bl v i j:=v8 (uu (by rw[(hv.pl i hi).1.wc.ls,hn];exact hj));have NU:aD (an v i).k=bl v i i:=by rw[aD,ek];rfl
 have hw:=hv.win;have kb:=(h.pl i hi).Gz (i:=j) (by rw[hn];exact hj) (by rw[ek];exact bD) (by rw[NU];rw[pT]at jZ;omega);have hQ:(dK (an v i).k j).first.toNat+(dK (an v i).k j).al.length=bl v i i:=by
  show (((au (an v i).k j).has:Nat):Int).toNat+((((an v i).k.ls.getD (an v i).k.me []).drop (au (an v i).k j).has).take 32).length=_;rw[pT]at jZ;rw[ep,c3,ek,Int.toNat_natCast];show _+min 32 (bl v i i-_)=_;omega
 have hq:oT p cf K G v ((an v i).k.me,j,aR (dK (an v i).k j)) (dK (an v i).k j):=by
  refine⟨kb,GV,rfl,rfl,rfl,⟨by rw[ek];exact hi,hj⟩,b6,λ_=>⟨?_,?_,?_⟩⟩
  ·show ((((an v i).k.ls.getD j []).length:Nat):Int).toNat≤bl v (an v i).k.me j;rw[ek,Int.toNat_natCast];exact a7 _
  ·show (((au (an v i).k j).has:Nat):Int).toNat≤bl v j (an v i).k.me;rw[ek,Int.toNat_natCast];exact jZ.1
  ·rw[hQ];show _≤((((an v i).k.ls.getD j []).length:Nat):Int).toNat+_;rw[Int.toNat_natCast];show _≤bl v i j+_;omega
 exact⟨_,hq,by rw[hq.val,ak (show (dK (an v i).k j).kind=1 from rfl),hQ]⟩
theorem acn (k:Ks):(br k).2.ls=k.ls∧(br k).2.ps=k.ps∧∀ e∈(br k).2.ev,e∈k.ev∨e.1=2:=by
 rcases wm k with h1 | ⟨_,h1 | ⟨i,_,h1⟩⟩ <;> rw[h1]
 ·exact⟨rfl,rfl,λe he=>.inl he⟩
 ·exact⟨rfl,rfl,λe he=>.inl he⟩
 ·refine⟨rfl,rfl,λe he=>?_⟩;rcases eP.1 he with he | he
  ·exact .inl he
  ·rw[mem_singleton.1 he];exact .inr rfl
theorem gw.tick (h:gw p cf K G v)(hv:bL p cf c v)(hi:i<v.ps.length)(GV:K 1):gw p cf K G { v with ps:=v.ps.set i ⟨(br (an v i).k).2,(an v i).g⟩,net:=ez v.net (br (an v i).k).1 } ∧
   ∀ x y,bl { v with ps:=v.ps.set i ⟨(br (an v i).k).2,(an v i).g⟩,net:=ez v.net (br (an v i).k).1 } x y=bl v x y:=by
 obtain⟨h1,h2,h3⟩:=acn (an v i).k;refine h.same hv hi (h.pl i hi).tick h1 h2 (λe he=>?_) (λm hm=>(Gw hm).imp_right λhm=>(h.NV hv hi GV hm).imp λq hq=>hq.1) h.bx;rcases h3 e he with h4 | h4
 ·exact h.wQ i hi e h4
 ·omega
theorem u0 (p:Pr){cf:Cf}(h:eR cf):∃ mr,(ey p cf).k={ ff cf with mr:=mr }:=by
 refine GQ (G:=(ff cf).ls) (wo (p:=p) h) (Ext.refl _) λi hi=>?_;have o9:au (ff cf) i=fy cf.aJ.toNat∨au (ff cf) i=fy 0:=by
  rw[au,bn];show ((List.replicate cf.n.toNat (fy cf.aJ.toNat))[i]?).getD (fy 0)=_∨((List.replicate cf.n.toNat (fy cf.aJ.toNat))[i]?).getD (fy 0)=_;rw[List.getElem?_replicate];split
  ·exact .inl rfl
  ·exact .inr rfl
 have h2:(au (ff cf) i).frame=0:=by rcases o9 with e | e <;> rw[e] <;> rfl
 show mI p _ (au (ff cf) i).frame _;rw[h2];exact⟨Nat.zero_le _,λh=>absurd h (by omega)⟩
end
end
section
def fJ.yY:fJ→Bool
 | .mu _=>true
 | .pl _=>false
def dx (cf:Cf)(i:Nat):Cf:={ cf with me:=i }
def fh (p:Pr)(cf:Cf)(n:Nat):Wd:=⟨(List.range n).map λi=>ey p (dx cf i),[],List.replicate n []⟩
def u1 (fq:List fB)(cf:Cf)(tb:List UInt8)(gL:Bool)(n:Nat):Prop:=fq.map (·.cf)=(List.range n).map (dx cf)∧∀ x∈fq,x.z.gs=⟨cf.bf,cf.order,tb⟩∧x.z.yY=gL
theorem aco {cf:Cf}{i:Nat}(h:eR (dx cf 0))(hi:(i:Int)<cf.n):eR (dx cf i):=by
 obtain⟨⟨h1,h2,h3⟩,h4⟩:=h;refine⟨⟨h1,?_,h3⟩,h4⟩;show fx (i:Int) 0 (cf.n-1);unfold fx;omega
theorem NW {cf:Cf}{p:Pr}{tb:List UInt8}{i:Nat}(h:nn (dx cf 0) p tb)(hi:(i:Int)<cf.n):nn (dx cf i) p tb:=⟨aco h.1 hi,h.2⟩
section
variable {W w:World}{L:List SP}{n c cP cT i:Nat}{ad adP adT:Option Addr}{p:Pr}{tb:List UInt8}{cf:Cf}{gL:Bool}
theorem acp (fV:nn cf p tb)(I:U W w (aA W p adP cP::L))(hn:tb.length=n)(aG:p.title.size≤1000000000)(dV:p.ops.length≤1000000000)(eK:tb.length≤1099511627776)(hT:∀ w',U W w' (aA W p adP cP::L)→aX w' adT tb.length tb) :
   Calls prog 60 #[.agg (bT cf).toArray,.agg (bP p adP cP).toArray,.slice adT n cT] w λr w'=>∃ B:iU,r=.returned (.tuple #[pt B.pb,.int .i64 0])∧B.gs=⟨cf.bf,cf.order,tb⟩∧U W w' (aQ W B p (ey p cf)::aA W p adP cP::L) :=
 (abF I hn aG dV eK hT).mono λr w' h=>h.elim (λh=>h.2) λh=>absurd fV h.1
theorem acq (fV:nn cf p tb)(I:U W w (aA W p adP cP::L))(hn:tb.length=n)(aG:p.title.size≤1000000000)(dV:p.ops.length≤1000000000)(eK:tb.length≤1099511627776)(hT:∀ w',U W w' (aA W p adP cP::L)→aX w' adT tb.length tb) :
   Calls prog 43 #[.agg (bT cf).toArray,.agg (bP p adP cP).toArray,.slice adT n cT,.bool gL] w λr w'=>∃ z:fJ,r=.returned (.tuple #[.iface z.t (.pointer (some z.ad)),.int .i64 0])∧(z.gs=⟨cf.bf,cf.order,tb⟩∧z.yY=gL)∧U W w' (fB.J W p ⟨cf,z⟩ 0 (ey p cf)::aA W p adP cP::L):=by
 refine EN func43 ntmps43 rfl rfl λa E=>?_;refine BX 1 E I λb4 a w E I=>?_;change U W w (aa b4 28 (bT cf)::_) at I;refine BX 0 E I λb5 a w E I=>?_;change U W w (aa b5 45 (bP p adP cP)::_) at I;refine IF 5 E I (λaj a E=>?_) λaj a E=>?_
 ·
  refine bh 4 E I (abK fV (I.pick (aA W p adP cP)) hn aG dV eK (λw' dc=>hT _ dc.sub)) λM a w E ⟨hg,I⟩=>?_;refine RT 11 E I ?_;exact⟨.mu M,rfl,⟨hg,by rw[show gL=true from by simpa using aj];rfl⟩,(show U W w (fB.J W p ⟨cf,.mu M⟩ 0 (ey p cf)::_) from I).sub⟩
 refine bh 4 E I (acp fV (I.pick (aA W p adP cP)) hn aG dV eK (λw' dc=>hT _ dc.sub)) λB a w E ⟨hg,I⟩=>?_;refine RT 11 E I ?_;exact⟨.pl B,rfl,⟨hg,by rw[show gL=false from by simpa using aj];rfl⟩,(show U W w (fB.J W p ⟨cf,.pl B⟩ 0 (ey p cf)::_) from I).sub⟩
theorem NX (I:U W w L):∀ n:Nat,U W w (ah eA (List.replicate n (none,0,[]))::L)
 | 0=>U.iN I
 | n+1=>U.vl (f:=eA) (x:=(none,0,[])) ((NX I n).bN 135 1 none)
theorem NY (fV:nn (dx cf 0) p tb)(I:U W w (aA W p adP cP::L))(hn:tb.length=n)(aG:p.title.size≤1000000000)(dV:p.ops.length≤1000000000)(eK:tb.length≤1099511627776)(hT:∀ w',U W w' (aA W p adP cP::L)→aX w' adT tb.length tb) :
   Calls prog 24 #[.agg (bT cf).toArray,.agg (bP p adP cP).toArray,.slice adT n cT,.bool gL] w λr w'=>∃ B:ju,r=.returned (.tuple #[pt B.mb,.int .i64 0])∧u1 B.fq cf tb gL cf.n.toNat∧U W w' (aN W B p 0 (fh p cf cf.n.toNat)::aA W p adP cP::L):=by
 have pq:=fV.1.1.1;unfold fx at pq;obtain⟨N,hN⟩:∃ N:Nat,(dx cf 0).n=N:=⟨(dx cf 0).n.toNat,by omega⟩;replace hN:cf.n=N:=hN;have hN2:2≤N∧N≤8:=by
  have h1:(dx cf 0).n=cf.n:=rfl;omega
 rw[show cf.n.toNat=N from by omega];refine EN func24 ntmps24 rfl rfl λa E=>?_;refine BX 1 E I λb4 a w E I=>?_;change U W w (aa b4 28 (bT cf)::_) at I;refine BX 0 E I λb5 a w E I=>?_;change U W w (aa b5 45 (bP p adP cP)::_) at I;refine bh 3 E I (abm I) λq a w E I=>?_;refine BX 1 E I λqq a w E I=>?_;refine RN 1 E I λa E=>?_;replace I:=U.iN (f:=cB W p 0) (I.bN 81 1 none);refine RN 7 E I λa E=>?_;rw[hN,show min (max (N:Int) 1) 8=(N:Int) from by omega]at E;refine aO (λμ a w=>∃ (i:Nat) (adL:Option Addr) (cL:Nat) (xs:List (fB×Pl)) (me:Int),(μ=N-i∧(i≤N∧xs.length=i)∧xs.map (·.2)=(List.range i).map (λi=>ey p (dx cf i))∧u1 (xs.map (·.1)) cf tb gL i)∧Fr a 58 [(2,.slice adT n cT),(3,.bool gL),(4,pt b4),(5,pt b5),(10,pt qq),(20,.int .i64 N),(21,.int .i64 i)]∧U W w (aa qq 107 [.slice adL i cL,pt q,.slice none 0 0]::Sl 81 1 adL i cL (xs.map cF)::ah (cB W p 0) xs::bK q []::aa b4 28 (bT { cf with me:=me })::aa b5 45 (bP p adP cP)::aA W p adP cP::L)) (N) (⟨0,none,0,[],cf.me,⟨rfl,⟨by omega,rfl⟩,rfl,rfl,λx h=>by cases h⟩,E.ab [2,3,4,5,10,20,21],(show U W w (ah (cB W p 0) []::Sl 81 1 none 0 0 (([]:List (fB×Pl)).map cF)::_) from I).sub⟩) ?_;clear E I;rintro μ a w ⟨i,adL,cL,xs,me,⟨rfl,⟨hi,bW⟩,df,ed⟩,E,I⟩;refine IF 3 E I (λaj a E=>?_) λaj a E=>?_
 ·
  have aH:i<N:=by omega
  have GW:=NW (i:=i) fV (by omega);refine ST 7 E I (λa w E I=>?_);refine RN 0 E I λa E=>?_;change U W w (aa b4 28 (bT (dx cf i))::_) at I;refine bh 5 E I (acq GW (I.pick (aA W p adP cP)) hn aG dV eK (λw' dc=>hT _ dc.sub)) λz a w E ⟨hz,I⟩=>?_;refine RN 9 E I λa E=>?_;replace E:=E.aM 35;refine RN 7 E I λa E=>?_;refine cr E rfl I underlying104 Ty.t81 rfl rfl rfl rfl (by decide) (by decide) λb43 a w E I ho=>?_;clear ho;replace I:=I.pick (Sl 81 1 adL i cL (xs.map cF));refine RN 0 E I λa E=>?_;refine cK E rfl I underlying104 Ty.t81 rfl rfl I.ai rfl (by simp[Value.oneCell']) (by decide) (by decide) (by omega) λnm k8 a w E I=>?_;rw[show List.map cF xs++_=(xs++[((⟨dx cf i,z⟩:fB),ey p (dx cf i))]).map cF from by rw[cW];rfl]at I;refine ST 2 E I (λa w E I=>?_);refine RN 2 E I λa E=>?_;have kz:=(I.pick (ah (cB W p 0) xs)).pick (fB.J W p ⟨dx cf i,z⟩ 0 (ey p (dx cf i)));have hA:=U.jM (f:=cB W p 0) (x:=(⟨dx cf i,z⟩,ey p (dx cf i))) kz;refine⟨N-(i+1),by omega,i+1,nm,k8,xs++[(⟨dx cf i,z⟩,ey p (dx cf i))],i,⟨rfl,⟨by omega,by rw[aL,bW];rfl⟩,?_,?_⟩,E.ab [2,3,4,5,10,20,21],?_⟩
  ·rw[cW,df,range_succ,cW];rfl
  ·refine⟨?_,λx hx=>?_⟩
   ·rw[cW,cW,range_succ,cW,ed.1];rfl
   ·rw[cW]at hx;rcases eP.1 hx with hx | hx
    ·exact ed.2 x hx
    ·rw[mem_singleton.1 hx];exact hz
  ·rw[show ({ cf with me:=(i:Int) }:Cf)=dx cf i from rfl];exact hA.sub
 obtain rfl:i=N:=by omega
 refine RN 7 E I λa E=>?_;refine qP E rfl I underlying105 Ty.t90 rfl (by omega) (by omega) λBU a w E I ho=>?_;clear ho;rw[Bn _ rfl]at I;refine ST 2 E I (λa w E I=>?_);refine RT 4 E I ?_;refine⟨⟨qq,q,xs.map (·.1)⟩,rfl,ed,?_⟩;have h1:=I.jJ BU;rw[show List.replicate i (Value.slice none 0 0)=[]++(List.replicate i ((none,0,[]):ka)).map bx++[] from by rw[nil_append,append_nil,map_replicate];rfl]at h1;have h2:=NX (U.iM (n:=i) (c:=i) (sz:=1) h1 (by rw[bd,ko,Nat.mul_one]) (a7 _) (by simp)) i;refine aN.uX (adL:=adL) (cL:=cL) (adE:=some ⟨BU,0,none⟩) (cE:=i) (xs:=xs) (es:=List.replicate i (none,0,[])) ?_ rfl df (by rw[map_replicate];rfl);rw[bW,ko];simp only[length_nil]at h2;show U W w (aa qq 107 [.slice adL i cL,pt q,.slice (some ⟨BU,0,none⟩) i i]::Sl 81 1 adL i cL (xs.map cF)::ah (cB W p 0) xs::bK q []::Sl 90 1 (some ⟨BU,0,none⟩) i i ((List.replicate i ((none,0,[]):ka)).map bx)::ah eA (List.replicate i (none,0,[]))::aA W p adP cP::L);exact h2.sub
end
end
section
abbrev dy (x:fT×Pl):Value:=pt x.1.pb
def da (W:World)(p:Pr)(x:fT×Pl):SP:=b0 W x.1 p x.2
def eU (x:ka):SP:=Sl 102 3 x.1 x.2.2.length x.2.1 (rows bU x.2.2)
structure nP where
 wb:Nat
 mb:Nat
 mJ:List fT
def bF (W:World)(D:nP)(p:Pr)(v:Wd):SP:=λh=>∃ i:(Option Addr×Nat)×(Option Addr×Nat)×(Option Addr×Nat)×List (fT×Pl)×List ka,(i.2.2.2.1.map (·.1)=D.mJ∧i.2.2.2.1.map (·.2)=v.ps∧i.2.2.2.2.map (·.2.2)=v.ev) ∧
 cn [aa D.wb 40 [pt D.mb,.slice i.1.1 i.2.2.2.1.length i.1.2,.slice i.2.1.1 v.net.length i.2.1.2,.slice i.2.2.1.1 i.2.2.2.2.length i.2.2.1.2],
  Sl 34 1 i.1.1 i.2.2.2.1.length i.1.2 (i.2.2.2.1.map dy),ah (da W p) i.2.2.2.1,cm 60 i.2.1.1 v.net.length i.2.1.2 v.net,Sl 70 1 i.2.2.1.1 i.2.2.2.2.length i.2.2.1.2 (i.2.2.2.2.map bx),ah eU i.2.2.2.2] h
section
variable {W w:World}{L:List SP}{n c k cP cN cE wb i:Nat}{ad adP adN adE:Option Addr}{p:Pr}{v:Wd}{D:nP}{x0 x1 x3:Value}{l net:List Ml}{xs:List (fT×Pl)}{es:List ka}
theorem bF.open (I:U W w (bF W D p v::L)):∃ (adP:Option Addr) (cP:Nat) (adN:Option Addr) (cN:Nat) (adE:Option Addr) (cE:Nat) (xs:List (fT×Pl)) (es:List ka),(xs.map (·.1)=D.mJ∧xs.map (·.2)=v.ps∧es.map (·.2.2)=v.ev) ∧
   U W w (aa D.wb 40 [pt D.mb,.slice adP xs.length cP,.slice adN v.net.length cN,.slice adE es.length cE] ::
    Sl 34 1 adP xs.length cP (xs.map dy)::ah (da W p) xs::cm 60 adN v.net.length cN v.net::Sl 70 1 adE es.length cE (es.map bx)::ah eU es::L):=by
 obtain⟨i,h1,I⟩:=I.jy (ι:=(Option Addr×Nat)×(Option Addr×Nat)×(Option Addr×Nat)×List (fT×Pl)×List ka) (p:=λi=>i.2.2.2.1.map (·.1)=D.mJ∧i.2.2.2.1.map (·.2)=v.ps∧i.2.2.2.2.map (·.2.2)=v.ev)
  (B:=λi h=>cn [aa D.wb 40 [pt D.mb,.slice i.1.1 i.2.2.2.1.length i.1.2,.slice i.2.1.1 v.net.length i.2.1.2,.slice i.2.2.1.1 i.2.2.2.2.length i.2.2.1.2],
  Sl 34 1 i.1.1 i.2.2.2.1.length i.1.2 (i.2.2.2.1.map dy),ah (da W p) i.2.2.2.1,cm 60 i.2.1.1 v.net.length i.2.1.2 v.net,Sl 70 1 i.2.2.1.1 i.2.2.2.2.length i.2.2.1.2 (i.2.2.2.2.map bx),ah eU i.2.2.2.2] h) λ_ h=>h
 obtain⟨⟨adP,cP⟩,⟨adN,cN⟩,⟨adE,cE⟩,xs,es⟩:=i;exact⟨adP,cP,adN,cN,adE,cE,xs,es,h1,I.open (M:=[_,_,_,_,_,_]) λ_ h=>h⟩
theorem bF.close (I:U W w (aa D.wb 40 [pt D.mb,.slice adP xs.length cP,.slice adN v.net.length cN,.slice adE es.length cE] ::
     Sl 34 1 adP xs.length cP (xs.map dy)::ah (da W p) xs::cm 60 adN v.net.length cN v.net::Sl 70 1 adE es.length cE (es.map bx)::ah eU es::L))
 (h1:xs.map (·.1)=D.mJ) (h2:xs.map (·.2)=v.ps) (h3:es.map (·.2.2)=v.ev):U W w (bF W D p v::L) :=
 U.shut (M:=[_,_,_,_,_,_]) I λ_ h=>⟨((adP,cP),(adN,cN),(adE,cE),xs,es),⟨h1,h2,h3⟩,h⟩
theorem NZ (I:U W w (cm 60 ad n c l::cm 60 adN k cN net::aa wb 40 [x0,x1,.slice adN k cN,x3]::L))(hn:n≤1000)(hk:net.length≤300) :
   Calls prog 72 #[pt wb,.slice ad n c] w λe w'=>e=.returned (.tuple #[])∧∃ N0 N1,U W w' (cm 60 N0 (ez net l).length N1 (ez net l)::aa wb 40 [x0,x1,.slice N0 (ez net l).length N1,x3]::L):=by
 obtain⟨xs,eC,bW,I⟩:=cm.open I;have ba:xs.length=n:=by rw[← bW,← eC,bd]
 subst ba;obtain⟨ys,nQ,iH,I⟩:=cm.open (I.pick (cm 60 adN k cN net));subst iH;refine EN func72 ntmps72 rfl rfl λa E=>?_;refine RN 2 E I λa E=>?_;refine aO (λμ a w=>∃ (i:Nat) (adN:Option Addr) (cN:Nat) (ys:List Mx) (N:List Ml),(μ=xs.length-i∧i≤xs.length∧N=ez net (l.take i)∧ys.map (·.2.2)=N)∧Fr a 30 [(0,pt wb),(1,.slice ad xs.length c),(4,.int .i64 i)]∧U W w (aa wb 40 [x0,x1,.slice adN N.length cN,x3]::Sl 60 3 adN N.length cN (rows b9 ys)::ah ca ys::Sl 60 3 ad xs.length c (rows b9 xs)::ah ca (xs.drop i)::L)) (xs.length) (⟨0,adN,cN,ys,net,⟨rfl,by omega,rfl,nQ⟩,E.ab [0,1,4],(show U W w (Sl 60 3 adN net.length cN (rows b9 ys)::ah ca ys::Sl 60 3 ad xs.length c (rows b9 xs)::ah ca (xs.drop 0)::_) from I).sub⟩) ?_;clear E I;rintro μ a w ⟨i,adN,cN,ys,N,⟨rfl,hi,hN,lE⟩,E,I⟩;refine IF 6 E I (λaj a E=>?_) λaj a E=>?_
 ·
  have aH:i<xs.length:=by omega
  have yQ:i<l.length:=by omega
  have hNl:N.length≤300:=by rw[hN];exact Gx hk
  have GX:=M7 net yQ;rw[← hN]at GX;obtain⟨x,hx⟩:∃ x,x=xs[i]:=⟨_,rfl⟩;have acr:x.2.2=l[i]:=by
   have h1:(xs.map (·.2.2))[i]?=l[i]?:=by rw[eC]
   rw[bm,aE aH,aE yQ,← hx]at h1;simpa using h1
  have e4:xs[i]?=some x:=by rw[hx];exact aE aH
  refine IF 8 E I (λao a E=>?_) λao a E=>?_
  ·
   refine RN 0 E I λa E=>?_;obtain⟨bi,oi,rfl,pz⟩:=(I.drew.pick (Sl 60 3 ad xs.length c (rows b9 xs))).bV ad (by omega);replace pz:=jo oJ pz (aE aH);rw[← hx]at pz;refine qU 0 (λw'=>Rd w' wb 0 [x0,x1,.slice adN N.length cN,x3]∧Rd w' bi (oi+i*3) (b9 x)) [8,9] [0,1,2,3,5,6,7,3004,1008,1009,1010,11,12,1013] E I λa E=>?_;replace I:=I.drew;generalize w.drew=w at I pz ⊢;have hC:Rd w wb 0 [x0,x1,.slice adN N.length cN,x3]∧Rd w bi (oi+i*3) (b9 x):=⟨I.ai (b:=wb),pz⟩;have hH:=Hd.any (λw'=>Rd w' wb 0 [x0,x1,.slice adN N.length cN,x3]∧Rd w' bi (oi+i*3) (b9 x));refine RH 7 E I hH hC λa E=>?_;refine QH E (λw hc=>ae E (hc.1 2 _ rfl)) hC λa E=>?_;refine RH 0 E I hH hC λa E=>?_;refine SS E (bS E underlying60 rfl Ty.t60 (hC.2)) λa E=>?_;refine RH 0 E I hH hC λa E=>?_;refine cr E rfl I underlying37 Ty.t60 rfl rfl rfl rfl (by decide) (by decide) λJr a w E I ho=>?_;clear ho;replace hC:=hH.at w ⟨I.ai (b:=wb),jo oJ (I.cJ bi oi (by omega)) e4⟩;refine RH 0 E I hH hC λa E=>?_;refine cK E rfl I underlying37 Ty.t60 rfl rfl I.ai rfl (by simp[Value.oneCell']) (by decide) (by decide) (by omega) λDD DE a w E I=>?_;rw[show rows b9 ys++_=rows b9 (ys++[x]) from by rw[kj];rfl]at I;refine ST 2 E I (λa w E I=>?_);refine RN 3 E I λa E=>?_;rw[kl aH,← hx]at I;have h1:U W w (ca x::ah ca (xs.drop (i+1))::_):=U.fu (l:=x::xs.drop (i+1)) (i:=0) (I.pick (ah ca (x::xs.drop (i+1)))) (by simp);have h3:=U.jM (f:=ca) (x:=x) ((h1.pick (ah ca ys)).pick (ca x));refine⟨xs.length-(i+1),by omega,i+1,DD,DE,ys++[x],N++[l[i]],⟨rfl,by omega,by rw[GX,oO,ak (by omega)],by rw[cW,lE,← acr];rfl⟩,E.ab [0,1,4],?_⟩;rw[aL,jl];exact h3.sub
  refine RN 3 E I λa E=>?_;rw[kl aH,← hx]at I;have h1:U W w (ca x::ah ca (xs.drop (i+1))::_):=U.fu (l:=x::xs.drop (i+1)) (i:=0) (I.pick (ah ca (x::xs.drop (i+1)))) (by simp);exact⟨xs.length-(i+1),by omega,i+1,adN,cN,ys,N,⟨rfl,by omega,by rw[GX,oO,ag (by omega)],lE⟩,E.ab [0,1,4],h1.sub⟩
 refine RT 0 E I ?_;obtain rfl:i=xs.length:=by omega
 rw[fX (by omega)]at hN;subst hN;exact⟨rfl,adN,cN,(cm.close (I.sub (M:=Sl 60 3 adN (ez net l).length cN (rows b9 ys)::ah ca ys::aa wb 40 [x0,x1,.slice adN (ez net l).length cN,x3]::L)) lE rfl)⟩
end
end
section
section
variable {W w:World}{L:List SP}{c k cP cN cE wb i:Nat}{adP adN adE:Option Addr}{p:Pr}{v:Wd}{D:nP}{net:List Ml}{xs:List (fT×Pl)}{es:List ka}{x:fT}{s wD s':Pl}{t:fH}{cf:Cf}
theorem BV {ps:List Pl}(h2:xs.map (·.2)=ps)(hi:i<xs.length):∃ x,xs[i]?=some (x,ps.getD i BA):=by
 refine⟨xs[i].1,?_⟩;rw[aE hi,bn,← h2,bm,aE hi];rfl
theorem BW (I:U W w (ah (da W p) xs::L))(hx:xs[i]?=some (x,s)):U W w (b0 W x p s::ah (da W p) (xs.eraseIdx i)::L):=by
 obtain⟨hi,h1⟩:=a2.1 hx;have h2:=I.fu hi;rw[h1]at h2;exact h2
theorem BZ (I:U W w (b0 W x p s::ah (da W p) (xs.eraseIdx i)::L))(hx:xs[i]?=some (x,s)):U W w (ah (da W p) xs::L):=by
 obtain⟨hi,h1⟩:=a2.1 hx;refine U.wM hi ?_;rw[h1];exact I
theorem B0 (hx:xs[i]?=some (x,s)):(xs.set i (x,s')).map dy=xs.map dy∧(xs.set i (x,s')).map (·.1)=xs.map (·.1):=by
 obtain⟨hi,h1⟩:=a2.1 hx;constructor
 ·rw[List.map_set,show dy (x,s')=(xs.map dy)[i]'(by rw[bd];exact hi) from by rw[getElem_map,h1],set_getElem_self]
 ·rw[List.map_set];show (xs.map (·.1)).set i x=_;rw[show x=(xs.map (·.1))[i]'(by rw[bd];exact hi) from by rw[getElem_map,h1],set_getElem_self]
theorem bF.put (h1:xs.map (·.1)=D.mJ)(h2:xs.map (·.2)=v.ps)(h3:es.map (·.2.2)=v.ev)(hx:xs[i]?=some (x,wD))(net:List Ml)
   (I:U W w (b0 W x p s'::ah (da W p) (xs.eraseIdx i)::aa D.wb 40 [pt D.mb,.slice adP xs.length cP,.slice adN net.length cN,.slice adE es.length cE] ::
    Sl 34 1 adP xs.length cP (xs.map dy)::cm 60 adN net.length cN net::Sl 70 1 adE es.length cE (es.map bx)::ah eU es::L)) :
   U W w (bF W D p { v with ps:=v.ps.set i s',net:=net }::L):=by
 obtain⟨hi,_⟩:=a2.1 hx;have h4:=U.kI (f:=da W p) (x:=(x,s')) hi I;refine bF.close (adP:=adP) (cP:=cP) (adN:=adN) (cN:=cN) (adE:=adE) (cE:=cE) (xs:=xs.set i (x,s')) (es:=es) ?_ ((B0 hx).2.trans h1) (by rw[List.map_set,h2]) h3;rw[bu,(B0 hx).1];exact h4.sub
theorem N2 (b:Int):IntKind.u8.wrap (IntKind.i64.wrap ((BitVec.ofInt IntKind.i64.bits b &&& BitVec.ofInt IntKind.i64.bits 255).toNat))=((fU b).toNat:Int):=by
 have h1:(BitVec.ofInt IntKind.i64.bits b &&& BitVec.ofInt IntKind.i64.bits 255).toNat=(b%256).toNat:=by
  have h2:(BitVec.ofInt 64 b &&& BitVec.ofInt 64 255).toNat=(BitVec.ofInt 64 b).toNat%256:=by
   rw[BitVec.toNat_and,show (BitVec.ofInt 64 255).toNat=2 ^ 8-1 from rfl,Nat.and_two_pow_sub_one_eq_mod]
  show (BitVec.ofInt 64 b &&& BitVec.ofInt 64 255).toNat=_;rw[h2,BitVec.toNat_ofInt];omega
 rw[h1,fH.u8,fU,fU];have h3:=Int.emod_nonneg b (show (256:Int)≠0 by decide);have h4:=Int.emod_lt_of_pos b (show (0:Int)<256 by decide);have h5:IntKind.i64.wrap ((b%256).toNat:Int)=b%256:=by rw[gi (by omega) (by omega)];omega
 rw[h5,Int.emod_emod_of_dvd _ (by decide)]
set_option maxHeartbeats 1000000 in
theorem acs (I:U W w (bF W D p v::L))(hv:bL p cf c v)(a6:dh p)(aG:p.title.size≤1000000000)(hc:c≤1000000)(hf:¬ (3≤t.fn∧t.fn≤6)) :
   Calls prog 50 #[pt D.wb,.agg (dS t).toArray] w λe w'=>e=.returned (.int .i64 (bw p t v).1)∧U W w' (bF W D p (bw p t v).2::L):=by
 replace I:=bF.open I;obtain⟨adP,cP,adN,cN,adE,cE,xs,es,⟨eH,df,ed⟩,I⟩:=I;have bW:xs.length=v.ps.length:=by rw[← df,bd]
 have cp:∀ w',U W w' (aa D.wb 40 [pt D.mb,.slice adP xs.length cP,.slice adN v.net.length cN,.slice adE es.length cE]::Sl 34 1 adP xs.length cP (xs.map dy)::ah (da W p) xs::cm 60 adN v.net.length cN v.net::Sl 70 1 adE es.length cE (es.map bx)::ah eU es::L)→U W w' (bF W D p v::L):=λw' h=>bF.close h eH df ed;refine EN func50 ntmps50 rfl rfl λa E=>?_;refine BX 1 E I λb3 a w E I=>?_;change U W w (aa b3 58 (dS t)::_) at I;refine BY 7 E I (λbX a E=>?_) λbX a E=>?_
 ·
  refine RT 7 E I ?_;rw[bw,ak (by omega)];exact⟨rfl,cp _ I.sub⟩
 refine IF 4 E I (λaj a E=>?_) λaj a E=>?_
 ·
  refine RT 2 E I ?_;rw[bw,ak (by omega)];exact⟨rfl,cp _ I.sub⟩
 refine RN 0 E I λa E=>?_;refine cc (M:=λa w=>(¬ (t.fn<1∨8<t.fn)∧Fr a 74 [(0,pt D.wb),(3,pt b3),(4,.int .i64 0)])∧U W w (aa b3 58 (dS t)::aa D.wb 40 [pt D.mb,.slice adP xs.length cP,.slice adN v.net.length cN,.slice adE es.length cE]::Sl 34 1 adP xs.length cP (xs.map dy)::ah (da W p) xs::cm 60 adN v.net.length cN v.net::Sl 70 1 adE es.length cE (es.map bx)::ah eU es::L)) ?_ ?_
 ·
  refine BY 5 E I (λbX a E=>?_) λbX a E=>?_
  ·
   refine RN 4 E I λa E=>?_;rw[bq (by omega)]at E;refine RN 1 E I λa E=>?_;exact⟨⟨by omega,E.ab [0,3,4]⟩,I.sub⟩
  refine RN 5 E I λa E=>?_;exact⟨⟨by omega,E.ab [0,3,4]⟩,I.sub⟩
 clear E;(try clear I);rintro a w ⟨⟨g6,E⟩,I⟩;refine cc (M:=λa w=>(∃ i:Nat,(t.a=i∧i<v.ps.length)∧Fr a 74 [(0,pt D.wb),(3,pt b3),(4,.int .i64 0)])∧U W w (aa b3 58 (dS t)::aa D.wb 40 [pt D.mb,.slice adP xs.length cP,.slice adN v.net.length cN,.slice adE es.length cE]::Sl 34 1 adP xs.length cP (xs.map dy)::ah (da W p) xs::cm 60 adN v.net.length cN v.net::Sl 70 1 adE es.length cE (es.map bx)::ah eU es::L)) ?_ ?_
 ·
  refine aV 1 (λw0 w'=>Rd w' b3 0 (dS t)∧Rd w' D.wb 0 [pt D.mb,.slice adP xs.length cP,.slice adN v.net.length cN,.slice adE es.length cE]) [9,10] [0,1001,2,3,4,6,7,8,3005,1009,1010,11,12] E I λa w E I hH=>?_;have hC:=hH.at w ⟨I.ai (b:=b3),I.ai (b:=D.wb)⟩;refine RH 1 E I hH hC λa E=>?_;refine SS E (ae E (hC.1 1 _ rfl)) λa E=>?_;refine RH 2 E I hH hC λa E=>?_;refine E.by (s:=28) (λbX E=>?_) (λbX E=>?_)
  ·
   refine RH 9 E I hH hC λa E=>?_;refine RT 3 E I ?_;have ho:t.a<0∨(v.ps.length:Int)≤t.a:=by omega
   have aS:bw p t v=(7,v):=by rw[bw,ag (by omega),ag hf,gv,ak ho]
   rw[aS];exact⟨rfl,cp _ I.sub⟩
  refine RH 4 E I hH hC λa E=>?_;refine QH E (λw hc=>ae E (hc.1 1 _ rfl)) hC λa E=>?_;refine RH 0 E I hH hC λa E=>?_;refine bo E (b7 E rfl (s:=28)) (ae E (hC.2 1 _ rfl)) rfl λa E=>?_;refine RH 3 E I hH hC λa E=>?_;refine IF 0 E I (λay a E=>?_) λay a E=>?_
  ·
   refine RT 2 E I ?_;have ho:t.a<0∨(v.ps.length:Int)≤t.a:=by omega
   have aS:bw p t v=(7,v):=by rw[bw,ag (by omega),ag hf,gv,ak ho]
   rw[aS];exact⟨rfl,cp _ I.sub⟩
  refine RN 0 E I λa E=>?_;exact⟨⟨t.a.toNat,⟨by omega,by omega⟩,E.ab [0,3,4]⟩,I.sub⟩
 clear E;(try clear I);rintro a w ⟨⟨i,⟨fW,hi⟩,E⟩,I⟩;refine RN 1 E I λa E=>?_;obtain⟨x,hx⟩:∃ x,xs[i]?=some (x,an v i):=BV df (by omega);have aS:bw p t v=gv p t v:=by rw[bw,ag g6,ag hf]
 obtain⟨hw,c9,wO⟩:=hv.pl i hi;have tn:(xs.map dy)[i]?=some (pt x.pb):=by rw[bm,hx];rfl
 obtain⟨bp,op,rfl,_⟩:=(I.pick (Sl 34 1 adP xs.length cP (xs.map dy))).bV adP (by omega);refine aV 0 (λw0 w'=>(Rd w' b3 0 (dS t)∧Rd w' D.wb 0 [pt D.mb,.slice (some ⟨bp,op,none⟩) xs.length cP,.slice adN v.net.length cN,.slice adE es.length cE])∧Rd w' bp op (xs.map dy)) [5] [0,1,2,4,3003,1005,6,1007,8] E I λa w E I hH=>?_;have hC:=hH.at w ⟨⟨I.ai (b:=b3),I.ai (b:=D.wb)⟩,I.cJ bp op (by omega)⟩;refine RH 4 E I hH hC λa E=>?_;refine QH E (λw hc=>ae E (hc.1.2 1 _ rfl)) hC λa E=>?_;refine RH 0 E I hH hC λa E=>?_;refine SS E (ae E (hC.1.1 1 _ rfl)) λa E=>?_;rw[fW]at E;refine RH 1 E I hH hC λa E=>?_;refine SS E (ae E (hC.2 i _ tn)) λa E=>?_;refine RH 1 E I hH hC λa E=>?_;refine RN 2 E I λa E=>?_;replace I:=BW (I.pick (ah (da W p) xs)) hx;refine IF 5 E I (λbk a E=>?_) λbk a E=>?_
 ·
  refine RN 5 E I λa E=>?_;refine SS E (gj E underlying3 underlying5) λa E=>?_;rw[N2]at E;refine CL 0 E I (aa3 (x:=fU t.b) (I.pick (b0 W x p (an v i))) hw a6 aG) λa w E I=>?_;refine RT 1 E I ?_;rw[aS,BI (by assumption) fW hi];exact⟨rfl,bF.put (adP:=some ⟨bp,op,none⟩) (cP:=cP) (adN:=adN) (cN:=cN) (adE:=adE) (cE:=cE) eH df ed hx v.net I.sub⟩
 refine IF 3 E I (λbO a E=>?_) λbO a E=>?_
 ·
  replace I:=b0.open (I.pick (b0 W x p (an v i)));refine aY 5 E I (aaT (I.pick (aZ x.core (an v i).k)) hw.wc (by omega)) λGY oz a w E I=>?_;refine CL 0 E I (NZ (((I.pick (aa D.wb 40 [pt D.mb,.slice (some ⟨bp,op,none⟩) xs.length cP,.slice adN v.net.length cN,.slice adE es.length cE])).pick (cm 60 adN v.net.length cN v.net)).pick (cm 60 GY (br (an v i).k).1.length oz (br (an v i).k).1)) (M5 hw.wc) hv.net.1) λa w E ⟨u2,u3,I⟩=>?_;refine RN 0 E I λa E=>?_;replace I:=b0.fold I x p ⟨(br (an v i).k).2,(an v i).g⟩;refine RT 2 E I ?_;rw[aS]
  first
   | (rw[wN (by assumption) fW hi];exact⟨rfl,bF.put (adP:=some ⟨bp,op,none⟩) (cP:=cP) (adN:=u2) (cN:=u3) (adE:=adE) (cE:=cE) eH df ed hx (ez v.net (br (an v i).k).1) I.sub⟩)
   | (rw[yR (by assumption) fW hi];exact⟨rfl,bF.put (adP:=some ⟨bp,op,none⟩) (cP:=cP) (adN:=u2) (cN:=u3) (adE:=adE) (cE:=cE) eH df ed hx (ez v.net (cy (an v i).k).1) I.sub⟩)
   | (rw[yS (by omega) fW hi];exact⟨rfl,cp _ (BZ ((I.pick (ah (da W p) (xs.eraseIdx i))).pick (b0 W x p (an v i))) hx).sub⟩)
 refine IF 3 E I (λeE a E=>?_) λeE a E=>?_
 ·
  replace I:=b0.open (I.pick (b0 W x p (an v i)));refine aY 5 E I (aaQ (I.pick (aZ x.core (an v i).k)) hw.wc) λGY oz a w E I=>?_;refine CL 0 E I (NZ (((I.pick (aa D.wb 40 [pt D.mb,.slice (some ⟨bp,op,none⟩) xs.length cP,.slice adN v.net.length cN,.slice adE es.length cE])).pick (cm 60 adN v.net.length cN v.net)).pick (cm 60 GY (cy (an v i).k).1.length oz (cy (an v i).k).1)) (M6 hw.wc) hv.net.1) λa w E ⟨u2,u3,I⟩=>?_;refine RN 0 E I λa E=>?_;replace I:=b0.fold I x p ⟨(cy (an v i).k).2,(an v i).g⟩;refine RT 2 E I ?_;rw[aS]
  first
   | (rw[wN (by assumption) fW hi];exact⟨rfl,bF.put (adP:=some ⟨bp,op,none⟩) (cP:=cP) (adN:=u2) (cN:=u3) (adE:=adE) (cE:=cE) eH df ed hx (ez v.net (br (an v i).k).1) I.sub⟩)
   | (rw[yR (by assumption) fW hi];exact⟨rfl,bF.put (adP:=some ⟨bp,op,none⟩) (cP:=cP) (adN:=u2) (cN:=u3) (adE:=adE) (cE:=cE) eH df ed hx (ez v.net (cy (an v i).k).1) I.sub⟩)
   | (rw[yS (by omega) fW hi];exact⟨rfl,cp _ (BZ ((I.pick (ah (da W p) (xs.eraseIdx i))).pick (b0 W x p (an v i))) hx).sub⟩)
 refine RT 2 E I ?_;rw[aS]
 first
  | (rw[wN (by assumption) fW hi];exact⟨rfl,bF.put (adP:=some ⟨bp,op,none⟩) (cP:=cP) (adN:=u2) (cN:=u3) (adE:=adE) (cE:=cE) eH df ed hx (ez v.net (br (an v i).k).1) I.sub⟩)
  | (rw[yR (by assumption) fW hi];exact⟨rfl,bF.put (adP:=some ⟨bp,op,none⟩) (cP:=cP) (adN:=u2) (cN:=u3) (adE:=adE) (cE:=cE) eH df ed hx (ez v.net (cy (an v i).k).1) I.sub⟩)
  | (rw[yS (by omega) fW hi];exact⟨rfl,cp _ (BZ ((I.pick (ah (da W p) (xs.eraseIdx i))).pick (b0 W x p (an v i))) hx).sub⟩)
end
end
section
section
variable {W w:World}{L L':List SP}{n c k cP cN cE wb i j:Nat}{adP adN adE:Option Addr}{p:Pr}{v:Wd}{D:nP}{net:List Ml}{xs:List (fT×Pl)}{es:List ka}{x:fT}{s:Pl}{t:fH}{cf:Cf}{m:Ml}
theorem acu (I:U W w (bF W D p v::L))(ho:t.n<0∨(v.net.length:Int)≤t.n) :
   Calls prog 70 #[pt D.wb,.agg (dS t).toArray] w λe w'=>e=.returned (.int .i64 3)∧U W w' (bF W D p v::L):=by
 replace I:=bF.open I;obtain⟨adP,cP,adN,cN,adE,cE,xs,es,⟨eH,df,ed⟩,I⟩:=I;have cp:∀ w',U W w' (aa D.wb 40 [pt D.mb,.slice adP xs.length cP,.slice adN v.net.length cN,.slice adE es.length cE]::Sl 34 1 adP xs.length cP (xs.map dy)::ah (da W p) xs::cm 60 adN v.net.length cN v.net::Sl 70 1 adE es.length cE (es.map bx)::ah eU es::L)→U W w' (bF W D p v::L):=λw' h=>bF.close h eH df ed;refine EN func70 ntmps70 rfl rfl λa E=>?_;refine BX 1 E I λb3 a w E I=>?_;change U W w (aa b3 58 (dS t)::_) at I;refine aV 3 (λw0 w'=>Rd w' b3 0 (dS t)∧Rd w' D.wb 0 [pt D.mb,.slice adP xs.length cP,.slice adN v.net.length cN,.slice adE es.length cE]) [9,10] [0,1001,2,3,4,6,7,8,3005,1009,1010,11,12] E I λa w E I hH=>?_;have hC:=hH.at w ⟨I.ai (b:=b3),I.ai (b:=D.wb)⟩;refine RH 1 E I hH hC λa E=>?_;refine SS E (ae E (hC.1 3 _ rfl)) λa E=>?_;refine RH 2 E I hH hC λa E=>?_;refine E.by (s:=10) (λbX E=>?_) (λbX E=>?_)
 ·
  refine RH 9 E I hH hC λa E=>?_;refine RT 3 E I ?_;exact⟨rfl,cp _ I.sub⟩
 refine RH 4 E I hH hC λa E=>?_;refine QH E (λw hc=>ae E (hc.1 3 _ rfl)) hC λa E=>?_;refine RH 0 E I hH hC λa E=>?_;refine bo E (b7 E rfl (s:=10)) (ae E (hC.2 2 _ rfl)) rfl λa E=>?_;refine RH 3 E I hH hC λa E=>?_;rw[dg (by omega)]at E;refine RT 3 E I ?_;exact⟨rfl,cp _ I.sub⟩
theorem bF.B1 {ys:List Mx}(h1:xs.map (·.1)=D.mJ)(h2:xs.map (·.2)=v.ps)(h3:es.map (·.2.2)=v.ev)(hy:ys.map (·.2.2)=net)
   (I:U W w (Sl 60 3 adN net.length cN (rows b9 ys)::ah ca ys::aa D.wb 40 [pt D.mb,.slice adP xs.length cP,.slice adN net.length cN,.slice adE es.length cE]::Sl 34 1 adP xs.length cP (xs.map dy)::ah (da W p) xs::Sl 70 1 adE es.length cE (es.map bx)::ah eU es::L)) :
   U W w (bF W D p { v with net:=net }::L):=by
 have h4:=cm.close I hy rfl;exact bF.close (v:={ v with net:=net }) (h4.sub (M:=aa D.wb 40 [pt D.mb,.slice adP xs.length cP,.slice adN net.length cN,.slice adE es.length cE]::Sl 34 1 adP xs.length cP (xs.map dy)::ah (da W p) xs::cm 60 adN net.length cN net::Sl 70 1 adE es.length cE (es.map bx)::ah eU es::L)) h1 h2 h3
theorem GZ {ys:List Mx}{y:Mx}(I:U W w (ah ca ys::L))(hy:ys[j]?=some y):aX w y.1 y.2.2.2.2.length y.2.2.2.2:=by
 obtain⟨h1,h2⟩:=a2.1 hy;have h3:=I.fu h1;rw[h2]at h3;exact U.cu (L:=ca y::_) h3 _ _ (k:=(fK.head:fK (Sl 5 1 y.1 y.2.2.2.2.length y.2.1 (bc y.2.2.2.2)::_) y.1 _ _ _ _ _ _)) rfl rfl
set_option maxHeartbeats 2000000 in
theorem acv (I:U W w (bF W D p v::L))(hv:bL p cf c v)(a6:dh p)(aG:p.title.size≤1000000000)(hf:t.fn=3∨t.fn=4∨t.fn=5∨t.fn=6)(gJ:t.n=j)(hm:v.net[j]?=some m) :
   Calls prog 70 #[pt D.wb,.agg (dS t).toArray] w λe w'=>e=.returned (.int .i64 (gI p t v).1)∧U W w' (bF W D p (gI p t v).2::L):=by
 have ei:=(a2.1 hm).1;have fV:=hv.Gy ei;rw[BK hm]at fV;obtain⟨hw,c9,wO⟩:=hv.pl m.2.1 fV.1;have mX:=hv.net.1;replace I:=bF.open I;obtain⟨adP,cP,adN,cN,adE,cE,xs,es,⟨eH,df,ed⟩,I⟩:=I;have bW:xs.length=v.ps.length:=by rw[← df,bd]
 obtain⟨ys,nQ,iH,I⟩:=cm.open (I.pick (cm 60 adN v.net.length cN v.net));have lE:ys.length=v.net.length:=by rw[← nQ,bd]
 obtain⟨y,hy,gA⟩:∃ y,ys[j]?=some y∧y.2.2=m:=by
  have h1:(ys.map (·.2.2))[j]?=some m:=by rw[nQ,hm]
  rw[bm,aE (by omega)]at h1;exact⟨_,aE (by omega),by simpa using h1⟩
 subst gA;obtain⟨bC,on,rfl,_⟩:=(I.pick (Sl 60 3 adN v.net.length cN (rows b9 ys))).bV adN (by omega);refine EN func70 ntmps70 rfl rfl λa E=>?_;refine BX 1 E I λb3 a w E I=>?_;change U W w (aa b3 58 (dS t)::_) at I;refine aV 3 (λw0 w'=>Rd w' b3 0 (dS t)∧Rd w' D.wb 0 [pt D.mb,.slice adP xs.length cP,.slice (some ⟨bC,on,none⟩) v.net.length cN,.slice adE es.length cE]) [9,10] [0,1001,2,3,4,6,7,8,3005,1009,1010,11,12] E I λa w E I hH=>?_;have hC:=hH.at w ⟨I.ai (b:=b3),I.ai (b:=D.wb)⟩;refine RH 1 E I hH hC λa E=>?_;refine SS E (ae E (hC.1 3 _ rfl)) λa E=>?_;refine RH 2 E I hH hC λa E=>?_;rw[bq (by omega)]at E;refine RH 4 E I hH hC λa E=>?_;refine QH E (λw hc=>ae E (hc.1 3 _ rfl)) hC λa E=>?_;refine RH 0 E I hH hC λa E=>?_;refine bo E (b7 E rfl (s:=10)) (ae E (hC.2 2 _ rfl)) rfl λa E=>?_;refine RH 3 E I hH hC λa E=>?_;rw[bq (by omega)]at E;refine aV 2 (λw0 w'=>(Rd w' b3 0 (dS t)∧Rd w' D.wb 0 [pt D.mb,.slice adP xs.length cP,.slice (some ⟨bC,on,none⟩) v.net.length cN,.slice adE es.length cE])∧Rd w' bC (on+j*3) (b9 y)) [5,8] [0,1,2,4,3003,3005,6,3007,1008,1009] E I λa w E I hH=>?_;have hC:=hH.at w ⟨⟨I.ai (b:=b3),I.ai (b:=D.wb)⟩,jo oJ (I.cJ bC on (by omega)) hy⟩;refine RH 4 E I hH hC λa E=>?_;refine QH E (λw hc=>ae E (hc.1.2 2 _ rfl)) hC λa E=>?_;refine QH E (λw hc=>ae E (hc.1.1 3 _ rfl)) hC λa E=>?_;rw[gJ]at E;refine RH 1 E I hH hC λa E=>?_;refine QH E (λw hc=>bS E underlying60 rfl Ty.t60 (hc.2)) hC λa E=>?_;refine RH 0 E I hH hC λa E=>?_;refine eV E rfl I Ty.t60 rfl λb5 a w E I ho=>?_;clear ho;replace hC:=hH.at w ⟨⟨I.ai (b:=b3),I.ai (b:=D.wb)⟩,jo oJ (I.cJ bC on (by omega)) hy⟩;refine RH 0 E I hH hC λa E=>?_;refine SA 0 E I λa w E I=>?_;refine RN 0 E I λa E=>?_;refine IF 5 E I (λao a E=>?_) λao a E=>?_
 ·
  refine BY 6 E I (λbX a E=>?_) λbX a E=>?_
  ·
   refine RT 10 E I ?_;have ho:t.a<0∨(y.2.2.2.2.length:Int)≤t.a:=by omega
   rw[uW (by assumption) gJ hm,ak ho];exact⟨rfl,bF.B1 (adP:=adP) (cP:=cP) (adN:=some ⟨bC,on,none⟩) (cN:=cN) (adE:=adE) (cE:=cE) (net:=v.net) (ys:=ys) eH df ed nQ I.sub⟩
  refine IF 7 E I (λay a E=>?_) λay a E=>?_
  ·
   refine RT 2 E I ?_;have ho:t.a<0∨(y.2.2.2.2.length:Int)≤t.a:=by omega
   rw[uW (by assumption) gJ hm,ak ho];exact⟨rfl,bF.B1 (adP:=adP) (cP:=cP) (adN:=some ⟨bC,on,none⟩) (cN:=cN) (adE:=adE) (cE:=cE) (net:=v.net) (ys:=ys) eH df ed nQ I.sub⟩
  refine RN 1 E I λa E=>?_;have ho:¬ (t.a<0∨(y.2.2.2.2.length:Int)≤t.a):=by omega
  obtain⟨A,hA⟩:∃ A:Nat,t.a=A:=⟨t.a.toNat,by omega⟩;have B2:A<y.2.2.2.2.length:=by omega
  have As:=GZ (I.pick (ah ca ys)) hy;replace I:=I.bN 5 1 none;refine RN 2 E I λa E=>?_;refine g2 E rfl I underlying22 Ty.t5 rfl rfl (by decide) (λh0=>As.get h0) (by rw[dt];omega) (eo _) (by omega) λnm k8 a w E I=>?_;rw[nil_append,Nat.zero_add]at I;rw[Nat.zero_add]at E;refine RN 2 E I λa E=>?_;have afq:=((I.pick (Sl 5 1 nm y.2.2.2.2.length k8 (bc y.2.2.2.2))).sl nm).2;obtain⟨bb,pre,post,⟨h3,h4,rfl,h6⟩,gB⟩:=(I.pick (Sl 5 1 nm y.2.2.2.2.length k8 (bc y.2.2.2.2))).lG (by omega);replace I:=gB;clear gB;have hb:(pre++bc y.2.2.2.2++post)[pre.length+A]?=some (.int .u8 (y.2.2.2.2[A].toNat:Int)):=by
   rw[ds,getElem?_append_right (by omega),show pre.length+A-pre.length=A from by omega,l4 (by rw[dt];exact B2)];simp[bc,B2]
  refine aV 0 (λw0 w'=>Rd w' b3 0 (dS t)∧w'.cell? ⟨bb,pre.length+A,none⟩=some (.int .u8 (y.2.2.2.2[A].toNat:Int))) [6,7,8] [0,1,5,3002,3,3004,1006,1007,1008,9,10,1011] E I λa w E I hH=>?_;have hC:=hH.at w ⟨I.ai (b:=b3),I.bz (b:=bb) hb⟩;refine RH 3 E I hH hC λa E=>?_;refine QH E (λw hc=>ae E (hc.1 1 _ rfl)) hC λa E=>?_;rw[hA]at E;refine RH 1 E I hH hC λa E=>?_;refine QH E (λw hc=>ae E (hc.2)) hC λa E=>?_;refine RH 0 E I hH hC λa E=>?_;refine SS E (ae E (hC.1 2 _ rfl)) λa E=>?_;refine RH 1 E I hH hC λa E=>?_;refine SS E (gj E underlying3 underlying5) λa E=>?_;rw[N2]at E;refine RH 2 E I hH hC λa E=>?_;refine ST 0 E I (λa w E I=>?_) (hlt:=(by simp only[aL,dt];omega));refine RN 0 E I λa E=>?_;rw[yN (by rw[dt];exact B2),Nk]at I;have N3:=U.iM (n:=y.2.2.2.2.length) (c:=k8) (sz:=1) (I.jJ bb) (by rw[dt,bu,Nat.mul_one]) h4 h6;replace I:=N3;clear N3;have pq:=((I.pick (Sl 60 3 (some ⟨bC,on,none⟩) v.net.length cN (rows b9 ys))).sl (some ⟨bC,on,none⟩)).2;obtain⟨iV,u4,N4,⟨l8,lH,oy,B3⟩,gB⟩:=(I.pick (Sl 60 3 (some ⟨bC,on,none⟩) v.net.length cN (rows b9 ys))).lG (by omega);replace I:=gB;clear gB;obtain⟨rfl,rfl⟩:bC=iV∧on=u4.length:=by simpa using oy
  refine aV 1 (λw0 w'=>Rd w' b3 0 (dS t)∧Rd w' D.wb 0 [pt D.mb,.slice adP xs.length cP,.slice (some ⟨bC,u4.length,none⟩) v.net.length cN,.slice adE es.length cE]) [5] [0,1,2,4,6,3003,1005,7,8,1009] E I λa w E I hH=>?_;have hC:=hH.at w ⟨I.ai (b:=b3),I.ai (b:=D.wb)⟩;refine RH 5 E I hH hC λa E=>?_;refine QH E (λw hc=>ae E (hc.2 2 _ rfl)) hC λa E=>?_;refine RH 0 E I hH hC λa E=>?_;refine SS E (ae E (hC.1 3 _ rfl)) λa E=>?_;rw[gJ]at E;refine RH 2 E I hH hC λa E=>?_;refine ST 0 E I (λa w E I=>?_) (hlt:=(by simp only[aL];omega));refine RT 2 E I ?_;rw[uW (by assumption) gJ hm,ag ho];refine⟨rfl,?_⟩;rw[hA,Int.toNat_natCast,bn,aE B2,Option.getD_some];obtain⟨qm,yZ⟩:=a2.1 hy;obtain⟨Y,vB⟩:∃ Y:Mx,Y=(some ⟨bb,pre.length,none⟩,k8,(y.2.2.1,y.2.2.2.1,y.2.2.2.2.set A (y.2.2.2.2[A] ^^^ fU t.b))):=⟨_,rfl⟩;have e1:(rows b9 ys).set (j*3+2) (.slice (some ⟨bb,pre.length,none⟩) y.2.2.2.2.length k8)=rows b9 (ys.set j Y):=p7 oJ ys (i:=j) (k:=2) Y qm (by decide) (by rw[yZ,vB];simp[b9,bu]);rw[Nat.add_assoc,yN (by rw[l8];omega),e1]at I;have h8:=U.iM (n:=v.net.length) (c:=cN) (sz:=3) (I.jJ bC) (by rw[ja oJ,bu,lE]) lH B3;have h9:=((h8.pick (ah ca ys)).fu qm).tail;have GF:Sl 5 1 (some ⟨bb,pre.length,none⟩) y.2.2.2.2.length k8 (bc (y.2.2.2.2.set A (y.2.2.2.2[A] ^^^ fU t.b)))=ca Y:=by rw[vB,ca];simp only[bu]
  have eI:=(h9.pick (ah ca (ys.eraseIdx j))).pick (Sl 5 1 (some ⟨bb,pre.length,none⟩) y.2.2.2.2.length k8 (bc (y.2.2.2.2.set A (y.2.2.2.2[A] ^^^ fU t.b))));rw[GF]at eI;have jV:=U.kI (f:=ca) qm eI;refine bF.B1 (adP:=adP) (cP:=cP) (adN:=some ⟨bC,u4.length,none⟩) (cN:=cN) (adE:=adE) (cE:=cE) (ys:=ys.set j Y) eH df ed (by rw[List.map_set,nQ,vB]) ?_;rw[bu];exact jV.sub
 refine RN 0 E I λa E=>?_;refine cc (M:=λa w=>∃ (cj:Option Addr) (cM:Nat) (zs:List Mx) (Z:SP),((zs.map (·.2.2)=(if t.fn=5 then v.net else v.net.eraseIdx j)∧(∀ w' L',U W w' (ah ca zs::Z::L')→aX w' y.1 y.2.2.2.2.length y.2.2.2.2)∧y.2.2.2.2.length≤y.2.1)∧Fr a 103 [(0,pt D.wb),(3,pt b3),(5,pt b5)])∧U W w (aa b5 60 (b9 y)::aa b3 58 (dS t)::Sl 60 3 cj zs.length cM (rows b9 zs)::ah ca zs::Z::aa D.wb 40 [pt D.mb,.slice adP xs.length cP,.slice cj zs.length cM,.slice adE es.length cE]::Sl 34 1 adP xs.length cP (xs.map dy)::ah (da W p) xs::Sl 70 1 adE es.length cE (es.map bx)::ah eU es::L)) ?_ ?_
 ·
  refine IF 4 E I (λbk a E=>?_) λbk a E=>?_
  ·
   refine RN 0 E I λa E=>?_;have pq:=((I.pick (Sl 60 3 (some ⟨bC,on,none⟩) v.net.length cN (rows b9 ys))).sl (some ⟨bC,on,none⟩)).2;refine aV 0 (λw0 w'=>Rd w' b3 0 (dS t)∧Rd w' D.wb 0 [pt D.mb,.slice adP xs.length cP,.slice (some ⟨bC,on,none⟩) v.net.length cN,.slice adE es.length cE]) [6,8,13,15,16,17] [0,1,2,3,5,7,10,11,12,14,3004,3006,3008,9,3013,1015,1016,1017,1018,19,20,1021] E I λa w E I hH=>?_;have hC:=hH.at w ⟨I.ai (b:=b3),I.ai (b:=D.wb)⟩;refine RH 10 E I hH hC λa E=>?_;refine QH E (λw hc=>ae E (hc.2 2 _ rfl)) hC λa E=>?_;refine QH E (λw hc=>ae E (hc.1 3 _ rfl)) hC λa E=>?_;rw[gJ]at E;refine RH 0 E I hH hC λa E=>?_;refine QH E (λw hc=>ae E (hc.1 3 _ rfl)) hC λa E=>?_;rw[gJ]at E;refine RH 1 E I hH hC λa E=>?_;refine QH E (λw hc=>ae E (hc.2 2 _ rfl)) hC λa E=>?_;refine RH 0 E I hH hC λa E=>?_;refine SS E (ae E (hC.1 3 _ rfl)) λa E=>?_;rw[gJ]at E;refine RH 2 E I hH hC λa E=>?_;have acw:fl (some ⟨bC,on,none⟩) 0 j 3=some ⟨bC,on,none⟩:=by
    by_cases h0:j=0
    ·subst h0;rfl
    ·rw[oZ h0,Nat.zero_mul,Nat.add_zero]
   have wI:rows b9 ys=rows b9 (ys.take j)++rows b9 (ys.drop j):=by rw[← kj,jK]
   have acx:rows b9 ys=rows b9 (ys.take (j+1))++rows b9 (ys.drop (j+1)):=by rw[← kj,jK]
   have c4:Rd w bC (on+(j+1)*3) (rows b9 (ys.drop (j+1))):=by
    have h1:Rd w bC on (rows b9 ys):=I.cJ bC on (by omega);have h2:=h1.part ((j+1)*3) ((ys.length-(j+1))*3);rw[acx,List.drop_left' (by rw[ja oJ,ep];omega),fX (by rw[ja oJ,c3];omega)]at h2;exact h2
   obtain⟨iV,u4,N4,⟨l8,lH,oy,B3⟩,gB⟩:=(I.pick (Sl 60 3 (some ⟨bC,on,none⟩) v.net.length cN (rows b9 ys))).lG (by omega);obtain⟨rfl,rfl⟩:bC=iV∧on=u4.length:=by simpa using oy
   rw[wI,← ds u4,ds _ _ N4]at gB;replace I:=U.iM (n:=j) (c:=j) (sz:=3) gB (by rw[ja oJ,ep];omega) (a7 _) (by omega);clear gB;rw[acw]at E;refine g2 E rfl I underlying37 Ty.t60 rfl rfl (by decide) (λh0=>⟨bC,u4.length+(j+1)*3,oZ (by omega),c4⟩) (by rw[ja oJ,c3];omega) (zk YT _) (by omega) λacy c86 a w E I=>?_;rw[← kj,← eraseIdx_eq_take_drop_succ]at I;have rO:j+(v.net.length-(j+1))=(ys.eraseIdx j).length:=by rw[List.length_eraseIdx_of_lt (by omega)];omega
   rw[rO]at I E;refine ST 2 E I (λa w E I=>?_);refine RN 0 E I λa E=>?_;obtain⟨qm,yZ⟩:=a2.1 hy;have h1:=(I.pick (ah ca ys)).fu qm;rw[yZ]at h1;have oK:y.2.2.2.2.length≤y.2.1:=(U.sl (L:=ca y::_) (k:=(fK.head:fK (Sl 5 1 y.1 y.2.2.2.2.length y.2.1 (bc y.2.2.2.2)::_) y.1 _ _ _ _ _ _)) h1 y.1).2;refine⟨acy,c86,ys.eraseIdx j,ca y,⟨⟨?_,λw' L' h=>?_,oK⟩,E.ab [0,3,5]⟩,h1.sub⟩
   ·rw[ag (by omega),← nQ];simp only[eraseIdx_eq_take_drop_succ,cW,map_take,map_drop]
   ·have h2:=h.pick (ca y);exact U.cu (L:=ca y::_) h2 _ _ (k:=(fK.head:fK (Sl 5 1 y.1 y.2.2.2.2.length y.2.1 (bc y.2.2.2.2)::_) y.1 _ _ _ _ _ _)) rfl rfl
  refine RN 0 E I λa E=>?_;obtain⟨qm,yZ⟩:=a2.1 hy;have oK:y.2.2.2.2.length≤y.2.1:=by
   have h1:=(I.pick (ah ca ys)).fu qm;rw[yZ]at h1;exact (U.sl (L:=ca y::_) (k:=(fK.head:fK (Sl 5 1 y.1 y.2.2.2.2.length y.2.1 (bc y.2.2.2.2)::_) y.1 _ _ _ _ _ _)) h1 y.1).2
  refine⟨some ⟨bC,on,none⟩,cN,ys,Sl 5 1 none 0 0 [],⟨⟨by rw[ak (by omega)];exact nQ,λw' L' h=>GZ h hy,oK⟩,E.ab [0,3,5]⟩,?_⟩;rw[lE];exact (I.bN 5 1 none).sub
 clear E;(try clear I);rintro a w ⟨cj,cM,zs,Z,⟨⟨qE,acz,oK⟩,E⟩,I⟩;refine IF 5 E I (λbO a E=>?_) λbO a E=>?_
 ·
  refine RT 2 E I ?_;have iY:zs.length=(v.net.eraseIdx j).length:=by rw[← bd (f:=(·.2.2)),qE,ag (by omega)]
  rw[GM (by assumption) gJ hm];rw[ag (by omega)]at qE;refine⟨rfl,?_⟩;refine bF.B1 (adP:=adP) (cP:=cP) (adN:=cj) (cN:=cM) (adE:=adE) (cE:=cE) (ys:=zs) eH df ed qE ?_;rw[← iY];exact I.sub
 refine RN 1 E I λa E=>?_;obtain⟨x,hx⟩:∃ x,xs[y.2.2.2.1]?=some (x,an v y.2.2.2.1):=BV df (by omega);have tn:(xs.map dy)[y.2.2.2.1]?=some (pt x.pb):=by rw[bm,hx];rfl
 obtain⟨bp,op,rfl,_⟩:=(I.pick (Sl 34 1 adP xs.length cP (xs.map dy))).bV adP (by omega);refine aV 0 (λw0 w'=>(Rd w' b5 0 (b9 y)∧Rd w' D.wb 0 [pt D.mb,.slice (some ⟨bp,op,none⟩) xs.length cP,.slice cj zs.length cM,.slice adE es.length cE])∧Rd w' bp op (xs.map dy)) [5,9] [0,1,2,4,8,3003,3005,6,3007,1009,1010,11] E I λa w E I hH=>?_;have hC:=hH.at w ⟨⟨I.ai (b:=b5),I.ai (b:=D.wb)⟩,I.cJ bp op (by omega)⟩;refine RH 5 E I hH hC λa E=>?_;refine QH E (λw hc=>ae E (hc.1.2 1 _ rfl)) hC λa E=>?_;refine QH E (λw hc=>ae E (hc.1.1 1 _ rfl)) hC λa E=>?_;refine RH 1 E I hH hC λa E=>?_;refine QH E (λw hc=>ae E (hc.2 _ _ tn)) hC λa E=>?_;refine RH 0 E I hH hC λa E=>?_;refine SS E (ae E (hC.1.1 2 _ rfl)) λa E=>?_;replace I:=BW (I.pick (ah (da W p) xs)) hx;refine RH 0 E I hH hC λa E=>?_;refine CL 0 E I (aa4 (bs:=y.2.2.2.2) (I.pick (b0 W x p (an v y.2.2.2.1))) hw a6 aG (by omega) oK (λw' dc=>acz w' _ ((dc.pick Z).pick (ah ca zs)))) λa w E I=>?_;refine RN 1 E I λa E=>?_;refine RT 0 E I ?_;rw[BL (by omega) (by omega) gJ hm];refine⟨rfl,?_⟩;have iY:zs.length=(if t.fn=5 then v.net else v.net.eraseIdx j).length:=by rw[← bd (f:=(·.2.2)),qE]
 have h1:=cm.close ((I.pick (ah ca zs)).pick (Sl 60 3 cj zs.length cM (rows b9 zs))) qE iY.symm;refine bF.put (adP:=some ⟨bp,op,none⟩) (cP:=cP) (adN:=cj) (cN:=cM) (adE:=adE) (cE:=cE) eH df ed hx (if t.fn=5 then v.net else v.net.eraseIdx j) ?_;rw[← iY];exact h1.sub
end
end
section
section
variable {W w:World}{L:List SP}{c:Nat}{p:Pr}{v:Wd}{D:nP}{t:fH}{cf:Cf}
theorem acA (I:U W w (bF W D p v::L))(hv:bL p cf c v)(a6:dh p)(aG:p.title.size≤1000000000)(hf:t.fn=3∨t.fn=4∨t.fn=5∨t.fn=6) :
   Calls prog 70 #[pt D.wb,.agg (dS t).toArray] w λe w'=>e=.returned (.int .i64 (gI p t v).1)∧U W w' (bF W D p (gI p t v).2::L):=by
 by_cases h0:t.n<0∨(v.net.length:Int)≤t.n
 ·rw[NG h0];exact acu I h0
 ·exact acv (j:=t.n.toNat) I hv a6 aG hf (by omega) (aE (by omega))
theorem acB (I:U W w (bF W D p v::L))(hv:bL p cf c v)(a6:dh p)(aG:p.title.size≤1000000000)(hf:3≤t.fn∧t.fn≤6) :
   Calls prog 50 #[pt D.wb,.agg (dS t).toArray] w λe w'=>e=.returned (.int .i64 (bw p t v).1)∧U W w' (bF W D p (bw p t v).2::L):=by
 have aS:bw p t v=gI p t v:=by rw[bw,ag (by omega),ak hf]
 rw[aS];refine EN func50 ntmps50 rfl rfl λa E=>?_;refine BX 1 E I λb3 a w E I=>?_;change U W w (aa b3 58 (dS t)::_) at I;refine RN 7 E I λa E=>?_;rw[bq (by omega)]at E;refine RN 4 E I λa E=>?_;rw[bq (by omega)]at E;refine RN 7 E I λa E=>?_;rw[dg (by omega)]at E;refine RN 4 E I λa E=>?_;rw[dg (by omega)]at E;refine CL 4 E I (acA (I.pick (bF W D p v)) hv a6 aG (by omega)) λa w E I=>?_;refine RT 1 E I ?_;exact⟨rfl,I.sub⟩
theorem acC (I:U W w (bF W D p v::L))(hv:bL p cf c v)(a6:dh p)(aG:p.title.size≤1000000000)(hc:c≤1000000) :
   Calls prog 50 #[pt D.wb,.agg (dS t).toArray] w λe w'=>e=.returned (.int .i64 (bw p t v).1)∧U W w' (bF W D p (bw p t v).2::L):=by
 by_cases hf:3≤t.fn∧t.fn≤6
 ·exact acB I hv a6 aG hf
 ·exact acs I hv a6 aG hc hf
end
end
section
section
variable {W w:World}{L:List SP}{c i:Nat}{p:Pr}{v:Wd}{B:ju}
theorem acD (I:U W w (aN W B p c v::L))(hi:i<v.ps.length)(rO:v.ev.length=v.ps.length)(hl:(v.ev.getD i []).length≤1000000000) :
   Calls prog 34 #[pt B.mb,.int .i64 i] w λe w'=>∃ ad c',e=.returned (.slice ad (v.ev.getD i []).length c')∧U W w' (Sl 135 1 ad (v.ev.getD i []).length c' ((v.ev.getD i []).map cA)::aN W B p c v::L):=by
 replace I:=aN.wP I;obtain⟨adL,cL,adE,cE,xs,es,⟨h1,h2,h3⟩,I⟩:=I;have bW:xs.length=v.ps.length:=by rw[← h2,bd]
 have acE:es.length=v.ps.length:=by rw[← rO,← h3,bd]
 obtain⟨iy,iz,l,k9⟩:∃ iy iz l,es[i]?=some (iy,iz,l):=⟨_,_,_,aE (by omega)⟩;obtain⟨wT,oS⟩:=a2.1 k9;have qv:v.ev.getD i []=l:=by rw[← h3,bn,bm,k9];rfl
 rw[qv]at hl ⊢;refine EN func34 ntmps34 rfl rfl λa E=>?_;refine CL 6 E I (rN ((I.pick (Sl 81 1 adL xs.length cL (xs.map cF))).pick (aa B.mb 107 [.slice adL xs.length cL,pt B.q,.slice adE es.length cE])) (by omega)) λa w E I=>?_;refine RN 1 E I λa E=>?_;replace E:=E.aM 8;refine RN 2 E I λa E=>?_;obtain⟨iK,oE,rfl,gl⟩:=(I.pick (Sl 90 1 adE es.length cE (es.map bx))).bV adE (by omega);have lO:=gl i (.slice iy l.length iz) (by rw[bm,k9];rfl);refine RN 6 E I λa E=>?_;refine SS E (ae E (lO)) λa E=>?_;replace I:=(I.pick (ah eA es)).fu wT;rw[oS]at I;change U W w (Sl 135 1 iy l.length iz (l.map cA)::_) at I;refine aY 0 E I (NA I hl) λad2 c2 a w E I=>?_;refine RT 1 E I ?_;refine⟨ad2,c2,rfl,?_⟩;have h4:=(I.pick (ah eA (es.eraseIdx i))).pick (Sl 135 1 iy l.length iz (l.map cA));have h5:U W w (ah eA es::_):=U.wM (f:=eA) wT (by rw[oS];exact h4);have h6:U W w (aN W B p c v::Sl 135 1 ad2 l.length c2 (l.map cA)::L):=aN.uX (adL:=adL) (cL:=cL) (adE:=some ⟨iK,oE,none⟩) (cE:=cE) (xs:=xs) (es:=es) h5.sub h1 h2 h3;exact h6.sub
end
end
section
def pV (v:Wd):Prop:=∀ i,i<v.ps.length→(an v i).k.ev=[]
theorem acF {v:Wd}{i:Nat}(hi:i<v.ps.length)(hl:v.ev.length=v.ps.length)(h:(an v i).k.ev=[]):BB i v=v:=by
 have h1:(⟨{ (an v i).k with ev:=[] },(an v i).g⟩:Pl)=v.ps[i]:=by
  rw[show ({ (an v i).k with ev:=[] }:Ks)=(an v i).k from by rw[← h]];show an v i=_;rw[an,bn,aE hi];rfl
 have h2:v.ev.getD i []++(an v i).k.ev=v.ev[i]'(by omega):=by
  rw[h,append_nil,bn,aE (by omega)];rfl
 rw[BB,h1,h2,set_getElem_self,set_getElem_self]
theorem N5 {v:Wd}(hl:v.ev.length=v.ps.length)(h:pV v):∀ i,i≤v.ps.length→cz v i=v
 | 0,_=>rfl
 | i+1,hi=>by
  show BB i (cz v i)=v;rw[N5 hl h i (by omega)];exact acF (by omega) hl (h i (by omega))
theorem N6 {v:Wd}(hl:v.ev.length=v.ps.length)(h:pV v):lD v=v:=N5 hl h _ (a7 _)
theorem N7 (v:Wd):pV (lD v):=λi hi=>by
 have h1:i<v.ps.length:=by rw[lD,(qH v _).1]at hi;exact hi
 rw[lD,yM v (a7 _),ak h1]
theorem acG {p:Pr}{t:fH}{v:Wd}(h:t.fn=7):(bw p t v).2=v:=by
 rw[bw,ag (by omega),ag (by omega),gv];split
 ·rfl
 ·rw[ag (by omega),ag (by omega),ag (by omega)]
theorem acH {p:Pr}{t:fH}{v:Wd}(h:pV v):pV (bY p t v):=by
 unfold bY;split
 ·exact h
 ·exact N7 _
section
variable {W w:World}{L:List SP}{c i:Nat}{p:Pr}{v:Wd}{B:ju}{D:nP}{t:fH}{cf:Cf}
theorem N8 {mb:Nat}(hmb:mb=B.mb)(I:U W w (aN W B p c v::L))(hB:B.Ok p (c+10))(hv:bL p cf c v)(jY:9*c+100≤1000000000) :
   Calls prog 29 #[pt mb,.agg (dS t).toArray] w λe w'=>∃ z:Int,e=.returned (.int .i64 z)∧(t.fn≠7→z=(bw p t v).1)∧(t.fn=7→BN B t v z)∧U W w' (aN W B p (c+10) (lD (bw p t v).2)::L):=by
 subst hmb;exact NI I hB hv jY
set_option maxHeartbeats 2000000 in
theorem acI (I:U W w (aN W B p c v::bF W D p v::L))(wU:D.mb=B.mb)(hB:B.Ok p (c+10))(hv:bL p cf c v)(B4:pV v)(jY:9*c+100≤1000000000)
   (N9:∀ (w:World) (u:Wd),bL p cf (c+10) u→pV u→U W w (aN W B p (c+10) u::bF W D p u::L)→Calls prog 33 #[pt D.wb] w λe w'=>e=.returned (.bool true)∧U W w' (aN W B p (c+10) u::bF W D p u::L)) :
   Calls prog 32 #[pt D.wb,.agg (dS t).toArray] w λe w'=>e=.returned (.bool true)∧U W w' (aN W B p (c+10) (bY p t v)::bF W D p (bY p t v)::L):=by
 have ky:=hB.c;have hu:=hv.step (s:=t);refine EN func32 ntmps32 rfl rfl λa E=>?_;refine BX 1 E I λb3 a w E I=>?_;change U W w (aa b3 58 (dS t)::_) at I;refine IF 6 E I (λaj a E=>?_) λaj a E=>?_
 ·
  refine RN 1 E I λa E=>?_;replace I:=bF.open (I.pick (bF W D p v));obtain⟨adP,cP,adN,cN,adE,cE,xs,es,⟨eH,df,ed⟩,I⟩:=I;refine bQ 0 [4] [0,1,2,3003,1004,1005] E I λa w E I hH hC=>?_;refine RH 5 E I hH hC λa E=>?_;refine bh 0 E I (N8 wU (I.pick (aN W B p c v)) hB hv jY) λz a w E ⟨_,_,I⟩=>?_;refine RN 1 E I λa E=>?_;rw[acG (by assumption),N6 hv.ev B4]at I;replace I:=bF.close (v:=v) (D:=D) (I.sub (M:=aa D.wb 40 [pt D.mb,.slice adP xs.length cP,.slice adN v.net.length cN,.slice adE es.length cE]::Sl 34 1 adP xs.length cP (xs.map dy)::ah (da W p) xs::cm 60 adN v.net.length cN v.net::Sl 70 1 adE es.length cE (es.map bx)::ah eU es::aN W B p (c+10) v::L)) eH df ed;refine CL 1 E I (N9 _ v (hv.more (by omega)) B4 (I.pick (aN W B p (c+10) v))) λa w E I=>?_;refine RT 1 E I ?_;rw[bY,ak (by assumption)];exact⟨rfl,I⟩
 refine CL 3 E I (acC (I.pick (bF W D p v)) hv hB.pr hB.sz (by omega)) λa w E I=>?_;refine RN 3 E I λa E=>?_;generalize Oa:(bw p t v).2=u at I hu;replace I:=bF.open (I.pick (bF W D p u));obtain⟨adP,cP,adN,cN,adE,cE,yU,yV,⟨eH,df,ed⟩,I⟩:=I;have bW:yU.length=u.ps.length:=by rw[← df,bd]
 have rO:yV.length=u.ps.length:=by rw[← hu.ev,← ed,bd]
 have wG:=hu.len;refine bQ 0 [4] [0,1,2,6,3003,1004,1005,7] E I λa w E I hH hC=>?_;refine RH 6 E I hH hC λa E=>?_;refine bh 0 E I (N8 wU (I.pick (aN W B p c v)) hB hv jY) λz a w E ⟨cU,_,I⟩=>?_;rw[cU (by assumption)]at E;rw[Oa]at I;refine RN 1 E I λa E=>?_;rw[bq (by simp)]at E;refine RN 4 E I λa E=>?_;refine aO (λμ a w=>∃ (i:Nat) (xs:List (fT×Pl)) (es:List ka),(μ=u.ps.length-i∧(i≤u.ps.length∧xs.length=u.ps.length∧es.length=u.ps.length)∧xs.map (·.1)=D.mJ∧xs.map (·.2)=(cz u i).ps∧es.map (·.2.2)=(cz u i).ev)∧Fr a 65 [(0,pt D.wb),(6,.int .i64 i)]∧U W w (aa D.wb 40 [pt D.mb,.slice adP u.ps.length cP,.slice adN u.net.length cN,.slice adE u.ps.length cE]::Sl 34 1 adP u.ps.length cP (xs.map dy)::ah (da W p) xs::cm 60 adN u.net.length cN u.net::Sl 70 1 adE u.ps.length cE (es.map bx)::ah eU es::aN W B p (c+10) (lD u)::L)) (u.ps.length) (⟨0,yU,yV,⟨rfl,⟨by omega,bW,rO⟩,eH,df,ed⟩,E.ab [0,6],(by rw[bW,rO]at I;exact I.sub)⟩) ?_;clear E I;rintro μ a w ⟨i,xs,es,⟨rfl,⟨hi,yW,yX⟩,uk,sV,qt⟩,E,I⟩;refine IF 9 E I (λay a E=>?_) λay a E=>?_
 ·
  have aH:i<u.ps.length:=by omega
  obtain⟨x,hx⟩:∃ x,xs[i]?=some (x,(an (cz u i) i)):=BV sV (by omega);have tn:(xs.map dy)[i]?=some (pt x.pb):=by rw[bm,hx];rfl
  have hd:=hu.cz (i:=i) (by omega);obtain⟨hw,c9,wO⟩:=hd.pl i (by rw[(qH u i).1];exact aH);have GO:=hd.kD;have NJ:=hw.wc.kD;obtain⟨iy,iz,l,k9⟩:∃ iy iz l,es[i]?=some (iy,iz,l):=⟨_,_,_,aE (by omega)⟩;obtain⟨_,oS⟩:=a2.1 k9;have gF:l.length≤9*(c+2):=(GO l (by rw[← qt];exact cV.2 ⟨(iy,iz,l),by rw[← oS];exact getElem_mem _,rfl⟩)).1;refine RN 1 E I λa E=>?_;obtain⟨bp,op,rfl,_⟩:=(I.pick (Sl 34 1 adP u.ps.length cP (xs.map dy))).bV adP (by omega);obtain⟨iK,oE,rfl,_⟩:=(I.pick (Sl 70 1 adE u.ps.length cE (es.map bx))).bV adE (by omega);replace I:=b0.open (BW (I.pick (ah (da W p) xs)) hx);refine aV 0 (λw0 w'=>(Rd w' D.wb 0 [pt D.mb,.slice (some ⟨bp,op,none⟩) u.ps.length cP,.slice adN u.net.length cN,.slice (some ⟨iK,oE,none⟩) u.ps.length cE]∧Rd w' iK oE (es.map bx))∧Rd w' bp op (xs.map dy)∧Rd w' x.pb 0 (eT p x (an (cz u i) i).g)) [8,10,11,15,17,18,19,20,21,22,23] [0,1,2,4,5,6,7,9,12,13,14,16,3003,3008,3010,3011,1015,1017,1018,1019,1020,1021,1022,1023,24,1025] E I λa w E I hH=>?_;have hC:=hH.at w ⟨⟨I.ai (b:=D.wb),I.cJ iK oE (by omega)⟩,I.cJ bp op (by omega),I.ai (b:=x.pb)⟩;refine RH 12 E I hH hC λa E=>?_;refine QH E (λw hc=>ae E (hc.1.1 3 _ rfl)) hC λa E=>?_;refine QH E (λw hc=>ae E (hc.1.1 3 _ rfl)) hC λa E=>?_;refine RH 1 E I hH hC λa E=>?_;refine QH E (λw hc=>ae E (hc.1.2 i (.slice iy l.length iz) (by rw[bm,k9];rfl))) hC λa E=>?_;refine RH 0 E I hH hC λa E=>?_;refine SS E (ae E (hC.1.1 1 _ rfl)) λa E=>?_;refine RH 1 E I hH hC λa E=>?_;refine SS E (ae E (hC.2.1 i _ tn)) λa E=>?_;refine RH 2 E I hH hC λa E=>?_;refine SS E (ae E (hC.2.2 0 _ rfl)) λa E=>?_;refine RH 0 E I hH hC λa E=>?_;refine aY 0 E I (aaF (I.pick (aZ x.core (an (cz u i) i).k))) λam jv a w E I=>?_;replace hC:=hH.at w ⟨⟨I.ai (b:=D.wb),I.cJ iK oE (by omega)⟩,I.cJ bp op (by omega),I.ai (b:=x.pb)⟩;replace I:=(I.pick (ah eU es)).fu (i:=i) (by omega);rw[oS]at I;change U W w (Sl 102 3 iy l.length iz (rows bU l)::_) at I;refine RH 0 E I hH hC λa E=>?_;refine g2 E rfl I underlying70 Ty.t102 rfl rfl (by decide) (λh0=>(I.pick (Sl 102 3 am (an (cz u i) i).k.ev.length jv (rows bU (an (cz u i) i).k.ev))).bV am h0) (by rw[ja AT]) (zk Fc _) (by omega) λwV wW a w E I=>?_;replace hC:=hH.at w ⟨⟨I.ai (b:=D.wb),I.cJ iK oE (by omega)⟩,I.cJ bp op (by omega),I.ai (b:=x.pb)⟩;have hcE:=((I.pick (Sl 70 1 (some ⟨iK,oE,none⟩) u.ps.length cE (es.map bx))).sl (some ⟨iK,oE,none⟩)).2;obtain⟨iV,pre,post,⟨h3,h4,h5,h6⟩,gB⟩:=(I.pick (Sl 70 1 (some ⟨iK,oE,none⟩) u.ps.length cE (es.map bx))).lG (by omega);replace I:=gB;clear gB;obtain⟨rfl,rfl⟩:iK=iV∧oE=pre.length:=by simpa using h5
  refine RH 1 E I hH hC λa E=>?_;refine ST 0 E I (λa w E I=>?_) (hlt:=(by simp only[aL,bd];omega));refine RN 3 E I λa E=>?_;have qv:(cz u i).ev.getD i []=l:=by rw[← qt,bn,bm,k9];rfl
  have GP:(es.map bx).set i (.slice wV (l.length+(an (cz u i) i).k.ev.length) wW)=(es.set i (wV,wW,l++(an (cz u i) i).k.ev)).map bx:=by
   rw[List.map_set,bx,aL]
  have du:=I;rw[yN (by rw[bd];omega),GP]at du;replace du:=U.iM (n:=u.ps.length) (c:=cE) (sz:=1) (du.jJ iK) (by rw[bd,bu];omega) h4 h6;have yO:=b0.fold du x p ⟨{ (an (cz u i) i).k with ev:=[] },(an (cz u i) i).g⟩;have hk:=U.kI (f:=da W p) (x:=(x,⟨{ (an (cz u i) i).k with ev:=[] },(an (cz u i) i).g⟩)) (i:=i) (by omega) ((yO.pick (ah (da W p) (xs.eraseIdx i))).pick (b0 W x p ⟨{ (an (cz u i) i).k with ev:=[] },(an (cz u i) i).g⟩));have pL:Sl 102 3 wV (l.length+(an (cz u i) i).k.ev.length) wW (rows bU l++rows bU (an (cz u i) i).k.ev)=eU (wV,wW,l++(an (cz u i) i).k.ev):=by
   rw[eU,aL,kj]
  have hq:=(hk.pick (ah eU (es.eraseIdx i))).pick (Sl 102 3 wV (l.length+(an (cz u i) i).k.ev.length) wW (rows bU l++rows bU (an (cz u i) i).k.ev));rw[pL]at hq;have eN:=U.kI (f:=eU) (i:=i) (by omega) hq;refine⟨u.ps.length-(i+1),by omega,i+1,xs.set i (x,⟨{ (an (cz u i) i).k with ev:=[] },(an (cz u i) i).g⟩),es.set i (wV,wW,l++(an (cz u i) i).k.ev),⟨rfl,⟨by omega,by rw[bu];exact yW,by rw[bu];exact yX⟩,(B0 hx).2.trans uk,?_,?_⟩,E.ab [0,6],?_⟩
  ·rw[List.map_set,sV];rfl
  ·rw[List.map_set,qt,← qv];rfl
  ·rw[(B0 hx).1];exact eN.sub
 refine RN 1 E I λa E=>?_;obtain rfl:i=u.ps.length:=by omega
 have eF:bY p t v=lD u:=by rw[bY,ag (by assumption),Oa]
 rw[eF];have hD:U W w (bF W D p (lD u)::aN W B p (c+10) (lD u)::L):=by
  refine bF.close (adP:=adP) (cP:=cP) (adN:=adN) (cN:=cN) (adE:=adE) (cE:=cE) (xs:=xs) (es:=es) ?_ uk sV qt;rw[yW,yX,show (lD u).net=u.net from (qH u _).2.1];exact I.sub
 replace I:=hD.pick (aN W B p (c+10) (lD u));refine CL 1 E I (N9 _ (lD u) (hu.drain.more (by omega)) (N7 u) I) λa w E I=>?_;refine RT 1 E I ?_;exact⟨rfl,I⟩
end
end
section
section
variable {p:Pr}{cf:Cf}{K:Int→Prop}{G G':List (List UInt8)}{v:Wd}{c i j x y:Nat}{n:Nat}{T:Nat→Nat}{net:List Ml}{ev:List (List j6)}{m:Ml}{q:Pk}{b:UInt8}
theorem u5 (hi:i<n):an (fh p cf n) i=ey p (dx cf i):=by
 rw[an,fh,bn,bm,getElem?_range hi];rfl
theorem rT:(fh p cf n).ps.length=n:=by rw[fh,bd,length_range]
theorem tp (h:eR cf)(hi:i<cf.n.toNat):eR (dx cf i):=by
 obtain⟨⟨h1,h2,h3⟩,h4⟩:=h;refine⟨⟨h1,?_,h3⟩,h4⟩;show fx (i:Int) 0 (cf.n-1);unfold fx at h1 ⊢;omega
theorem G0 (h:eR cf):bL p cf 0 (fh p cf cf.n.toNat):=by
 refine⟨h,rT,?_,λi hi=>?_,⟨Nat.zero_le _,λm hm=>by cases hm⟩,λe he=>?_⟩
 ·rw[rT];exact ko
 ·rw[rT]at hi;rw[u5 hi];have h1:=tp h hi;obtain⟨mr,h2⟩:=u0 p h1;refine⟨cw.new h1,?_,by rw[h2];exact a7 _⟩;rw[h2];exact (WC.new h1).2.2
 ·have h1:=List.eq_of_mem_replicate (show e∈List.replicate _ [] from he);subst h1;exact⟨Nat.zero_le _,λx hx=>by cases hx⟩
theorem Ob (h:eR cf):pV (fh p cf cf.n.toNat):=λi hi=>by
 rw[rT]at hi;rw[u5 hi];obtain⟨mr,h2⟩:=u0 p (tp h hi);rw[h2];rfl
theorem y1 (h:eR cf)(hi:i<cf.n.toNat)(hj:j<cf.n.toNat):bl (fh p cf cf.n.toNat) i j=cf.aJ.toNat:=by
 rw[bl,u5 hi];obtain⟨mr,h2⟩:=u0 p (tp h hi);rw[h2];show ((List.replicate cf.n.toNat (List.replicate cf.aJ.toNat (0:UInt8))).getD j []).length=_;rw[bn,List.getElem?_replicate,ak hj];exact ko
theorem Oc (h:eR cf)(hi:i<cf.n.toNat)(hj:j<cf.n.toNat):au (ey p (dx cf i)).k j=fy cf.aJ.toNat:=by
 obtain⟨mr,h2⟩:=u0 p (tp h hi);rw[h2,au,bn];show ((List.replicate cf.n.toNat (fy cf.aJ.toNat))[j]?).getD _=_;rw[List.getElem?_replicate,ak hj];rfl
theorem gw.new (h:eR cf):gw p cf K (List.replicate cf.n.toNat (List.replicate cf.aJ.toNat 0)) (fh p cf cf.n.toNat):=by
 have hl:=rT (p:=p) (cf:=cf) (n:=cf.n.toNat);refine⟨λi hi=>?_,λa b E hb BT=>?_,λi hi=>?_,λm hm=>(by cases hm),λl hl e he=>?_,λi hi=>?_⟩
 ·rw[hl]at hi;rw[u5 hi];have h1:=tp h hi;obtain⟨mr,h2⟩:=u0 p h1;refine⟨cw.new h1,by rw[h2];exact Ext.refl _,by rw[h2];rfl,λj hj=>?_⟩;have lf:j<cf.n.toNat:=by
   rw[h2]at hj;have:j<(List.replicate cf.n.toNat (fy cf.aJ.toNat)).length:=hj
   rwa [ko]at this
  rw[Oc h hi lf];exact⟨rfl,Nat.zero_le _,λh=>absurd h (by show ¬ 0<0;omega)⟩
 ·rw[hl]at E hb;rw[y1 h hb E,y1 h E hb,pT,u5 E,Oc h E hb];exact⟨a7 _,Nat.le_add_right _ _⟩
 ·rw[hl]at hi;rw[y1 h hi hi];have h1:cf.aJ.toNat≤aw (an (fh p cf cf.n.toNat) i).k:=by
   rw[u5 hi];obtain⟨mr,h2⟩:=u0 p (tp h hi);rw[h2];have hc:=(WC.new (tp h hi)).1;refine EX hc.k0 λl hl=>?_;have:=List.eq_of_mem_replicate (show l∈List.replicate cf.n.toNat (List.replicate cf.aJ.toNat (0:UInt8)) from hl);rw[this,ko];exact a7 _
  omega
 ·have h1:=List.eq_of_mem_replicate (show l∈List.replicate _ [] from hl);subst h1;cases he
 ·rw[Ob h i hi] ;intro e he;cases he
structure Lv (p:Pr)(cf:Cf)(T:Nat→Nat)(v:Wd):Prop where
 ok:∃ c,bL p cf c v
 kb:∃ G,gw p cf (·=1) G v
 op:∀ i,i<v.ps.length→(an v i).k.cl=false∧(an v i).k.now≤T i∧(an v i).k.ev=[]
 ev:∀ l∈v.ev,l=[]
theorem Lv.more (h:Lv p cf T v){T':Nat→Nat}(ht:∀ i,i<v.ps.length→T i≤T' i):Lv p cf T' v:=⟨h.ok,h.kb,λi hi=>⟨(h.op i hi).1,ft (h.op i hi).2.1 (ht i hi),(h.op i hi).2.2⟩,h.ev⟩
theorem Lv.calm (h:Lv p cf T v):pV v:=λi hi=>(h.op i hi).2.2
theorem Lv.still (h:Lv p cf T v):lD v=v:=by
 obtain⟨c,hv⟩:=h.ok;exact N6 hv.ev h.calm
theorem Lv.new (h:eR cf):Lv p cf (λ_=>0) (fh p cf cf.n.toNat):=⟨⟨0,G0 h⟩,⟨_,gw.new h⟩,λi hi=>by
 rw[rT]at hi;rw[u5 hi];obtain⟨mr,h2⟩:=u0 p (tp h hi);rw[h2];exact⟨rfl,a7 _,rfl⟩,λl hl=>List.eq_of_mem_replicate (show l∈List.replicate _ [] from hl)⟩
theorem Lv.len (h:Lv p cf T v):v.ps.length=cf.n.toNat∧2≤v.ps.length∧v.ps.length≤8:=by
 obtain⟨c,hv⟩:=h.ok;exact⟨hv.n,hv.len⟩
theorem Lv.Od (h:Lv p cf T v)(hi:i<v.ps.length)(hj:j<v.ps.length):aw (an v i).k≤bl v i j:=by
 obtain⟨c,hv⟩:=h.ok;exact v8 (uu (by rw[(hv.pl i hi).1.wc.ls,hv.kn hi];exact hj))
theorem Lv.G1 (h:Lv p cf T v)(hi:i<v.ps.length)(hx:∀ j,j<v.ps.length→x≤bl v i j):x≤aw (an v i).k:=by
 obtain⟨c,hv⟩:=h.ok;refine EX (hv.pl i hi).1.wc.k0 λl hl=>?_;obtain⟨j,hj,rfl⟩:=List.getElem_of_mem hl;rw[(hv.pl i hi).1.wc.ls,hv.kn hi]at hj;have:=hx j hj;rw[bl,bn,aE (by rw[(hv.pl i hi).1.wc.ls,hv.kn hi];exact hj)]at this;exact this
theorem Lv.front {h:Nat}(rl:Lv p cf T v)(hi:i<v.ps.length)(hx:∀ j,j<v.ps.length→h≤bl v i j)(hy:j<v.ps.length)(he:bl v i j=h):aw (an v i).k=h :=
 Nat.le_antisymm (he ▸ rl.Od hi hy) (rl.G1 hi hx)
theorem Lv.head (h:Lv p cf T v)(hi:i<v.ps.length):aD (an v i).k=bl v i i:=by
 obtain⟨c,hv⟩:=h.ok;rw[aD,(hv.qI hi).1];rfl
theorem Lv.Oe (h:Lv p cf T v)(hi:i<v.ps.length)(hj:j<v.ps.length):bl v i j≤bl v j j:=by
 obtain⟨c,hv⟩:=h.ok;obtain⟨G,jw⟩:=h.kb;exact (jw.BS hv hi hj).1
theorem Lv.al (h:Lv p cf T v)(hi:i<v.ps.length)(b n:Int):Lv p cf T (bY p ⟨1,i,b,n⟩ v)∧(bY p ⟨1,i,b,n⟩ v).net=v.net∧(bY p ⟨1,i,b,n⟩ v).ps.length=v.ps.length ∧
   (∀ x y,bl (bY p ⟨1,i,b,n⟩ v) x y=bl v x y+if (x=i∧y=i)∧bl v i i<1000∧bl v i i<cf.bt.toNat+aw (an v i).k then 1 else 0) ∧
   (bl v i i<1000∧bl v i i<cf.bt.toNat+aw (an v i).k→(bw p ⟨1,i,b,n⟩ v).1=0):=by
 obtain⟨c,hv⟩:=h.ok;obtain⟨G,jw⟩:=h.kb;obtain⟨ek,wR,b6,hn,_⟩:=hv.qI hi;have aS:bw p ⟨1,i,b,n⟩ v=((dE p (fU b) (an v i)).1,{ v with ps:=v.ps.set i (dE p (fU b) (an v i)).2 }):=by
  rw[bw,ag (by show ¬ ((1:Int)<1∨(8:Int)<1);omega),ag (by show ¬ ((3:Int)≤1∧(1:Int)≤6);omega),BI rfl rfl hi]
 obtain⟨⟨G',h1⟩,h2⟩:=jw.al hv hi (fU b);have rF:=hv.al hi (fU b);have vr:(dE p (fU b) (an v i)).2.k.cl=(an v i).k.cl∧(dE p (fU b) (an v i)).2.k.now=(an v i).k.now∧(dE p (fU b) (an v i)).2.k.ev=(an v i).k.ev:=by
  by_cases h0:(dE p (fU b) (an v i)).1=0
  ·obtain⟨_,mr,hk⟩:=(jw.pl i hi).al h0;rw[hk];exact⟨rfl,rfl,rfl⟩
  ·rw[NN (hv.pl i hi).1 h0];exact⟨rfl,rfl,rfl⟩
 have rl:Lv p cf T { v with ps:=v.ps.set i (dE p (fU b) (an v i)).2 }:=⟨⟨_,rF⟩,⟨G',h1⟩,λj hj=>by
  have lf:j<v.ps.length:=by have:j<(v.ps.set i _).length:=hj;rwa [bu]at this
  rw[qG hi];split
  ·rename_i e;subst e;rw[vr.1,vr.2.1,vr.2.2];exact h.op _ hi
  ·exact h.op j lf,h.ev⟩
 have eF:bY p ⟨1,i,b,n⟩ v={ v with ps:=v.ps.set i (dE p (fU b) (an v i)).2 }:=by
  rw[bY,ag (by show ¬ (1:Int)=7;omega),aS,rl.still]
 have G2:(dE p (fU b) (an v i)).1=0↔bl v i i<1000∧bl v i i<cf.bt.toNat+aw (an v i).k:=by
  have hd:=h.head hi;show (cZ (fU b) (an v i).k).1=0↔_;rw[cZ,ag (by rw[(h.op i hi).1];decide),← hd,← wR];split
  ·exact⟨λh=>absurd h (by intro e;cases e),λh=>by omega⟩
  ·split
   ·exact⟨λh=>absurd h (by intro e;cases e),λh=>by omega⟩
   ·exact⟨λ_=>by omega,λ_=>rfl⟩
 rw[eF];refine⟨rl,rfl,bu,λx y=>?_,λh=>by rw[aS];exact G2.2 h⟩;rw[h2];by_cases e:x=i∧y=i
 ·by_cases e2:(dE p (fU b) (an v i)).1=0
  ·rw[ak ⟨e,e2⟩,ak ⟨e,G2.1 e2⟩]
  ·rw[ag (λh=>e2 h.2),ag (λh=>e2 (G2.2 h.2))]
 ·rw[ag (λh=>e h.1),ag (λh=>e h.1)]
noncomputable def oU (v:Wd)(i:Nat):List Ml:=((List.range v.ps.length).filter (·≠i)).map λj=>(i,j,aR (dK (an v i).k j))
theorem acJ {k:Ks}(hc:k.cl=false)(hn:k.now<39):br k=((bG k).map λi=>(k.me,i,aR (dK k i)),{ k with now:=k.now+1 }):=by
 rw[br,ag (by rw[hc];decide)];simp only;have:(bG { k with now:=k.now+1 }).find? (λi=>decide (jm { k with now:=k.now+1 } i))=none:=by
  rw[List.find?_eq_none];intro i _;rw[decide_eq_true_eq,jm];show ¬ (_+40≤k.now+1);omega
 rw[this];rfl
theorem Of:∀ {l net:List Ml},net.length+l.length≤300→ez net l=net++l
 | [],net,_=>by rw[append_nil];rfl
 | m::l,net,h=>by
  rw[eO]at h;show ez (oO net m) l=_;rw[oO,ak (by omega),Of (by rw[aL,jl];omega),ds];rfl
theorem Lv.tick (h:Lv p cf T v)(hT:T i<39)(hi:i<v.ps.length)(hf:v.net.length+v.ps.length≤300)(b n:Int):Lv p cf (λj=>if j=i then T j+1 else T j) (bY p ⟨2,i,b,n⟩ v)∧(bY p ⟨2,i,b,n⟩ v).net=v.net++oU v i∧(bY p ⟨2,i,b,n⟩ v).ps.length=v.ps.length ∧
   (∀ x y,bl (bY p ⟨2,i,b,n⟩ v) x y=bl v x y)∧(∀ m∈oU v i,pU m=bl v i i)∧(bw p ⟨2,i,b,n⟩ v).1=0:=by
 obtain⟨c,hv⟩:=h.ok;obtain⟨G,jw⟩:=h.kb;obtain⟨ek,wR,b6,hn,_⟩:=hv.qI hi;have ho:=h.op i hi;have fW:=acJ ho.1 (by omega);have gO:(br (an v i).k).1=oU v i:=by rw[fW,oU,bG,hn,ek]
 have l9:(oU v i).length≤v.ps.length:=by
  rw[oU,bd];exact ft (length_filter_le _ _) (by rw[length_range];exact a7 _)
 have aS:bw p ⟨2,i,b,n⟩ v=(0,{ v with ps:=v.ps.set i ⟨(br (an v i).k).2,(an v i).g⟩,net:=ez v.net (br (an v i).k).1 }):=by
  rw[bw,ag (by show ¬ ((2:Int)<1∨(8:Int)<2);omega),ag (by show ¬ ((3:Int)≤2∧(2:Int)≤6);omega),wN rfl rfl hi]
 obtain⟨h1,h2⟩:=jw.tick hv hi rfl;have rl:Lv p cf (λj=>if j=i then T j+1 else T j) { v with ps:=v.ps.set i ⟨(br (an v i).k).2,(an v i).g⟩,net:=ez v.net (br (an v i).k).1 }:=⟨⟨_,hv.tick hi⟩,⟨G,h1⟩,λj hj=>by
  have lf:j<v.ps.length:=by have:j<(v.ps.set i _).length:=hj;rwa [bu]at this
  rw[qG hi];split
  ·rename_i e;subst e;show (br (an v i).k).2.cl=false∧(br (an v i).k).2.now≤_∧(br (an v i).k).2.ev=[];rw[fW];exact⟨ho.1,by show (an v i).k.now+1≤if i=i then _ else _;rw[ak rfl];omega,ho.2.2⟩
  ·have:=h.op j lf;exact⟨this.1,by split <;> omega,this.2.2⟩,h.ev⟩
 have eF:bY p ⟨2,i,b,n⟩ v={ v with ps:=v.ps.set i ⟨(br (an v i).k).2,(an v i).g⟩,net:=ez v.net (br (an v i).k).1 }:=by
  rw[bY,ag (by show ¬ (2:Int)=7;omega),aS,rl.still]
 rw[eF];refine⟨rl,?_,bu,λx y=>h2 x y,λm hm=>?_,by rw[aS]⟩
 ·show ez v.net (br (an v i).k).1=_;rw[gO,Of (by omega)]
 ·rw[← gO]at hm;obtain⟨q,_,hq⟩:=jw.NV hv hi rfl hm;exact hq
theorem Og (hj:j<v.ps.length)(bD:j≠i):∃ m∈oU v i,m.1=i∧m.2.1=j :=
 ⟨(i,j,aR (dK (an v i).k j)),cV.2 ⟨j,List.mem_filter.2 ⟨mem_range.2 hj,by simpa using bD⟩,rfl⟩,rfl,rfl⟩
theorem acK:(oU v i).length≤v.ps.length:=by
 rw[oU,bd];exact ft (length_filter_le _ _) (by rw[length_range];exact a7 _)
theorem Lv.acL (h:Lv p cf T v)(vC:m∈v.net)(xJ:∀ m∈net,m∈v.net)(hl:net.length≤v.net.length):Lv p cf T { v with ps:=v.ps.set m.2.1 (dF p m.2.2 (an v m.2.1)).2,net:=net }∧(dF p m.2.2 (an v m.2.1)).1=0 ∧
   (∀ x y,bl { v with ps:=v.ps.set m.2.1 (dF p m.2.2 (an v m.2.1)).2,net:=net } x y=if x=m.2.1∧y=m.1 then max (bl v x y) (pU m) else bl v x y)∧m.1<v.ps.length∧m.2.1<v.ps.length∧m.1≠m.2.1:=by
 obtain⟨c,hv⟩:=h.ok;obtain⟨G,jw⟩:=h.kb;obtain⟨q,hq⟩:=jw.net m vC;obtain⟨h1,h2⟩:=jw.recv hv vC xJ;have hi:=hq.lt.2;obtain⟨ek,wR,b6,hn,_⟩:=hv.qI hi;obtain⟨_,h0,mr,hk⟩:=(jw.pl _ hi).yn hq.kb (h.op _ hi).1 (by rw[hq.to,ek]) (by rw[hq.fr,hn];have:=hq.lt.1;omega) (by rw[hq.id,b6]) hq.kind;rw[← hq.bs]at h0 hk;have mX:=hv.net.1;refine⟨⟨⟨_,hv.recv hi m.2.2 (net:=net) (by omega) λm hm=>hv.net.2 m (xJ m hm)⟩,⟨G,h1⟩,λj hj=>?_,h.ev⟩,h0,λx y=>?_,hq.lt.1,hi,λe=>hq.kb.may.2.2.1 (by rw[hq.fr,hq.to,e])⟩
 ·have lf:j<v.ps.length:=by have:j<(v.ps.set m.2.1 _).length:=hj;rwa [bu]at this
  rw[qG hi];split
  ·rename_i e;subst e;rw[hk];exact h.op _ hi
  ·exact h.op j lf
 ·rw[h2];by_cases e:x=m.2.1∧y=m.1
  ·rw[ak ⟨e,(h.op _ hi).1⟩,ak e]
  ·rw[ag (λh=>e h.1),ag e]
theorem G3 (p:Pr){r:List Ml}(hm:v.net=m::r)(a b:Int):bw p ⟨3,a,b,0⟩ v=((dF p m.2.2 (an v m.2.1)).1,{ v with ps:=v.ps.set m.2.1 (dF p m.2.2 (an v m.2.1)).2,net:=r }):=by
 rw[bw,ag (by show ¬ ((3:Int)<1∨(8:Int)<3);omega),ak (by show (3:Int)≤3∧(3:Int)≤6;omega),BL (j:=0) (m:=m) (by show (3:Int)≠4;omega) (by show (3:Int)≠6;omega) rfl (by rw[hm];rfl)];show (_,Wd.mk _ (if (3:Int)=5 then v.net else v.net.eraseIdx 0) _)=_;rw[ag (by omega),hm];rfl
theorem Lv.send (h:Lv p cf T v){r:List Ml}(hm:v.net=m::r)(a b:Int):Lv p cf T (bY p ⟨3,a,b,0⟩ v)∧(bY p ⟨3,a,b,0⟩ v).net=r∧(bY p ⟨3,a,b,0⟩ v).ps.length=v.ps.length ∧
   (∀ x y,bl (bY p ⟨3,a,b,0⟩ v) x y=if x=m.2.1∧y=m.1 then max (bl v x y) (pU m) else bl v x y)∧(bw p ⟨3,a,b,0⟩ v).1=0∧m.1<v.ps.length∧m.2.1<v.ps.length∧m.1≠m.2.1:=by
 obtain⟨h1,h2,h3,h4⟩:=h.acL (m:=m) (net:=r) (by rw[hm];exact mem_cons_self) (λm' oQ=>by rw[hm];exact gM _ oQ) (by rw[hm,eO];omega);have eF:bY p ⟨3,a,b,0⟩ v={ v with ps:=v.ps.set m.2.1 (dF p m.2.2 (an v m.2.1)).2,net:=r }:=by
  rw[bY,ag (by show ¬ (3:Int)=7;omega),G3 p hm,h1.still]
 rw[eF];exact⟨h1,rfl,bu,h3,by rw[G3 p hm];exact h2,h4⟩
noncomputable def nR (p:Pr):Nat→Wd→Wd
 | 0,v=>v
 | k+1,v=>nR p k (bY p ⟨3,0,0,0⟩ v)
theorem Lv.y2:∀ {l:List Ml} {v:Wd},Lv p cf T v→v.net=l→Lv p cf T (nR p l.length v)∧(nR p l.length v).net=[]∧(nR p l.length v).ps.length=v.ps.length ∧
   (∀ x y,bl v x y≤bl (nR p l.length v) x y)∧(∀ x,x<v.ps.length→bl (nR p l.length v) x x=bl v x x)∧(∀ m∈l,pU m≤bl (nR p l.length v) m.2.1 m.1)∧∀ x y,(∀ m∈l,m.2.1=x→m.1=y→False)→bl (nR p l.length v) x y=bl v x y
 | [],v,h,hm=>⟨h,hm,rfl,λ_ _=>a7 _,λ_ _=>rfl,λm hm=>(by cases hm),λ_ _ _=>rfl⟩
 | m::l,v,h,hm=>by
  obtain⟨h1,h2,h3,h4,_,_,_,bD⟩:=h.send hm 0 0;obtain⟨g1,iA,l8,lH,oy,B3,acM⟩:=Lv.y2 h1 h2;rw[eO];show Lv p cf T (nR p l.length _)∧_;have acN:∀ x y,bl v x y≤bl (bY p ⟨3,0,0,0⟩ v) x y:=λx y=>by rw[h4];split <;> omega
  refine⟨g1,iA,l8.trans h3,λx y=>ft (acN x y) (lH x y),λx hx=>?_,λm' oQ=>?_,λx y bR=>?_⟩
  ·have:=oy x (by rw[h3];exact hx);refine this.trans ?_;rw[h4,ag];exact λe=>bD (e.2.symm.trans e.1)
  ·rcases List.mem_cons.1 oQ with rfl | oQ
   ·refine ft ?_ (lH _ _);rw[h4,ak ⟨rfl,rfl⟩];omega
   ·exact B3 m' oQ
  ·refine (acM x y λm' oQ=>bR m' (gM _ oQ)).trans ?_;rw[h4,ag (λe=>bR m mem_cons_self e.1.symm e.2.symm)]
end
end
section
noncomputable def mK (p:Pr)(tk:Nat→Bool)(b:Int)(v:Wd):Nat→Wd
 | 0=>v
 | i+1=>if tk i=true then bY p ⟨2,i,0,0⟩ (bY p ⟨1,i,b+i,0⟩ (mK p tk b v i)) else bY p ⟨1,i,b+i,0⟩ (mK p tk b v i)
noncomputable def oV (p:Pr)(v:Wd):Wd:=nR p v.net.length v
structure tr (p:Pr)(cf:Cf)(t:Nat)(h:Nat→Nat)(v:Wd):Prop where
 lv:Lv p cf (λ_=>t) v
 net:v.net=[]
 hd:∀ x,x<v.ps.length→bl v x x=h x
 fr:∀ x,x<v.ps.length→h x<cf.bt.toNat+aw (an v x).k
structure wX (p:Pr)(cf:Cf)(t h:Nat)(v:Wd):Prop where
 lv:Lv p cf (λ_=>t) v
 net:v.net=[]
 kn:∀ x y,x<v.ps.length→y<v.ps.length→bl v x y=h
section
variable {p:Pr}{cf:Cf}{v u:Wd}{i j x y k t:Nat}{h:Nat→Nat}{tk:Nat→Bool}
theorem wX.new (hm:eR cf):wX p cf 0 cf.aJ.toNat (fh p cf cf.n.toNat) :=
 ⟨Lv.new hm,rfl,λx y hx hy=>by rw[rT]at hx hy;exact y1 hm hx hy⟩
theorem wX.front (e:wX p cf t k v)(hi:i<v.ps.length):aw (an v i).k=k∧aD (an v i).k=k:=by
 have h1:=e.kn i i hi hi;exact⟨e.lv.front hi (λj hj=>by rw[e.kn i j hi hj];exact a7 _) hi h1,by rw[e.lv.head hi,h1]⟩
structure qJ (p:Pr)(cf:Cf)(t:Nat)(h:Nat→Nat)(tk:Nat→Bool)(i:Nat)(v u:Wd):Prop where
 lv:Lv p cf (λj=>if j<i then t+1 else t) u
 len:u.ps.length=v.ps.length
 G4:u.net.length≤i*v.ps.length
 kn:∀ x y,x<v.ps.length→y<v.ps.length→bl u x y=if x=y∧x<i then h x+1 else bl v x y
 on:∀ x y,x<v.ps.length→y<i→x≠y→tk y=true→∃ m∈u.net,(m.1=y∧m.2.1=x)∧pU m=h y+1
 of:∀ m∈u.net,m.1<i
theorem tr.half (e:tr p cf t h v):qJ p cf t h tk 0 v v :=
 ⟨e.lv.more λi hi=>by rw[ag (Nat.not_lt_zero _)];exact a7 _,rfl,by rw[e.net];exact Nat.zero_le _,λx y hx hy=>by rw[ag (λh=>Nat.not_lt_zero _ h.2)],λx y _ hy=>absurd hy (Nat.not_lt_zero _),λm hm=>by rw[e.net]at hm;cases hm⟩
theorem qJ.al (e:qJ p cf t h tk i v u)(hB:tr p cf t h v)(hi:i<v.ps.length)(hh:∀ x,x<v.ps.length→h x<1000)(b n:Int):qJ p cf t h (λj=>decide (j≠i)&&tk j) (i+1) v (bY p ⟨1,i,b,n⟩ u)∧(bY p ⟨1,i,b,n⟩ u).net=u.net∧Lv p cf (λj=>if j<i then t+1 else t) (bY p ⟨1,i,b,n⟩ u):=by
 obtain⟨h1,h2,h3,h4,_⟩:=e.lv.al (i:=i) (by rw[e.len];exact hi) b n;have hhi:=hh i hi;have h5:bl u i i=h i:=by rw[e.kn i i hi hi,ag (by omega),hB.hd i hi]
 have h6:aw (an v i).k≤aw (an u i).k:=e.lv.G1 (by rw[e.len];exact hi) λj hj=>by
  rw[e.len]at hj;have h7:=hB.lv.Od hi hj;rw[e.kn i j hi hj,ag (by omega)];exact h7
 have h8:=hB.fr i hi;refine⟨⟨h1.more λj hj=>?_,h3.trans e.len,?_,λx y hx hy=>?_,λx y hx hy bD gb=>?_,λm hm=>?_⟩,h2,h1⟩
 ·split <;> split <;> omega
 ·rw[h2,Nat.succ_mul];have:=e.G4;omega
 ·rw[h4,e.kn x y hx hy];by_cases e1:x=i∧y=i
  ·obtain⟨rfl,rfl⟩:=e1;rw[ag (by omega),ak ⟨⟨rfl,rfl⟩,by omega,by omega⟩,ak (by omega),hB.hd _ hi]
  ·rw[ag (c:=(x=i∧y=i)∧_) (λh=>e1 h.1),Nat.add_zero];by_cases e2:x=y∧x<i
   ·rw[ak e2,ak (by omega)]
   ·rw[ag e2,ag (by omega)]
 ·simp only[fk,decide_eq_true_eq]at gb;rw[h2];exact e.on x y hx (by omega) bD gb.2
 ·rw[h2]at hm;have:=e.of m hm;omega
theorem qJ.next (e:qJ p cf t h tk i v u)(hB:tr p cf t h v)(hi:i<v.ps.length)(hh:∀ x,x<v.ps.length→h x<1000)(ht:t<39)(b n b' n':Int):qJ p cf t h tk (i+1) v (bY p ⟨2,i,b',n'⟩ (bY p ⟨1,i,b,n⟩ u))∧(bY p ⟨2,i,b',n'⟩ (bY p ⟨1,i,b,n⟩ u)).net=u.net++oU (bY p ⟨1,i,b,n⟩ u) i:=by
 obtain⟨e1,h2,h1⟩:=e.al hB hi hh b n;have h3:=e1.len;have iq:=h1.len.2.2;have cC:i*v.ps.length≤8*8:=Nat.mul_le_mul (by omega) (by omega);have mX:=e.G4;obtain⟨g1,iA,l8,lH,oy,_⟩:=h1.tick (i:=i) (by show (if i<i then t+1 else t)<39;rw[ag (by omega)];exact ht) (by rw[h3];exact hi) (by rw[h2,h3];omega) b' n';refine⟨⟨g1.more λj hj=>?_,l8.trans h3,?_,λx y hx hy=>by rw[lH];exact e1.kn x y hx hy,λx y hx hy bD gb=>?_,λm hm=>?_⟩,by rw[iA,h2]⟩
 ·show (if j=i then (if j<i then t+1 else t)+1 else if j<i then t+1 else t)≤if j<i+1 then t+1 else t
  split <;> split <;> (try split) <;> omega
 ·have:=acK (v:=bY p ⟨1,i,b,n⟩ u) (i:=i);rw[iA,h2,aL,Nat.succ_mul];omega
 ·rw[iA,h2];by_cases e2:y=i
  ·subst e2;obtain⟨m,hm,h5,h6⟩:=Og (v:=bY p ⟨1,y,b,n⟩ u) (i:=y) (j:=x) (by rw[h3];exact hx) bD;exact⟨m,List.mem_append_right _ hm,⟨h5,h6⟩,by rw[oy m hm,e1.kn y y hi hi,ak ⟨rfl,by omega⟩]⟩
  ·obtain⟨m,hm,h5⟩:=e.on x y hx (by omega) bD gb;exact⟨m,mem_append_left _ hm,h5⟩
 ·rw[iA,h2]at hm;rcases eP.1 hm with hm | hm
  ·have:=e.of m hm;omega
  ·obtain⟨j,_,rfl⟩:=cV.1 hm;show i<i+1;omega
theorem tr.Oh (hB:tr p cf t h v)(hh:∀ x,x<v.ps.length→h x<1000)(ht:t<39)(tk:Nat→Bool)(b:Int):∀ i,i≤v.ps.length→qJ p cf t h tk i v (mK p tk b v i)
 | 0,_=>hB.half
 | i+1,hi=>by
  have h1:=hB.Oh hh ht tk b i (by omega);rw[mK];split
  ·exact (h1.next hB (by omega) hh ht _ _ _ _).1
  ·rename_i hk;have h2:=(h1.al hB (by omega) hh (b+i) 0).1;exact⟨h2.lv,h2.len,h2.G4,h2.kn,λx y hx hy bD gb=>h2.on x y hx hy bD (by
    simp only[fk,decide_eq_true_eq];exact⟨λe=>hk (by rw[← e];exact gb),gb⟩),h2.of⟩
structure acO (p:Pr)(cf:Cf)(t:Nat)(h:Nat→Nat)(tk:Nat→Bool)(v u:Wd):Prop where
 lv:Lv p cf (λ_=>t+1) u
 len:u.ps.length=v.ps.length
 net:u.net=[]
 hd:∀ x,x<v.ps.length→bl u x x=h x+1
 up:∀ x y,x<v.ps.length→y<v.ps.length→bl v x y≤bl u x y
 all:∀ x y,x<v.ps.length→y<v.ps.length→tk y=true→bl u x y=h y+1
theorem qJ.y2 (e:qJ p cf t h tk v.ps.length v u)(hB:tr p cf t h v):acO p cf t h tk v (oV p u):=by
 obtain⟨h1,h2,h3,h4,h5,h6,_⟩:=e.lv.y2 (l:=u.net) rfl;have hl:=h3.trans e.len;have wY:∀ y,y<v.ps.length→bl (nR p u.net.length u) y y=h y+1:=λy hy=>by
  rw[h5 y (by rw[e.len];exact hy),e.kn y y hy hy,ak ⟨rfl,hy⟩]
 refine⟨h1.more λj hj=>by rw[hl]at hj;rw[ak hj];exact a7 _,hl,h2,wY,λx y hx hy=>?_,λx y hx hy gb=>?_⟩
 ·refine ft ?_ (h4 x y);rw[e.kn x y hx hy];split
  ·rename_i e1;rw[e1.1,hB.hd y hy];omega
  ·exact a7 _
 ·by_cases e1:x=y
  ·subst e1;exact wY x hx
  ·obtain⟨m,hm,⟨h7,h8⟩,h9⟩:=e.on x y hx hy e1 gb;have eI:=h6 m hm;rw[h7,h8,h9]at eI;have jV:=h1.Oe (i:=x) (j:=y) (by rw[hl];exact hx) (by rw[hl];exact hy);rw[wY y hy]at jV;exact Nat.le_antisymm jV eI
end
end
section
section
variable {W w:World}{L:List SP}{c c' m i:Nat}{ad av:Option Addr}{ev:List (Nat×Nat×Nat)}{e:j6}{M:js}{p:Pr}{s:Pl}{cf:Cf}
theorem acP (I:U W w (Sl 135 1 ad ev.length c (ev.map cA)::L))(hn:ev.length≤1000000000)(ho:∀ e∈ev,sZ e):Calls prog 55 #[.slice ad ev.length c] w λr w'=>∃ av c',r=.returned (.slice av ev.length c')∧U W w' (Sl 102 3 av ev.length c' (rows bU ev)::L):=by
 refine EN func55 ntmps55 rfl rfl λa E=>?_;refine RN 7 E I λa E=>?_;replace I:=I.bN 102 3 none;refine aO (λμ a w=>∃ (i:Nat) (mC:Option Addr) (co:Nat),(μ=ev.length-i∧i≤ev.length)∧Fr a 20 [(0,.slice ad ev.length c),(3,.slice mC i co),(4,.int .i64 i)]∧U W w (Sl 102 3 mC i co (rows bU (ev.take i))::Sl 135 1 ad ev.length c (ev.map cA)::L)) (ev.length) (⟨0,none,0,⟨rfl,by omega⟩,E.ab [0,3,4],(show U W w (Sl 102 3 none 0 0 (rows bU (ev.take 0))::_) from I).sub⟩) ?_;clear E I;rintro μ a w ⟨i,mC,co,⟨rfl,hi⟩,E,I⟩;refine IF 6 E I (λaj a E=>?_) λaj a E=>?_
 ·
  have aH:i<ev.length:=by omega
  obtain⟨bi,oi,rfl,pz⟩:=(I.pick (Sl 135 1 ad ev.length c (ev.map cA))).bV ad (by omega);have fb:=pz i (cA ev[i]) (by rw[bm,aE aH];rfl);have Oi:=ho _ (getElem_mem aH);generalize yI:ev[i]=x at fb Oi;have lO:Rd w bi (oi+i) [cA x]:=by
   intro k v hk;cases k with
   | zero=>simp at hk;subst hk;exact fb
   | succ k=>simp at hk
  refine RN 5 E I λa E=>?_;refine SS E (bS E underlying135 rfl Ty.t135 (lO)) λa E=>?_;refine CL 0 E I (YM I Oi) λa w E I=>?_;refine RN 0 E I λa E=>?_;refine cr E rfl I underlying70 Ty.t102 rfl rfl rfl rfl (by decide) (by decide) λig a w E I ho=>?_;clear ho;refine RN 0 E I λa E=>?_;refine cK E rfl I underlying70 Ty.t102 rfl rfl I.ai rfl (λv hv=>Fc x v (by simpa using hv)) (by decide) (by decide) (by omega) λF8 F9 a w E I=>?_;rw[show rows bU (ev.take i)++_=rows bU (ev.take (i+1)) from by rw[← List.take_append_getElem aH,kj,yI];rfl]at I;refine RN 4 E I λa E=>?_;exact⟨ev.length-(i+1),by omega,i+1,F8,F9,⟨rfl,by omega⟩,E.ab [0,3,4],I.sub⟩
 refine RT 3 E I ?_;obtain rfl:i=ev.length:=by omega
 rw[take_length]at I;exact⟨mC,co,rfl,I.sub⟩
theorem acQ (I:U W w (Sl 102 3 ad ev.length c (rows bU ev)::Sl 102 3 av ev.length c' (rows bU ev)::L))(hn:ev.length≤1000000000):Calls prog 54 #[.slice ad ev.length c,.slice av ev.length c'] w λr w'=>r=.returned (.bool true)∧U W w' (Sl 102 3 ad ev.length c (rows bU ev)::Sl 102 3 av ev.length c' (rows bU ev)::L):=by
 refine EN func54 ntmps54 rfl rfl λa E=>?_;refine RN 9 E I λa E=>?_;rw[bq (by omega)]at E;refine RN 4 E I λa E=>?_;refine aO (λμ a w=>∃ (i:Nat),(μ=ev.length-i∧i≤ev.length)∧Fr a 27 [(0,.slice ad ev.length c),(1,.slice av ev.length c'),(5,.int .i64 i)]∧U W w (Sl 102 3 ad ev.length c (rows bU ev)::Sl 102 3 av ev.length c' (rows bU ev)::L)) (ev.length) (⟨0,⟨rfl,by omega⟩,E.ab [0,1,5],I⟩) ?_;clear E I;rintro μ a w ⟨i,⟨rfl,hi⟩,E,I⟩;refine IF 6 E I (λao a E=>?_) λao a E=>?_
 ·
  have aH:i<ev.length:=by omega
  refine RN 2 E I λa E=>?_;obtain⟨mw,ox,rfl,fE⟩:=I.drew.bV ad (by omega);obtain⟨G5,G6,rfl,oM⟩:=I.drew.tail.bV av (by omega);replace fE:=jo AT fE (aE aH);replace oM:=jo AT oM (aE aH);generalize ev[i]=x at fE oM;refine qU 0 (λw'=>Rd w' mw (ox+i*3) (bU x)∧Rd w' G5 (G6+i*3) (bU x)) [7] [0,1,2,4,5,6,3003,1007,1008,9] E I λa E=>?_;replace I:=I.drew;generalize w.drew=w at I fE oM ⊢;have hC:Rd w mw (ox+i*3) (bU x)∧Rd w G5 (G6+i*3) (bU x):=⟨fE,oM⟩;have hH:=Hd.any (λw'=>Rd w' mw (ox+i*3) (bU x)∧Rd w' G5 (G6+i*3) (bU x));refine RH 6 E I hH hC λa E=>?_;refine QH E (λw hc=>bS E underlying102 rfl Ty.t102 (hc.1)) hC λa E=>?_;refine RH 0 E I hH hC λa E=>?_;refine SS E (bS E underlying102 rfl Ty.t102 (hC.2)) λa E=>?_;refine RH 0 E I hH hC λa E=>?_;refine CL 0 E I (aa7 I) λa w E I=>?_;refine RN 1 E I λa E=>?_;replace E:=E.aM 26;refine RN 4 E I λa E=>?_;exact⟨ev.length-(i+1),by omega,i+1,⟨rfl,by omega⟩,E.ab [0,1,5],I⟩
 refine RT 2 E I ?_;exact⟨rfl,I⟩
theorem acR (I:U W w (fg W M p cf i s::L)) :
   Calls prog 56 #[pt M.mb,.agg (bT cf).toArray] w λe w'=>e=.returned (.bool true)∧U W w' (fg W M p cf i s::L):=by
 replace I:=fg.open I;obtain⟨m,⟨rfl,hI,hc⟩,I⟩:=I;exact (abZ I hI hc).mono λe w' ⟨h1,h2⟩=>⟨h1,fg.close h2 hI (a7 _) rfl hc⟩
end
end
end Go.Proofs.YteoldcfapaiobaaGreat
