/- A match of players of whom none lies, plainly: the document's R3. -/
import Derived.Test.YteoldcfapaiobaaGreatH15ArgC
namespace Go.Proofs.YteoldcfapaiobaaGreat
open Tryz
open List (length_range nil_append length_nil getElem?_range getElem_map append_nil map_take map_drop mem_of_mem_eraseIdx range_succ getElem?_set_ne map_replicate)
open Go.RowKit
set_option linter.unusedVariables false
set_option linter.unusedSimpArgs false
set_option maxRecDepth 10000
set_option synthInstance.maxSize 4000
set_option synthInstance.maxHeartbeats 400000
section
def bG (v:Wd)(i j:Nat):Nat:=((aq v i).k.ls.getD j []).length
def qh (v:Wd)(i j:Nat):Nat:=(ar (aq v i).k j).has
noncomputable def sF (m:Ml):Nat:=match eJ m.2.2 with
 | some q=>if q.kind=1 then q.first.toNat+q.al.length else 0
 | none=>0
structure ph (p:Pr)(cf:Cf)(K:Int→Prop)(G:List (List UInt8))(v:Wd)(m:Ml)(q:Pk):Prop where
 lX:tZ p G q
 kind:K q.kind
 fr:q.aY=m.1
 to:q.to=m.2.1
 bs:m.2.2=aS q
 lt:m.1<v.ps.length∧m.2.1<v.ps.length
 id:q.id=cf.id
 vH:q.kind=1→q.c8.toNat≤bG v m.1 m.2.1∧q.first.toNat≤bG v m.2.1 m.1∧q.first.toNat+q.al.length≤q.c8.toNat+cf.bo.toNat
structure c9 (p:Pr)(cf:Cf)(K:Int→Prop)(G:List (List UInt8))(v:Wd):Prop where
 pl:∀ i,i<v.ps.length→fh p G (aq v i)
 ac:∀ i j,i<v.ps.length→j<v.ps.length→i≠j→qh v i j≤bG v j i∧bG v i j≤qh v i j+cf.bo.toNat
 hd:∀ i,i<v.ps.length→bG v i i≤aw (aq v i).k+cf.bo.toNat
 net:∀ m∈v.net,∃ q,ph p cf K G v m q
 bw:∀ l∈v.ev,∀ e∈l,e.1≠3
 ua:∀ i,i<v.ps.length→∀ e∈(aq v i).k.ev,e.1≠3
section
variable {p:Pr}{cf:Cf}{K:Int→Prop}{G G':List (List UInt8)}{v u:Wd}{c i j x y:Nat}{s':Pl}{net:List Ml}{ev:List (List kj)}{m:Ml}{q:Pk}{t:fB}{b:UInt8}
theorem bB.qi (h:bB p cf c v)(hi:i<v.ps.length):(aq v i).k.me=i∧(aq v i).k.bo=cf.bo.toNat∧(aq v i).k.id=cf.id∧(aq v i).k.n=v.ps.length∧(aq v i).k.aJ=cf.aJ.toNat:=by
 have h1:=(h.pl i hi).2.1;have h2:(fu (aq v i).k).me=(i:Int):=by rw[h1]
 have h3:(fu (aq v i).k).bo=cf.bo:=by rw[h1]
 have h4:(fu (aq v i).k).id=cf.id:=by rw[h1]
 have h5:(fu (aq v i).k).aJ=cf.aJ:=by rw[h1]
 simp only[fu]at h2 h3 h4 h5;exact⟨by omega,by omega,h4,h.tY hi,by omega⟩
theorem bB.win (h:bB p cf c v):1≤cf.bo.toNat∧cf.bo.toNat≤16:=by
 have h1:=h.may.2.1.2.1;unfold dE at h1;omega
theorem ub (hi:i<v.ps.length):bG ⟨v.ps.set i s',net,ev⟩ x y=if i=x then (s'.k.ls.getD y []).length else bG v x y:=by
 rw[bG,q5 hi];split <;> rfl
theorem ac7 (hi:i<v.ps.length):qh ⟨v.ps.set i s',net,ev⟩ x y=if i=x then (ar s'.k y).has else qh v x y:=by
 rw[qh,q5 hi];split <;> rfl
theorem OT (hi:i<v.ps.length):v.ps.set i (aq v i)=v.ps:=by
 rw[aq,bl,aD hi];exact mE _
theorem OU {l:List (List UInt8)}{a:List UInt8}(hi:i<l.length):((l.set i a).getD j []).length=if i=j then a.length else (l.getD j []).length:=by
 rw[bl,jX];split
 ·rename_i h;subst h;rfl
 ·rw[bl]
theorem ac8 {l a:List UInt8}{f:Nat}(h1:f≤l.length)(h2:f+a.length≤1000)(h3:l.length≤1000):(dw l f a).length=max l.length (f+a.length):=by
 rw[dw,ag (by omega),aN,dH,c4];omega
theorem ac9 (now head:Nat)(q:Pk)(z:Pe):(ga now head q z).has=if z.has<q.c8.toNat∧q.c8.toNat≤head then q.c8.toNat else z.has:=by
 unfold ga;simp only;split <;> rfl
theorem c9.HQ (h:c9 p cf K G v)(hv:bB p cf c v)(hi:i<v.ps.length)(hj:j<v.ps.length):bG v i j≤bG v j j∧(G.getD j []).length=bG v j j:=by
 have h1:=(h.pl j hj).own;rw[(hv.qi hj).1]at h1;obtain⟨t,ht⟩:=(h.pl i hi).ext.2 j (by rw[(hv.pl i hi).1.wc.ls,(hv.qi hi).2.2.2.1];exact hj);have h2:(G.getD j []).length=bG v j j:=by rw[← h1];rfl
 refine⟨?_,h2⟩;rw[← h2,ht,aN,bG];omega
theorem c9.OV (h:c9 p cf K G v)(hv:bB p cf c v):G.length=v.ps.length∧G≠[]:=by
 have h0:=hv.len;have h1:=h.pl 0 (by omega);exact⟨by rw[h1.lens,hv.tY (by omega)],h1.HP⟩
theorem ph.more (h:ph p cf K G v m q)(xM:Ext G G')(h0:G≠[])(jm:G.length=v.ps.length)(hl:u.ps.length=v.ps.length)(hk:∀ a b,bG v a b≤bG u a b):ph p cf K G' u m q:=by
 refine⟨h.lX.ext xM h0 (by have:=h.lt.1;have:=h.fr;omega),h.kind,h.fr,h.to,h.bs,by rw[hl];exact h.lt,h.id,λh1=>?_⟩;obtain⟨df,dz,a3⟩:=h.vH h1;exact⟨gC df (hk _ _),gC dz (hk _ _),a3⟩
theorem ph.dec (h:ph p cf K G v m q):eJ m.2.2=some q:=by rw[h.bs];exact Lc h.lX.may h.lX.sum
theorem ph.val (h:ph p cf K G v m q):sF m=if q.kind=1 then q.first.toNat+q.al.length else 0:=by rw[sF,h.dec]
theorem c9.put (h:c9 p cf K G v)(hv:bB p cf c v)(hi:i<v.ps.length)(hH:fh p G' s')(xM:Ext G G')(qj:∀ j,j≠i→G'.getD j []=G.getD j [])(hk:∀ j,bG v i j≤(s'.k.ls.getD j []).length)
   (kb:∀ j,j<v.ps.length→j≠i→(ar s'.k j).has≤bG v j i∧(s'.k.ls.getD j []).length≤(ar s'.k j).has+cf.bo.toNat) (gS:(s'.k.ls.getD i []).length≤aw s'.k+cf.bo.toNat)
   (HR:∀ e∈s'.k.ev,e.1≠3) (HS:∀ m∈net,m∈v.net∨∃ q,ph p cf K G' ⟨v.ps.set i s',net,ev⟩ m q) (p7:∀ l∈ev,∀ e∈l,e.1≠3):c9 p cf K G' ⟨v.ps.set i s',net,ev⟩:=by
 have hg:=h.OV hv;have hl:(⟨v.ps.set i s',net,ev⟩:Wd).ps.length=v.ps.length:=bt;have hm:∀ a b,bG v a b≤bG ⟨v.ps.set i s',net,ev⟩ a b:=λa b=>by
  rw[ub hi];split
  ·rename_i e;subst e;exact hk b
  ·exact bh _
 refine⟨λj hj=>?_,λa b E hb CZ=>?_,λj hj=>?_,λm gO=>?_,p7,λj hj=>?_⟩
 ·rw[hl]at hj;rw[q5 hi];split
  ·exact hH
  ·rename_i e;exact (h.pl j hj).more xM (by rw[(hv.qi hj).1];exact qj j (λe2=>e e2.symm))
 ·rw[hl]at E hb;rw[ub hi,ub hi,ac7 hi];by_cases h1:i=a
  ·subst h1;rw[ak rfl,ag CZ,ak rfl];exact kb b hb (Ne.symm CZ)
  ·rw[ag h1,ag h1];have h3:=h.ac a b E hb CZ;by_cases h2:i=b
   ·subst h2;rw[ak rfl];exact⟨gC h3.1 (hk a),h3.2⟩
   ·rw[ag h2];exact h3
 ·rw[hl]at hj;rw[ub hi,q5 hi];split
  ·rename_i e;subst e;exact gS
  ·exact h.hd j hj
 ·rcases HS m gO with h1 | h1
  ·obtain⟨q,hq⟩:=h.net m h1;exact⟨q,hq.more xM hg.2 hg.1 hl hm⟩
  ·exact h1
 ·rw[hl]at hj;rw[q5 hi];split
  ·exact HR
  ·exact h.ua j hj
theorem c9.al (h:c9 p cf K G v)(hv:bB p cf c v)(hi:i<v.ps.length)(b:UInt8):(∃ G',c9 p cf K G' { v with ps:=v.ps.set i (dK p b (aq v i)).2 }) ∧
   ∀ x y,bG { v with ps:=v.ps.set i (dK p b (aq v i)).2 } x y=bG v x y+if (x=i∧y=i)∧(dK p b (aq v i)).1=0 then 1 else 0:=by
 obtain⟨eo,vI,bX,hn,_⟩:=hv.qi hi;by_cases h0:(dK p b (aq v i)).1=0
 ·obtain⟨hH,mr,hk⟩:=(h.pl i hi).al h0;obtain⟨g1,jZ,nO,ov⟩:=vc (k:=(aq v i).k) (b:=b) h0;rw[eo]at hH hk;have aF:i<(aq v i).k.ls.length:=by rw[(hv.pl i hi).1.wc.ls,hn];exact hi
  have eD:(dK p b (aq v i)).2.k.ls=(aq v i).k.ls.set i ((aq v i).k.ls.getD i []++[b]):=by rw[hk]
  have gH:∀ j,ar (dK p b (aq v i)).2.k j=ar (aq v i).k j:=λj=>by rw[ar,hk];rfl
  have hV:∀ j,((dK p b (aq v i)).2.k.ls.getD j []).length=bG v i j+if i=j then 1 else 0:=λj=>by
   rw[eD,OU aF];split
   ·rename_i e;subst e;rw[aN];rfl
   ·rfl
  have fA:aw (aq v i).k≤aw (dK p b (aq v i)).2.k:=by
   rw[aw,aw,eD];exact Ext.set.front (hv.pl i hi).1.wc.lr
  have gS:aH (aq v i).k=bG v i i:=by rw[aH,eo];rfl
  refine⟨⟨_,h.put hv hi hH Ext.set (λj hj=>?_) (λj=>?_) (λj hj gP=>?_) ?_ ?_ (λm hm=>.inl hm) h.bw⟩,λx y=>?_⟩
  ·rw[bl,getElem?_set_ne (Ne.symm hj),← bl]
  ·rw[hV];omega
  ·rw[hV,gH,ag (Ne.symm gP),Nat.add_zero];exact h.ac i j hi hj (Ne.symm gP)
  ·rw[hV,ak rfl];omega
  ·rw[hk];exact h.ua i hi
  ·rw[ub hi];by_cases e:i=x
   ·subst e;rw[ak rfl,hV];by_cases e2:i=y
    ·rw[ak e2,ak ⟨⟨rfl,e2.symm⟩,h0⟩]
    ·rw[ag e2,ag (λh=>e2 h.1.2.symm)]
   ·rw[ag e,ag (λh=>e h.1.1.symm),Nat.add_zero]
 ·rw[OP (hv.pl i hi).1 h0,OT hi];exact⟨⟨G,h⟩,λx y=>by rw[ag (λh=>h0 h.2)];rfl⟩
theorem c9.OW (h:c9 p cf K G v)(hn:∀ m∈net,m∈v.net):c9 p cf K G { v with net:=net } :=
 ⟨h.pl,h.ac,h.hd,λm hm=>(h.net m (hn m hm)).imp λq hq=>⟨hq.lX,hq.kind,hq.fr,hq.to,hq.bs,hq.lt,hq.id,hq.vH⟩,h.bw,h.ua⟩
theorem c9.recv (h:c9 p cf K G v)(hv:bB p cf c v)(hm:m∈v.net)(hn:∀ m∈net,m∈v.net):c9 p cf K G { v with ps:=v.ps.set m.2.1 (dL p m.2.2 (aq v m.2.1)).2,net:=net } ∧
   ∀ x y,bG { v with ps:=v.ps.set m.2.1 (dL p m.2.2 (aq v m.2.1)).2,net:=net } x y=if (x=m.2.1∧y=m.1)∧(aq v m.2.1).k.cl=false then max (bG v x y) (sF m) else bG v x y:=by
 obtain⟨q,hq⟩:=h.net m hm;obtain⟨eY,hi⟩:=hq.lt;obtain⟨eo,vI,bX,rQ,_⟩:=hv.qi hi;have F6:q.aY.toNat=m.1:=by have:=hq.fr;omega
 have jR:m.1≠m.2.1:=λe=>hq.lX.may.2.2.1 (by rw[hq.fr,hq.to,e]);rw[hq.bs];generalize I:aq v m.2.1=s at *;have zx:=h.pl _ hi;have sG:=hv.pl _ hi;rw[I]at zx sG;cases hc:s.k.cl with
 | true =>
  have h0:(dL p (aS q) s).1≠0:=by
   show (dC (aS q) s.k).1≠0;rw[dC,ak hc];show (6:Int)≠0;decide
  rw[ac4 sG.1 h0,← I,OT hi];exact⟨h.OW hn,λx y=>by rw[ag (λh=>by have:=h.2;cases this)];rfl⟩
 | false =>
  have sD:m.1<s.k.ps.length:=by rw[sG.1.wc.ps,rQ];exact eY
  have aF:m.1<s.k.ls.length:=by rw[sG.1.wc.ls,rQ];exact eY
  have kb:=h.ac _ _ hi eY (Ne.symm jR);have oL:=h.HQ hv eY hi;have pq:=h.HQ hv hi eY;have k7:=(hv.pl _ eY).1.wc.ml (i:=m.1) (by rw[hv.tY eY];exact eY);have mF:=sG.1.wc.ml (i:=m.1) (by rw[rQ];exact eY);have OX:aH s.k=bG v m.2.1 m.2.1:=by rw[aH,eo,bG,I]
  rcases hq.lX.may.2.2.2.2 with ⟨h1,_⟩ | ⟨h1,_⟩
  ·obtain⟨hH,h0,mr,hk⟩:=zx.zh hq.lX hc (by rw[hq.to,eo]) (by rw[hq.fr,rQ];omega) (by rw[hq.id,bX]) h1;obtain⟨s1,s2,s3⟩:=hq.vH h1;obtain⟨g1,jZ⟩:=hq.lX.vH h1;rw[F6]at hk g1;have zk:bG v m.2.1 m.1=(s.k.ls.getD m.1 []).length:=by rw[bG,I]
   have eO:=ac8 (l:=s.k.ls.getD m.1 []) (a:=q.al) (f:=q.first.toNat) (by rw[← zk];exact s2) (by rw[pq.2]at g1;rw[bG]at g1;omega) mF;have eD:(dL p (aS q) s).2.k.ls=s.k.ls.set m.1 (dw (s.k.ls.getD m.1 []) q.first.toNat q.al):=by rw[hk]
   have hV:∀ j,((dL p (aS q) s).2.k.ls.getD j []).length=if m.1=j then max (bG v m.2.1 m.1) (q.first.toNat+q.al.length) else bG v m.2.1 j:=λj=>by
    rw[eD,OU aF,eO,bG,bG,I]
   have gH:∀ j,ar (dL p (aS q) s).2.k j=if j=m.1 then ga s.k.now (aH s.k) q (ar s.k m.1) else ar s.k j:=λj=>by
    rw[ar,hk];exact xh sD
   have fA:aw s.k≤aw (dL p (aS q) s).2.k:=by
    have h5:=sj (aS q) s.k;obtain⟨t5,h6⟩:=Md (s.k.ls.getD m.1 []) q.first.toNat q.al;rw[aw,aw,eD,h6];exact Ext.set.front sG.1.wc.lr
   refine⟨h.put hv hi hH (Ext.refl _) (λ_ _=>rfl) (λj=>?_) (λj hj gP=>?_) ?_ ?_ (λm hm=>.inl (hn m hm)) h.bw,λx y=>?_⟩
   ·rw[hV];split
    ·rename_i e;subst e;omega
    ·exact bh _
   ·rw[hV,gH];have xN:=h.ac _ _ hi hj (Ne.symm gP);by_cases e:j=m.1
    ·subst e;rw[ak rfl,ak rfl,ac9];rw[qh,I]at xN;rw[bG]at oL;simp only[bG] at *;split <;> omega
    ·rw[ag (Ne.symm e),ag e];rw[qh,I]at xN;exact xN
   ·rw[hV,ag jR];have:=h.hd _ hi;rw[I]at this;omega
   ·rw[hk];have:=h.ua _ hi;rw[I]at this;exact this
   ·rw[ub hi,hV,hq.val,ak h1];by_cases e:m.2.1=x
    ·subst e;rw[ak rfl];by_cases e2:m.1=y
     ·subst e2;rw[ak rfl,ak ⟨⟨rfl,rfl⟩,rfl⟩]
     ·rw[ag e2,ag (λh=>e2 h.1.2.symm)]
    ·rw[ag e,ag (λh=>e h.1.1.symm)]
  ·obtain⟨hH,h0,hk⟩:=zx.bye hq.lX hc (by rw[hq.to,eo]) (by rw[hq.fr,rQ];omega) (by rw[hq.id,bX]) h1;rw[F6]at hk;have eD:(dL p (aS q) s).2.k.ls=s.k.ls:=by rw[hk]
   have hV:∀ j,((dL p (aS q) s).2.k.ls.getD j []).length=bG v m.2.1 j:=λj=>by rw[eD,bG,I]
   have gH:∀ j,(ar (dL p (aS q) s).2.k j).has=(ar s.k j).has:=λj=>by
    rw[ar,hk];show ((s.k.ps.set _ _).getD j (fG 0)).has=_;rw[xh sD];split
    ·rename_i e;subst e;rfl
    ·rfl
   refine⟨h.put hv hi hH (Ext.refl _) (λ_ _=>rfl) (λj=>?_) (λj hj gP=>?_) ?_ ?_ (λm hm=>.inl (hn m hm)) h.bw,λx y=>?_⟩
   ·rw[hV];exact bh _
   ·have xN:=h.ac _ _ hi hj (Ne.symm gP);rw[qh,I]at xN;rw[hV,gH];exact xN
   ·have:=h.hd _ hi;rw[I]at this;rw[hV,aw,eD];exact this
   ·rw[hk];intro e he;rcases eX.1 he with he | he
    ·have:=h.ua _ hi;rw[I]at this;exact this e he
    ·rw[iF.1 he];show (1:Nat)≠3;decide
   ·have rG:sF m=0:=by rw[hq.val,ag (by omega)]
    rw[ub hi,hV,rG,Nat.max_zero];by_cases e:m.2.1=x
    ·subst e;rw[ak rfl];split <;> rfl
    ·rw[ag e,ag (λh=>e h.1.1.symm)]
theorem ada {k:Ks}(h:m∈(bq k).1):∃ j,j<k.n∧j≠k.me∧m=(k.me,j,aS (dV k j)):=by
 unfold bq at h;split at h
 ·cases h
 ·simp only at h;split at h
  ·cases h
  ·obtain⟨j,hj,rfl⟩:=cV.1 h;obtain⟨h1,h2⟩:=ve.1 hj;exact⟨j,h1,h2,rfl⟩
theorem adb {k:Ks}(h:m∈(bF k).1):∃ j,j<k.n∧j≠k.me∧m=(k.me,j,aS (gy k j)):=by
 unfold bF at h;split at h
 ·cases h
 ·obtain⟨j,hj,rfl⟩:=cV.1 h;obtain⟨h1,h2⟩:=ve.1 hj;exact⟨j,h1,h2,rfl⟩
theorem c9.same (h:c9 p cf K G v)(hv:bB p cf c v)(hi:i<v.ps.length)(hH:fh p G s')(eD:s'.k.ls=(aq v i).k.ls)(gH:s'.k.ps=(aq v i).k.ps)(HR:∀ e∈s'.k.ev,e.1≠3)
   (HS:∀ m∈net,m∈v.net∨∃ q,ph p cf K G v m q) (p7:∀ l∈ev,∀ e∈l,e.1≠3):c9 p cf K G ⟨v.ps.set i s',net,ev⟩∧∀ x y,bG ⟨v.ps.set i s',net,ev⟩ x y=bG v x y:=by
 have vo:∀ x y,bG ⟨v.ps.set i s',net,ev⟩ x y=bG v x y:=λx y=>by
  rw[ub hi];split
  ·rename_i e;subst e;rw[eD];rfl
  ·rfl
 have hg:=h.OV hv;refine⟨h.put hv hi hH (Ext.refl _) (λ_ _=>rfl) (λj=>by rw[eD];exact bh _) (λj hj gP=>?_) ?_ HR (λm hm=>(HS m hm).imp_right λ⟨q,hq⟩=>⟨q,hq.more (Ext.refl _) hg.2 hg.1 bt λa b=>by rw[vo];exact bh _⟩) p7,vo⟩
 ·rw[eD,ar,gH];exact h.ac i j hi hj (Ne.symm gP)
 ·rw[aw,eD];exact h.hd i hi
theorem c9.OY (h:c9 p cf K G v)(hv:bB p cf c v)(hi:i<v.ps.length)(wS:K 1)(hm:m∈(bq (aq v i).k).1):∃ q,ph p cf K G v m q∧sF m=bG v i i:=by
 obtain⟨eo,vI,bX,hn,_⟩:=hv.qi hi;obtain⟨j,hj,bT,rfl⟩:=ada hm;rw[hn]at hj;rw[eo]at bT;have kb:=h.ac i j hi hj (Ne.symm bT);have hb:=h.HQ hv hj hi;have gS:=h.hd i hi;have eY:aw (aq v i).k≤bG v i j:=xd (vb (by rw[(hv.pl i hi).1.wc.ls,hn];exact hj));have OX:aH (aq v i).k=bG v i i:=by rw[aH,eo];rfl
 have hw:=hv.win;have lX:=(h.pl i hi).zJ (i:=j) (by rw[hn];exact hj) (by rw[eo];exact bT) (by rw[OX];rw[qh]at kb;omega);have hV:(dV (aq v i).k j).first.toNat+(dV (aq v i).k j).al.length=bG v i i:=by
  show (((ar (aq v i).k j).has:Nat):Int).toNat+((((aq v i).k.ls.getD (aq v i).k.me []).drop (ar (aq v i).k j).has).take 32).length=_;rw[qh]at kb;rw[dH,c4,eo,c3];show _+min 32 (bG v i i-_)=_;omega
 have hq:ph p cf K G v ((aq v i).k.me,j,aS (dV (aq v i).k j)) (dV (aq v i).k j):=by
  refine⟨lX,wS,rfl,rfl,rfl,⟨by rw[eo];exact hi,hj⟩,bX,λ_=>⟨?_,?_,?_⟩⟩
  ·show ((((aq v i).k.ls.getD j []).length:Nat):Int).toNat≤bG v (aq v i).k.me j;rw[eo,c3];exact bh _
  ·show (((ar (aq v i).k j).has:Nat):Int).toNat≤bG v j (aq v i).k.me;rw[eo,c3];exact kb.1
  ·rw[hV];show _≤((((aq v i).k.ls.getD j []).length:Nat):Int).toNat+_;rw[c3];show _≤bG v i j+_;omega
 exact⟨_,hq,by rw[hq.val,ak (show (dV (aq v i).k j).kind=1 from rfl),hV]⟩
theorem ade (k:Ks):(bq k).2.ls=k.ls∧(bq k).2.ps=k.ps∧∀ e∈(bq k).2.ev,e∈k.ev∨e.1=2:=by
 rcases xj k with h1 | ⟨_,h1 | ⟨i,_,h1⟩⟩ <;> rw[h1]
 ·exact⟨rfl,rfl,λe he=>.inl he⟩
 ·exact⟨rfl,rfl,λe he=>.inl he⟩
 ·refine⟨rfl,rfl,λe he=>?_⟩;rcases eX.1 he with he | he
  ·exact .inl he
  ·rw[iF.1 he];exact .inr rfl
theorem adf (k:Ks):(bF k).2.ls=k.ls∧(bF k).2.ps=k.ps∧(bF k).2.ev=k.ev:=by
 unfold bF;split <;> exact⟨rfl,rfl,rfl⟩
theorem c9.tick (h:c9 p cf K G v)(hv:bB p cf c v)(hi:i<v.ps.length)(wS:K 1):c9 p cf K G { v with ps:=v.ps.set i ⟨(bq (aq v i).k).2,(aq v i).g⟩,net:=ez v.net (bq (aq v i).k).1 } ∧
   ∀ x y,bG { v with ps:=v.ps.set i ⟨(bq (aq v i).k).2,(aq v i).g⟩,net:=ez v.net (bq (aq v i).k).1 } x y=bG v x y:=by
 obtain⟨h1,h2,h3⟩:=ade (aq v i).k;refine h.same hv hi (h.pl i hi).tick h1 h2 (λe he=>?_) (λm hm=>(CG hm).imp_right λhm=>(h.OY hv hi wS hm).imp λq hq=>hq.1) h.bw;rcases h3 e he with h4 | h4
 ·exact h.ua i hi e h4
 ·omega
theorem c9.lP (h:c9 p cf K G v)(hv:bB p cf c v)(hi:i<v.ps.length)(wS:K 2):c9 p cf K G { v with ps:=v.ps.set i ⟨(bF (aq v i).k).2,(aq v i).g⟩,net:=ez v.net (bF (aq v i).k).1 } ∧
   ∀ x y,bG { v with ps:=v.ps.set i ⟨(bF (aq v i).k).2,(aq v i).g⟩,net:=ez v.net (bF (aq v i).k).1 } x y=bG v x y:=by
 obtain⟨h1,h2,h3⟩:=adf (aq v i).k;refine h.same hv hi (h.pl i hi).lP h1 h2 (λe he=>h.ua i hi e (by rw[← h3];exact he)) (λm hm=>(CG hm).imp_right λhm=>?_) h.bw;obtain⟨eo,vI,bX,hn,_⟩:=hv.qi hi;obtain⟨j,hj,bT,rfl⟩:=adb hm;refine⟨gy (aq v i).k j,(h.pl i hi).ac6 hj bT,wS,rfl,rfl,rfl,⟨by rw[eo];exact hi,by rw[← hn];exact hj⟩,bX,λe=>absurd (show (2:Int)=1 from e) (by decide)⟩
theorem c9.tX (h:c9 p cf K G v)(hv:bB p cf c v)(hi:i<v.ps.length):c9 p cf K G (tX i v)∧∀ x y,bG (Go.Proofs.YteoldcfapaiobaaGreat.tX i v) x y=bG v x y:=by
 refine h.same hv hi (h.pl i hi).told rfl rfl (λe he=>by cases he) (λm hm=>.inl hm) (λl hl e he=>?_);rcases qA hl with h1 | h1
 ·exact h.bw l h1 e he
 ·rw[h1]at he;rcases eX.1 he with he | he
  ·by_cases h2:i<v.ev.length
   ·exact h.bw _ (xG (d:=[]) h2) e he
   ·rw[bl,iD (by omega)]at he;cases he
  ·exact h.ua i hi e he
theorem c9.cj (h:c9 p cf K G v)(hv:bB p cf c v):∀ i,i≤v.ps.length→c9 p cf K G (cj v i)∧∀ x y,bG (Go.Proofs.YteoldcfapaiobaaGreat.cj v i) x y=bG v x y
 | 0,_=>⟨h,λ_ _=>rfl⟩
 | i+1,hi=>by
  obtain⟨h1,h2⟩:=h.cj hv i (by omega);obtain⟨h3,h4⟩:=h1.tX (i:=i) (hv.cj (by omega)) (by rw[(q6 v i).1];omega);exact⟨h3,λx y=>(h4 x y).trans (h2 x y)⟩
theorem c9.drain (h:c9 p cf K G v)(hv:bB p cf c v):c9 p cf K G (kT v)∧∀ x y,bG (kT v) x y=bG v x y:=h.cj hv _ (bh _)
theorem c9.zJ (h:c9 p cf K G v)(hv:bB p cf c v)(hf:t.fn≠6):c9 p cf K G (gp p t v).2:=by
 unfold gp;split
 ·exact h
 ·rename_i hr;split
  ·exact h.OW λm hm=>mem_of_mem_eraseIdx hm
  ·refine (h.recv hv (m:=v.net.getD t.n.toNat (0,0,[])) (xG (by omega)) (λm hm=>?_)).1;split at hm
   ·exact hm
   ·exact mem_of_mem_eraseIdx hm
theorem c9.one (h:c9 p cf K G v)(hv:bB p cf c v)(h1:K 1)(h2:K 2):∃ G',c9 p cf K G' (gh p t v).2:=by
 unfold gh;split
 ·exact⟨G,h⟩
 ·have hi:t.a.toNat<v.ps.length:=by omega
  split
  ·exact (h.al hv hi _).1
  ·split
   ·exact⟨G,(h.tick hv hi h1).1⟩
   ·split
    ·exact⟨G,(h.lP hv hi h2).1⟩
    ·exact⟨G,h⟩
theorem c9.go (h:c9 p cf K G v)(hv:bB p cf c v)(h1:K 1)(h2:K 2)(hf:t.fn≠6):∃ G',c9 p cf K G' (ds p t v):=by
 unfold ds;split
 ·exact⟨G,h⟩
 ·have h3 : ∃ G', c9 p cf K G' (br p t v).2 := by
   unfold br;split
   ·exact⟨G,h⟩
   ·split
    ·exact⟨G,h.zJ hv hf⟩
    ·exact h.one hv h1 h2
  obtain⟨G',h4⟩:=h3;exact⟨G',(h4.drain hv.step).1⟩
theorem vJ (p:Pr){cf:Cf}(h:ft cf):∃ mr,(eM p cf).k={ fv cf with mr:=mr }:=by
 refine HO (G:=(fv cf).ls) (xk (p:=p) h) (Ext.refl _) λi hi=>?_;have pE:ar (fv cf) i=fG cf.aJ.toNat∨ar (fv cf) i=fG 0:=by
  rw[ar,bl];show ((List.replicate cf.n.toNat (fG cf.aJ.toNat))[i]?).getD (fG 0)=_∨((List.replicate cf.n.toNat (fG cf.aJ.toNat))[i]?).getD (fG 0)=_;rw[List.getElem?_replicate];split
  ·exact .inl rfl
  ·exact .inr rfl
 have h2:(ar (fv cf) i).frame=0:=by rcases pE with e | e <;> rw[e] <;> rfl
 show mm p _ (ar (fv cf) i).frame _;rw[h2];exact⟨Nat.zero_le _,λh=>absurd h (by omega)⟩
end
end
section
def fT.zW:fT→Bool
 | .mu _=>true
 | .pl _=>false
def dZ (cf:Cf)(i:Nat):Cf:={ cf with me:=i }
def gM (p:Pr)(cf:Cf)(n:Nat):Wd:=⟨(List.range n).map λi=>eM p (dZ cf i),[],List.replicate n []⟩
def vK (fC:List fJ)(cf:Cf)(tb:List UInt8)(jJ:Bool)(n:Nat):Prop:=fC.map (·.cf)=(List.range n).map (dZ cf)∧∀ x∈fC,x.z.gs=⟨cf.a8,cf.order,tb⟩∧x.z.zW=jJ
theorem adg {cf:Cf}{i:Nat}(h:ft (dZ cf 0))(hi:(i:Int)<cf.n):ft (dZ cf i):=by
 obtain⟨⟨h1,h2,h3⟩,h4⟩:=h;refine⟨⟨h1,?_,h3⟩,h4⟩;show dE (i:Int) 0 (cf.n-1);unfold dE;omega
theorem OZ {cf:Cf}{p:Pr}{tb:List UInt8}{i:Nat}(h:oa (dZ cf 0) p tb)(hi:(i:Int)<cf.n):oa (dZ cf i) p tb:=⟨adg h.1 hi,h.2⟩
section
variable {W w:World}{L:List SP}{n c cP cT i:Nat}{ad adP adT:Option Addr}{p:Pr}{tb:List UInt8}{cf:Cf}{jJ:Bool}
theorem adh (eV:oa cf p tb)(I:U W w (az W p adP cP::L))(hn:tb.length=n)(aE:p.title.size≤1000000000)(dO:p.ops.length≤1000000000)(eU:tb.length≤1099511627776)(hT:∀ V,U W V (az W p adP cP::L)→aL V adT tb.length tb) :
   Calls prog 60 #[.agg (bV cf).toArray,.agg (bx p adP cP).toArray,.slice adT n cT] w λr V=>∃ B:jk,r=.returned (.tuple #[pt B.pb,.int .i64 0])∧B.gs=⟨cf.a8,cf.order,tb⟩∧U W V (aP W B p (eM p cf)::az W p adP cP::L) :=
 (acv I hn aE dO eU hT).mono λr V h=>h.elim (λh=>h.2) λh=>absurd eV h.1
theorem adi (eV:oa cf p tb)(I:U W w (az W p adP cP::L))(hn:tb.length=n)(aE:p.title.size≤1000000000)(dO:p.ops.length≤1000000000)(eU:tb.length≤1099511627776)(hT:∀ V,U W V (az W p adP cP::L)→aL V adT tb.length tb) :
   Calls prog 43 #[.agg (bV cf).toArray,.agg (bx p adP cP).toArray,.slice adT n cT,.bool jJ] w λr V=>∃ z:fT,r=.returned (.tuple #[.iface z.t (.pointer (some z.ad)),.int .i64 0])∧(z.gs=⟨cf.a8,cf.order,tb⟩∧z.zW=jJ)∧U W V (fJ.J W p ⟨cf,z⟩ 0 (eM p cf)::az W p adP cP::L):=by
 refine EN func43 ntmps43 rfl rfl λa E=>?_;refine BX 1 E I λb4 a w E I=>?_;change U W w (aa b4 28 (bV cf)::_) at I;refine BX 0 E I λb5 a w E I=>?_;change U W w (aa b5 45 (bx p adP cP)::_) at I;refine IF 5 E I (λaj a E=>?_) λaj a E=>?_
 ·
  refine aW 4 E I (acA eV (I.pick (az W p adP cP)) hn aE dO eU (λV dg=>hT _ dg.sub)) λM a w E ⟨hg,I⟩=>?_;refine RT 11 E I ?_;exact⟨.mu M,rfl,⟨hg,by rw[show jJ=true from by simpa using aj];rfl⟩,(show U W w (fJ.J W p ⟨cf,.mu M⟩ 0 (eM p cf)::_) from I).sub⟩
 refine aW 4 E I (adh eV (I.pick (az W p adP cP)) hn aE dO eU (λV dg=>hT _ dg.sub)) λB a w E ⟨hg,I⟩=>?_;refine RT 11 E I ?_;exact⟨.pl B,rfl,⟨hg,by rw[show jJ=false from by simpa using aj];rfl⟩,(show U W w (fJ.J W p ⟨cf,.pl B⟩ 0 (eM p cf)::_) from I).sub⟩
theorem O0 (I:U W w L):∀ n:Nat,U W w (ah eN (List.replicate n (none,0,[]))::L)
 | 0=>U.iZ I
 | n+1=>U.we (f:=eN) (x:=(none,0,[])) ((O0 I n).bR 135 1 none)
theorem O1 (eV:oa (dZ cf 0) p tb)(I:U W w (az W p adP cP::L))(hn:tb.length=n)(aE:p.title.size≤1000000000)(dO:p.ops.length≤1000000000)(eU:tb.length≤1099511627776)(hT:∀ V,U W V (az W p adP cP::L)→aL V adT tb.length tb) :
   Calls prog 24 #[.agg (bV cf).toArray,.agg (bx p adP cP).toArray,.slice adT n cT,.bool jJ] w λr V=>∃ B:jH,r=.returned (.tuple #[pt B.mb,.int .i64 0])∧vK B.fC cf tb jJ cf.n.toNat∧U W V (aR W B p 0 (gM p cf cf.n.toNat)::az W p adP cP::L):=by
 have pO:=eV.1.1.1;unfold dE at pO;obtain⟨N,hN⟩:∃ N:Nat,(dZ cf 0).n=N:=⟨(dZ cf 0).n.toNat,by omega⟩;replace hN:cf.n=N:=hN;have zX:2≤N∧N≤8:=by
  have h1:(dZ cf 0).n=cf.n:=rfl;omega
 rw[show cf.n.toNat=N from by omega];refine EN func24 ntmps24 rfl rfl λa E=>?_;refine BX 1 E I λb4 a w E I=>?_;change U W w (aa b4 28 (bV cf)::_) at I;refine BX 0 E I λb5 a w E I=>?_;change U W w (aa b5 45 (bx p adP cP)::_) at I;refine aW 3 E I (ab7 I) λq a w E I=>?_;refine BX 1 E I λu4 a w E I=>?_;refine RN 1 E I λa E=>?_;replace I:=U.iZ (f:=cA W p 0) (I.bR 81 1 none);refine RN 7 E I λa E=>?_;rw[hN,show min (max (N:Int) 1) 8=(N:Int) from by omega]at E;refine aQ (λμ a w=>∃ (i:Nat) (adL:Option Addr) (cL:Nat) (xs:List (fJ×Pl)) (me:Int),(μ=N-i∧(i≤N∧xs.length=i)∧xs.map (·.2)=(List.range i).map (λi=>eM p (dZ cf i))∧vK (xs.map (·.1)) cf tb jJ i)∧Fr a 58 [(2,.slice adT n cT),(3,.bool jJ),(4,pt b4),(5,pt b5),(10,pt u4),(20,.int .i64 N),(21,.int .i64 i)]∧U W w (aa u4 107 [.slice adL i cL,pt q,.slice none 0 0]::Sl 81 1 adL i cL (xs.map cC)::ah (cA W p 0) xs::bN q []::aa b4 28 (bV { cf with me:=me })::aa b5 45 (bx p adP cP)::az W p adP cP::L)) (N) (⟨0,none,0,[],cf.me,⟨rfl,⟨by omega,rfl⟩,rfl,rfl,λx h=>by cases h⟩,E.ab [2,3,4,5,10,20,21],(show U W w (ah (cA W p 0) []::Sl 81 1 none 0 0 (([]:List (fJ×Pl)).map cC)::_) from I).sub⟩) ?_;clear E I;rintro μ a w ⟨i,adL,cL,xs,me,⟨rfl,⟨hi,b0⟩,da,eK⟩,E,I⟩;refine IF 3 E I (λaj a E=>?_) λaj a E=>?_
 ·
  have aF:i<N:=by omega
  have HT:=OZ (i:=i) eV (by omega);refine ST 7 E I (λa w E I=>?_);refine RN 0 E I λa E=>?_;change U W w (aa b4 28 (bV (dZ cf i))::_) at I;refine aW 5 E I (adi HT (I.pick (az W p adP cP)) hn aE dO eU (λV dg=>hT _ dg.sub)) λz a w E ⟨hz,I⟩=>?_;refine RN 9 E I λa E=>?_;replace E:=E.aK 35;refine RN 7 E I λa E=>?_;refine cn E rfl I underlying104 Ty.t81 rfl rfl rfl rfl (by decide) (by decide) λb43 a w E I ho=>?_;clear ho;replace I:=I.pick (Sl 81 1 adL i cL (xs.map cC));refine RN 0 E I λa E=>?_;refine cK E rfl I underlying104 Ty.t81 rfl rfl I.ai rfl (by simp[Value.oneCell']) (by decide) (by decide) (by omega) λnF lx a w E I=>?_;rw[show List.map cC xs++_=(xs++[((⟨dZ cf i,z⟩:fJ),eM p (dZ cf i))]).map cC from by rw[cS];rfl]at I;refine ST 2 E I (λa w E I=>?_);refine RN 2 E I λa E=>?_;have kL:=(I.pick (ah (cA W p 0) xs)).pick (fJ.J W p ⟨dZ cf i,z⟩ 0 (eM p (dZ cf i)));have hA:=U.jY (f:=cA W p 0) (x:=(⟨dZ cf i,z⟩,eM p (dZ cf i))) kL;refine⟨N-(i+1),by omega,i+1,nF,lx,xs++[(⟨dZ cf i,z⟩,eM p (dZ cf i))],i,⟨rfl,⟨by omega,by rw[aN,b0];rfl⟩,?_,?_⟩,E.ab [2,3,4,5,10,20,21],?_⟩
  ·rw[cS,da,range_succ,cS];rfl
  ·refine⟨?_,λx hx=>?_⟩
   ·rw[cS,cS,range_succ,cS,eK.1];rfl
   ·rw[cS]at hx;rcases eX.1 hx with hx | hx
    ·exact eK.2 x hx
    ·rw[iF.1 hx];exact hz
  ·rw[show ({ cf with me:=(i:Int) }:Cf)=dZ cf i from rfl];exact hA.sub
 obtain rfl:i=N:=by omega
 refine RN 7 E I λa E=>?_;refine rv E rfl I underlying105 Ty.t90 rfl (by omega) (by omega) λC0 a w E I ho=>?_;clear ho;rw[Cu _ rfl]at I;refine ST 2 E I (λa w E I=>?_);refine RT 4 E I ?_;refine⟨⟨u4,q,xs.map (·.1)⟩,rfl,eK,?_⟩;have h1:=I.jV C0;rw[show List.replicate i (Value.slice none 0 0)=[]++(List.replicate i ((none,0,[]):ko)).map bw++[] from by rw[nil_append,append_nil,map_replicate];rfl]at h1;have h2:=O0 (U.iY (n:=i) (c:=i) (sz:=1) h1 (by rw[bf,kC,fD]) (bh _) (by simp)) i;refine aR.vG (adL:=adL) (cL:=cL) (adE:=some ⟨C0,0,none⟩) (cE:=i) (xs:=xs) (es:=List.replicate i (none,0,[])) ?_ rfl da (by rw[map_replicate];rfl);rw[b0,kC];simp only[length_nil]at h2;show U W w (aa u4 107 [.slice adL i cL,pt q,.slice (some ⟨C0,0,none⟩) i i]::Sl 81 1 adL i cL (xs.map cC)::ah (cA W p 0) xs::bN q []::Sl 90 1 (some ⟨C0,0,none⟩) i i ((List.replicate i ((none,0,[]):ko)).map bw)::ah eN (List.replicate i (none,0,[]))::az W p adP cP::L);exact h2.sub
end
end
section
abbrev dM (x:gf×Pl):Value:=pt x.1.pb
def dm (W:World)(p:Pr)(x:gf×Pl):SP:=b9 W x.1 p x.2
def fj (x:ko):SP:=Sl 102 3 x.1 x.2.2.length x.2.1 (rows bZ x.2.2)
structure oc where
 wb:Nat
 mb:Nat
 mZ:List gf
def bK (W:World)(D:oc)(p:Pr)(v:Wd):SP:=λh=>∃ i:(Option Addr×Nat)×(Option Addr×Nat)×(Option Addr×Nat)×List (gf×Pl)×List ko,(i.2.2.2.1.map (·.1)=D.mZ∧i.2.2.2.1.map (·.2)=v.ps∧i.2.2.2.2.map (·.2.2)=v.ev) ∧
 cp [aa D.wb 40 [pt D.mb,.slice i.1.1 i.2.2.2.1.length i.1.2,.slice i.2.1.1 v.net.length i.2.1.2,.slice i.2.2.1.1 i.2.2.2.2.length i.2.2.1.2],
  Sl 34 1 i.1.1 i.2.2.2.1.length i.1.2 (i.2.2.2.1.map dM),ah (dm W p) i.2.2.2.1,bU 60 i.2.1.1 v.net.length i.2.1.2 v.net,Sl 70 1 i.2.2.1.1 i.2.2.2.2.length i.2.2.1.2 (i.2.2.2.2.map bw),ah fj i.2.2.2.2] h
section
variable {W w:World}{L:List SP}{n c k cP cN cE wb i:Nat}{ad adP adN adE:Option Addr}{p:Pr}{v:Wd}{D:oc}{x0 x1 x3:Value}{l net:List Ml}{xs:List (gf×Pl)}{es:List ko}
theorem bK.open (I:U W w (bK W D p v::L)):∃ (adP:Option Addr) (cP:Nat) (adN:Option Addr) (cN:Nat) (adE:Option Addr) (cE:Nat) (xs:List (gf×Pl)) (es:List ko),(xs.map (·.1)=D.mZ∧xs.map (·.2)=v.ps∧es.map (·.2.2)=v.ev) ∧
   U W w (aa D.wb 40 [pt D.mb,.slice adP xs.length cP,.slice adN v.net.length cN,.slice adE es.length cE] ::
    Sl 34 1 adP xs.length cP (xs.map dM)::ah (dm W p) xs::bU 60 adN v.net.length cN v.net::Sl 70 1 adE es.length cE (es.map bw)::ah fj es::L):=by
 obtain⟨i,h1,I⟩:=I.jL (ι:=(Option Addr×Nat)×(Option Addr×Nat)×(Option Addr×Nat)×List (gf×Pl)×List ko) (p:=λi=>i.2.2.2.1.map (·.1)=D.mZ∧i.2.2.2.1.map (·.2)=v.ps∧i.2.2.2.2.map (·.2.2)=v.ev)
  (B:=λi h=>cp [aa D.wb 40 [pt D.mb,.slice i.1.1 i.2.2.2.1.length i.1.2,.slice i.2.1.1 v.net.length i.2.1.2,.slice i.2.2.1.1 i.2.2.2.2.length i.2.2.1.2],
  Sl 34 1 i.1.1 i.2.2.2.1.length i.1.2 (i.2.2.2.1.map dM),ah (dm W p) i.2.2.2.1,bU 60 i.2.1.1 v.net.length i.2.1.2 v.net,Sl 70 1 i.2.2.1.1 i.2.2.2.2.length i.2.2.1.2 (i.2.2.2.2.map bw),ah fj i.2.2.2.2] h) λ_ h=>h
 obtain⟨⟨adP,cP⟩,⟨adN,cN⟩,⟨adE,cE⟩,xs,es⟩:=i;exact⟨adP,cP,adN,cN,adE,cE,xs,es,h1,I.open (M:=[_,_,_,_,_,_]) λ_ h=>h⟩
theorem bK.close (I:U W w (aa D.wb 40 [pt D.mb,.slice adP xs.length cP,.slice adN v.net.length cN,.slice adE es.length cE] ::
     Sl 34 1 adP xs.length cP (xs.map dM)::ah (dm W p) xs::bU 60 adN v.net.length cN v.net::Sl 70 1 adE es.length cE (es.map bw)::ah fj es::L))
 (h1:xs.map (·.1)=D.mZ) (h2:xs.map (·.2)=v.ps) (h3:es.map (·.2.2)=v.ev):U W w (bK W D p v::L) :=
 U.shut (M:=[_,_,_,_,_,_]) I λ_ h=>⟨((adP,cP),(adN,cN),(adE,cE),xs,es),⟨h1,h2,h3⟩,h⟩
theorem O2 (I:U W w (bU 60 ad n c l::bU 60 adN k cN net::aa wb 40 [x0,x1,.slice adN k cN,x3]::L))(hn:n≤1000)(hk:net.length≤300) :
   Calls prog 72 #[pt wb,.slice ad n c] w λe V=>e=.returned (.tuple #[])∧∃ O3 O4,U W V (bU 60 O3 (ez net l).length O4 (ez net l)::aa wb 40 [x0,x1,.slice O3 (ez net l).length O4,x3]::L):=by
 obtain⟨xs,eh,b0,I⟩:=bU.open I;have bd:xs.length=n:=by rw[← b0,← eh,bf]
 subst bd;obtain⟨ys,lY,iS,I⟩:=bU.open (I.pick (bU 60 adN k cN net));subst iS;refine EN func72 ntmps72 rfl rfl λa E=>?_;refine RN 2 E I λa E=>?_;refine aQ (λμ a w=>∃ (i:Nat) (adN:Option Addr) (cN:Nat) (ys:List Mx) (N:List Ml),(μ=xs.length-i∧i≤xs.length∧N=ez net (l.take i)∧ys.map (·.2.2)=N)∧Fr a 30 [(0,pt wb),(1,.slice ad xs.length c),(4,.int .i64 i)]∧U W w (aa wb 40 [x0,x1,.slice adN N.length cN,x3]::Sl 60 3 adN N.length cN (rows bJ ys)::ah bS ys::Sl 60 3 ad xs.length c (rows bJ xs)::ah bS (xs.drop i)::L)) (xs.length) (⟨0,adN,cN,ys,net,⟨rfl,by omega,rfl,lY⟩,E.ab [0,1,4],(show U W w (Sl 60 3 adN net.length cN (rows bJ ys)::ah bS ys::Sl 60 3 ad xs.length c (rows bJ xs)::ah bS (xs.drop 0)::_) from I).sub⟩) ?_;clear E I;rintro μ a w ⟨i,adN,cN,ys,N,⟨rfl,hi,hN,oe⟩,E,I⟩;refine IF 6 E I (λaj a E=>?_) λaj a E=>?_
 ·
  have aF:i<xs.length:=by omega
  have zO:i<l.length:=by omega
  have hNl:N.length≤300:=by rw[hN];exact Hz hk
  have HU:=N7 net zO;rw[← hN]at HU;obtain⟨x,hx⟩:∃ x,x=xs[i]:=⟨_,rfl⟩;have adj:x.2.2=l[i]:=by
   have h1:(xs.map (·.2.2))[i]?=l[i]?:=by rw[eh]
   rw[bm,aD aF,aD zO,← hx]at h1;simpa using h1
  have fb:xs[i]?=some x:=by rw[hx];exact aD aF
  refine IF 8 E I (λao a E=>?_) λao a E=>?_
  ·
   refine RN 0 E I λa E=>?_;obtain⟨bi,oi,rfl,pS⟩:=(I.drew.pick (Sl 60 3 ad xs.length c (rows bJ xs))).bY ad (by omega);replace pS:=g8 nz pS (aD aF);rw[← hx]at pS;refine qy 0 (λV=>Rd V wb 0 [x0,x1,.slice adN N.length cN,x3]∧Rd V bi (oi+i*3) (bJ x)) [8,9] [0,1,2,3,5,6,7,3004,1008,1009,1010,11,12,1013] E I λa E=>?_;replace I:=I.drew;generalize w.drew=w at I pS ⊢;have hC:Rd w wb 0 [x0,x1,.slice adN N.length cN,x3]∧Rd w bi (oi+i*3) (bJ x):=⟨I.ai (b:=wb),pS⟩;have hH:=Hd.any (λV=>Rd V wb 0 [x0,x1,.slice adN N.length cN,x3]∧Rd V bi (oi+i*3) (bJ x));refine RH 7 E I hH hC λa E=>?_;refine QH E (λw hc=>ae E (hc.1 2 _ rfl)) hC λa E=>?_;refine RH 0 E I hH hC λa E=>?_;refine SS E (bQ E underlying60 rfl Ty.t60 (hC.2)) λa E=>?_;refine RH 0 E I hH hC λa E=>?_;refine cn E rfl I underlying37 Ty.t60 rfl rfl rfl rfl (by decide) (by decide) λKm a w E I ho=>?_;clear ho;replace hC:=hH.at w ⟨I.ai (b:=wb),g8 nz (I.cJ bi oi (by omega)) fb⟩;refine RH 0 E I hH hC λa E=>?_;refine cK E rfl I underlying37 Ty.t60 rfl rfl I.ai rfl (by simp[Value.oneCell']) (by decide) (by decide) (by omega) λEJ EK a w E I=>?_;rw[show rows bJ ys++_=rows bJ (ys++[x]) from by rw[kz];rfl]at I;refine ST 2 E I (λa w E I=>?_);refine RN 3 E I λa E=>?_;rw[kA aF,← hx]at I;have h1:U W w (bS x::ah bS (xs.drop (i+1))::_):=U.fo (l:=x::xs.drop (i+1)) (i:=0) (I.pick (ah bS (x::xs.drop (i+1)))) (by simp);have h3:=U.jY (f:=bS) (x:=x) ((h1.pick (ah bS ys)).pick (bS x));refine⟨xs.length-(i+1),by omega,i+1,EJ,EK,ys++[x],N++[l[i]],⟨rfl,by omega,by rw[HU,pa,ak (by omega)],by rw[cS,oe,← adj];rfl⟩,E.ab [0,1,4],?_⟩;rw[aN,jC];exact h3.sub
  refine RN 3 E I λa E=>?_;rw[kA aF,← hx]at I;have h1:U W w (bS x::ah bS (xs.drop (i+1))::_):=U.fo (l:=x::xs.drop (i+1)) (i:=0) (I.pick (ah bS (x::xs.drop (i+1)))) (by simp);exact⟨xs.length-(i+1),by omega,i+1,adN,cN,ys,N,⟨rfl,by omega,by rw[HU,pa,ag (by omega)],oe⟩,E.ab [0,1,4],h1.sub⟩
 refine RT 0 E I ?_;obtain rfl:i=xs.length:=by omega
 rw[fO (by omega)]at hN;subst hN;exact⟨rfl,adN,cN,(bU.close (I.sub (M:=Sl 60 3 adN (ez net l).length cN (rows bJ ys)::ah bS ys::aa wb 40 [x0,x1,.slice adN (ez net l).length cN,x3]::L)) oe rfl)⟩
end
end
section
section
variable {W w:World}{L:List SP}{c k cP cN cE wb i:Nat}{adP adN adE:Option Addr}{p:Pr}{v:Wd}{D:oc}{net:List Ml}{xs:List (gf×Pl)}{es:List ko}{x:gf}{s xw s':Pl}{t:fB}{cf:Cf}
theorem C1 {ps:List Pl}(h2:xs.map (·.2)=ps)(hi:i<xs.length):∃ x,xs[i]?=some (x,ps.getD i CF):=by
 refine⟨xs[i].1,?_⟩;rw[aD hi,bl,← h2,bm,aD hi];rfl
theorem C3 (I:U W w (ah (dm W p) xs::L))(hx:xs[i]?=some (x,s)):U W w (b9 W x p s::ah (dm W p) (xs.eraseIdx i)::L):=by
 obtain⟨hi,h1⟩:=aZ.1 hx;have h2:=I.fo hi;rw[h1]at h2;exact h2
theorem C4 (I:U W w (b9 W x p s::ah (dm W p) (xs.eraseIdx i)::L))(hx:xs[i]?=some (x,s)):U W w (ah (dm W p) xs::L):=by
 obtain⟨hi,h1⟩:=aZ.1 hx;refine U.xI hi ?_;rw[h1];exact I
theorem C5 (hx:xs[i]?=some (x,s)):(xs.set i (x,s')).map dM=xs.map dM∧(xs.set i (x,s')).map (·.1)=xs.map (·.1):=by
 obtain⟨hi,h1⟩:=aZ.1 hx;constructor
 ·rw[jx,show dM (x,s')=(xs.map dM)[i]'(by rw[bf];exact hi) from by rw[getElem_map,h1],mE]
 ·rw[jx];show (xs.map (·.1)).set i x=_;rw[show x=(xs.map (·.1))[i]'(by rw[bf];exact hi) from by rw[getElem_map,h1],mE]
theorem bK.put (h1:xs.map (·.1)=D.mZ)(h2:xs.map (·.2)=v.ps)(h3:es.map (·.2.2)=v.ev)(hx:xs[i]?=some (x,xw))(net:List Ml)
   (I:U W w (b9 W x p s'::ah (dm W p) (xs.eraseIdx i)::aa D.wb 40 [pt D.mb,.slice adP xs.length cP,.slice adN net.length cN,.slice adE es.length cE] ::
    Sl 34 1 adP xs.length cP (xs.map dM)::bU 60 adN net.length cN net::Sl 70 1 adE es.length cE (es.map bw)::ah fj es::L)) :
   U W w (bK W D p { v with ps:=v.ps.set i s',net:=net }::L):=by
 obtain⟨hi,_⟩:=aZ.1 hx;have h4:=U.kY (f:=dm W p) (x:=(x,s')) hi I;refine bK.close (adP:=adP) (cP:=cP) (adN:=adN) (cN:=cN) (adE:=adE) (cE:=cE) (xs:=xs.set i (x,s')) (es:=es) ?_ ((C5 hx).2.trans h1) (by rw[jx,h2]) h3;rw[bt,(C5 hx).1];exact h4.sub
theorem O5 (b:Int):IntKind.u8.wrap (IntKind.i64.wrap ((BitVec.ofInt IntKind.i64.bits b &&& BitVec.ofInt IntKind.i64.bits 255).toNat))=((gg b).toNat:Int):=by
 have h1:(BitVec.ofInt IntKind.i64.bits b &&& BitVec.ofInt IntKind.i64.bits 255).toNat=(b%256).toNat:=by
  have h2:(BitVec.ofInt 64 b &&& BitVec.ofInt 64 255).toNat=(BitVec.ofInt 64 b).toNat%256:=by
   rw[BitVec.toNat_and,show (BitVec.ofInt 64 255).toNat=2 ^ 8-1 from rfl,Nat.and_two_pow_sub_one_eq_mod]
  show (BitVec.ofInt 64 b &&& BitVec.ofInt 64 255).toNat=_;rw[h2,BitVec.toNat_ofInt];omega
 rw[h1,fB.u8,gg,gg];have h3:=Int.emod_nonneg b (show (256:Int)≠0 by decide);have h4:=Int.emod_lt_of_pos b (show (0:Int)<256 by decide);have h5:IntKind.i64.wrap ((b%256).toNat:Int)=b%256:=by rw[fU (by omega) (by omega)];omega
 rw[h5,Int.emod_emod_of_dvd _ (by decide)]
set_option maxHeartbeats 1000000 in
theorem adk (I:U W w (bK W D p v::L))(hv:bB p cf c v)(a7:dq p)(aE:p.title.size≤1000000000)(hc:c≤1000000)(hf:¬ (3≤t.fn∧t.fn≤6)) :
   Calls prog 50 #[pt D.wb,.agg (dY t).toArray] w λe V=>e=.returned (.int .i64 (br p t v).1)∧U W V (bK W D p (br p t v).2::L):=by
 replace I:=bK.open I;obtain⟨adP,cP,adN,cN,adE,cE,xs,es,⟨eH,da,eK⟩,I⟩:=I;have b0:xs.length=v.ps.length:=by rw[← da,bf]
 have cm:∀ V,U W V (aa D.wb 40 [pt D.mb,.slice adP xs.length cP,.slice adN v.net.length cN,.slice adE es.length cE]::Sl 34 1 adP xs.length cP (xs.map dM)::ah (dm W p) xs::bU 60 adN v.net.length cN v.net::Sl 70 1 adE es.length cE (es.map bw)::ah fj es::L)→U W V (bK W D p v::L):=λV h=>bK.close h eH da eK;refine EN func50 ntmps50 rfl rfl λa E=>?_;refine BX 1 E I λb3 a w E I=>?_;change U W w (aa b3 58 (dY t)::_) at I;refine BY 7 E I (λbE a E=>?_) λbE a E=>?_
 ·
  refine RT 7 E I ?_;rw[br,ak (by omega)];exact⟨rfl,cm _ I.sub⟩
 refine IF 4 E I (λaj a E=>?_) λaj a E=>?_
 ·
  refine RT 2 E I ?_;rw[br,ak (by omega)];exact⟨rfl,cm _ I.sub⟩
 refine RN 0 E I λa E=>?_;refine cc (M:=λa w=>(¬ (t.fn<1∨8<t.fn)∧Fr a 74 [(0,pt D.wb),(3,pt b3),(4,.int .i64 0)])∧U W w (aa b3 58 (dY t)::aa D.wb 40 [pt D.mb,.slice adP xs.length cP,.slice adN v.net.length cN,.slice adE es.length cE]::Sl 34 1 adP xs.length cP (xs.map dM)::ah (dm W p) xs::bU 60 adN v.net.length cN v.net::Sl 70 1 adE es.length cE (es.map bw)::ah fj es::L)) ?_ ?_
 ·
  refine BY 5 E I (λbE a E=>?_) λbE a E=>?_
  ·
   refine RN 4 E I λa E=>?_;rw[bn (by omega)]at E;refine RN 1 E I λa E=>?_;exact⟨⟨by omega,E.ab [0,3,4]⟩,I.sub⟩
  refine RN 5 E I λa E=>?_;exact⟨⟨by omega,E.ab [0,3,4]⟩,I.sub⟩
 clear E;(try clear I);rintro a w ⟨⟨g9,E⟩,I⟩;refine cc (M:=λa w=>(∃ i:Nat,(t.a=i∧i<v.ps.length)∧Fr a 74 [(0,pt D.wb),(3,pt b3),(4,.int .i64 0)])∧U W w (aa b3 58 (dY t)::aa D.wb 40 [pt D.mb,.slice adP xs.length cP,.slice adN v.net.length cN,.slice adE es.length cE]::Sl 34 1 adP xs.length cP (xs.map dM)::ah (dm W p) xs::bU 60 adN v.net.length cN v.net::Sl 70 1 adE es.length cE (es.map bw)::ah fj es::L)) ?_ ?_
 ·
  refine a1 1 (λw0 V=>Rd V b3 0 (dY t)∧Rd V D.wb 0 [pt D.mb,.slice adP xs.length cP,.slice adN v.net.length cN,.slice adE es.length cE]) [9,10] [0,1001,2,3,4,6,7,8,3005,1009,1010,11,12] E I λa w E I hH=>?_;have hC:=hH.at w ⟨I.ai (b:=b3),I.ai (b:=D.wb)⟩;refine RH 1 E I hH hC λa E=>?_;refine SS E (ae E (hC.1 1 _ rfl)) λa E=>?_;refine RH 2 E I hH hC λa E=>?_;refine E.by (s:=28) (λbE E=>?_) (λbE E=>?_)
  ·
   refine RH 9 E I hH hC λa E=>?_;refine RT 3 E I ?_;have ho:t.a<0∨(v.ps.length:Int)≤t.a:=by omega
   have aT:br p t v=(7,v):=by rw[br,ag (by omega),ag hf,gh,ak ho]
   rw[aT];exact⟨rfl,cm _ I.sub⟩
  refine RH 4 E I hH hC λa E=>?_;refine QH E (λw hc=>ae E (hc.1 1 _ rfl)) hC λa E=>?_;refine RH 0 E I hH hC λa E=>?_;refine bu E (cu E rfl (s:=28)) (ae E (hC.2 1 _ rfl)) rfl λa E=>?_;refine RH 3 E I hH hC λa E=>?_;refine IF 0 E I (λay a E=>?_) λay a E=>?_
  ·
   refine RT 2 E I ?_;have ho:t.a<0∨(v.ps.length:Int)≤t.a:=by omega
   have aT:br p t v=(7,v):=by rw[br,ag (by omega),ag hf,gh,ak ho]
   rw[aT];exact⟨rfl,cm _ I.sub⟩
  refine RN 0 E I λa E=>?_;exact⟨⟨t.a.toNat,⟨by omega,by omega⟩,E.ab [0,3,4]⟩,I.sub⟩
 clear E;(try clear I);rintro a w ⟨⟨i,⟨gi,hi⟩,E⟩,I⟩;refine RN 1 E I λa E=>?_;obtain⟨x,hx⟩:∃ x,xs[i]?=some (x,aq v i):=C1 da (by omega);have aT:br p t v=gh p t v:=by rw[br,ag g9,ag hf]
 obtain⟨hw,dd,xK⟩:=hv.pl i hi;have uc:(xs.map dM)[i]?=some (pt x.pb):=by rw[bm,hx];rfl
 obtain⟨bp,op,rfl,_⟩:=(I.pick (Sl 34 1 adP xs.length cP (xs.map dM))).bY adP (by omega);refine a1 0 (λw0 V=>(Rd V b3 0 (dY t)∧Rd V D.wb 0 [pt D.mb,.slice (some ⟨bp,op,none⟩) xs.length cP,.slice adN v.net.length cN,.slice adE es.length cE])∧Rd V bp op (xs.map dM)) [5] [0,1,2,4,3003,1005,6,1007,8] E I λa w E I hH=>?_;have hC:=hH.at w ⟨⟨I.ai (b:=b3),I.ai (b:=D.wb)⟩,I.cJ bp op (by omega)⟩;refine RH 4 E I hH hC λa E=>?_;refine QH E (λw hc=>ae E (hc.1.2 1 _ rfl)) hC λa E=>?_;refine RH 0 E I hH hC λa E=>?_;refine SS E (ae E (hC.1.1 1 _ rfl)) λa E=>?_;rw[gi]at E;refine RH 1 E I hH hC λa E=>?_;refine SS E (ae E (hC.2 i _ uc)) λa E=>?_;refine RH 1 E I hH hC λa E=>?_;refine RN 2 E I λa E=>?_;replace I:=C3 (I.pick (ah (dm W p) xs)) hx;refine IF 5 E I (λbj a E=>?_) λbj a E=>?_
 ·
  refine RN 5 E I λa E=>?_;refine SS E (gr E underlying3 underlying5) λa E=>?_;rw[O5]at E;refine CL 0 E I (abO (x:=gg t.b) (I.pick (b9 W x p (aq v i))) hw a7 aE) λa w E I=>?_;refine RT 1 E I ?_;rw[aT,CQ (by assumption) gi hi];exact⟨rfl,bK.put (adP:=some ⟨bp,op,none⟩) (cP:=cP) (adN:=adN) (cN:=cN) (adE:=adE) (cE:=cE) eH da eK hx v.net I.sub⟩
 refine IF 3 E I (λbO a E=>?_) λbO a E=>?_
 ·
  replace I:=b9.open (I.pick (b9 W x p (aq v i)));refine aX 5 E I (abD (I.pick (a2 x.core (aq v i).k)) hw.wc (by omega)) λHV oW a w E I=>?_;refine CL 0 E I (O2 (((I.pick (aa D.wb 40 [pt D.mb,.slice (some ⟨bp,op,none⟩) xs.length cP,.slice adN v.net.length cN,.slice adE es.length cE])).pick (bU 60 adN v.net.length cN v.net)).pick (bU 60 HV (bq (aq v i).k).1.length oW (bq (aq v i).k).1)) (N5 hw.wc) hv.net.1) λa w E ⟨q7,q8,I⟩=>?_;refine RN 0 E I λa E=>?_;replace I:=b9.fold I x p ⟨(bq (aq v i).k).2,(aq v i).g⟩;refine RT 2 E I ?_;rw[aT]
  first
   | (rw[xJ (by assumption) gi hi];exact⟨rfl,bK.put (adP:=some ⟨bp,op,none⟩) (cP:=cP) (adN:=q7) (cN:=q8) (adE:=adE) (cE:=cE) eH da eK hx (ez v.net (bq (aq v i).k).1) I.sub⟩)
   | (rw[zP (by assumption) gi hi];exact⟨rfl,bK.put (adP:=some ⟨bp,op,none⟩) (cP:=cP) (adN:=q7) (cN:=q8) (adE:=adE) (cE:=cE) eH da eK hx (ez v.net (bF (aq v i).k).1) I.sub⟩)
   | (rw[zQ (by omega) gi hi];exact⟨rfl,cm _ (C4 ((I.pick (ah (dm W p) (xs.eraseIdx i))).pick (b9 W x p (aq v i))) hx).sub⟩)
 refine IF 3 E I (λeZ a E=>?_) λeZ a E=>?_
 ·
  replace I:=b9.open (I.pick (b9 W x p (aq v i)));refine aX 5 E I (abA (I.pick (a2 x.core (aq v i).k)) hw.wc) λHV oW a w E I=>?_;refine CL 0 E I (O2 (((I.pick (aa D.wb 40 [pt D.mb,.slice (some ⟨bp,op,none⟩) xs.length cP,.slice adN v.net.length cN,.slice adE es.length cE])).pick (bU 60 adN v.net.length cN v.net)).pick (bU 60 HV (bF (aq v i).k).1.length oW (bF (aq v i).k).1)) (N6 hw.wc) hv.net.1) λa w E ⟨q7,q8,I⟩=>?_;refine RN 0 E I λa E=>?_;replace I:=b9.fold I x p ⟨(bF (aq v i).k).2,(aq v i).g⟩;refine RT 2 E I ?_;rw[aT]
  first
   | (rw[xJ (by assumption) gi hi];exact⟨rfl,bK.put (adP:=some ⟨bp,op,none⟩) (cP:=cP) (adN:=q7) (cN:=q8) (adE:=adE) (cE:=cE) eH da eK hx (ez v.net (bq (aq v i).k).1) I.sub⟩)
   | (rw[zP (by assumption) gi hi];exact⟨rfl,bK.put (adP:=some ⟨bp,op,none⟩) (cP:=cP) (adN:=q7) (cN:=q8) (adE:=adE) (cE:=cE) eH da eK hx (ez v.net (bF (aq v i).k).1) I.sub⟩)
   | (rw[zQ (by omega) gi hi];exact⟨rfl,cm _ (C4 ((I.pick (ah (dm W p) (xs.eraseIdx i))).pick (b9 W x p (aq v i))) hx).sub⟩)
 refine RT 2 E I ?_;rw[aT]
 first
  | (rw[xJ (by assumption) gi hi];exact⟨rfl,bK.put (adP:=some ⟨bp,op,none⟩) (cP:=cP) (adN:=q7) (cN:=q8) (adE:=adE) (cE:=cE) eH da eK hx (ez v.net (bq (aq v i).k).1) I.sub⟩)
  | (rw[zP (by assumption) gi hi];exact⟨rfl,bK.put (adP:=some ⟨bp,op,none⟩) (cP:=cP) (adN:=q7) (cN:=q8) (adE:=adE) (cE:=cE) eH da eK hx (ez v.net (bF (aq v i).k).1) I.sub⟩)
  | (rw[zQ (by omega) gi hi];exact⟨rfl,cm _ (C4 ((I.pick (ah (dm W p) (xs.eraseIdx i))).pick (b9 W x p (aq v i))) hx).sub⟩)
end
end
section
section
variable {W w:World}{L L':List SP}{n c k cP cN cE wb i j:Nat}{adP adN adE:Option Addr}{p:Pr}{v:Wd}{D:oc}{net:List Ml}{xs:List (gf×Pl)}{es:List ko}{x:gf}{s:Pl}{t:fB}{cf:Cf}{m:Ml}
theorem adl (I:U W w (bK W D p v::L))(ho:t.n<0∨(v.net.length:Int)≤t.n) :
   Calls prog 70 #[pt D.wb,.agg (dY t).toArray] w λe V=>e=.returned (.int .i64 3)∧U W V (bK W D p v::L):=by
 replace I:=bK.open I;obtain⟨adP,cP,adN,cN,adE,cE,xs,es,⟨eH,da,eK⟩,I⟩:=I;have cm:∀ V,U W V (aa D.wb 40 [pt D.mb,.slice adP xs.length cP,.slice adN v.net.length cN,.slice adE es.length cE]::Sl 34 1 adP xs.length cP (xs.map dM)::ah (dm W p) xs::bU 60 adN v.net.length cN v.net::Sl 70 1 adE es.length cE (es.map bw)::ah fj es::L)→U W V (bK W D p v::L):=λV h=>bK.close h eH da eK;refine EN func70 ntmps70 rfl rfl λa E=>?_;refine BX 1 E I λb3 a w E I=>?_;change U W w (aa b3 58 (dY t)::_) at I;refine a1 3 (λw0 V=>Rd V b3 0 (dY t)∧Rd V D.wb 0 [pt D.mb,.slice adP xs.length cP,.slice adN v.net.length cN,.slice adE es.length cE]) [9,10] [0,1001,2,3,4,6,7,8,3005,1009,1010,11,12] E I λa w E I hH=>?_;have hC:=hH.at w ⟨I.ai (b:=b3),I.ai (b:=D.wb)⟩;refine RH 1 E I hH hC λa E=>?_;refine SS E (ae E (hC.1 3 _ rfl)) λa E=>?_;refine RH 2 E I hH hC λa E=>?_;refine E.by (s:=10) (λbE E=>?_) (λbE E=>?_)
 ·
  refine RH 9 E I hH hC λa E=>?_;refine RT 3 E I ?_;exact⟨rfl,cm _ I.sub⟩
 refine RH 4 E I hH hC λa E=>?_;refine QH E (λw hc=>ae E (hc.1 3 _ rfl)) hC λa E=>?_;refine RH 0 E I hH hC λa E=>?_;refine bu E (cu E rfl (s:=10)) (ae E (hC.2 2 _ rfl)) rfl λa E=>?_;refine RH 3 E I hH hC λa E=>?_;rw[dp (by omega)]at E;refine RT 3 E I ?_;exact⟨rfl,cm _ I.sub⟩
theorem bK.C6 {ys:List Mx}(h1:xs.map (·.1)=D.mZ)(h2:xs.map (·.2)=v.ps)(h3:es.map (·.2.2)=v.ev)(hy:ys.map (·.2.2)=net)
   (I:U W w (Sl 60 3 adN net.length cN (rows bJ ys)::ah bS ys::aa D.wb 40 [pt D.mb,.slice adP xs.length cP,.slice adN net.length cN,.slice adE es.length cE]::Sl 34 1 adP xs.length cP (xs.map dM)::ah (dm W p) xs::Sl 70 1 adE es.length cE (es.map bw)::ah fj es::L)) :
   U W w (bK W D p { v with net:=net }::L):=by
 have h4:=bU.close I hy rfl;exact bK.close (v:={ v with net:=net }) (h4.sub (M:=aa D.wb 40 [pt D.mb,.slice adP xs.length cP,.slice adN net.length cN,.slice adE es.length cE]::Sl 34 1 adP xs.length cP (xs.map dM)::ah (dm W p) xs::bU 60 adN net.length cN net::Sl 70 1 adE es.length cE (es.map bw)::ah fj es::L)) h1 h2 h3
theorem HW {ys:List Mx}{y:Mx}(I:U W w (ah bS ys::L))(hy:ys[j]?=some y):aL w y.1 y.2.2.2.2.length y.2.2.2.2:=by
 obtain⟨h1,h2⟩:=aZ.1 hy;have h3:=I.fo h1;rw[h2]at h3;exact U.cr (L:=bS y::_) h3 _ _ (k:=(fk.head:fk (Sl 5 1 y.1 y.2.2.2.2.length y.2.1 (bc y.2.2.2.2)::_) y.1 _ _ _ _ _ _)) rfl rfl
set_option maxHeartbeats 2000000 in
theorem adm (I:U W w (bK W D p v::L))(hv:bB p cf c v)(a7:dq p)(aE:p.title.size≤1000000000)(hf:t.fn=3∨t.fn=4∨t.fn=5∨t.fn=6)(gL:t.n=j)(hm:v.net[j]?=some m) :
   Calls prog 70 #[pt D.wb,.agg (dY t).toArray] w λe V=>e=.returned (.int .i64 (gp p t v).1)∧U W V (bK W D p (gp p t v).2::L):=by
 have ea:=(aZ.1 hm).1;have eV:=hv.HA ea;rw[CS hm]at eV;obtain⟨hw,dd,xK⟩:=hv.pl m.2.1 eV.1;have oM:=hv.net.1;replace I:=bK.open I;obtain⟨adP,cP,adN,cN,adE,cE,xs,es,⟨eH,da,eK⟩,I⟩:=I;have b0:xs.length=v.ps.length:=by rw[← da,bf]
 obtain⟨ys,lY,iS,I⟩:=bU.open (I.pick (bU 60 adN v.net.length cN v.net));have oe:ys.length=v.net.length:=by rw[← lY,bf]
 obtain⟨y,hy,kE⟩:∃ y,ys[j]?=some y∧y.2.2=m:=by
  have h1:(ys.map (·.2.2))[j]?=some m:=by rw[lY,hm]
  rw[bm,aD (by omega)]at h1;exact⟨_,aD (by omega),by simpa using h1⟩
 subst kE;obtain⟨bC,on,rfl,_⟩:=(I.pick (Sl 60 3 adN v.net.length cN (rows bJ ys))).bY adN (by omega);refine EN func70 ntmps70 rfl rfl λa E=>?_;refine BX 1 E I λb3 a w E I=>?_;change U W w (aa b3 58 (dY t)::_) at I;refine a1 3 (λw0 V=>Rd V b3 0 (dY t)∧Rd V D.wb 0 [pt D.mb,.slice adP xs.length cP,.slice (some ⟨bC,on,none⟩) v.net.length cN,.slice adE es.length cE]) [9,10] [0,1001,2,3,4,6,7,8,3005,1009,1010,11,12] E I λa w E I hH=>?_;have hC:=hH.at w ⟨I.ai (b:=b3),I.ai (b:=D.wb)⟩;refine RH 1 E I hH hC λa E=>?_;refine SS E (ae E (hC.1 3 _ rfl)) λa E=>?_;refine RH 2 E I hH hC λa E=>?_;rw[bn (by omega)]at E;refine RH 4 E I hH hC λa E=>?_;refine QH E (λw hc=>ae E (hc.1 3 _ rfl)) hC λa E=>?_;refine RH 0 E I hH hC λa E=>?_;refine bu E (cu E rfl (s:=10)) (ae E (hC.2 2 _ rfl)) rfl λa E=>?_;refine RH 3 E I hH hC λa E=>?_;rw[bn (by omega)]at E;refine a1 2 (λw0 V=>(Rd V b3 0 (dY t)∧Rd V D.wb 0 [pt D.mb,.slice adP xs.length cP,.slice (some ⟨bC,on,none⟩) v.net.length cN,.slice adE es.length cE])∧Rd V bC (on+j*3) (bJ y)) [5,8] [0,1,2,4,3003,3005,6,3007,1008,1009] E I λa w E I hH=>?_;have hC:=hH.at w ⟨⟨I.ai (b:=b3),I.ai (b:=D.wb)⟩,g8 nz (I.cJ bC on (by omega)) hy⟩;refine RH 4 E I hH hC λa E=>?_;refine QH E (λw hc=>ae E (hc.1.2 2 _ rfl)) hC λa E=>?_;refine QH E (λw hc=>ae E (hc.1.1 3 _ rfl)) hC λa E=>?_;rw[gL]at E;refine RH 1 E I hH hC λa E=>?_;refine QH E (λw hc=>bQ E underlying60 rfl Ty.t60 (hc.2)) hC λa E=>?_;refine RH 0 E I hH hC λa E=>?_;refine e5 E rfl I Ty.t60 rfl λb5 a w E I ho=>?_;clear ho;replace hC:=hH.at w ⟨⟨I.ai (b:=b3),I.ai (b:=D.wb)⟩,g8 nz (I.cJ bC on (by omega)) hy⟩;refine RH 0 E I hH hC λa E=>?_;refine SA 0 E I λa w E I=>?_;refine RN 0 E I λa E=>?_;refine IF 5 E I (λao a E=>?_) λao a E=>?_
 ·
  refine BY 6 E I (λbE a E=>?_) λbE a E=>?_
  ·
   refine RT 10 E I ?_;have ho:t.a<0∨(y.2.2.2.2.length:Int)≤t.a:=by omega
   rw[vF (by assumption) gL hm,ak ho];exact⟨rfl,bK.C6 (adP:=adP) (cP:=cP) (adN:=some ⟨bC,on,none⟩) (cN:=cN) (adE:=adE) (cE:=cE) (net:=v.net) (ys:=ys) eH da eK lY I.sub⟩
  refine IF 7 E I (λay a E=>?_) λay a E=>?_
  ·
   refine RT 2 E I ?_;have ho:t.a<0∨(y.2.2.2.2.length:Int)≤t.a:=by omega
   rw[vF (by assumption) gL hm,ak ho];exact⟨rfl,bK.C6 (adP:=adP) (cP:=cP) (adN:=some ⟨bC,on,none⟩) (cN:=cN) (adE:=adE) (cE:=cE) (net:=v.net) (ys:=ys) eH da eK lY I.sub⟩
  refine RN 1 E I λa E=>?_;have ho:¬ (t.a<0∨(y.2.2.2.2.length:Int)≤t.a):=by omega
  obtain⟨A,hA⟩:∃ A:Nat,t.a=A:=⟨t.a.toNat,by omega⟩;have C7:A<y.2.2.2.2.length:=by omega
  have w4:=HW (I.pick (ah bS ys)) hy;replace I:=I.bR 5 1 none;refine RN 2 E I λa E=>?_;refine g3 E rfl I underlying22 Ty.t5 rfl rfl (by decide) (λh0=>w4.get h0) (by rw[dt];omega) (eF _) (by omega) λnF lx a w E I=>?_;rw[nil_append,ep]at I;rw[ep]at E;refine RN 2 E I λa E=>?_;have agn:=((I.pick (Sl 5 1 nF y.2.2.2.2.length lx (bc y.2.2.2.2))).sl nF).2;obtain⟨bb,pre,post,⟨h3,h4,rfl,h6⟩,gG⟩:=(I.pick (Sl 5 1 nF y.2.2.2.2.length lx (bc y.2.2.2.2))).lZ (by omega);replace I:=gG;clear gG;have hb:(pre++bc y.2.2.2.2++post)[pre.length+A]?=some (.int .u8 (y.2.2.2.2[A].toNat:Int)):=by
   rw[dA,pn (by omega),show pre.length+A-pre.length=A from by omega,mv (by rw[dt];exact C7)];simp[bc,C7]
  refine a1 0 (λw0 V=>Rd V b3 0 (dY t)∧V.cell? ⟨bb,pre.length+A,none⟩=some (.int .u8 (y.2.2.2.2[A].toNat:Int))) [6,7,8] [0,1,5,3002,3,3004,1006,1007,1008,9,10,1011] E I λa w E I hH=>?_;have hC:=hH.at w ⟨I.ai (b:=b3),I.bz (b:=bb) hb⟩;refine RH 3 E I hH hC λa E=>?_;refine QH E (λw hc=>ae E (hc.1 1 _ rfl)) hC λa E=>?_;rw[hA]at E;refine RH 1 E I hH hC λa E=>?_;refine QH E (λw hc=>ae E (hc.2)) hC λa E=>?_;refine RH 0 E I hH hC λa E=>?_;refine SS E (ae E (hC.1 2 _ rfl)) λa E=>?_;refine RH 1 E I hH hC λa E=>?_;refine SS E (gr E underlying3 underlying5) λa E=>?_;rw[O5]at E;refine RH 2 E I hH hC λa E=>?_;refine ST 0 E I (λa w E I=>?_) (hlt:=(by simp only[aN,dt];omega));refine RN 0 E I λa E=>?_;rw[zL (by rw[dt];exact C7),Oj]at I;have O6:=U.iY (n:=y.2.2.2.2.length) (c:=lx) (sz:=1) (I.jV bb) (by rw[dt,bt,fD]) h4 h6;replace I:=O6;clear O6;have pO:=((I.pick (Sl 60 3 (some ⟨bC,on,none⟩) v.net.length cN (rows bJ ys))).sl (some ⟨bC,on,none⟩)).2;obtain⟨jl,vL,O7,⟨nO,ov,ts,O8⟩,gG⟩:=(I.pick (Sl 60 3 (some ⟨bC,on,none⟩) v.net.length cN (rows bJ ys))).lZ (by omega);replace I:=gG;clear gG;obtain⟨rfl,rfl⟩:bC=jl∧on=vL.length:=by simpa using ts
  refine a1 1 (λw0 V=>Rd V b3 0 (dY t)∧Rd V D.wb 0 [pt D.mb,.slice adP xs.length cP,.slice (some ⟨bC,vL.length,none⟩) v.net.length cN,.slice adE es.length cE]) [5] [0,1,2,4,6,3003,1005,7,8,1009] E I λa w E I hH=>?_;have hC:=hH.at w ⟨I.ai (b:=b3),I.ai (b:=D.wb)⟩;refine RH 5 E I hH hC λa E=>?_;refine QH E (λw hc=>ae E (hc.2 2 _ rfl)) hC λa E=>?_;refine RH 0 E I hH hC λa E=>?_;refine SS E (ae E (hC.1 3 _ rfl)) λa E=>?_;rw[gL]at E;refine RH 2 E I hH hC λa E=>?_;refine ST 0 E I (λa w E I=>?_) (hlt:=(by simp only[aN];omega));refine RT 2 E I ?_;rw[vF (by assumption) gL hm,ag ho];refine⟨rfl,?_⟩;rw[hA,c3,bl,aD C7,Option.getD_some];obtain⟨oT,zY⟩:=aZ.1 hy;obtain⟨Y,wC⟩:∃ Y:Mx,Y=(some ⟨bb,pre.length,none⟩,lx,(y.2.2.1,y.2.2.2.1,y.2.2.2.2.set A (y.2.2.2.2[A] ^^^ gg t.b))):=⟨_,rfl⟩;have e1:(rows bJ ys).set (j*3+2) (.slice (some ⟨bb,pre.length,none⟩) y.2.2.2.2.length lx)=rows bJ (ys.set j Y):=qx nz ys (i:=j) (k:=2) Y oT (by decide) (by rw[zY,wC];simp[bJ,bt]);rw[Nat.add_assoc,zL (by rw[nO];omega),e1]at I;have h8:=U.iY (n:=v.net.length) (c:=cN) (sz:=3) (I.jV bC) (by rw[iG nz,bt,oe]) ov O8;have h9:=((h8.pick (ah bS ys)).fo oT).tail;have HE:Sl 5 1 (some ⟨bb,pre.length,none⟩) y.2.2.2.2.length lx (bc (y.2.2.2.2.set A (y.2.2.2.2[A] ^^^ gg t.b)))=bS Y:=by rw[wC,bS];simp only[bt]
  have fP:=(h9.pick (ah bS (ys.eraseIdx j))).pick (Sl 5 1 (some ⟨bb,pre.length,none⟩) y.2.2.2.2.length lx (bc (y.2.2.2.2.set A (y.2.2.2.2[A] ^^^ gg t.b))));rw[HE]at fP;have m9:=U.kY (f:=bS) oT fP;refine bK.C6 (adP:=adP) (cP:=cP) (adN:=some ⟨bC,vL.length,none⟩) (cN:=cN) (adE:=adE) (cE:=cE) (ys:=ys.set j Y) eH da eK (by rw[jx,lY,wC]) ?_;rw[bt];exact m9.sub
 refine RN 0 E I λa E=>?_;refine cc (M:=λa w=>∃ (ch:Option Addr) (cM:Nat) (zs:List Mx) (Z:SP),((zs.map (·.2.2)=(if t.fn=5 then v.net else v.net.eraseIdx j)∧(∀ V L',U W V (ah bS zs::Z::L')→aL V y.1 y.2.2.2.2.length y.2.2.2.2)∧y.2.2.2.2.length≤y.2.1)∧Fr a 103 [(0,pt D.wb),(3,pt b3),(5,pt b5)])∧U W w (aa b5 60 (bJ y)::aa b3 58 (dY t)::Sl 60 3 ch zs.length cM (rows bJ zs)::ah bS zs::Z::aa D.wb 40 [pt D.mb,.slice adP xs.length cP,.slice ch zs.length cM,.slice adE es.length cE]::Sl 34 1 adP xs.length cP (xs.map dM)::ah (dm W p) xs::Sl 70 1 adE es.length cE (es.map bw)::ah fj es::L)) ?_ ?_
 ·
  refine IF 4 E I (λbj a E=>?_) λbj a E=>?_
  ·
   refine RN 0 E I λa E=>?_;have pO:=((I.pick (Sl 60 3 (some ⟨bC,on,none⟩) v.net.length cN (rows bJ ys))).sl (some ⟨bC,on,none⟩)).2;refine a1 0 (λw0 V=>Rd V b3 0 (dY t)∧Rd V D.wb 0 [pt D.mb,.slice adP xs.length cP,.slice (some ⟨bC,on,none⟩) v.net.length cN,.slice adE es.length cE]) [6,8,13,15,16,17] [0,1,2,3,5,7,10,11,12,14,3004,3006,3008,9,3013,1015,1016,1017,1018,19,20,1021] E I λa w E I hH=>?_;have hC:=hH.at w ⟨I.ai (b:=b3),I.ai (b:=D.wb)⟩;refine RH 10 E I hH hC λa E=>?_;refine QH E (λw hc=>ae E (hc.2 2 _ rfl)) hC λa E=>?_;refine QH E (λw hc=>ae E (hc.1 3 _ rfl)) hC λa E=>?_;rw[gL]at E;refine RH 0 E I hH hC λa E=>?_;refine QH E (λw hc=>ae E (hc.1 3 _ rfl)) hC λa E=>?_;rw[gL]at E;refine RH 1 E I hH hC λa E=>?_;refine QH E (λw hc=>ae E (hc.2 2 _ rfl)) hC λa E=>?_;refine RH 0 E I hH hC λa E=>?_;refine SS E (ae E (hC.1 3 _ rfl)) λa E=>?_;rw[gL]at E;refine RH 2 E I hH hC λa E=>?_;have adn:e6 (some ⟨bC,on,none⟩) 0 j 3=some ⟨bC,on,none⟩:=by
    by_cases h0:j=0
    ·subst h0;rfl
    ·rw[po h0,Nat.zero_mul,Nat.add_zero]
   have xC:rows bJ ys=rows bJ (ys.take j)++rows bJ (ys.drop j):=by rw[← kz,jW]
   have ado:rows bJ ys=rows bJ (ys.take (j+1))++rows bJ (ys.drop (j+1)):=by rw[← kz,jW]
   have dh:Rd w bC (on+(j+1)*3) (rows bJ (ys.drop (j+1))):=by
    have h1:Rd w bC on (rows bJ ys):=I.cJ bC on (by omega);have h2:=h1.part ((j+1)*3) ((ys.length-(j+1))*3);rw[ado,List.drop_left' (by rw[iG nz,dH];omega),fO (by rw[iG nz,c4];omega)]at h2;exact h2
   obtain⟨jl,vL,O7,⟨nO,ov,ts,O8⟩,gG⟩:=(I.pick (Sl 60 3 (some ⟨bC,on,none⟩) v.net.length cN (rows bJ ys))).lZ (by omega);obtain⟨rfl,rfl⟩:bC=jl∧on=vL.length:=by simpa using ts
   rw[xC,← dA vL,dA _ _ O7]at gG;replace I:=U.iY (n:=j) (c:=j) (sz:=3) gG (by rw[iG nz,dH];omega) (bh _) (by omega);clear gG;rw[adn]at E;refine g3 E rfl I underlying37 Ty.t60 rfl rfl (by decide) (λh0=>⟨bC,vL.length+(j+1)*3,po (by omega),dh⟩) (by rw[iG nz,c4];omega) (An ZX _) (by omega) λadp c86 a w E I=>?_;rw[← kz,← sR]at I;have sC:j+(v.net.length-(j+1))=(ys.eraseIdx j).length:=by rw[List.length_eraseIdx_of_lt (by omega)];omega
   rw[sC]at I E;refine ST 2 E I (λa w E I=>?_);refine RN 0 E I λa E=>?_;obtain⟨oT,zY⟩:=aZ.1 hy;have h1:=(I.pick (ah bS ys)).fo oT;rw[zY]at h1;have o6:y.2.2.2.2.length≤y.2.1:=(U.sl (L:=bS y::_) (k:=(fk.head:fk (Sl 5 1 y.1 y.2.2.2.2.length y.2.1 (bc y.2.2.2.2)::_) y.1 _ _ _ _ _ _)) h1 y.1).2;refine⟨adp,c86,ys.eraseIdx j,bS y,⟨⟨?_,λV L' h=>?_,o6⟩,E.ab [0,3,5]⟩,h1.sub⟩
   ·rw[ag (by omega),← lY];simp only[sR,cS,map_take,map_drop]
   ·have h2:=h.pick (bS y);exact U.cr (L:=bS y::_) h2 _ _ (k:=(fk.head:fk (Sl 5 1 y.1 y.2.2.2.2.length y.2.1 (bc y.2.2.2.2)::_) y.1 _ _ _ _ _ _)) rfl rfl
  refine RN 0 E I λa E=>?_;obtain⟨oT,zY⟩:=aZ.1 hy;have o6:y.2.2.2.2.length≤y.2.1:=by
   have h1:=(I.pick (ah bS ys)).fo oT;rw[zY]at h1;exact (U.sl (L:=bS y::_) (k:=(fk.head:fk (Sl 5 1 y.1 y.2.2.2.2.length y.2.1 (bc y.2.2.2.2)::_) y.1 _ _ _ _ _ _)) h1 y.1).2
  refine⟨some ⟨bC,on,none⟩,cN,ys,Sl 5 1 none 0 0 [],⟨⟨by rw[ak (by omega)];exact lY,λV L' h=>HW h hy,o6⟩,E.ab [0,3,5]⟩,?_⟩;rw[oe];exact (I.bR 5 1 none).sub
 clear E;(try clear I);rintro a w ⟨ch,cM,zs,Z,⟨⟨q4,adr,o6⟩,E⟩,I⟩;refine IF 5 E I (λbO a E=>?_) λbO a E=>?_
 ·
  refine RT 2 E I ?_;have jt:zs.length=(v.net.eraseIdx j).length:=by rw[← bf (f:=(·.2.2)),q4,ag (by omega)]
  rw[HK (by assumption) gL hm];rw[ag (by omega)]at q4;refine⟨rfl,?_⟩;refine bK.C6 (adP:=adP) (cP:=cP) (adN:=ch) (cN:=cM) (adE:=adE) (cE:=cE) (ys:=zs) eH da eK q4 ?_;rw[← jt];exact I.sub
 refine RN 1 E I λa E=>?_;obtain⟨x,hx⟩:∃ x,xs[y.2.2.2.1]?=some (x,aq v y.2.2.2.1):=C1 da (by omega);have uc:(xs.map dM)[y.2.2.2.1]?=some (pt x.pb):=by rw[bm,hx];rfl
 obtain⟨bp,op,rfl,_⟩:=(I.pick (Sl 34 1 adP xs.length cP (xs.map dM))).bY adP (by omega);refine a1 0 (λw0 V=>(Rd V b5 0 (bJ y)∧Rd V D.wb 0 [pt D.mb,.slice (some ⟨bp,op,none⟩) xs.length cP,.slice ch zs.length cM,.slice adE es.length cE])∧Rd V bp op (xs.map dM)) [5,9] [0,1,2,4,8,3003,3005,6,3007,1009,1010,11] E I λa w E I hH=>?_;have hC:=hH.at w ⟨⟨I.ai (b:=b5),I.ai (b:=D.wb)⟩,I.cJ bp op (by omega)⟩;refine RH 5 E I hH hC λa E=>?_;refine QH E (λw hc=>ae E (hc.1.2 1 _ rfl)) hC λa E=>?_;refine QH E (λw hc=>ae E (hc.1.1 1 _ rfl)) hC λa E=>?_;refine RH 1 E I hH hC λa E=>?_;refine QH E (λw hc=>ae E (hc.2 _ _ uc)) hC λa E=>?_;refine RH 0 E I hH hC λa E=>?_;refine SS E (ae E (hC.1.1 2 _ rfl)) λa E=>?_;replace I:=C3 (I.pick (ah (dm W p) xs)) hx;refine RH 0 E I hH hC λa E=>?_;refine CL 0 E I (abP (bs:=y.2.2.2.2) (I.pick (b9 W x p (aq v y.2.2.2.1))) hw a7 aE (by omega) o6 (λV dg=>adr V _ ((dg.pick Z).pick (ah bS zs)))) λa w E I=>?_;refine RN 1 E I λa E=>?_;refine RT 0 E I ?_;rw[CT (by omega) (by omega) gL hm];refine⟨rfl,?_⟩;have jt:zs.length=(if t.fn=5 then v.net else v.net.eraseIdx j).length:=by rw[← bf (f:=(·.2.2)),q4]
 have h1:=bU.close ((I.pick (ah bS zs)).pick (Sl 60 3 ch zs.length cM (rows bJ zs))) q4 jt.symm;refine bK.put (adP:=some ⟨bp,op,none⟩) (cP:=cP) (adN:=ch) (cN:=cM) (adE:=adE) (cE:=cE) eH da eK hx (if t.fn=5 then v.net else v.net.eraseIdx j) ?_;rw[← jt];exact h1.sub
end
end
section
section
variable {W w:World}{L:List SP}{c:Nat}{p:Pr}{v:Wd}{D:oc}{t:fB}{cf:Cf}
theorem ads (I:U W w (bK W D p v::L))(hv:bB p cf c v)(a7:dq p)(aE:p.title.size≤1000000000)(hf:t.fn=3∨t.fn=4∨t.fn=5∨t.fn=6) :
   Calls prog 70 #[pt D.wb,.agg (dY t).toArray] w λe V=>e=.returned (.int .i64 (gp p t v).1)∧U W V (bK W D p (gp p t v).2::L):=by
 by_cases h0:t.n<0∨(v.net.length:Int)≤t.n
 ·rw[OI h0];exact adl I h0
 ·exact adm (j:=t.n.toNat) I hv a7 aE hf (by omega) (aD (by omega))
theorem adt (I:U W w (bK W D p v::L))(hv:bB p cf c v)(a7:dq p)(aE:p.title.size≤1000000000)(hf:3≤t.fn∧t.fn≤6) :
   Calls prog 50 #[pt D.wb,.agg (dY t).toArray] w λe V=>e=.returned (.int .i64 (br p t v).1)∧U W V (bK W D p (br p t v).2::L):=by
 have aT:br p t v=gp p t v:=by rw[br,ag (by omega),ak hf]
 rw[aT];refine EN func50 ntmps50 rfl rfl λa E=>?_;refine BX 1 E I λb3 a w E I=>?_;change U W w (aa b3 58 (dY t)::_) at I;refine RN 7 E I λa E=>?_;rw[bn (by omega)]at E;refine RN 4 E I λa E=>?_;rw[bn (by omega)]at E;refine RN 7 E I λa E=>?_;rw[dp (by omega)]at E;refine RN 4 E I λa E=>?_;rw[dp (by omega)]at E;refine CL 4 E I (ads (I.pick (bK W D p v)) hv a7 aE (by omega)) λa w E I=>?_;refine RT 1 E I ?_;exact⟨rfl,I.sub⟩
theorem adu (I:U W w (bK W D p v::L))(hv:bB p cf c v)(a7:dq p)(aE:p.title.size≤1000000000)(hc:c≤1000000) :
   Calls prog 50 #[pt D.wb,.agg (dY t).toArray] w λe V=>e=.returned (.int .i64 (br p t v).1)∧U W V (bK W D p (br p t v).2::L):=by
 by_cases hf:3≤t.fn∧t.fn≤6
 ·exact adt I hv a7 aE hf
 ·exact adk I hv a7 aE hc hf
end
end
section
section
variable {W w:World}{L:List SP}{c i:Nat}{p:Pr}{v:Wd}{B:jH}
theorem adv (I:U W w (aR W B p c v::L))(hi:i<v.ps.length)(sC:v.ev.length=v.ps.length)(hl:(v.ev.getD i []).length≤1000000000) :
   Calls prog 34 #[pt B.mb,.int .i64 i] w λe V=>∃ ad c',e=.returned (.slice ad (v.ev.getD i []).length c')∧U W V (Sl 135 1 ad (v.ev.getD i []).length c' ((v.ev.getD i []).map cz)::aR W B p c v::L):=by
 replace I:=aR.xL I;obtain⟨adL,cL,adE,cE,xs,es,⟨h1,h2,h3⟩,I⟩:=I;have b0:xs.length=v.ps.length:=by rw[← h2,bf]
 have adw:es.length=v.ps.length:=by rw[← sC,← h3,bf]
 obtain⟨iA,iB,l,ly⟩:∃ iA iB l,es[i]?=some (iA,iB,l):=⟨_,_,_,aD (by omega)⟩;obtain⟨xO,pg⟩:=aZ.1 ly;have qT:v.ev.getD i []=l:=by rw[← h3,bl,bm,ly];rfl
 rw[qT]at hl ⊢;refine EN func34 ntmps34 rfl rfl λa E=>?_;refine CL 6 E I (sB ((I.pick (Sl 81 1 adL xs.length cL (xs.map cC))).pick (aa B.mb 107 [.slice adL xs.length cL,pt B.q,.slice adE es.length cE])) (by omega)) λa w E I=>?_;refine RN 1 E I λa E=>?_;replace E:=E.aK 8;refine RN 2 E I λa E=>?_;obtain⟨iV,oE,rfl,ia⟩:=(I.pick (Sl 90 1 adE es.length cE (es.map bw))).bY adE (by omega);have l9:=ia i (.slice iA l.length iB) (by rw[bm,ly];rfl);refine RN 6 E I λa E=>?_;refine SS E (ae E (l9)) λa E=>?_;replace I:=(I.pick (ah eN es)).fo xO;rw[pg]at I;change U W w (Sl 135 1 iA l.length iB (l.map cz)::_) at I;refine aX 0 E I (OE I hl) λad2 c2 a w E I=>?_;refine RT 1 E I ?_;refine⟨ad2,c2,rfl,?_⟩;have h4:=(I.pick (ah eN (es.eraseIdx i))).pick (Sl 135 1 iA l.length iB (l.map cz));have h5:U W w (ah eN es::_):=U.xI (f:=eN) xO (by rw[pg];exact h4);have h6:U W w (aR W B p c v::Sl 135 1 ad2 l.length c2 (l.map cz)::L):=aR.vG (adL:=adL) (cL:=cL) (adE:=some ⟨iV,oE,none⟩) (cE:=cE) (xs:=xs) (es:=es) h5.sub h1 h2 h3;exact h6.sub
end
end
section
def qk (v:Wd):Prop:=∀ i,i<v.ps.length→(aq v i).k.ev=[]
theorem adx {v:Wd}{i:Nat}(hi:i<v.ps.length)(hl:v.ev.length=v.ps.length)(h:(aq v i).k.ev=[]):tX i v=v:=by
 have h1:(⟨{ (aq v i).k with ev:=[] },(aq v i).g⟩:Pl)=v.ps[i]:=by
  rw[show ({ (aq v i).k with ev:=[] }:Ks)=(aq v i).k from by rw[← h]];show aq v i=_;rw[aq,bl,aD hi];rfl
 have h2:v.ev.getD i []++(aq v i).k.ev=v.ev[i]'(by omega):=by
  rw[h,append_nil,bl,aD (by omega)];rfl
 rw[tX,h1,h2,mE,mE]
theorem O9 {v:Wd}(hl:v.ev.length=v.ps.length)(h:qk v):∀ i,i≤v.ps.length→cj v i=v
 | 0,_=>rfl
 | i+1,hi=>by
  show tX i (cj v i)=v;rw[O9 hl h i (by omega)];exact adx (by omega) hl (h i (by omega))
theorem Pa {v:Wd}(hl:v.ev.length=v.ps.length)(h:qk v):kT v=v:=O9 hl h _ (bh _)
theorem Pb (v:Wd):qk (kT v):=λi hi=>by
 have h1:i<v.ps.length:=by rw[kT,(q6 v _).1]at hi;exact hi
 rw[kT,zK v (bh _),ak h1]
theorem ady {p:Pr}{t:fB}{v:Wd}(h:t.fn=7):(br p t v).2=v:=by
 rw[br,ag (by omega),ag (by omega),gh];split
 ·rfl
 ·rw[ag (by omega),ag (by omega),ag (by omega)]
theorem adz {p:Pr}{t:fB}{v:Wd}(h:qk v):qk (ds p t v):=by
 unfold ds;split
 ·exact h
 ·exact Pb _
section
variable {W w:World}{L:List SP}{c i:Nat}{p:Pr}{v:Wd}{B:jH}{D:oc}{t:fB}{cf:Cf}
theorem Pc {mb:Nat}(hmb:mb=B.mb)(I:U W w (aR W B p c v::L))(hB:B.Ok p (c+10))(hv:bB p cf c v)(ka:9*c+100≤1000000000) :
   Calls prog 29 #[pt mb,.agg (dY t).toArray] w λe V=>∃ z:Int,e=.returned (.int .i64 z)∧(t.fn≠7→z=(br p t v).1)∧(t.fn=7→CV B t v z)∧U W V (aR W B p (c+10) (kT (br p t v).2)::L):=by
 subst hmb;exact OK I hB hv ka
set_option maxHeartbeats 2000000 in
theorem adA (I:U W w (aR W B p c v::bK W D p v::L))(xP:D.mb=B.mb)(hB:B.Ok p (c+10))(hv:bB p cf c v)(wU:qk v)(ka:9*c+100≤1000000000)
   (Pd:∀ (w:World) (u:Wd),bB p cf (c+10) u→qk u→U W w (aR W B p (c+10) u::bK W D p u::L)→Calls prog 33 #[pt D.wb] w λe V=>e=.returned (.bool true)∧U W V (aR W B p (c+10) u::bK W D p u::L)) :
   Calls prog 32 #[pt D.wb,.agg (dY t).toArray] w λe V=>e=.returned (.bool true)∧U W V (aR W B p (c+10) (ds p t v)::bK W D p (ds p t v)::L):=by
 have ng:=hB.c;have hu:=hv.step (s:=t);refine EN func32 ntmps32 rfl rfl λa E=>?_;refine BX 1 E I λb3 a w E I=>?_;change U W w (aa b3 58 (dY t)::_) at I;refine IF 6 E I (λaj a E=>?_) λaj a E=>?_
 ·
  refine RN 1 E I λa E=>?_;replace I:=bK.open (I.pick (bK W D p v));obtain⟨adP,cP,adN,cN,adE,cE,xs,es,⟨eH,da,eK⟩,I⟩:=I;refine bW 0 [4] [0,1,2,3003,1004,1005] E I λa w E I hH hC=>?_;refine RH 5 E I hH hC λa E=>?_;refine aW 0 E I (Pc xP (I.pick (aR W B p c v)) hB hv ka) λz a w E ⟨_,_,I⟩=>?_;refine RN 1 E I λa E=>?_;rw[ady (by assumption),Pa hv.ev wU]at I;replace I:=bK.close (v:=v) (D:=D) (I.sub (M:=aa D.wb 40 [pt D.mb,.slice adP xs.length cP,.slice adN v.net.length cN,.slice adE es.length cE]::Sl 34 1 adP xs.length cP (xs.map dM)::ah (dm W p) xs::bU 60 adN v.net.length cN v.net::Sl 70 1 adE es.length cE (es.map bw)::ah fj es::aR W B p (c+10) v::L)) eH da eK;refine CL 1 E I (Pd _ v (hv.more (by omega)) wU (I.pick (aR W B p (c+10) v))) λa w E I=>?_;refine RT 1 E I ?_;rw[ds,ak (by assumption)];exact⟨rfl,I⟩
 refine CL 3 E I (adu (I.pick (bK W D p v)) hv hB.pr hB.sz (by omega)) λa w E I=>?_;refine RN 3 E I λa E=>?_;generalize Pf:(br p t v).2=u at I hu;replace I:=bK.open (I.pick (bK W D p u));obtain⟨adP,cP,adN,cN,adE,cE,zS,zT,⟨eH,da,eK⟩,I⟩:=I;have b0:zS.length=u.ps.length:=by rw[← da,bf]
 have sC:zT.length=u.ps.length:=by rw[← hu.ev,← eK,bf]
 have xz:=hu.len;refine bW 0 [4] [0,1,2,6,3003,1004,1005,7] E I λa w E I hH hC=>?_;refine RH 6 E I hH hC λa E=>?_;refine aW 0 E I (Pc xP (I.pick (aR W B p c v)) hB hv ka) λz a w E ⟨cv,_,I⟩=>?_;rw[cv (by assumption)]at E;rw[Pf]at I;refine RN 1 E I λa E=>?_;rw[bn (by simp)]at E;refine RN 4 E I λa E=>?_;refine aQ (λμ a w=>∃ (i:Nat) (xs:List (gf×Pl)) (es:List ko),(μ=u.ps.length-i∧(i≤u.ps.length∧xs.length=u.ps.length∧es.length=u.ps.length)∧xs.map (·.1)=D.mZ∧xs.map (·.2)=(cj u i).ps∧es.map (·.2.2)=(cj u i).ev)∧Fr a 65 [(0,pt D.wb),(6,.int .i64 i)]∧U W w (aa D.wb 40 [pt D.mb,.slice adP u.ps.length cP,.slice adN u.net.length cN,.slice adE u.ps.length cE]::Sl 34 1 adP u.ps.length cP (xs.map dM)::ah (dm W p) xs::bU 60 adN u.net.length cN u.net::Sl 70 1 adE u.ps.length cE (es.map bw)::ah fj es::aR W B p (c+10) (kT u)::L)) (u.ps.length) (⟨0,zS,zT,⟨rfl,⟨by omega,b0,sC⟩,eH,da,eK⟩,E.ab [0,6],(by rw[b0,sC]at I;exact I.sub)⟩) ?_;clear E I;rintro μ a w ⟨i,xs,es,⟨rfl,⟨hi,zU,zV⟩,u5,tA,qS⟩,E,I⟩;refine IF 9 E I (λay a E=>?_) λay a E=>?_
 ·
  have aF:i<u.ps.length:=by omega
  obtain⟨x,hx⟩:∃ x,xs[i]?=some (x,(aq (cj u i) i)):=C1 tA (by omega);have uc:(xs.map dM)[i]?=some (pt x.pb):=by rw[bm,hx];rfl
  have hd:=hu.cj (i:=i) (by omega);obtain⟨hw,dd,xK⟩:=hd.pl i (by rw[(q6 u i).1];exact aF);have HM:=hd.kQ;have OL:=hw.wc.kQ;obtain⟨iA,iB,l,ly⟩:∃ iA iB l,es[i]?=some (iA,iB,l):=⟨_,_,_,aD (by omega)⟩;obtain⟨_,pg⟩:=aZ.1 ly;have g5:l.length≤9*(c+2):=(HM l (by rw[← qS];exact cV.2 ⟨(iA,iB,l),by rw[← pg];exact iI _,rfl⟩)).1;refine RN 1 E I λa E=>?_;obtain⟨bp,op,rfl,_⟩:=(I.pick (Sl 34 1 adP u.ps.length cP (xs.map dM))).bY adP (by omega);obtain⟨iV,oE,rfl,_⟩:=(I.pick (Sl 70 1 adE u.ps.length cE (es.map bw))).bY adE (by omega);replace I:=b9.open (C3 (I.pick (ah (dm W p) xs)) hx);refine a1 0 (λw0 V=>(Rd V D.wb 0 [pt D.mb,.slice (some ⟨bp,op,none⟩) u.ps.length cP,.slice adN u.net.length cN,.slice (some ⟨iV,oE,none⟩) u.ps.length cE]∧Rd V iV oE (es.map bw))∧Rd V bp op (xs.map dM)∧Rd V x.pb 0 (e4 p x (aq (cj u i) i).g)) [8,10,11,15,17,18,19,20,21,22,23] [0,1,2,4,5,6,7,9,12,13,14,16,3003,3008,3010,3011,1015,1017,1018,1019,1020,1021,1022,1023,24,1025] E I λa w E I hH=>?_;have hC:=hH.at w ⟨⟨I.ai (b:=D.wb),I.cJ iV oE (by omega)⟩,I.cJ bp op (by omega),I.ai (b:=x.pb)⟩;refine RH 12 E I hH hC λa E=>?_;refine QH E (λw hc=>ae E (hc.1.1 3 _ rfl)) hC λa E=>?_;refine QH E (λw hc=>ae E (hc.1.1 3 _ rfl)) hC λa E=>?_;refine RH 1 E I hH hC λa E=>?_;refine QH E (λw hc=>ae E (hc.1.2 i (.slice iA l.length iB) (by rw[bm,ly];rfl))) hC λa E=>?_;refine RH 0 E I hH hC λa E=>?_;refine SS E (ae E (hC.1.1 1 _ rfl)) λa E=>?_;refine RH 1 E I hH hC λa E=>?_;refine SS E (ae E (hC.2.1 i _ uc)) λa E=>?_;refine RH 2 E I hH hC λa E=>?_;refine SS E (ae E (hC.2.2 0 _ rfl)) λa E=>?_;refine RH 0 E I hH hC λa E=>?_;refine aX 0 E I (abo (I.pick (a2 x.core (aq (cj u i) i).k))) λam jI a w E I=>?_;replace hC:=hH.at w ⟨⟨I.ai (b:=D.wb),I.cJ iV oE (by omega)⟩,I.cJ bp op (by omega),I.ai (b:=x.pb)⟩;replace I:=(I.pick (ah fj es)).fo (i:=i) (by omega);rw[pg]at I;change U W w (Sl 102 3 iA l.length iB (rows bZ l)::_) at I;refine RH 0 E I hH hC λa E=>?_;refine g3 E rfl I underlying70 Ty.t102 rfl rfl (by decide) (λh0=>(I.pick (Sl 102 3 am (aq (cj u i) i).k.ev.length jI (rows bZ (aq (cj u i) i).k.ev))).bY am h0) (by rw[iG B2]) (An Gg _) (by omega) λxQ xR a w E I=>?_;replace hC:=hH.at w ⟨⟨I.ai (b:=D.wb),I.cJ iV oE (by omega)⟩,I.cJ bp op (by omega),I.ai (b:=x.pb)⟩;have hcE:=((I.pick (Sl 70 1 (some ⟨iV,oE,none⟩) u.ps.length cE (es.map bw))).sl (some ⟨iV,oE,none⟩)).2;obtain⟨jl,pre,post,⟨h3,h4,h5,h6⟩,gG⟩:=(I.pick (Sl 70 1 (some ⟨iV,oE,none⟩) u.ps.length cE (es.map bw))).lZ (by omega);replace I:=gG;clear gG;obtain⟨rfl,rfl⟩:iV=jl∧oE=pre.length:=by simpa using h5
  refine RH 1 E I hH hC λa E=>?_;refine ST 0 E I (λa w E I=>?_) (hlt:=(by simp only[aN,bf];omega));refine RN 3 E I λa E=>?_;have qT:(cj u i).ev.getD i []=l:=by rw[← qS,bl,bm,ly];rfl
  have HN:(es.map bw).set i (.slice xQ (l.length+(aq (cj u i) i).k.ev.length) xR)=(es.set i (xQ,xR,l++(aq (cj u i) i).k.ev)).map bw:=by
   rw[jx,bw,aN]
  have cI:=I;rw[zL (by rw[bf];omega),HN]at cI;replace cI:=U.iY (n:=u.ps.length) (c:=cE) (sz:=1) (cI.jV iV) (by rw[bf,bt];omega) h4 h6;have zM:=b9.fold cI x p ⟨{ (aq (cj u i) i).k with ev:=[] },(aq (cj u i) i).g⟩;have hk:=U.kY (f:=dm W p) (x:=(x,⟨{ (aq (cj u i) i).k with ev:=[] },(aq (cj u i) i).g⟩)) (i:=i) (by omega) ((zM.pick (ah (dm W p) (xs.eraseIdx i))).pick (b9 W x p ⟨{ (aq (cj u i) i).k with ev:=[] },(aq (cj u i) i).g⟩));have p7:Sl 102 3 xQ (l.length+(aq (cj u i) i).k.ev.length) xR (rows bZ l++rows bZ (aq (cj u i) i).k.ev)=fj (xQ,xR,l++(aq (cj u i) i).k.ev):=by
   rw[fj,aN,kz]
  have hq:=(hk.pick (ah fj (es.eraseIdx i))).pick (Sl 102 3 xQ (l.length+(aq (cj u i) i).k.ev.length) xR (rows bZ l++rows bZ (aq (cj u i) i).k.ev));rw[p7]at hq;have ew:=U.kY (f:=fj) (i:=i) (by omega) hq;refine⟨u.ps.length-(i+1),by omega,i+1,xs.set i (x,⟨{ (aq (cj u i) i).k with ev:=[] },(aq (cj u i) i).g⟩),es.set i (xQ,xR,l++(aq (cj u i) i).k.ev),⟨rfl,⟨by omega,by rw[bt];exact zU,by rw[bt];exact zV⟩,(C5 hx).2.trans u5,?_,?_⟩,E.ab [0,6],?_⟩
  ·rw[jx,tA];rfl
  ·rw[jx,qS,← qT];rfl
  ·rw[(C5 hx).1];exact ew.sub
 refine RN 1 E I λa E=>?_;obtain rfl:i=u.ps.length:=by omega
 have eQ:ds p t v=kT u:=by rw[ds,ag (by assumption),Pf]
 rw[eQ];have hD:U W w (bK W D p (kT u)::aR W B p (c+10) (kT u)::L):=by
  refine bK.close (adP:=adP) (cP:=cP) (adN:=adN) (cN:=cN) (adE:=adE) (cE:=cE) (xs:=xs) (es:=es) ?_ u5 tA qS;rw[zU,zV,show (kT u).net=u.net from (q6 u _).2.1];exact I.sub
 replace I:=hD.pick (aR W B p (c+10) (kT u));refine CL 1 E I (Pd _ (kT u) (hu.drain.more (by omega)) (Pb u) I) λa w E I=>?_;refine RT 1 E I ?_;exact⟨rfl,I⟩
end
end
section
section
variable {p:Pr}{cf:Cf}{K:Int→Prop}{G G':List (List UInt8)}{v:Wd}{c i j x y:Nat}{n:Nat}{T:Nat→Nat}{net:List Ml}{ev:List (List kj)}{m:Ml}{q:Pk}{b:UInt8}
theorem vM (hi:i<n):aq (gM p cf n) i=eM p (dZ cf i):=by
 rw[aq,gM,bl,bm,getElem?_range hi];rfl
theorem vN:(gM p cf n).ps.length=n:=by rw[gM,bf,length_range]
theorem ud (h:ft cf)(hi:i<cf.n.toNat):ft (dZ cf i):=by
 obtain⟨⟨h1,h2,h3⟩,h4⟩:=h;refine⟨⟨h1,?_,h3⟩,h4⟩;show dE (i:Int) 0 (cf.n-1);unfold dE at h1 ⊢;omega
theorem HX (h:ft cf):bB p cf 0 (gM p cf cf.n.toNat):=by
 refine⟨h,vN,?_,λi hi=>?_,⟨Nat.zero_le _,λm hm=>by cases hm⟩,λe he=>?_⟩
 ·rw[vN];exact kC
 ·rw[vN]at hi;rw[vM hi];have h1:=ud h hi;obtain⟨mr,h2⟩:=vJ p h1;refine⟨cx.new h1,?_,by rw[h2];exact bh _⟩;rw[h2];exact (WC.new h1).2.2
 ·have h1:=C8 (show e∈List.replicate _ [] from he);subst h1;exact⟨Nat.zero_le _,λx hx=>by cases hx⟩
theorem Ph (h:ft cf):qk (gM p cf cf.n.toNat):=λi hi=>by
 rw[vN]at hi;rw[vM hi];obtain⟨mr,h2⟩:=vJ p (ud h hi);rw[h2];rfl
theorem C9 (h:ft cf)(hi:i<cf.n.toNat)(hj:j<cf.n.toNat):bG (gM p cf cf.n.toNat) i j=cf.aJ.toNat:=by
 rw[bG,vM hi];obtain⟨mr,h2⟩:=vJ p (ud h hi);rw[h2];show ((List.replicate cf.n.toNat (List.replicate cf.aJ.toNat (0:UInt8))).getD j []).length=_;rw[bl,List.getElem?_replicate,ak hj];exact kC
theorem Pj (h:ft cf)(hi:i<cf.n.toNat)(hj:j<cf.n.toNat):ar (eM p (dZ cf i)).k j=fG cf.aJ.toNat:=by
 obtain⟨mr,h2⟩:=vJ p (ud h hi);rw[h2,ar,bl];show ((List.replicate cf.n.toNat (fG cf.aJ.toNat))[j]?).getD _=_;rw[List.getElem?_replicate,ak hj];rfl
theorem c9.new (h:ft cf):c9 p cf K (List.replicate cf.n.toNat (List.replicate cf.aJ.toNat 0)) (gM p cf cf.n.toNat):=by
 have hl:=vN (p:=p) (cf:=cf) (n:=cf.n.toNat);refine⟨λi hi=>?_,λa b E hb CZ=>?_,λi hi=>?_,λm hm=>(by cases hm),λl hl e he=>?_,λi hi=>?_⟩
 ·rw[hl]at hi;rw[vM hi];have h1:=ud h hi;obtain⟨mr,h2⟩:=vJ p h1;refine⟨cx.new h1,by rw[h2];exact Ext.refl _,by rw[h2];rfl,λj hj=>?_⟩;have lC:j<cf.n.toNat:=by
   rw[h2]at hj;have:j<(List.replicate cf.n.toNat (fG cf.aJ.toNat)).length:=hj
   rwa [kC]at this
  rw[Pj h hi lC];exact⟨rfl,Nat.zero_le _,λh=>absurd h (by show ¬ 0<0;omega)⟩
 ·rw[hl]at E hb;rw[C9 h hb E,C9 h E hb,qh,vM E,Pj h E hb];exact⟨bh _,Nat.le_add_right _ _⟩
 ·rw[hl]at hi;rw[C9 h hi hi];have h1:cf.aJ.toNat≤aw (aq (gM p cf cf.n.toNat) i).k:=by
   rw[vM hi];obtain⟨mr,h2⟩:=vJ p (ud h hi);rw[h2];have hc:=(WC.new (ud h hi)).1;refine F1 hc.lr λl hl=>?_;have:=C8 (show l∈List.replicate cf.n.toNat (List.replicate cf.aJ.toNat (0:UInt8)) from hl);rw[this,kC];exact bh _
  omega
 ·have h1:=C8 (show l∈List.replicate _ [] from hl);subst h1;cases he
 ·rw[Ph h i hi] ;intro e he;cases he
structure Lv (p:Pr)(cf:Cf)(T:Nat→Nat)(v:Wd):Prop where
 ok:∃ c,bB p cf c v
 lX:∃ G,c9 p cf (·=1) G v
 op:∀ i,i<v.ps.length→(aq v i).k.cl=false∧(aq v i).k.now≤T i∧(aq v i).k.ev=[]
 ev:∀ l∈v.ev,l=[]
theorem Lv.calm (h:Lv p cf T v):qk v:=λi hi=>(h.op i hi).2.2
theorem Lv.still (h:Lv p cf T v):kT v=v:=by
 obtain⟨c,hv⟩:=h.ok;exact Pa hv.ev h.calm
theorem Lv.new (h:ft cf):Lv p cf (λ_=>0) (gM p cf cf.n.toNat):=⟨⟨0,HX h⟩,⟨_,c9.new h⟩,λi hi=>by
 rw[vN]at hi;rw[vM hi];obtain⟨mr,h2⟩:=vJ p (ud h hi);rw[h2];exact⟨rfl,bh _,rfl⟩,λl hl=>C8 (show l∈List.replicate _ [] from hl)⟩
theorem Lv.adB (h:Lv p cf T v)(hi:i<v.ps.length)(hj:j<v.ps.length):aw (aq v i).k≤bG v i j:=by
 obtain⟨c,hv⟩:=h.ok;exact xd (vb (by rw[(hv.pl i hi).1.wc.ls,hv.tY hi];exact hj))
theorem Lv.adC (h:Lv p cf T v)(hi:i<v.ps.length)(hx:∀ j,j<v.ps.length→x≤bG v i j):x≤aw (aq v i).k:=by
 obtain⟨c,hv⟩:=h.ok;refine F1 (hv.pl i hi).1.wc.lr λl hl=>?_;obtain⟨j,hj,rfl⟩:=za hl;rw[(hv.pl i hi).1.wc.ls,hv.tY hi]at hj;have:=hx j hj;rw[bG,bl,aD (by rw[(hv.pl i hi).1.wc.ls,hv.tY hi];exact hj)]at this;exact this
theorem Lv.front {h:Nat}(r4:Lv p cf T v)(hi:i<v.ps.length)(hx:∀ j,j<v.ps.length→h≤bG v i j)(hy:j<v.ps.length)(he:bG v i j=h):aw (aq v i).k=h :=
 Nat.le_antisymm (he ▸ r4.adB hi hy) (r4.adC hi hx)
theorem Lv.head (h:Lv p cf T v)(hi:i<v.ps.length):aH (aq v i).k=bG v i i:=by
 obtain⟨c,hv⟩:=h.ok;rw[aH,(hv.qi hi).1];rfl
theorem Lv.al (h:Lv p cf T v)(hi:i<v.ps.length)(b n:Int):Lv p cf T (ds p ⟨1,i,b,n⟩ v)∧(ds p ⟨1,i,b,n⟩ v).net=v.net∧(ds p ⟨1,i,b,n⟩ v).ps.length=v.ps.length ∧
   (∀ x y,bG (ds p ⟨1,i,b,n⟩ v) x y=bG v x y+if (x=i∧y=i)∧bG v i i<1000∧bG v i i<cf.bo.toNat+aw (aq v i).k then 1 else 0) ∧
   (bG v i i<1000∧bG v i i<cf.bo.toNat+aw (aq v i).k→(br p ⟨1,i,b,n⟩ v).1=0):=by
 obtain⟨c,hv⟩:=h.ok;obtain⟨G,jm⟩:=h.lX;obtain⟨eo,vI,bX,hn,_⟩:=hv.qi hi;have aT:br p ⟨1,i,b,n⟩ v=((dK p (gg b) (aq v i)).1,{ v with ps:=v.ps.set i (dK p (gg b) (aq v i)).2 }):=by
  rw[br,ag (by show ¬ ((1:Int)<1∨(8:Int)<1);omega),ag (by show ¬ ((3:Int)≤1∧(1:Int)≤6);omega),CQ rfl rfl hi]
 obtain⟨⟨G',h1⟩,h2⟩:=jm.al hv hi (gg b);have so:=hv.al hi (gg b);have wo:(dK p (gg b) (aq v i)).2.k.cl=(aq v i).k.cl∧(dK p (gg b) (aq v i)).2.k.now=(aq v i).k.now∧(dK p (gg b) (aq v i)).2.k.ev=(aq v i).k.ev:=by
  by_cases h0:(dK p (gg b) (aq v i)).1=0
  ·obtain⟨_,mr,hk⟩:=(jm.pl i hi).al h0;rw[hk];exact⟨rfl,rfl,rfl⟩
  ·rw[OP (hv.pl i hi).1 h0];exact⟨rfl,rfl,rfl⟩
 have r4:Lv p cf T { v with ps:=v.ps.set i (dK p (gg b) (aq v i)).2 }:=⟨⟨_,so⟩,⟨G',h1⟩,λj hj=>by
  have lC:j<v.ps.length:=by have:j<(v.ps.set i _).length:=hj;rwa [bt]at this
  rw[q5 hi];split
  ·rename_i e;subst e;rw[wo.1,wo.2.1,wo.2.2];exact h.op _ hi
  ·exact h.op j lC,h.ev⟩
 have eQ:ds p ⟨1,i,b,n⟩ v={ v with ps:=v.ps.set i (dK p (gg b) (aq v i)).2 }:=by
  rw[ds,ag (by show ¬ (1:Int)=7;omega),aT,r4.still]
 have Bn:(dK p (gg b) (aq v i)).1=0↔bG v i i<1000∧bG v i i<cf.bo.toNat+aw (aq v i).k:=by
  have hd:=h.head hi;show (cZ (gg b) (aq v i).k).1=0↔_;rw[cZ,ag (by rw[(h.op i hi).1];decide),← hd,← vI];split
  ·exact⟨λh=>absurd h (by intro e;cases e),λh=>by omega⟩
  ·split
   ·exact⟨λh=>absurd h (by intro e;cases e),λh=>by omega⟩
   ·exact⟨λ_=>by omega,λ_=>rfl⟩
 rw[eQ];refine⟨r4,rfl,bt,λx y=>?_,λh=>by rw[aT];exact Bn.2 h⟩;rw[h2];by_cases e:x=i∧y=i
 ·by_cases e2:(dK p (gg b) (aq v i)).1=0
  ·rw[ak ⟨e,e2⟩,ak ⟨e,Bn.1 e2⟩]
  ·rw[ag (λh=>e2 h.2),ag (λh=>e2 (Bn.2 h.2))]
 ·rw[ag (λh=>e h.1),ag (λh=>e h.1)]
noncomputable def ue (v:Wd)(i:Nat):List Ml:=((List.range v.ps.length).filter (·≠i)).map λj=>(i,j,aS (dV (aq v i).k j))
theorem adD {k:Ks}(hc:k.cl=false)(hn:k.now<39):bq k=((bI k).map λi=>(k.me,i,aS (dV k i)),{ k with now:=k.now+1 }):=by
 rw[bq,ag (by rw[hc];decide)];simp only;have:(bI { k with now:=k.now+1 }).find? (λi=>decide (jD { k with now:=k.now+1 } i))=none:=by
  rw[List.find?_eq_none];intro i _;rw[qs,jD];show ¬ (_+40≤k.now+1);omega
 rw[this];rfl
theorem Pm:∀ {l net:List Ml},net.length+l.length≤300→ez net l=net++l
 | [],net,_=>by rw[append_nil];rfl
 | m::l,net,h=>by
  rw[fm]at h;show ez (pa net m) l=_;rw[pa,ak (by omega),Pm (by rw[aN,jC];omega),dA];rfl
theorem Lv.tick (h:Lv p cf T v)(hT:T i<39)(hi:i<v.ps.length)(hf:v.net.length+v.ps.length≤300)(b n:Int):Lv p cf (λj=>if j=i then T j+1 else T j) (ds p ⟨2,i,b,n⟩ v)∧(ds p ⟨2,i,b,n⟩ v).net=v.net++ue v i∧(ds p ⟨2,i,b,n⟩ v).ps.length=v.ps.length ∧
   (∀ x y,bG (ds p ⟨2,i,b,n⟩ v) x y=bG v x y)∧(∀ m∈ue v i,sF m=bG v i i)∧(br p ⟨2,i,b,n⟩ v).1=0:=by
 obtain⟨c,hv⟩:=h.ok;obtain⟨G,jm⟩:=h.lX;obtain⟨eo,vI,bX,hn,_⟩:=hv.qi hi;have ho:=h.op i hi;have gi:=adD ho.1 (by omega);have gO:(bq (aq v i).k).1=ue v i:=by rw[gi,ue,bI,hn,eo]
 have mA:(ue v i).length≤v.ps.length:=by
  rw[ue,bf];exact gC (qE _ _) (by rw[length_range];exact bh _)
 have aT:br p ⟨2,i,b,n⟩ v=(0,{ v with ps:=v.ps.set i ⟨(bq (aq v i).k).2,(aq v i).g⟩,net:=ez v.net (bq (aq v i).k).1 }):=by
  rw[br,ag (by show ¬ ((2:Int)<1∨(8:Int)<2);omega),ag (by show ¬ ((3:Int)≤2∧(2:Int)≤6);omega),xJ rfl rfl hi]
 obtain⟨h1,h2⟩:=jm.tick hv hi rfl;have r4:Lv p cf (λj=>if j=i then T j+1 else T j) { v with ps:=v.ps.set i ⟨(bq (aq v i).k).2,(aq v i).g⟩,net:=ez v.net (bq (aq v i).k).1 }:=⟨⟨_,hv.tick hi⟩,⟨G,h1⟩,λj hj=>by
  have lC:j<v.ps.length:=by have:j<(v.ps.set i _).length:=hj;rwa [bt]at this
  rw[q5 hi];split
  ·rename_i e;subst e;show (bq (aq v i).k).2.cl=false∧(bq (aq v i).k).2.now≤_∧(bq (aq v i).k).2.ev=[];rw[gi];exact⟨ho.1,by show (aq v i).k.now+1≤if i=i then _ else _;rw[ak rfl];omega,ho.2.2⟩
  ·have:=h.op j lC;exact⟨this.1,by split <;> omega,this.2.2⟩,h.ev⟩
 have eQ:ds p ⟨2,i,b,n⟩ v={ v with ps:=v.ps.set i ⟨(bq (aq v i).k).2,(aq v i).g⟩,net:=ez v.net (bq (aq v i).k).1 }:=by
  rw[ds,ag (by show ¬ (2:Int)=7;omega),aT,r4.still]
 rw[eQ];refine⟨r4,?_,bt,λx y=>h2 x y,λm hm=>?_,by rw[aT]⟩
 ·show ez v.net (bq (aq v i).k).1=_;rw[gO,Pm (by omega)]
 ·rw[← gO]at hm;obtain⟨q,_,hq⟩:=jm.OY hv hi rfl hm;exact hq
theorem Lv.adF (h:Lv p cf T v)(wD:m∈v.net)(yF:∀ m∈net,m∈v.net)(hl:net.length≤v.net.length):Lv p cf T { v with ps:=v.ps.set m.2.1 (dL p m.2.2 (aq v m.2.1)).2,net:=net }∧(dL p m.2.2 (aq v m.2.1)).1=0 ∧
   (∀ x y,bG { v with ps:=v.ps.set m.2.1 (dL p m.2.2 (aq v m.2.1)).2,net:=net } x y=if x=m.2.1∧y=m.1 then max (bG v x y) (sF m) else bG v x y)∧m.1<v.ps.length∧m.2.1<v.ps.length∧m.1≠m.2.1:=by
 obtain⟨c,hv⟩:=h.ok;obtain⟨G,jm⟩:=h.lX;obtain⟨q,hq⟩:=jm.net m wD;obtain⟨h1,h2⟩:=jm.recv hv wD yF;have hi:=hq.lt.2;obtain⟨eo,vI,bX,hn,_⟩:=hv.qi hi;obtain⟨_,h0,mr,hk⟩:=(jm.pl _ hi).zh hq.lX (h.op _ hi).1 (by rw[hq.to,eo]) (by rw[hq.fr,hn];have:=hq.lt.1;omega) (by rw[hq.id,bX]) hq.kind;rw[← hq.bs]at h0 hk;have oM:=hv.net.1;refine⟨⟨⟨_,hv.recv hi m.2.2 (net:=net) (by omega) λm hm=>hv.net.2 m (yF m hm)⟩,⟨G,h1⟩,λj hj=>?_,h.ev⟩,h0,λx y=>?_,hq.lt.1,hi,λe=>hq.lX.may.2.2.1 (by rw[hq.fr,hq.to,e])⟩
 ·have lC:j<v.ps.length:=by have:j<(v.ps.set m.2.1 _).length:=hj;rwa [bt]at this
  rw[q5 hi];split
  ·rename_i e;subst e;rw[hk];exact h.op _ hi
  ·exact h.op j lC
 ·rw[h2];by_cases e:x=m.2.1∧y=m.1
  ·rw[ak ⟨e,(h.op _ hi).1⟩,ak e]
  ·rw[ag (λh=>e h.1),ag e]
theorem Pn (p:Pr){r:List Ml}(hm:v.net=m::r)(a b:Int):br p ⟨3,a,b,0⟩ v=((dL p m.2.2 (aq v m.2.1)).1,{ v with ps:=v.ps.set m.2.1 (dL p m.2.2 (aq v m.2.1)).2,net:=r }):=by
 rw[br,ag (by show ¬ ((3:Int)<1∨(8:Int)<3);omega),ak (by show (3:Int)≤3∧(3:Int)≤6;omega),CT (j:=0) (m:=m) (by show (3:Int)≠4;omega) (by show (3:Int)≠6;omega) rfl (by rw[hm];rfl)];show (_,Wd.mk _ (if (3:Int)=5 then v.net else v.net.eraseIdx 0) _)=_;rw[ag (by omega),hm];rfl
theorem Lv.send (h:Lv p cf T v){r:List Ml}(hm:v.net=m::r)(a b:Int):Lv p cf T (ds p ⟨3,a,b,0⟩ v)∧(ds p ⟨3,a,b,0⟩ v).net=r∧(ds p ⟨3,a,b,0⟩ v).ps.length=v.ps.length ∧
   (∀ x y,bG (ds p ⟨3,a,b,0⟩ v) x y=if x=m.2.1∧y=m.1 then max (bG v x y) (sF m) else bG v x y)∧(br p ⟨3,a,b,0⟩ v).1=0∧m.1<v.ps.length∧m.2.1<v.ps.length∧m.1≠m.2.1:=by
 obtain⟨h1,h2,h3,h4⟩:=h.adF (m:=m) (net:=r) (by rw[hm];exact jo) (λm' xH=>by rw[hm];exact gU _ xH) (by rw[hm,fm];omega);have eQ:ds p ⟨3,a,b,0⟩ v={ v with ps:=v.ps.set m.2.1 (dL p m.2.2 (aq v m.2.1)).2,net:=r }:=by
  rw[ds,ag (by show ¬ (3:Int)=7;omega),Pn p hm,h1.still]
 rw[eQ];exact⟨h1,rfl,bt,h3,by rw[Pn p hm];exact h2,h4⟩
end
end
section
section
variable {W w:World}{L:List SP}{c c' m i:Nat}{ad au:Option Addr}{ev:List (Nat×Nat×Nat)}{e:kj}{M:jF}{p:Pr}{s:Pl}{cf:Cf}
theorem adG (I:U W w (Sl 135 1 ad ev.length c (ev.map cz)::L))(hn:ev.length≤1000000000)(ho:∀ e∈ev,tD e):Calls prog 55 #[.slice ad ev.length c] w λr V=>∃ au c',r=.returned (.slice au ev.length c')∧U W V (Sl 102 3 au ev.length c' (rows bZ ev)::L):=by
 refine EN func55 ntmps55 rfl rfl λa E=>?_;refine RN 7 E I λa E=>?_;replace I:=I.bR 102 3 none;refine aQ (λμ a w=>∃ (i:Nat) (mT:Option Addr) (co:Nat),(μ=ev.length-i∧i≤ev.length)∧Fr a 20 [(0,.slice ad ev.length c),(3,.slice mT i co),(4,.int .i64 i)]∧U W w (Sl 102 3 mT i co (rows bZ (ev.take i))::Sl 135 1 ad ev.length c (ev.map cz)::L)) (ev.length) (⟨0,none,0,⟨rfl,by omega⟩,E.ab [0,3,4],(show U W w (Sl 102 3 none 0 0 (rows bZ (ev.take 0))::_) from I).sub⟩) ?_;clear E I;rintro μ a w ⟨i,mT,co,⟨rfl,hi⟩,E,I⟩;refine IF 6 E I (λaj a E=>?_) λaj a E=>?_
 ·
  have aF:i<ev.length:=by omega
  obtain⟨bi,oi,rfl,pS⟩:=(I.pick (Sl 135 1 ad ev.length c (ev.map cz))).bY ad (by omega);have fp:=pS i (cz ev[i]) (by rw[bm,aD aF];rfl);have Po:=ho _ (iI aF);generalize zF:ev[i]=x at fp Po;have l9:Rd w bi (oi+i) [cz x]:=by
   intro k v hk;cases k with
   | zero=>simp at hk;subst hk;exact fp
   | succ k=>simp at hk
  refine RN 5 E I λa E=>?_;refine SS E (bQ E underlying135 rfl Ty.t135 (l9)) λa E=>?_;refine CL 0 E I (ZQ I Po) λa w E I=>?_;refine RN 0 E I λa E=>?_;refine cn E rfl I underlying70 Ty.t102 rfl rfl rfl rfl (by decide) (by decide) λim a w E I ho=>?_;clear ho;refine RN 0 E I λa E=>?_;refine cK E rfl I underlying70 Ty.t102 rfl rfl I.ai rfl (λv hv=>Gg x v (by simpa using hv)) (by decide) (by decide) (by omega) λHc He a w E I=>?_;rw[show rows bZ (ev.take i)++_=rows bZ (ev.take (i+1)) from by rw[← List.take_append_getElem aF,kz,zF];rfl]at I;refine RN 4 E I λa E=>?_;exact⟨ev.length-(i+1),by omega,i+1,Hc,He,⟨rfl,by omega⟩,E.ab [0,3,4],I.sub⟩
 refine RT 3 E I ?_;obtain rfl:i=ev.length:=by omega
 rw[k0]at I;exact⟨mT,co,rfl,I.sub⟩
theorem adH (I:U W w (Sl 102 3 ad ev.length c (rows bZ ev)::Sl 102 3 au ev.length c' (rows bZ ev)::L))(hn:ev.length≤1000000000):Calls prog 54 #[.slice ad ev.length c,.slice au ev.length c'] w λr V=>r=.returned (.bool true)∧U W V (Sl 102 3 ad ev.length c (rows bZ ev)::Sl 102 3 au ev.length c' (rows bZ ev)::L):=by
 refine EN func54 ntmps54 rfl rfl λa E=>?_;refine RN 9 E I λa E=>?_;rw[bn (by omega)]at E;refine RN 4 E I λa E=>?_;refine aQ (λμ a w=>∃ (i:Nat),(μ=ev.length-i∧i≤ev.length)∧Fr a 27 [(0,.slice ad ev.length c),(1,.slice au ev.length c'),(5,.int .i64 i)]∧U W w (Sl 102 3 ad ev.length c (rows bZ ev)::Sl 102 3 au ev.length c' (rows bZ ev)::L)) (ev.length) (⟨0,⟨rfl,by omega⟩,E.ab [0,1,5],I⟩) ?_;clear E I;rintro μ a w ⟨i,⟨rfl,hi⟩,E,I⟩;refine IF 6 E I (λao a E=>?_) λao a E=>?_
 ·
  have aF:i<ev.length:=by omega
  refine RN 2 E I λa E=>?_;obtain⟨kK,ox,rfl,eS⟩:=I.drew.bY ad (by omega);obtain⟨vO,vP,rfl,lU⟩:=I.drew.tail.bY au (by omega);replace eS:=g8 B2 eS (aD aF);replace lU:=g8 B2 lU (aD aF);generalize ev[i]=x at eS lU;refine qy 0 (λV=>Rd V kK (ox+i*3) (bZ x)∧Rd V vO (vP+i*3) (bZ x)) [7] [0,1,2,4,5,6,3003,1007,1008,9] E I λa E=>?_;replace I:=I.drew;generalize w.drew=w at I eS lU ⊢;have hC:Rd w kK (ox+i*3) (bZ x)∧Rd w vO (vP+i*3) (bZ x):=⟨eS,lU⟩;have hH:=Hd.any (λV=>Rd V kK (ox+i*3) (bZ x)∧Rd V vO (vP+i*3) (bZ x));refine RH 6 E I hH hC λa E=>?_;refine QH E (λw hc=>bQ E underlying102 rfl Ty.t102 (hc.1)) hC λa E=>?_;refine RH 0 E I hH hC λa E=>?_;refine SS E (bQ E underlying102 rfl Ty.t102 (hC.2)) λa E=>?_;refine RH 0 E I hH hC λa E=>?_;refine CL 0 E I (abS I) λa w E I=>?_;refine RN 1 E I λa E=>?_;replace E:=E.aK 26;refine RN 4 E I λa E=>?_;exact⟨ev.length-(i+1),by omega,i+1,⟨rfl,by omega⟩,E.ab [0,1,5],I⟩
 refine RT 2 E I ?_;exact⟨rfl,I⟩
theorem adI (I:U W w (fw W M p cf i s::L)) :
   Calls prog 56 #[pt M.mb,.agg (bV cf).toArray] w λe V=>e=.returned (.bool true)∧U W V (fw W M p cf i s::L):=by
 replace I:=fw.open I;obtain⟨m,⟨rfl,hI,hc⟩,I⟩:=I;exact (acP I hI hc).mono λe V ⟨h1,h2⟩=>⟨h1,fw.close h2 hI (bh _) rfl hc⟩
end
end
section
def zZ (W:World)(p:Pr)(ad:Option Addr)(c:Nat):Prop:=(rows c6 p.ops).length=p.ops.length*4∧p.ops.length≤c∧(0<p.ops.length→∃ b off,ad=some ⟨b,off,none⟩∧b<W.heap.size∧Rd W b off (rows c6 p.ops))
def Da (W:World)(mZ:List gf)(cf:Cf)(tb:List UInt8):Prop:=∀ r∈mZ,r.gs=⟨cf.a8,cf.order,tb⟩∧aL W r.adT tb.length tb
section
variable {W w:World}{L:List SP}{n c cP cT i:Nat}{ad adP adT:Option Addr}{p:Pr}{tb:List UInt8}{cf:Cf}{jJ:Bool}
theorem zZ.ro (h:zZ W p ad c)(I:U W w L):U W w (az W p ad c::L):=I.J6 h.1 h.2.1 h.2.2
theorem Rd.lt {b off:Nat}{v:Value}{vs:List Value}(h:Rd w b off (v::vs)):b<w.heap.size:=by
 have h1:=h 0 v rfl;rcases gE b w.heap.size with h2 | h2
 ·exact h2
 ·rw[World.cell?]at h1;simp[h2]at h1
theorem U.roW (I:U W w (az W p ad c::L)):zZ w p ad c:=by
 obtain⟨h1,h2⟩:=I.ro ad;refine⟨h1,h2,λh0=>?_⟩;obtain⟨b,off,rfl,hr⟩:=I.rN ad h0;refine⟨b,off,rfl,?_,hr⟩;cases hl:rows c6 p.ops with
 | nil=>rw[hl]at h1;simp at h1;omega
 | cons v vs=>rw[hl]at hr;exact hr.lt
theorem Pp (I:U W w L):∀ n:Nat,U W w (ah fj (List.replicate n (none,0,[]))::L)
 | 0=>U.iZ I
 | n+1=>U.we (f:=fj) (x:=(none,0,[])) ((Pp I n).bR 102 3 none)
set_option maxHeartbeats 1000000 in
theorem Pq (eV:oa (dZ cf 0) p tb)(I:U W w L)(xS:zZ W p adP cP)(hn:tb.length=n)(a7:dq p)(aE:p.title.size≤1000000000)(dO:p.ops.length≤1000000000)(eU:tb.length≤1099511627776)(hT:∀ V,U W V []→aL V adT tb.length tb) :
   Calls prog 30 #[.agg (bV cf).toArray,.agg (bx p adP cP).toArray,.slice adT n cT,.bool jJ] w λr V=>∃ (B:jH) (D:oc),r=.returned (pt D.wb)∧(D.mb=B.mb∧vK B.fC cf tb jJ cf.n.toNat∧Da W D.mZ cf tb)∧U W V (aR W B p 0 (gM p cf cf.n.toNat)::bK W D p (gM p cf cf.n.toNat)::L):=by
 have pO:=eV.1.1.1;unfold dE at pO;obtain⟨N,hN⟩:∃ N:Nat,(dZ cf 0).n=N:=⟨(dZ cf 0).n.toNat,by omega⟩;replace hN:cf.n=N:=hN;have zX:2≤N∧N≤8:=by
  have h1:(dZ cf 0).n=cf.n:=rfl;omega
 have hTW:aL W adT tb.length tb:=hT W (U.start W);rw[show cf.n.toNat=N from by omega];refine EN func30 ntmps30 rfl rfl λa E=>?_;refine BX 1 E I λb4 a w E I=>?_;change U W w (aa b4 28 (bV cf)::_) at I;refine BX 0 E I λb5 a w E I=>?_;change U W w (aa b5 45 (bx p adP cP)::_) at I;refine ST 3 E I (λa w E I=>?_);refine RN 0 E I λa E=>?_;change U W w (aa b4 28 (bV (dZ cf 0))::_) at I;refine RN 5 E I λa E=>?_;replace I:=xS.ro I;refine aW 0 E I (O1 (cf:=dZ cf 0) eV I hn aE dO eU (λV dg=>hT _ dg.nil)) λB a w E ⟨hB,I⟩=>?_;refine RN 5 E I λa E=>?_;rw[show (dZ cf 0).n.toNat=N from by show cf.n.toNat=N;omega]at I hB;replace I:U W w (aR W B p 0 (gM p cf N)::az W p adP cP::_):=I;replace I:=I.sub (M:=aR W B p 0 (gM p cf N)::aa b4 28 (bV (dZ cf 0))::aa b5 45 (bx p adP cP)::L);refine RN 5 E I λa E=>?_;replace E:=E.aK 24;refine RN 3 E I λa E=>?_;replace E:=E.aK 27;refine RN 5 E I λa E=>?_;rw[show (dZ cf 0).n=(N:Int) from hN]at E;refine rv E rfl I underlying38 Ty.t70 rfl (by omega) (by omega) λuf a w E I ho=>?_;clear ho;rw[Cu _ rfl]at I;refine BX 1 E I λkg a w E I=>?_;refine RN 1 E I λa E=>?_;replace I:=U.iZ (f:=dm W p) (I.bR 34 1 none);refine RN 3 E I λa E=>?_;refine aQ (λμ a w=>∃ (i:Nat) (adL:Option Addr) (cL:Nat) (rs:List (gf×Pl)) (me:Int),(μ=N-i∧(i≤N∧rs.length=i)∧rs.map (·.2)=(List.range i).map (λi=>eM p (dZ cf i))∧Da W (rs.map (·.1)) cf tb)∧Fr a 56 [(2,.slice adT n cT),(4,pt b4),(5,pt b5),(11,pt kg),(12,.int .i64 i)]∧U W w (aa kg 40 [pt B.mb,.slice adL i cL,.slice none 0 0,.slice (some ⟨uf,0,none⟩) N N]::Sl 34 1 adL i cL (rs.map dM)::ah (dm W p) rs::aa uf 70 (List.replicate N (.slice none 0 0))::aa b4 28 (bV { cf with me:=me })::aa b5 45 (bx p adP cP)::aR W B p 0 (gM p cf N)::L)) (N) (⟨0,none,0,[],0,⟨rfl,⟨by omega,rfl⟩,rfl,λr h=>by cases h⟩,E.ab [2,4,5,11,12],(show U W w (ah (dm W p) []::Sl 34 1 none 0 0 (([]:List (gf×Pl)).map dM)::aa kg 40 _::aa uf 70 _::aR W B p 0 (gM p cf N)::aa b4 28 (bV { cf with me:=0 })::_) from I).sub⟩) ?_;clear E I;rintro μ a w ⟨i,adL,cL,rs,me,⟨rfl,⟨hi,ia⟩,eg,g2⟩,E,I⟩;refine RN 5 E I λa E=>?_;rw[hN]at E;refine IF 1 E I (λao a E=>?_) λao a E=>?_
 ·
  have aF:i<N:=by omega
  have HT:=OZ (i:=i) eV (by show (i:Int)<(dZ cf 0).n;rw[show (dZ cf 0).n=(N:Int) from hN];omega);refine ST 4 E I (λa w E I=>?_);refine RN 0 E I λa E=>?_;replace I:U W w (aa b4 28 (bV (dZ cf i))::_):=I;refine a1 0 (λw0 V=>Rd V kg 0 [pt B.mb,.slice adL i cL,.slice none 0 0,.slice (some ⟨uf,0,none⟩) N N]∧Rd V b4 0 (bV (dZ cf i))∧Rd V b5 0 (bx p adP cP)) [5,6,8,9] [0,1,2,3,7,3004,3005,1006,1008,1009,1010,11,12,1013] E I λa w E I hH=>?_;have hC:=hH.at w ⟨I.ai (b:=kg),I.ai (b:=b4),I.ai (b:=b5)⟩;refine RH 5 E I hH hC λa E=>?_;refine QH E (λw hc=>ae E (hc.1 1 _ rfl)) hC λa E=>?_;refine QH E (λw hc=>bQ E underlying28 rfl Ty.t28 (hc.2.1)) hC λa E=>?_;refine RH 0 E I hH hC λa E=>?_;refine SS E (bQ E underlying45 rfl Ty.t45 (hC.2.2)) λa E=>?_;replace I:=xS.ro I;refine RH 0 E I hH hC λa E=>?_;refine aW 0 E I (acB (cf:=dZ cf i) HT.1 I hn a7 aE) λr a w E ⟨hr,I⟩=>?_;replace hC:=hH.at w ⟨I.ai (b:=kg),I.ai (b:=b4),I.ai (b:=b5)⟩;refine RH 0 E I hH hC λa E=>?_;refine cn E rfl I underlying36 Ty.t34 rfl rfl rfl rfl (by decide) (by decide) λR8 a w E I ho=>?_;clear ho;replace hC:=hH.at w ⟨I.ai (b:=kg),I.ai (b:=b4),I.ai (b:=b5)⟩;refine RH 0 E I hH hC λa E=>?_;refine cK E rfl I underlying36 Ty.t34 rfl rfl I.ai rfl (by simp[Value.oneCell']) (by decide) (by decide) (by omega) λr7 r8 a w E I=>?_;rw[show List.map dM rs++_=(rs++[((r:gf),eM p (dZ cf i))]).map dM from by rw[cS];rfl]at I;refine ST 2 E I (λa w E I=>?_);refine RN 3 E I λa E=>?_;have kL:U W w (dm W p (r,eM p (dZ cf i))::_):=(I.pick (ah (dm W p) rs)).pick (b9 W r p (eM p (dZ cf i)));have hA:=U.jY (f:=dm W p) (x:=(r,eM p (dZ cf i))) kL;refine⟨N-(i+1),by omega,i+1,r7,r8,rs++[(r,eM p (dZ cf i))],i,⟨rfl,⟨by omega,by rw[aN,ia];rfl⟩,?_,?_⟩,E.ab [2,4,5,11,12],?_⟩
  ·rw[cS,eg,range_succ,cS];rfl
  ·intro x hx;rw[cS]at hx;rcases eX.1 hx with hx | hx
   ·exact g2 x hx
   ·rw[iF.1 hx,hr.2];exact⟨hr.1,hTW⟩
  ·rw[show ({ cf with me:=(i:Int) }:Cf)=dZ cf i from rfl];exact hA.sub
 obtain rfl:i=N:=by omega
 refine RT 3 E I ?_;have h1:=I.jV uf;rw[show List.replicate i (Value.slice none 0 0)=[]++(List.replicate i ((none,0,[]):ko)).map bw++[] from by rw[nil_append,append_nil,map_replicate];rfl]at h1;have h2:=Pp (U.iY (n:=i) (c:=i) (sz:=1) h1 (by rw[bf,kC,fD]) (bh _) (by simp)) i;simp only[length_nil]at h2;have h3:=bU.nil (e:=60) h2;refine⟨B,⟨kg,B.mb,rs.map (·.1)⟩,rfl,⟨rfl,hB,g2⟩,?_⟩;have h4:U W w (bK W ⟨kg,B.mb,rs.map (·.1)⟩ p (gM p cf i)::aR W B p 0 (gM p cf i)::L):=by
  refine bK.close (adP:=adL) (cP:=cL) (adN:=none) (cN:=0) (adE:=some ⟨uf,0,none⟩) (cE:=i) (xs:=rs) (es:=List.replicate i (none,0,[])) ?_ rfl eg (by rw[map_replicate];rfl);rw[ia,kC];exact h3.sub (M:=aa kg 40 [pt B.mb,.slice adL i cL,.slice none 0 0,.slice (some ⟨uf,0,none⟩) i i]::Sl 34 1 adL i cL (rs.map dM)::ah (dm W p) rs::bU 60 none 0 0 []::Sl 70 1 (some ⟨uf,0,none⟩) i i ((List.replicate i ((none,0,[]):ko)).map bw)::ah fj (List.replicate i (none,0,[]))::aR W B p 0 (gM p cf i)::L)
 exact h4.sub
end
end
end Go.Proofs.YteoldcfapaiobaaGreat
