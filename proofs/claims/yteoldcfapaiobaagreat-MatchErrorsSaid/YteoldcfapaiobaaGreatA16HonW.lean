/- A match of players of whom none lies, plainly: the document's R3. -/
import Derived.Test.YteoldcfapaiobaaGreatA15ArgC
namespace Go.Proofs.YteoldcfapaiobaaGreat
open Tryz
open List (mem_cons_self length_range getElem?_append_right nil_append map_cons length_nil getElem?_range getElem_map eraseIdx_eq_take_drop_succ take_length append_nil getElem_mem map_take map_drop mem_singleton range_succ getElem?_set_ne set_getElem_self length_filter_le map_replicate)
open Go.RowKit
set_option linter.unusedVariables false
set_option linter.unusedSimpArgs false
set_option maxRecDepth 10000
set_option synthInstance.maxSize 4000
set_option synthInstance.maxHeartbeats 400000
section
def bK (v:Wd)(i j:Nat):Nat:=((aq v i).k.ls.getD j []).length
def pB (v:Wd)(i j:Nat):Nat:=(au (aq v i).k j).has
noncomputable def ry (m:Ml):Nat:=match eu m.2.2 with
 | some q=>if q.kind=1 then q.first.toNat+q.ak.length else 0
 | none=>0
structure oC (p:Pr)(cf:Cf)(K:Int→Prop)(G:List (List UInt8))(v:Wd)(m:Ml)(q:Pk):Prop where
 lk:uD p G q
 kind:K q.kind
 fr:q.aV=m.1
 to:q.to=m.2.1
 bs:m.2.2=aR q
 lt:m.1<v.ps.length∧m.2.1<v.ps.length
 id:q.id=cf.id
 uE:q.kind=1→q.db.toNat≤bK v m.1 m.2.1∧q.first.toNat≤bK v m.2.1 m.1∧q.first.toNat+q.ak.length≤q.db.toNat+cf.bo.toNat
structure gN (p:Pr)(cf:Cf)(K:Int→Prop)(G:List (List UInt8))(v:Wd):Prop where
 pl:∀ i,i<v.ps.length→hK p G (aq v i)
 ac:∀ i j,i<v.ps.length→j<v.ps.length→i≠j→pB v i j≤bK v j i∧bK v i j≤pB v i j+cf.bo.toNat
 hd:∀ i,i<v.ps.length→bK v i i≤ax (aq v i).k+cf.bo.toNat
 net:∀ m∈v.net,∃ q,oC p cf K G v m q
 bF:∀ l∈v.ev,∀ e∈l,e.1≠3
 wo:∀ i,i<v.ps.length→∀ e∈(aq v i).k.ev,e.1≠3
section
variable {p:Pr}{cf:Cf}{K:Int→Prop}{G G':List (List UInt8)}{v u:Wd}{c i j x y:Nat}{s':Pl}{net:List Ml}{ev:List (List jV)}{m:Ml}{q:Pk}{t:fz}{b:UInt8}
theorem bI.qh (h:bI p cf c v)(hi:i<v.ps.length):(aq v i).k.me=i∧(aq v i).k.bo=cf.bo.toNat∧(aq v i).k.id=cf.id∧(aq v i).k.n=v.ps.length∧(aq v i).k.aH=cf.aH.toNat:=by
 have h1:=(h.pl i hi).2.1;have h2:(e4 (aq v i).k).me=(i:Int):=by rw[h1]
 have h3:(e4 (aq v i).k).bo=cf.bo:=by rw[h1]
 have h4:(e4 (aq v i).k).id=cf.id:=by rw[h1]
 have h5:(e4 (aq v i).k).aH=cf.aH:=by rw[h1]
 simp only[e4]at h2 h3 h4 h5;exact⟨by omega,by omega,h4,h.sV hi,by omega⟩
theorem bI.win (h:bI p cf c v):1≤cf.bo.toNat∧cf.bo.toNat≤16:=by
 have h1:=h.may.2.1.2.1;unfold fv at h1;omega
theorem sW (hi:i<v.ps.length):bK ⟨v.ps.set i s',net,ev⟩ x y=if i=x then (s'.k.ls.getD y []).length else bK v x y:=by
 rw[bK,qg hi];split <;> rfl
theorem abv (hi:i<v.ps.length):pB ⟨v.ps.set i s',net,ev⟩ x y=if i=x then (au s'.k y).has else pB v x y:=by
 rw[pB,qg hi];split <;> rfl
theorem M3 (hi:i<v.ps.length):v.ps.set i (aq v i)=v.ps:=by
 rw[aq,bl,aO hi];exact set_getElem_self _
theorem M4 {l:List (List UInt8)}{a:List UInt8}(hi:i<l.length):((l.set i a).getD j []).length=if i=j then a.length else (l.getD j []).length:=by
 rw[bl,jA];split
 ·rename_i h;subst h;rfl
 ·rw[bl]
theorem abw {l a:List UInt8}{f:Nat}(h1:f≤l.length)(h2:f+a.length≤1000)(h3:l.length≤1000):(dr l f a).length=max l.length (f+a.length):=by
 rw[dr,ae (by omega),aK,en,c7];omega
theorem abx (now head:Nat)(q:Pk)(z:Pe):(fQ now head q z).has=if z.has<q.db.toNat∧q.db.toNat≤head then q.db.toNat else z.has:=by
 unfold fQ;simp only;split <;> rfl
theorem gN.F7 (h:gN p cf K G v)(hv:bI p cf c v)(hi:i<v.ps.length)(hj:j<v.ps.length):bK v i j≤bK v j j∧(G.getD j []).length=bK v j j:=by
 have h1:=(h.pl j hj).own;rw[(hv.qh hj).1]at h1;obtain⟨t,ht⟩:=(h.pl i hi).ext.2 j (by rw[(hv.pl i hi).1.wc.ls,(hv.qh hi).2.2.2.1];exact hj);have h2:(G.getD j []).length=bK v j j:=by rw[← h1];rfl
 refine⟨?_,h2⟩;rw[← h2,ht,aK,bK];omega
theorem gN.M5 (h:gN p cf K G v)(hv:bI p cf c v):G.length=v.ps.length∧G≠[]:=by
 have h0:=hv.len;have h1:=h.pl 0 (by omega);exact⟨by rw[h1.lens,hv.sV (by omega)],h1.F6⟩
theorem oC.more (h:oC p cf K G v m q)(A6:Ext G G')(h0:G≠[])(oB:G.length=v.ps.length)(hl:u.ps.length=v.ps.length)(hk:∀ a b,bK v a b≤bK u a b):oC p cf K G' u m q:=by
 refine⟨h.lk.ext A6 h0 (by have:=h.lt.1;have:=h.fr;omega),h.kind,h.fr,h.to,h.bs,by rw[hl];exact h.lt,h.id,λh1=>?_⟩;obtain⟨dD,dU,a3⟩:=h.uE h1;exact⟨gO dD (hk _ _),gO dU (hk _ _),a3⟩
theorem oC.dec (h:oC p cf K G v m q):eu m.2.2=some q:=by rw[h.bs];exact Jn h.lk.may h.lk.sum
theorem oC.val (h:oC p cf K G v m q):ry m=if q.kind=1 then q.first.toNat+q.ak.length else 0:=by rw[ry,h.dec]
theorem gN.put (h:gN p cf K G v)(hv:bI p cf c v)(hi:i<v.ps.length)(hH:hK p G' s')(A6:Ext G G')(ll:∀ j,j≠i→G'.getD j []=G.getD j [])(hk:∀ j,bK v i j≤(s'.k.ls.getD j []).length)
   (jN:∀ j,j<v.ps.length→j≠i→(au s'.k j).has≤bK v j i∧(s'.k.ls.getD j []).length≤(au s'.k j).has+cf.bo.toNat) (gL:(s'.k.ls.getD i []).length≤ax s'.k+cf.bo.toNat)
   (F8:∀ e∈s'.k.ev,e.1≠3) (F9:∀ m∈net,m∈v.net∨∃ q,oC p cf K G' ⟨v.ps.set i s',net,ev⟩ m q) (pn:∀ l∈ev,∀ e∈l,e.1≠3):gN p cf K G' ⟨v.ps.set i s',net,ev⟩:=by
 have hg:=h.M5 hv;have hl:(⟨v.ps.set i s',net,ev⟩:Wd).ps.length=v.ps.length:=br;have hm:∀ a b,bK v a b≤bK ⟨v.ps.set i s',net,ev⟩ a b:=λa b=>by
  rw[sW hi];split
  ·rename_i e;subst e;exact hk b
  ·exact bh _
 refine⟨λj hj=>?_,λa b E hb A7=>?_,λj hj=>?_,λm gH=>?_,pn,λj hj=>?_⟩
 ·rw[hl]at hj;rw[qg hi];split
  ·exact hH
  ·rename_i e;exact (h.pl j hj).more A6 (by rw[(hv.qh hj).1];exact ll j (λe2=>e e2.symm))
 ·rw[hl]at E hb;rw[sW hi,sW hi,abv hi];by_cases h1:i=a
  ·subst h1;rw[al rfl,ae A7,al rfl];exact jN b hb (Ne.symm A7)
  ·rw[ae h1,ae h1];have h3:=h.ac a b E hb A7;by_cases h2:i=b
   ·subst h2;rw[al rfl];exact⟨gO h3.1 (hk a),h3.2⟩
   ·rw[ae h2];exact h3
 ·rw[hl]at hj;rw[sW hi,qg hi];split
  ·rename_i e;subst e;exact gL
  ·exact h.hd j hj
 ·rcases F9 m gH with h1 | h1
  ·obtain⟨q,hq⟩:=h.net m h1;exact⟨q,hq.more A6 hg.2 hg.1 hl hm⟩
  ·exact h1
 ·rw[hl]at hj;rw[qg hi];split
  ·exact F8
  ·exact h.wo j hj
theorem gN.ak (h:gN p cf K G v)(hv:bI p cf c v)(hi:i<v.ps.length)(b:UInt8):(∃ G',gN p cf K G' { v with ps:=v.ps.set i (dI p b (aq v i)).2 }) ∧
   ∀ x y,bK { v with ps:=v.ps.set i (dI p b (aq v i)).2 } x y=bK v x y+if (x=i∧y=i)∧(dI p b (aq v i)).1=0 then 1 else 0:=by
 obtain⟨eA,wq,bU,hn,_⟩:=hv.qh hi;by_cases h0:(dI p b (aq v i)).1=0
 ·obtain⟨hH,mr,hk⟩:=(h.pl i hi).ak h0;obtain⟨g1,mA,qo,rK⟩:=tV (k:=(aq v i).k) (b:=b) h0;rw[eA]at hH hk;have aJ:i<(aq v i).k.ls.length:=by rw[(hv.pl i hi).1.wc.ls,hn];exact hi
  have ff:(dI p b (aq v i)).2.k.ls=(aq v i).k.ls.set i ((aq v i).k.ls.getD i []++[b]):=by rw[hk]
  have gz:∀ j,au (dI p b (aq v i)).2.k j=au (aq v i).k j:=λj=>by rw[au,hk];rfl
  have hG:∀ j,((dI p b (aq v i)).2.k.ls.getD j []).length=bK v i j+if i=j then 1 else 0:=λj=>by
   rw[ff,M4 aJ];split
   ·rename_i e;subst e;rw[aK];rfl
   ·rfl
  have fq:ax (aq v i).k≤ax (dI p b (aq v i)).2.k:=by
   rw[ax,ax,ff];exact Ext.set.front (hv.pl i hi).1.wc.kL
  have gL:aF (aq v i).k=bK v i i:=by rw[aF,eA];rfl
  refine⟨⟨_,h.put hv hi hH Ext.set (λj hj=>?_) (λj=>?_) (λj hj gI=>?_) ?_ ?_ (λm hm=>.inl hm) h.bF⟩,λx y=>?_⟩
  ·rw[bl,getElem?_set_ne (Ne.symm hj),← bl]
  ·rw[hG];omega
  ·rw[hG,gz,ae (Ne.symm gI),Nat.add_zero];exact h.ac i j hi hj (Ne.symm gI)
  ·rw[hG,al rfl];omega
  ·rw[hk];exact h.wo i hi
  ·rw[sW hi];by_cases e:i=x
   ·subst e;rw[al rfl,hG];by_cases e2:i=y
    ·rw[al e2,al ⟨⟨rfl,e2.symm⟩,h0⟩]
    ·rw[ae e2,ae (λh=>e2 h.1.2.symm)]
   ·rw[ae e,ae (λh=>e h.1.1.symm),Nat.add_zero]
 ·rw[MY (hv.pl i hi).1 h0,M3 hi];exact⟨⟨G,h⟩,λx y=>by rw[ae (λh=>h0 h.2)];rfl⟩
theorem gN.aby (h:gN p cf K G v)(hn:∀ m∈net,m∈v.net):gN p cf K G { v with net:=net } :=
 ⟨h.pl,h.ac,h.hd,λm hm=>(h.net m (hn m hm)).imp λq hq=>⟨hq.lk,hq.kind,hq.fr,hq.to,hq.bs,hq.lt,hq.id,hq.uE⟩,h.bF,h.wo⟩
theorem gN.recv (h:gN p cf K G v)(hv:bI p cf c v)(hm:m∈v.net)(hn:∀ m∈net,m∈v.net):gN p cf K G { v with ps:=v.ps.set m.2.1 (dJ p m.2.2 (aq v m.2.1)).2,net:=net } ∧
   ∀ x y,bK { v with ps:=v.ps.set m.2.1 (dJ p m.2.2 (aq v m.2.1)).2,net:=net } x y=if (x=m.2.1∧y=m.1)∧(aq v m.2.1).k.cl=false then max (bK v x y) (ry m) else bK v x y:=by
 obtain⟨q,hq⟩:=h.net m hm;obtain⟨gw,hi⟩:=hq.lt;obtain⟨eA,wq,bU,qK,_⟩:=hv.qh hi;have Ec:q.aV.toNat=m.1:=by have:=hq.fr;omega
 have jt:m.1≠m.2.1:=λe=>hq.lk.may.2.2.1 (by rw[hq.fr,hq.to,e]);rw[hq.bs];generalize I:aq v m.2.1=s at *;have x5:=h.pl _ hi;have rz:=hv.pl _ hi;rw[I]at x5 rz;cases hc:s.k.cl with
 | true =>
  have h0:(dJ p (aR q) s).1≠0:=by
   show (dB (aR q) s.k).1≠0;rw[dB,al hc];show (6:Int)≠0;decide
  rw[abt rz.1 h0,← I,M3 hi];exact⟨h.aby hn,λx y=>by rw[ae (λh=>by have:=h.2;cases this)];rfl⟩
 | false =>
  have ru:m.1<s.k.ps.length:=by rw[rz.1.wc.ps,qK];exact gw
  have aJ:m.1<s.k.ls.length:=by rw[rz.1.wc.ls,qK];exact gw
  have jN:=h.ac _ _ hi gw (Ne.symm jt);have nU:=h.F7 hv gw hi;have oH:=h.F7 hv hi gw;have kx:=(hv.pl _ gw).1.wc.lF (i:=m.1) (by rw[hv.sV gw];exact gw);have lV:=rz.1.wc.lF (i:=m.1) (by rw[qK];exact gw);have M6:aF s.k=bK v m.2.1 m.2.1:=by rw[aF,eA,bK,I]
  rcases hq.lk.may.2.2.2.2 with ⟨h1,_⟩ | ⟨h1,_⟩
  ·obtain⟨hH,h0,mr,hk⟩:=x5.xO hq.lk hc (by rw[hq.to,eA]) (by rw[hq.fr,qK];omega) (by rw[hq.id,bU]) h1;obtain⟨s1,s2,uN⟩:=hq.uE h1;obtain⟨g1,mA⟩:=hq.lk.uE h1;rw[Ec]at hk g1;have xR:bK v m.2.1 m.1=(s.k.ls.getD m.1 []).length:=by rw[bK,I]
   have eE:=abw (l:=s.k.ls.getD m.1 []) (a:=q.ak) (f:=q.first.toNat) (by rw[← xR];exact s2) (by rw[oH.2]at g1;rw[bK]at g1;omega) lV;have ff:(dJ p (aR q) s).2.k.ls=s.k.ls.set m.1 (dr (s.k.ls.getD m.1 []) q.first.toNat q.ak):=by rw[hk]
   have hG:∀ j,((dJ p (aR q) s).2.k.ls.getD j []).length=if m.1=j then max (bK v m.2.1 m.1) (q.first.toNat+q.ak.length) else bK v m.2.1 j:=λj=>by
    rw[ff,M4 aJ,eE,bK,bK,I]
   have gz:∀ j,au (dJ p (aR q) s).2.k j=if j=m.1 then fQ s.k.now (aF s.k) q (au s.k m.1) else au s.k j:=λj=>by
    rw[au,hk];exact vI ru
   have fq:ax s.k≤ax (dJ p (aR q) s).2.k:=by
    have h5:=q6 (aR q) s.k;obtain⟨t5,h6⟩:=Ki (s.k.ls.getD m.1 []) q.first.toNat q.ak;rw[ax,ax,ff,h6];exact Ext.set.front rz.1.wc.kL
   refine⟨h.put hv hi hH (Ext.refl _) (λ_ _=>rfl) (λj=>?_) (λj hj gI=>?_) ?_ ?_ (λm hm=>.inl (hn m hm)) h.bF,λx y=>?_⟩
   ·rw[hG];split
    ·rename_i e;subst e;omega
    ·exact bh _
   ·rw[hG,gz];have wu:=h.ac _ _ hi hj (Ne.symm gI);by_cases e:j=m.1
    ·subst e;rw[al rfl,al rfl,abx];rw[pB,I]at wu;rw[bK]at nU;simp only[bK] at *;split <;> omega
    ·rw[ae (Ne.symm e),ae e];rw[pB,I]at wu;exact wu
   ·rw[hG,ae jt];have:=h.hd _ hi;rw[I]at this;omega
   ·rw[hk];have:=h.wo _ hi;rw[I]at this;exact this
   ·rw[sW hi,hG,hq.val,al h1];by_cases e:m.2.1=x
    ·subst e;rw[al rfl];by_cases e2:m.1=y
     ·subst e2;rw[al rfl,al ⟨⟨rfl,rfl⟩,rfl⟩]
     ·rw[ae e2,ae (λh=>e2 h.1.2.symm)]
    ·rw[ae e,ae (λh=>e h.1.1.symm)]
  ·obtain⟨hH,h0,hk⟩:=x5.bye hq.lk hc (by rw[hq.to,eA]) (by rw[hq.fr,qK];omega) (by rw[hq.id,bU]) h1;rw[Ec]at hk;have ff:(dJ p (aR q) s).2.k.ls=s.k.ls:=by rw[hk]
   have hG:∀ j,((dJ p (aR q) s).2.k.ls.getD j []).length=bK v m.2.1 j:=λj=>by rw[ff,bK,I]
   have gz:∀ j,(au (dJ p (aR q) s).2.k j).has=(au s.k j).has:=λj=>by
    rw[au,hk];show ((s.k.ps.set _ _).getD j (fw 0)).has=_;rw[vI ru];split
    ·rename_i e;subst e;rfl
    ·rfl
   refine⟨h.put hv hi hH (Ext.refl _) (λ_ _=>rfl) (λj=>?_) (λj hj gI=>?_) ?_ ?_ (λm hm=>.inl (hn m hm)) h.bF,λx y=>?_⟩
   ·rw[hG];exact bh _
   ·have wu:=h.ac _ _ hi hj (Ne.symm gI);rw[pB,I]at wu;rw[hG,gz];exact wu
   ·have:=h.hd _ hi;rw[I]at this;rw[hG,ax,ff];exact this
   ·rw[hk];intro e he;rcases eV.1 he with he | he
    ·have:=h.wo _ hi;rw[I]at this;exact this e he
    ·rw[mem_singleton.1 he];show (1:Nat)≠3;decide
   ·have tr:ry m=0:=by rw[hq.val,ae (by omega)]
    rw[sW hi,hG,tr,Nat.max_zero];by_cases e:m.2.1=x
    ·subst e;rw[al rfl];split <;> rfl
    ·rw[ae e,ae (λh=>e h.1.1.symm)]
theorem abz {k:Ks}(h:m∈(bm k).1):∃ j,j<k.n∧j≠k.me∧m=(k.me,j,aR (dS k j)):=by
 unfold bm at h;split at h
 ·cases h
 ·simp only at h;split at h
  ·cases h
  ·obtain⟨j,hj,rfl⟩:=c8.1 h;obtain⟨h1,h2⟩:=vK.1 hj;exact⟨j,h1,h2,rfl⟩
theorem gN.same (h:gN p cf K G v)(hv:bI p cf c v)(hi:i<v.ps.length)(hH:hK p G s')(ff:s'.k.ls=(aq v i).k.ls)(gz:s'.k.ps=(aq v i).k.ps)(F8:∀ e∈s'.k.ev,e.1≠3)
   (F9:∀ m∈net,m∈v.net∨∃ q,oC p cf K G v m q) (pn:∀ l∈ev,∀ e∈l,e.1≠3):gN p cf K G ⟨v.ps.set i s',net,ev⟩∧∀ x y,bK ⟨v.ps.set i s',net,ev⟩ x y=bK v x y:=by
 have ug:∀ x y,bK ⟨v.ps.set i s',net,ev⟩ x y=bK v x y:=λx y=>by
  rw[sW hi];split
  ·rename_i e;subst e;rw[ff];rfl
  ·rfl
 have hg:=h.M5 hv;refine⟨h.put hv hi hH (Ext.refl _) (λ_ _=>rfl) (λj=>by rw[ff];exact bh _) (λj hj gI=>?_) ?_ F8 (λm hm=>(F9 m hm).imp_right λ⟨q,hq⟩=>⟨q,hq.more (Ext.refl _) hg.2 hg.1 br λa b=>by rw[ug];exact bh _⟩) pn,ug⟩
 ·rw[ff,au,gz];exact h.ac i j hi hj (Ne.symm gI)
 ·rw[ax,ff];exact h.hd i hi
theorem gN.M7 (h:gN p cf K G v)(hv:bI p cf c v)(hi:i<v.ps.length)(Ga:K 1)(hm:m∈(bm (aq v i).k).1):∃ q,oC p cf K G v m q∧ry m=bK v i i:=by
 obtain⟨eA,wq,bU,hn,_⟩:=hv.qh hi;obtain⟨j,hj,bN,rfl⟩:=abz hm;rw[hn]at hj;rw[eA]at bN;have jN:=h.ac i j hi hj (Ne.symm bN);have hb:=h.F7 hv hj hi;have gL:=h.hd i hi;have gw:ax (aq v i).k≤bK v i j:=vE (tU (by rw[(hv.pl i hi).1.wc.ls,hn];exact hj));have M6:aF (aq v i).k=bK v i i:=by rw[aF,eA];rfl
 have hw:=hv.win;have lk:=(h.pl i hi).FP (i:=j) (by rw[hn];exact hj) (by rw[eA];exact bN) (by rw[M6];rw[pB]at jN;omega);have hG:(dS (aq v i).k j).first.toNat+(dS (aq v i).k j).ak.length=bK v i i:=by
  show (((au (aq v i).k j).has:Nat):Int).toNat+((((aq v i).k.ls.getD (aq v i).k.me []).drop (au (aq v i).k j).has).take 32).length=_;rw[pB]at jN;rw[en,c7,eA,Int.toNat_natCast];show _+min 32 (bK v i i-_)=_;omega
 have hq:oC p cf K G v ((aq v i).k.me,j,aR (dS (aq v i).k j)) (dS (aq v i).k j):=by
  refine⟨lk,Ga,rfl,rfl,rfl,⟨by rw[eA];exact hi,hj⟩,bU,λ_=>⟨?_,?_,?_⟩⟩
  ·show ((((aq v i).k.ls.getD j []).length:Nat):Int).toNat≤bK v (aq v i).k.me j;rw[eA,Int.toNat_natCast];exact bh _
  ·show (((au (aq v i).k j).has:Nat):Int).toNat≤bK v j (aq v i).k.me;rw[eA,Int.toNat_natCast];exact jN.1
  ·rw[hG];show _≤((((aq v i).k.ls.getD j []).length:Nat):Int).toNat+_;rw[Int.toNat_natCast];show _≤bK v i j+_;omega
 exact⟨_,hq,by rw[hq.val,al (show (dS (aq v i).k j).kind=1 from rfl),hG]⟩
theorem abA (k:Ks):(bm k).2.ls=k.ls∧(bm k).2.ps=k.ps∧∀ e∈(bm k).2.ev,e∈k.ev∨e.1=2:=by
 rcases vL k with h1 | ⟨_,h1 | ⟨i,_,h1⟩⟩ <;> rw[h1]
 ·exact⟨rfl,rfl,λe he=>.inl he⟩
 ·exact⟨rfl,rfl,λe he=>.inl he⟩
 ·refine⟨rfl,rfl,λe he=>?_⟩;rcases eV.1 he with he | he
  ·exact .inl he
  ·rw[mem_singleton.1 he];exact .inr rfl
theorem gN.tick (h:gN p cf K G v)(hv:bI p cf c v)(hi:i<v.ps.length)(Ga:K 1):gN p cf K G { v with ps:=v.ps.set i ⟨(bm (aq v i).k).2,(aq v i).g⟩,net:=eB v.net (bm (aq v i).k).1 } ∧
   ∀ x y,bK { v with ps:=v.ps.set i ⟨(bm (aq v i).k).2,(aq v i).g⟩,net:=eB v.net (bm (aq v i).k).1 } x y=bK v x y:=by
 obtain⟨h1,h2,h3⟩:=abA (aq v i).k;refine h.same hv hi (h.pl i hi).tick h1 h2 (λe he=>?_) (λm hm=>(FM hm).imp_right λhm=>(h.M7 hv hi Ga hm).imp λq hq=>hq.1) h.bF;rcases h3 e he with h4 | h4
 ·exact h.wo i hi e h4
 ·omega
theorem uF (p:Pr){cf:Cf}(h:fg cf):∃ mr,(ez p cf).k={ fh cf with mr:=mr }:=by
 refine F5 (G:=(fh cf).ls) (vM (p:=p) h) (Ext.refl _) λi hi=>?_;have oO:au (fh cf) i=fw cf.aH.toNat∨au (fh cf) i=fw 0:=by
  rw[au,bl];show ((List.replicate cf.n.toNat (fw cf.aH.toNat))[i]?).getD (fw 0)=_∨((List.replicate cf.n.toNat (fw cf.aH.toNat))[i]?).getD (fw 0)=_;rw[List.getElem?_replicate];split
  ·exact .inl rfl
  ·exact .inr rfl
 have h2:(au (fh cf) i).frame=0:=by rcases oO with e | e <;> rw[e] <;> rfl
 show mq p _ (au (fh cf) i).frame _;rw[h2];exact⟨Nat.zero_le _,λh=>absurd h (by omega)⟩
end
end
section
def fK.yt:fK→Bool
 | .mu _=>true
 | .pl _=>false
def dN (cf:Cf)(i:Nat):Cf:={ cf with me:=i }
def gp (p:Pr)(cf:Cf)(n:Nat):Wd:=⟨(List.range n).map λi=>ez p (dN cf i),[],List.replicate n []⟩
def uG (fk:List fA)(cf:Cf)(tb:List UInt8)(hL:Bool)(n:Nat):Prop:=fk.map (·.cf)=(List.range n).map (dN cf)∧∀ x∈fk,x.z.gs=⟨cf.ba,cf.order,tb⟩∧x.z.yt=hL
theorem abB {cf:Cf}{i:Nat}(h:fg (dN cf 0))(hi:(i:Int)<cf.n):fg (dN cf i):=by
 obtain⟨⟨h1,h2,h3⟩,h4⟩:=h;refine⟨⟨h1,?_,h3⟩,h4⟩;show fv (i:Int) 0 (cf.n-1);unfold fv;omega
theorem M8 {cf:Cf}{p:Pr}{tb:List UInt8}{i:Nat}(h:nx (dN cf 0) p tb)(hi:(i:Int)<cf.n):nx (dN cf i) p tb:=⟨abB h.1 hi,h.2⟩
section
variable {W w:World}{L:List SP}{n c cP cT i:Nat}{ad adP adT:Option Addr}{p:Pr}{tb:List UInt8}{cf:Cf}{hL:Bool}
theorem abC (gn:nx cf p tb)(I:V W w (aA W p adP cP::L))(hn:tb.length=n)(aE:p.title.size≤1000000000)(dX:p.ops.length≤1000000000)(eL:tb.length≤1099511627776)(hT:∀ w',V W w' (aA W p adP cP::L)→a6 w' adT tb.length tb) :
   Calls prog 60 #[.agg (b7 cf).toArray,.agg (bJ p adP cP).toArray,.slice adT n cT] w λr w'=>∃ B:iO,r=.returned (.tuple #[pt B.pb,.int .i64 0])∧B.gs=⟨cf.ba,cf.order,tb⟩∧V W w' (aM W B p (ez p cf)::aA W p adP cP::L) :=
 (aaT I hn aE dX eL hT).mono λr w' h=>h.elim (λh=>h.2) λh=>absurd gn h.1
theorem abD (gn:nx cf p tb)(I:V W w (aA W p adP cP::L))(hn:tb.length=n)(aE:p.title.size≤1000000000)(dX:p.ops.length≤1000000000)(eL:tb.length≤1099511627776)(hT:∀ w',V W w' (aA W p adP cP::L)→a6 w' adT tb.length tb) :
   Calls prog 43 #[.agg (b7 cf).toArray,.agg (bJ p adP cP).toArray,.slice adT n cT,.bool hL] w λr w'=>∃ z:fK,r=.returned (.tuple #[.iface z.t (.pointer (some z.ad)),.int .i64 0])∧(z.gs=⟨cf.ba,cf.order,tb⟩∧z.yt=hL)∧V W w' (fA.J W p ⟨cf,z⟩ 0 (ez p cf)::aA W p adP cP::L):=by
 refine EN func43 ntmps43 rfl rfl λa E=>?_;refine BX 1 E I λb4 a w E I=>?_;change V W w (aa b4 28 (b7 cf)::_) at I;refine BX 0 E I λb5 a w E I=>?_;change V W w (aa b5 45 (bJ p adP cP)::_) at I;refine IF 5 E I (λaj a E=>?_) λaj a E=>?_
 ·
  refine bd 4 E I (aaY gn (I.pick (aA W p adP cP)) hn aE dX eL (λw' dh=>hT _ dh.sub)) λM a w E ⟨hg,I⟩=>?_;refine RT 11 E I ?_;exact⟨.mu M,rfl,⟨hg,by rw[show hL=true from by simpa using aj];rfl⟩,(show V W w (fA.J W p ⟨cf,.mu M⟩ 0 (ez p cf)::_) from I).sub⟩
 refine bd 4 E I (abC gn (I.pick (aA W p adP cP)) hn aE dX eL (λw' dh=>hT _ dh.sub)) λB a w E ⟨hg,I⟩=>?_;refine RT 11 E I ?_;exact⟨.pl B,rfl,⟨hg,by rw[show hL=false from by simpa using aj];rfl⟩,(show V W w (fA.J W p ⟨cf,.pl B⟩ 0 (ez p cf)::_) from I).sub⟩
theorem M9 (I:V W w L):∀ n:Nat,V W w (ah eC (List.replicate n (none,0,[]))::L)
 | 0=>V.iG I
 | n+1=>V.uW (f:=eC) (x:=(none,0,[])) ((M9 I n).bH 135 1 none)
theorem Na (gn:nx (dN cf 0) p tb)(I:V W w (aA W p adP cP::L))(hn:tb.length=n)(aE:p.title.size≤1000000000)(dX:p.ops.length≤1000000000)(eL:tb.length≤1099511627776)(hT:∀ w',V W w' (aA W p adP cP::L)→a6 w' adT tb.length tb) :
   Calls prog 24 #[.agg (b7 cf).toArray,.agg (bJ p adP cP).toArray,.slice adT n cT,.bool hL] w λr w'=>∃ B:jw,r=.returned (.tuple #[pt B.mb,.int .i64 0])∧uG B.fk cf tb hL cf.n.toNat∧V W w' (aP W B p 0 (gp p cf cf.n.toNat)::aA W p adP cP::L):=by
 have oZ:=gn.1.1.1;unfold fv at oZ;obtain⟨N,hN⟩:∃ N:Nat,(dN cf 0).n=N:=⟨(dN cf 0).n.toNat,by omega⟩;replace hN:cf.n=N:=hN;have hN2:2≤N∧N≤8:=by
  have h1:(dN cf 0).n=cf.n:=rfl;omega
 rw[show cf.n.toNat=N from by omega];refine EN func24 ntmps24 rfl rfl λa E=>?_;refine BX 1 E I λb4 a w E I=>?_;change V W w (aa b4 28 (b7 cf)::_) at I;refine BX 0 E I λb5 a w E I=>?_;change V W w (aa b5 45 (bJ p adP cP)::_) at I;refine bd 3 E I (aaB I) λq a w E I=>?_;refine BX 1 E I λtN a w E I=>?_;refine RN 1 E I λa E=>?_;replace I:=V.iG (f:=cz W p 0) (I.bH 81 1 none);refine RN 7 E I λa E=>?_;rw[hN,show min (max (N:Int) 1) 8=(N:Int) from by omega]at E;refine aS (λμ a w=>∃ (i:Nat) (adL:Option Addr) (cL:Nat) (xs:List (fA×Pl)) (me:Int),(μ=N-i∧(i≤N∧xs.length=i)∧xs.map (·.2)=(List.range i).map (λi=>ez p (dN cf i))∧uG (xs.map (·.1)) cf tb hL i)∧Fr a 58 [(2,.slice adT n cT),(3,.bool hL),(4,pt b4),(5,pt b5),(10,pt tN),(20,.int .i64 N),(21,.int .i64 i)]∧V W w (aa tN 107 [.slice adL i cL,pt q,.slice none 0 0]::Sl 81 1 adL i cL (xs.map cB)::ah (cz W p 0) xs::bD q []::aa b4 28 (b7 { cf with me:=me })::aa b5 45 (bJ p adP cP)::aA W p adP cP::L)) (N) (⟨0,none,0,[],cf.me,⟨rfl,⟨by omega,rfl⟩,rfl,rfl,λx h=>by cases h⟩,E.ab [2,3,4,5,10,20,21],(show V W w (ah (cz W p 0) []::Sl 81 1 none 0 0 (([]:List (fA×Pl)).map cB)::_) from I).sub⟩) ?_;clear E I;rintro μ a w ⟨i,adL,cL,xs,me,⟨rfl,⟨hi,ch⟩,dc,ew⟩,E,I⟩;refine IF 3 E I (λaj a E=>?_) λaj a E=>?_
 ·
  have aJ:i<N:=by omega
  have Gb:=M8 (i:=i) gn (by omega);refine ST 7 E I (λa w E I=>?_);refine RN 0 E I λa E=>?_;change V W w (aa b4 28 (b7 (dN cf i))::_) at I;refine bd 5 E I (abD Gb (I.pick (aA W p adP cP)) hn aE dX eL (λw' dh=>hT _ dh.sub)) λz a w E ⟨hz,I⟩=>?_;refine RN 9 E I λa E=>?_;replace E:=E.aN 35;refine RN 7 E I λa E=>?_;refine cm E rfl I underlying104 Ty.t81 rfl rfl rfl rfl (by decide) (by decide) λZV a w E I ho=>?_;clear ho;replace I:=I.pick (Sl 81 1 adL i cL (xs.map cB));refine RN 0 E I λa E=>?_;refine cJ E rfl I underlying104 Ty.t81 rfl rfl I.ai rfl (by simp[Value.oneCell']) (by decide) (by decide) (by omega) λm3 kP a w E I=>?_;rw[show List.map cB xs++_=(xs++[((⟨dN cf i,z⟩:fA),ez p (dN cf i))]).map cB from by rw[cU];rfl]at I;refine ST 2 E I (λa w E I=>?_);refine RN 2 E I λa E=>?_;have kf:=(I.pick (ah (cz W p 0) xs)).pick (fA.J W p ⟨dN cf i,z⟩ 0 (ez p (dN cf i)));have hA:=V.jB (f:=cz W p 0) (x:=(⟨dN cf i,z⟩,ez p (dN cf i))) kf;refine⟨N-(i+1),by omega,i+1,m3,kP,xs++[(⟨dN cf i,z⟩,ez p (dN cf i))],i,⟨rfl,⟨by omega,by rw[aK,ch];rfl⟩,?_,?_⟩,E.ab [2,3,4,5,10,20,21],?_⟩
  ·rw[cU,dc,range_succ,cU];rfl
  ·refine⟨?_,λx hx=>?_⟩
   ·rw[cU,cU,range_succ,cU,ew.1];rfl
   ·rw[cU]at hx;rcases eV.1 hx with hx | hx
    ·exact ew.2 x hx
    ·rw[mem_singleton.1 hx];exact hz
  ·rw[show ({ cf with me:=(i:Int) }:Cf)=dN cf i from rfl];exact hA.sub
 obtain rfl:i=N:=by omega
 refine RN 7 E I λa E=>?_;refine cg E rfl I underlying105 Ty.t90 rfl (by omega) (by omega) λA8 a w E I ho=>?_;clear ho;rw[du _ rfl]at I;refine ST 2 E I (λa w E I=>?_);refine RT 4 E I ?_;refine⟨⟨tN,q,xs.map (·.1)⟩,rfl,ew,?_⟩;have h1:=I.jy A8;rw[show List.replicate i (Value.slice none 0 0)=[]++(List.replicate i ((none,0,[]):kl)).map bF++[] from by rw[nil_append,append_nil,map_replicate];rfl]at h1;have h2:=M9 (V.iF (n:=i) (c:=i) (sz:=1) h1 (by rw[bf,j8,Nat.mul_one]) (bh _) (by simp)) i;refine aP.uC (adL:=adL) (cL:=cL) (adE:=some ⟨A8,0,none⟩) (cE:=i) (xs:=xs) (es:=List.replicate i (none,0,[])) ?_ rfl dc (by rw[map_replicate];rfl);rw[ch,j8];simp only[length_nil]at h2;show V W w (aa tN 107 [.slice adL i cL,pt q,.slice (some ⟨A8,0,none⟩) i i]::Sl 81 1 adL i cL (xs.map cB)::ah (cz W p 0) xs::bD q []::Sl 90 1 (some ⟨A8,0,none⟩) i i ((List.replicate i ((none,0,[]):kl)).map bF)::ah eC (List.replicate i (none,0,[]))::aA W p adP cP::L);exact h2.sub
end
end
section
abbrev eD (x:fT×Pl):Value:=pt x.1.pb
def dv (W:World)(p:Pr)(x:fT×Pl):SP:=bT W x.1 p x.2
def fW (x:kl):SP:=Sl 102 3 x.1 x.2.2.length x.2.1 (rows bS x.2.2)
structure qi where
 wb:Nat
 mb:Nat
 mv:List fT
def b9 (W:World)(D:qi)(p:Pr)(v:Wd):SP:=λh=>∃ i:(Option Addr×Nat)×(Option Addr×Nat)×(Option Addr×Nat)×List (fT×Pl)×List kl,(i.2.2.2.1.map (·.1)=D.mv∧i.2.2.2.1.map (·.2)=v.ps∧i.2.2.2.2.map (·.2.2)=v.ev) ∧
 ck [aa D.wb 40 [pt D.mb,.slice i.1.1 i.2.2.2.1.length i.1.2,.slice i.2.1.1 v.net.length i.2.1.2,.slice i.2.2.1.1 i.2.2.2.2.length i.2.2.1.2],
  Sl 34 1 i.1.1 i.2.2.2.1.length i.1.2 (i.2.2.2.1.map eD),ah (dv W p) i.2.2.2.1,cv 60 i.2.1.1 v.net.length i.2.1.2 v.net,Sl 70 1 i.2.2.1.1 i.2.2.2.2.length i.2.2.1.2 (i.2.2.2.2.map bF),ah fW i.2.2.2.2] h
section
variable {W w:World}{L:List SP}{n c k cP cN cE wb i:Nat}{ad adP adN adE:Option Addr}{p:Pr}{v:Wd}{D:qi}{x0 x1 x3:Value}{l net:List Ml}{xs:List (fT×Pl)}{es:List kl}
theorem b9.open (I:V W w (b9 W D p v::L)):∃ (adP:Option Addr) (cP:Nat) (adN:Option Addr) (cN:Nat) (adE:Option Addr) (cE:Nat) (xs:List (fT×Pl)) (es:List kl),(xs.map (·.1)=D.mv∧xs.map (·.2)=v.ps∧es.map (·.2.2)=v.ev) ∧
   V W w (aa D.wb 40 [pt D.mb,.slice adP xs.length cP,.slice adN v.net.length cN,.slice adE es.length cE] ::
    Sl 34 1 adP xs.length cP (xs.map eD)::ah (dv W p) xs::cv 60 adN v.net.length cN v.net::Sl 70 1 adE es.length cE (es.map bF)::ah fW es::L):=by
 obtain⟨i,h1,I⟩:=I.jj (ι:=(Option Addr×Nat)×(Option Addr×Nat)×(Option Addr×Nat)×List (fT×Pl)×List kl) (p:=λi=>i.2.2.2.1.map (·.1)=D.mv∧i.2.2.2.1.map (·.2)=v.ps∧i.2.2.2.2.map (·.2.2)=v.ev)
  (B:=λi h=>ck [aa D.wb 40 [pt D.mb,.slice i.1.1 i.2.2.2.1.length i.1.2,.slice i.2.1.1 v.net.length i.2.1.2,.slice i.2.2.1.1 i.2.2.2.2.length i.2.2.1.2],
  Sl 34 1 i.1.1 i.2.2.2.1.length i.1.2 (i.2.2.2.1.map eD),ah (dv W p) i.2.2.2.1,cv 60 i.2.1.1 v.net.length i.2.1.2 v.net,Sl 70 1 i.2.2.1.1 i.2.2.2.2.length i.2.2.1.2 (i.2.2.2.2.map bF),ah fW i.2.2.2.2] h) λ_ h=>h
 obtain⟨⟨adP,cP⟩,⟨adN,cN⟩,⟨adE,cE⟩,xs,es⟩:=i;exact⟨adP,cP,adN,cN,adE,cE,xs,es,h1,I.open (M:=[_,_,_,_,_,_]) λ_ h=>h⟩
theorem b9.close (I:V W w (aa D.wb 40 [pt D.mb,.slice adP xs.length cP,.slice adN v.net.length cN,.slice adE es.length cE] ::
     Sl 34 1 adP xs.length cP (xs.map eD)::ah (dv W p) xs::cv 60 adN v.net.length cN v.net::Sl 70 1 adE es.length cE (es.map bF)::ah fW es::L))
 (h1:xs.map (·.1)=D.mv) (h2:xs.map (·.2)=v.ps) (h3:es.map (·.2.2)=v.ev):V W w (b9 W D p v::L) :=
 V.shut (M:=[_,_,_,_,_,_]) I λ_ h=>⟨((adP,cP),(adN,cN),(adE,cE),xs,es),⟨h1,h2,h3⟩,h⟩
theorem Nb (I:V W w (cv 60 ad n c l::cv 60 adN k cN net::aa wb 40 [x0,x1,.slice adN k cN,x3]::L))(hn:n≤1000)(hk:net.length≤300) :
   Calls prog 72 #[pt wb,.slice ad n c] w λe w'=>e=.returned (.tuple #[])∧∃ Nc Nd,V W w' (cv 60 Nc (eB net l).length Nd (eB net l)::aa wb 40 [x0,x1,.slice Nc (eB net l).length Nd,x3]::L):=by
 obtain⟨xs,eG,ch,I⟩:=cv.open I;have a8:xs.length=n:=by rw[← ch,← eG,bf]
 subst a8;obtain⟨ys,nA,jY,I⟩:=cv.open (I.pick (cv 60 adN k cN net));subst jY;refine EN func72 ntmps72 rfl rfl λa E=>?_;refine RN 2 E I λa E=>?_;refine aS (λμ a w=>∃ (i:Nat) (adN:Option Addr) (cN:Nat) (ys:List Mx) (N:List Ml),(μ=xs.length-i∧i≤xs.length∧N=eB net (l.take i)∧ys.map (·.2.2)=N)∧Fr a 30 [(0,pt wb),(1,.slice ad xs.length c),(4,.int .i64 i)]∧V W w (aa wb 40 [x0,x1,.slice adN N.length cN,x3]::Sl 60 3 adN N.length cN (rows bW ys)::ah bX ys::Sl 60 3 ad xs.length c (rows bW xs)::ah bX (xs.drop i)::L)) (xs.length) (⟨0,adN,cN,ys,net,⟨rfl,by omega,rfl,nA⟩,E.ab [0,1,4],(show V W w (Sl 60 3 adN net.length cN (rows bW ys)::ah bX ys::Sl 60 3 ad xs.length c (rows bW xs)::ah bX (xs.drop 0)::_) from I).sub⟩) ?_;clear E I;rintro μ a w ⟨i,adN,cN,ys,N,⟨rfl,hi,hN,uH⟩,E,I⟩;refine IF 6 E I (λaj a E=>?_) λaj a E=>?_
 ·
  have aJ:i<xs.length:=by omega
  have yk:i<l.length:=by omega
  have hNl:N.length≤300:=by rw[hN];exact FN hk
  have Gc:=Me net yk;rw[← hN]at Gc;obtain⟨x,hx⟩:∃ x,x=xs[i]:=⟨_,rfl⟩;have abE:x.2.2=l[i]:=by
   have h1:(xs.map (·.2.2))[i]?=l[i]?:=by rw[eG]
   rw[bn,aO aJ,aO yk,← hx]at h1;simpa using h1
  have eZ:xs[i]?=some x:=by rw[hx];exact aO aJ
  refine IF 8 E I (λan a E=>?_) λan a E=>?_
  ·
   refine RN 0 E I λa E=>?_;obtain⟨bi,oi,rfl,o4⟩:=(I.drew.pick (Sl 60 3 ad xs.length c (rows bW xs))).bY ad (by omega);replace o4:=jv oj o4 (aO aJ);rw[← hx]at o4;refine qv 0 (λw'=>Rd w' wb 0 [x0,x1,.slice adN N.length cN,x3]∧Rd w' bi (oi+i*3) (bW x)) [8,9] [0,1,2,3,5,6,7,3004,1008,1009,1010,11,12,1013] E I λa E=>?_;replace I:=I.drew;generalize w.drew=w at I o4 ⊢;have U:Rd w wb 0 [x0,x1,.slice adN N.length cN,x3]∧Rd w bi (oi+i*3) (bW x):=⟨I.ai (b:=wb),o4⟩;have hH:=Hd.any (λw'=>Rd w' wb 0 [x0,x1,.slice adN N.length cN,x3]∧Rd w' bi (oi+i*3) (bW x));refine RH 7 E I hH U λa E=>?_;refine QH E (λw hc=>ag E (hc.1 2 _ rfl)) U λa E=>?_;refine RH 0 E I hH U λa E=>?_;refine SS E (bO E underlying60 rfl Ty.t60 (U.2)) λa E=>?_;refine RH 0 E I hH U λa E=>?_;refine cm E rfl I underlying37 Ty.t60 rfl rfl rfl rfl (by decide) (by decide) λIE a w E I ho=>?_;clear ho;replace U:=hH.at w ⟨I.ai (b:=wb),jv oj (I.cX bi oi (by omega)) eZ⟩;refine RH 0 E I hH U λa E=>?_;refine cJ E rfl I underlying37 Ty.t60 rfl rfl I.ai rfl (by simp[Value.oneCell']) (by decide) (by decide) (by omega) λCO CP a w E I=>?_;rw[show rows bW ys++_=rows bW (ys++[x]) from by rw[j5];rfl]at I;refine ST 2 E I (λa w E I=>?_);refine RN 3 E I λa E=>?_;rw[j6 aJ,← hx]at I;have h1:V W w (bX x::ah bX (xs.drop (i+1))::_):=V.fE (l:=x::xs.drop (i+1)) (i:=0) (I.pick (ah bX (x::xs.drop (i+1)))) (by simp);have h3:=V.jB (f:=bX) (x:=x) ((h1.pick (ah bX ys)).pick (bX x));refine⟨xs.length-(i+1),by omega,i+1,CO,CP,ys++[x],N++[l[i]],⟨rfl,by omega,by rw[Gc,ow,al (by omega)],by rw[cU,uH,← abE];rfl⟩,E.ab [0,1,4],?_⟩;rw[aK,ja];exact h3.sub
  refine RN 3 E I λa E=>?_;rw[j6 aJ,← hx]at I;have h1:V W w (bX x::ah bX (xs.drop (i+1))::_):=V.fE (l:=x::xs.drop (i+1)) (i:=0) (I.pick (ah bX (x::xs.drop (i+1)))) (by simp);exact⟨xs.length-(i+1),by omega,i+1,adN,cN,ys,N,⟨rfl,by omega,by rw[Gc,ow,ae (by omega)],uH⟩,E.ab [0,1,4],h1.sub⟩
 refine RT 0 E I ?_;obtain rfl:i=xs.length:=by omega
 rw[fX (by omega)]at hN;subst hN;exact⟨rfl,adN,cN,(cv.close (I.sub (M:=Sl 60 3 adN (eB net l).length cN (rows bW ys)::ah bX ys::aa wb 40 [x0,x1,.slice adN (eB net l).length cN,x3]::L)) uH rfl)⟩
end
end
section
section
variable {W w:World}{L:List SP}{c k cP cN cE wb i:Nat}{adP adN adE:Option Addr}{p:Pr}{v:Wd}{D:qi}{net:List Ml}{xs:List (fT×Pl)}{es:List kl}{x:fT}{s vV s':Pl}{t:fz}{cf:Cf}
theorem A9 {ps:List Pl}(h2:xs.map (·.2)=ps)(hi:i<xs.length):∃ x,xs[i]?=some (x,ps.getD i AN):=by
 refine⟨xs[i].1,?_⟩;rw[aO hi,bl,← h2,bn,aO hi];rfl
theorem Ba (I:V W w (ah (dv W p) xs::L))(hx:xs[i]?=some (x,s)):V W w (bT W x p s::ah (dv W p) (xs.eraseIdx i)::L):=by
 obtain⟨hi,h1⟩:=a1.1 hx;have h2:=I.fE hi;rw[h1]at h2;exact h2
theorem Bb (I:V W w (bT W x p s::ah (dv W p) (xs.eraseIdx i)::L))(hx:xs[i]?=some (x,s)):V W w (ah (dv W p) xs::L):=by
 obtain⟨hi,h1⟩:=a1.1 hx;refine V.wi hi ?_;rw[h1];exact I
theorem Bd (hx:xs[i]?=some (x,s)):(xs.set i (x,s')).map eD=xs.map eD∧(xs.set i (x,s')).map (·.1)=xs.map (·.1):=by
 obtain⟨hi,h1⟩:=a1.1 hx;constructor
 ·rw[List.map_set,show eD (x,s')=(xs.map eD)[i]'(by rw[bf];exact hi) from by rw[getElem_map,h1],set_getElem_self]
 ·rw[List.map_set];show (xs.map (·.1)).set i x=_;rw[show x=(xs.map (·.1))[i]'(by rw[bf];exact hi) from by rw[getElem_map,h1],set_getElem_self]
theorem b9.put (h1:xs.map (·.1)=D.mv)(h2:xs.map (·.2)=v.ps)(h3:es.map (·.2.2)=v.ev)(hx:xs[i]?=some (x,vV))(net:List Ml)
   (I:V W w (bT W x p s'::ah (dv W p) (xs.eraseIdx i)::aa D.wb 40 [pt D.mb,.slice adP xs.length cP,.slice adN net.length cN,.slice adE es.length cE] ::
    Sl 34 1 adP xs.length cP (xs.map eD)::cv 60 adN net.length cN net::Sl 70 1 adE es.length cE (es.map bF)::ah fW es::L)) :
   V W w (b9 W D p { v with ps:=v.ps.set i s',net:=net }::L):=by
 obtain⟨hi,_⟩:=a1.1 hx;have h4:=V.ko (f:=dv W p) (x:=(x,s')) hi I;refine b9.close (adP:=adP) (cP:=cP) (adN:=adN) (cN:=cN) (adE:=adE) (cE:=cE) (xs:=xs.set i (x,s')) (es:=es) ?_ ((Bd hx).2.trans h1) (by rw[List.map_set,h2]) h3;rw[br,(Bd hx).1];exact h4.sub
theorem Nf (b:Int):IntKind.u8.wrap (IntKind.i64.wrap ((BitVec.ofInt IntKind.i64.bits b &&& BitVec.ofInt IntKind.i64.bits 255).toNat))=((fU b).toNat:Int):=by
 have h1:(BitVec.ofInt IntKind.i64.bits b &&& BitVec.ofInt IntKind.i64.bits 255).toNat=(b%256).toNat:=by
  have h2:(BitVec.ofInt 64 b &&& BitVec.ofInt 64 255).toNat=(BitVec.ofInt 64 b).toNat%256:=by
   rw[BitVec.toNat_and,show (BitVec.ofInt 64 255).toNat=2 ^ 8-1 from rfl,Nat.and_two_pow_sub_one_eq_mod]
  show (BitVec.ofInt 64 b &&& BitVec.ofInt 64 255).toNat=_;rw[h2,BitVec.toNat_ofInt];omega
 rw[h1,fz.u8,fU,fU];have h3:=Int.emod_nonneg b (show (256:Int)≠0 by decide);have h4:=Int.emod_lt_of_pos b (show (0:Int)<256 by decide);have h5:IntKind.i64.wrap ((b%256).toNat:Int)=b%256:=by rw[gr (by omega) (by omega)];omega
 rw[h5,Int.emod_emod_of_dvd _ (by decide)]
set_option maxHeartbeats 1000000 in
theorem abF (I:V W w (b9 W D p v::L))(hv:bI p cf c v)(aZ:dj p)(aE:p.title.size≤1000000000)(hc:c≤1000000)(hf:¬ (3≤t.fn∧t.fn≤6)) :
   Calls prog 50 #[pt D.wb,.agg (dC t).toArray] w λe w'=>e=.returned (.int .i64 (bt p t v).1)∧V W w' (b9 W D p (bt p t v).2::L):=by
 replace I:=b9.open I;obtain⟨adP,cP,adN,cN,adE,cE,xs,es,⟨ep,dc,ew⟩,I⟩:=I;have ch:xs.length=v.ps.length:=by rw[← dc,bf]
 have cd:∀ w',V W w' (aa D.wb 40 [pt D.mb,.slice adP xs.length cP,.slice adN v.net.length cN,.slice adE es.length cE]::Sl 34 1 adP xs.length cP (xs.map eD)::ah (dv W p) xs::cv 60 adN v.net.length cN v.net::Sl 70 1 adE es.length cE (es.map bF)::ah fW es::L)→V W w' (b9 W D p v::L):=λw' h=>b9.close h ep dc ew;refine EN func50 ntmps50 rfl rfl λa E=>?_;refine BX 1 E I λb3 a w E I=>?_;change V W w (aa b3 58 (dC t)::_) at I;refine BY 7 E I (λbP a E=>?_) λbP a E=>?_
 ·
  refine RT 7 E I ?_;rw[bt,al (by omega)];exact⟨rfl,cd _ I.sub⟩
 refine IF 4 E I (λaj a E=>?_) λaj a E=>?_
 ·
  refine RT 2 E I ?_;rw[bt,al (by omega)];exact⟨rfl,cd _ I.sub⟩
 refine RN 0 E I λa E=>?_;refine bZ (M:=λa w=>(¬ (t.fn<1∨8<t.fn)∧Fr a 74 [(0,pt D.wb),(3,pt b3),(4,.int .i64 0)])∧V W w (aa b3 58 (dC t)::aa D.wb 40 [pt D.mb,.slice adP xs.length cP,.slice adN v.net.length cN,.slice adE es.length cE]::Sl 34 1 adP xs.length cP (xs.map eD)::ah (dv W p) xs::cv 60 adN v.net.length cN v.net::Sl 70 1 adE es.length cE (es.map bF)::ah fW es::L)) ?_ ?_
 ·
  refine BY 5 E I (λbP a E=>?_) λbP a E=>?_
  ·
   refine RN 4 E I λa E=>?_;rw[bq (by omega)]at E;refine RN 1 E I λa E=>?_;exact⟨⟨by omega,E.ab [0,3,4]⟩,I.sub⟩
  refine RN 5 E I λa E=>?_;exact⟨⟨by omega,E.ab [0,3,4]⟩,I.sub⟩
 clear E;(try clear I);rintro a w ⟨⟨g2,E⟩,I⟩;refine bZ (M:=λa w=>(∃ i:Nat,(t.a=i∧i<v.ps.length)∧Fr a 74 [(0,pt D.wb),(3,pt b3),(4,.int .i64 0)])∧V W w (aa b3 58 (dC t)::aa D.wb 40 [pt D.mb,.slice adP xs.length cP,.slice adN v.net.length cN,.slice adE es.length cE]::Sl 34 1 adP xs.length cP (xs.map eD)::ah (dv W p) xs::cv 60 adN v.net.length cN v.net::Sl 70 1 adE es.length cE (es.map bF)::ah fW es::L)) ?_ ?_
 ·
  refine aY 1 (λw0 w'=>Rd w' b3 0 (dC t)∧Rd w' D.wb 0 [pt D.mb,.slice adP xs.length cP,.slice adN v.net.length cN,.slice adE es.length cE]) [9,10] [0,1001,2,3,4,6,7,8,3005,1009,1010,11,12] E I λa w E I hH=>?_;have U:=hH.at w ⟨I.ai (b:=b3),I.ai (b:=D.wb)⟩;refine RH 1 E I hH U λa E=>?_;refine SS E (ag E (U.1 1 _ rfl)) λa E=>?_;refine RH 2 E I hH U λa E=>?_;refine E.by (s:=28) (λbP E=>?_) (λbP E=>?_)
  ·
   refine RH 9 E I hH U λa E=>?_;refine RT 3 E I ?_;have ho:t.a<0∨(v.ps.length:Int)≤t.a:=by omega
   have aQ:bt p t v=(7,v):=by rw[bt,ae (by omega),ae hf,gm,al ho]
   rw[aQ];exact⟨rfl,cd _ I.sub⟩
  refine RH 4 E I hH U λa E=>?_;refine QH E (λw hc=>ag E (hc.1 1 _ rfl)) U λa E=>?_;refine RH 0 E I hH U λa E=>?_;refine bz E (cW E rfl (s:=28)) (ag E (U.2 1 _ rfl)) rfl λa E=>?_;refine RH 3 E I hH U λa E=>?_;refine IF 0 E I (λay a E=>?_) λay a E=>?_
  ·
   refine RT 2 E I ?_;have ho:t.a<0∨(v.ps.length:Int)≤t.a:=by omega
   have aQ:bt p t v=(7,v):=by rw[bt,ae (by omega),ae hf,gm,al ho]
   rw[aQ];exact⟨rfl,cd _ I.sub⟩
  refine RN 0 E I λa E=>?_;exact⟨⟨t.a.toNat,⟨by omega,by omega⟩,E.ab [0,3,4]⟩,I.sub⟩
 clear E;(try clear I);rintro a w ⟨⟨i,⟨fV,hi⟩,E⟩,I⟩;refine RN 1 E I λa E=>?_;obtain⟨x,hx⟩:∃ x,xs[i]?=some (x,aq v i):=A9 dc (by omega);have aQ:bt p t v=gm p t v:=by rw[bt,ae g2,ae hf]
 obtain⟨hw,df,wk⟩:=hv.pl i hi;have sX:(xs.map eD)[i]?=some (pt x.pb):=by rw[bn,hx];rfl
 obtain⟨bp,op,rfl,_⟩:=(I.pick (Sl 34 1 adP xs.length cP (xs.map eD))).bY adP (by omega);refine aY 0 (λw0 w'=>(Rd w' b3 0 (dC t)∧Rd w' D.wb 0 [pt D.mb,.slice (some ⟨bp,op,none⟩) xs.length cP,.slice adN v.net.length cN,.slice adE es.length cE])∧Rd w' bp op (xs.map eD)) [5] [0,1,2,4,3003,1005,6,1007,8] E I λa w E I hH=>?_;have U:=hH.at w ⟨⟨I.ai (b:=b3),I.ai (b:=D.wb)⟩,I.cX bp op (by omega)⟩;refine RH 4 E I hH U λa E=>?_;refine QH E (λw hc=>ag E (hc.1.2 1 _ rfl)) U λa E=>?_;refine RH 0 E I hH U λa E=>?_;refine SS E (ag E (U.1.1 1 _ rfl)) λa E=>?_;rw[fV]at E;refine RH 1 E I hH U λa E=>?_;refine SS E (ag E (U.2 i _ sX)) λa E=>?_;refine RH 1 E I hH U λa E=>?_;refine RN 2 E I λa E=>?_;replace I:=Ba (I.pick (ah (dv W p) xs)) hx;refine IF 5 E I (λbg a E=>?_) λbg a E=>?_
 ·
  refine RN 5 E I λa E=>?_;refine SS E (gd E underlying3 underlying5) λa E=>?_;rw[Nf]at E;refine CL 0 E I (aai (x:=fU t.b) (I.pick (bT W x p (aq v i))) hw aZ aE) λa w E I=>?_;refine RT 1 E I ?_;rw[aQ,AU (by assumption) fV hi];exact⟨rfl,b9.put (adP:=some ⟨bp,op,none⟩) (cP:=cP) (adN:=adN) (cN:=cN) (adE:=adE) (cE:=cE) ep dc ew hx v.net I.sub⟩
 refine IF 3 E I (λbM a E=>?_) λbM a E=>?_
 ·
  replace I:=bT.open (I.pick (bT W x p (aq v i)));refine a2 5 E I (Z8 (I.pick (aW x.core (aq v i).k)) hw.wc (by omega)) λGe n3 a w E I=>?_;refine CL 0 E I (Nb (((I.pick (aa D.wb 40 [pt D.mb,.slice (some ⟨bp,op,none⟩) xs.length cP,.slice adN v.net.length cN,.slice adE es.length cE])).pick (cv 60 adN v.net.length cN v.net)).pick (cv 60 Ge (bm (aq v i).k).1.length n3 (bm (aq v i).k).1)) (Mc hw.wc) hv.net.1) λa w E ⟨uI,uJ,I⟩=>?_;refine RN 0 E I λa E=>?_;replace I:=bT.fold I x p ⟨(bm (aq v i).k).2,(aq v i).g⟩;refine RT 2 E I ?_;rw[aQ]
  first
   | (rw[wj (by assumption) fV hi];exact⟨rfl,b9.put (adP:=some ⟨bp,op,none⟩) (cP:=cP) (adN:=uI) (cN:=uJ) (adE:=adE) (cE:=cE) ep dc ew hx (eB v.net (bm (aq v i).k).1) I.sub⟩)
   | (rw[yl (by assumption) fV hi];exact⟨rfl,b9.put (adP:=some ⟨bp,op,none⟩) (cP:=cP) (adN:=uI) (cN:=uJ) (adE:=adE) (cE:=cE) ep dc ew hx (eB v.net (cu (aq v i).k).1) I.sub⟩)
   | (rw[ym (by omega) fV hi];exact⟨rfl,cd _ (Bb ((I.pick (ah (dv W p) (xs.eraseIdx i))).pick (bT W x p (aq v i))) hx).sub⟩)
 refine IF 3 E I (λeP a E=>?_) λeP a E=>?_
 ·
  replace I:=bT.open (I.pick (bT W x p (aq v i)));refine a2 5 E I (Z5 (I.pick (aW x.core (aq v i).k)) hw.wc) λGe n3 a w E I=>?_;refine CL 0 E I (Nb (((I.pick (aa D.wb 40 [pt D.mb,.slice (some ⟨bp,op,none⟩) xs.length cP,.slice adN v.net.length cN,.slice adE es.length cE])).pick (cv 60 adN v.net.length cN v.net)).pick (cv 60 Ge (cu (aq v i).k).1.length n3 (cu (aq v i).k).1)) (Md hw.wc) hv.net.1) λa w E ⟨uI,uJ,I⟩=>?_;refine RN 0 E I λa E=>?_;replace I:=bT.fold I x p ⟨(cu (aq v i).k).2,(aq v i).g⟩;refine RT 2 E I ?_;rw[aQ]
  first
   | (rw[wj (by assumption) fV hi];exact⟨rfl,b9.put (adP:=some ⟨bp,op,none⟩) (cP:=cP) (adN:=uI) (cN:=uJ) (adE:=adE) (cE:=cE) ep dc ew hx (eB v.net (bm (aq v i).k).1) I.sub⟩)
   | (rw[yl (by assumption) fV hi];exact⟨rfl,b9.put (adP:=some ⟨bp,op,none⟩) (cP:=cP) (adN:=uI) (cN:=uJ) (adE:=adE) (cE:=cE) ep dc ew hx (eB v.net (cu (aq v i).k).1) I.sub⟩)
   | (rw[ym (by omega) fV hi];exact⟨rfl,cd _ (Bb ((I.pick (ah (dv W p) (xs.eraseIdx i))).pick (bT W x p (aq v i))) hx).sub⟩)
 refine RT 2 E I ?_;rw[aQ]
 first
  | (rw[wj (by assumption) fV hi];exact⟨rfl,b9.put (adP:=some ⟨bp,op,none⟩) (cP:=cP) (adN:=uI) (cN:=uJ) (adE:=adE) (cE:=cE) ep dc ew hx (eB v.net (bm (aq v i).k).1) I.sub⟩)
  | (rw[yl (by assumption) fV hi];exact⟨rfl,b9.put (adP:=some ⟨bp,op,none⟩) (cP:=cP) (adN:=uI) (cN:=uJ) (adE:=adE) (cE:=cE) ep dc ew hx (eB v.net (cu (aq v i).k).1) I.sub⟩)
  | (rw[ym (by omega) fV hi];exact⟨rfl,cd _ (Bb ((I.pick (ah (dv W p) (xs.eraseIdx i))).pick (bT W x p (aq v i))) hx).sub⟩)
end
end
section
section
variable {W w:World}{L L':List SP}{n c k cP cN cE wb i j:Nat}{adP adN adE:Option Addr}{p:Pr}{v:Wd}{D:qi}{net:List Ml}{xs:List (fT×Pl)}{es:List kl}{x:fT}{s:Pl}{t:fz}{cf:Cf}{m:Ml}
theorem abG (I:V W w (b9 W D p v::L))(ho:t.n<0∨(v.net.length:Int)≤t.n) :
   Calls prog 70 #[pt D.wb,.agg (dC t).toArray] w λe w'=>e=.returned (.int .i64 3)∧V W w' (b9 W D p v::L):=by
 replace I:=b9.open I;obtain⟨adP,cP,adN,cN,adE,cE,xs,es,⟨ep,dc,ew⟩,I⟩:=I;have cd:∀ w',V W w' (aa D.wb 40 [pt D.mb,.slice adP xs.length cP,.slice adN v.net.length cN,.slice adE es.length cE]::Sl 34 1 adP xs.length cP (xs.map eD)::ah (dv W p) xs::cv 60 adN v.net.length cN v.net::Sl 70 1 adE es.length cE (es.map bF)::ah fW es::L)→V W w' (b9 W D p v::L):=λw' h=>b9.close h ep dc ew;refine EN func70 ntmps70 rfl rfl λa E=>?_;refine BX 1 E I λb3 a w E I=>?_;change V W w (aa b3 58 (dC t)::_) at I;refine aY 3 (λw0 w'=>Rd w' b3 0 (dC t)∧Rd w' D.wb 0 [pt D.mb,.slice adP xs.length cP,.slice adN v.net.length cN,.slice adE es.length cE]) [9,10] [0,1001,2,3,4,6,7,8,3005,1009,1010,11,12] E I λa w E I hH=>?_;have U:=hH.at w ⟨I.ai (b:=b3),I.ai (b:=D.wb)⟩;refine RH 1 E I hH U λa E=>?_;refine SS E (ag E (U.1 3 _ rfl)) λa E=>?_;refine RH 2 E I hH U λa E=>?_;refine E.by (s:=10) (λbP E=>?_) (λbP E=>?_)
 ·
  refine RH 9 E I hH U λa E=>?_;refine RT 3 E I ?_;exact⟨rfl,cd _ I.sub⟩
 refine RH 4 E I hH U λa E=>?_;refine QH E (λw hc=>ag E (hc.1 3 _ rfl)) U λa E=>?_;refine RH 0 E I hH U λa E=>?_;refine bz E (cW E rfl (s:=10)) (ag E (U.2 2 _ rfl)) rfl λa E=>?_;refine RH 3 E I hH U λa E=>?_;rw[dd (by omega)]at E;refine RT 3 E I ?_;exact⟨rfl,cd _ I.sub⟩
theorem b9.Be {ys:List Mx}(h1:xs.map (·.1)=D.mv)(h2:xs.map (·.2)=v.ps)(h3:es.map (·.2.2)=v.ev)(hy:ys.map (·.2.2)=net)
   (I:V W w (Sl 60 3 adN net.length cN (rows bW ys)::ah bX ys::aa D.wb 40 [pt D.mb,.slice adP xs.length cP,.slice adN net.length cN,.slice adE es.length cE]::Sl 34 1 adP xs.length cP (xs.map eD)::ah (dv W p) xs::Sl 70 1 adE es.length cE (es.map bF)::ah fW es::L)) :
   V W w (b9 W D p { v with net:=net }::L):=by
 have h4:=cv.close I hy rfl;exact b9.close (v:={ v with net:=net }) (h4.sub (M:=aa D.wb 40 [pt D.mb,.slice adP xs.length cP,.slice adN net.length cN,.slice adE es.length cE]::Sl 34 1 adP xs.length cP (xs.map eD)::ah (dv W p) xs::cv 60 adN net.length cN net::Sl 70 1 adE es.length cE (es.map bF)::ah fW es::L)) h1 h2 h3
theorem Gf {ys:List Mx}{y:Mx}(I:V W w (ah bX ys::L))(hy:ys[j]?=some y):a6 w y.1 y.2.2.2.2.length y.2.2.2.2:=by
 obtain⟨h1,h2⟩:=a1.1 hy;have h3:=I.fE h1;rw[h2]at h3;exact V.cF (L:=bX y::_) h3 _ _ (k:=(fL.head:fL (Sl 5 1 y.1 y.2.2.2.2.length y.2.1 (bc y.2.2.2.2)::_) y.1 _ _ _ _ _ _)) rfl rfl
set_option maxHeartbeats 2000000 in
theorem abH (I:V W w (b9 W D p v::L))(hv:bI p cf c v)(aZ:dj p)(aE:p.title.size≤1000000000)(hf:t.fn=3∨t.fn=4∨t.fn=5∨t.fn=6)(gE:t.n=j)(hm:v.net[j]?=some m) :
   Calls prog 70 #[pt D.wb,.agg (dC t).toArray] w λe w'=>e=.returned (.int .i64 (gD p t v).1)∧V W w' (b9 W D p (gD p t v).2::L):=by
 have eO:=(a1.1 hm).1;have gn:=hv.FO eO;rw[AW hm]at gn;obtain⟨hw,df,wk⟩:=hv.pl m.2.1 gn.1;have oY:=hv.net.1;replace I:=b9.open I;obtain⟨adP,cP,adN,cN,adE,cE,xs,es,⟨ep,dc,ew⟩,I⟩:=I;have ch:xs.length=v.ps.length:=by rw[← dc,bf]
 obtain⟨ys,nA,jY,I⟩:=cv.open (I.pick (cv 60 adN v.net.length cN v.net));have uH:ys.length=v.net.length:=by rw[← nA,bf]
 obtain⟨y,hy,lX⟩:∃ y,ys[j]?=some y∧y.2.2=m:=by
  have h1:(ys.map (·.2.2))[j]?=some m:=by rw[nA,hm]
  rw[bn,aO (by omega)]at h1;exact⟨_,aO (by omega),by simpa using h1⟩
 subst lX;obtain⟨bx,on,rfl,_⟩:=(I.pick (Sl 60 3 adN v.net.length cN (rows bW ys))).bY adN (by omega);refine EN func70 ntmps70 rfl rfl λa E=>?_;refine BX 1 E I λb3 a w E I=>?_;change V W w (aa b3 58 (dC t)::_) at I;refine aY 3 (λw0 w'=>Rd w' b3 0 (dC t)∧Rd w' D.wb 0 [pt D.mb,.slice adP xs.length cP,.slice (some ⟨bx,on,none⟩) v.net.length cN,.slice adE es.length cE]) [9,10] [0,1001,2,3,4,6,7,8,3005,1009,1010,11,12] E I λa w E I hH=>?_;have U:=hH.at w ⟨I.ai (b:=b3),I.ai (b:=D.wb)⟩;refine RH 1 E I hH U λa E=>?_;refine SS E (ag E (U.1 3 _ rfl)) λa E=>?_;refine RH 2 E I hH U λa E=>?_;rw[bq (by omega)]at E;refine RH 4 E I hH U λa E=>?_;refine QH E (λw hc=>ag E (hc.1 3 _ rfl)) U λa E=>?_;refine RH 0 E I hH U λa E=>?_;refine bz E (cW E rfl (s:=10)) (ag E (U.2 2 _ rfl)) rfl λa E=>?_;refine RH 3 E I hH U λa E=>?_;rw[bq (by omega)]at E;refine aY 2 (λw0 w'=>(Rd w' b3 0 (dC t)∧Rd w' D.wb 0 [pt D.mb,.slice adP xs.length cP,.slice (some ⟨bx,on,none⟩) v.net.length cN,.slice adE es.length cE])∧Rd w' bx (on+j*3) (bW y)) [5,8] [0,1,2,4,3003,3005,6,3007,1008,1009] E I λa w E I hH=>?_;have U:=hH.at w ⟨⟨I.ai (b:=b3),I.ai (b:=D.wb)⟩,jv oj (I.cX bx on (by omega)) hy⟩;refine RH 4 E I hH U λa E=>?_;refine QH E (λw hc=>ag E (hc.1.2 2 _ rfl)) U λa E=>?_;refine QH E (λw hc=>ag E (hc.1.1 3 _ rfl)) U λa E=>?_;rw[gE]at E;refine RH 1 E I hH U λa E=>?_;refine QH E (λw hc=>bO E underlying60 rfl Ty.t60 (hc.2)) U λa E=>?_;refine RH 0 E I hH U λa E=>?_;refine eS E rfl I Ty.t60 rfl λb5 a w E I ho=>?_;clear ho;replace U:=hH.at w ⟨⟨I.ai (b:=b3),I.ai (b:=D.wb)⟩,jv oj (I.cX bx on (by omega)) hy⟩;refine RH 0 E I hH U λa E=>?_;refine SA 0 E I λa w E I=>?_;refine RN 0 E I λa E=>?_;refine IF 5 E I (λan a E=>?_) λan a E=>?_
 ·
  refine BY 6 E I (λbP a E=>?_) λbP a E=>?_
  ·
   refine RT 10 E I ?_;have ho:t.a<0∨(y.2.2.2.2.length:Int)≤t.a:=by omega
   rw[uB (by assumption) gE hm,al ho];exact⟨rfl,b9.Be (adP:=adP) (cP:=cP) (adN:=some ⟨bx,on,none⟩) (cN:=cN) (adE:=adE) (cE:=cE) (net:=v.net) (ys:=ys) ep dc ew nA I.sub⟩
  refine IF 7 E I (λay a E=>?_) λay a E=>?_
  ·
   refine RT 2 E I ?_;have ho:t.a<0∨(y.2.2.2.2.length:Int)≤t.a:=by omega
   rw[uB (by assumption) gE hm,al ho];exact⟨rfl,b9.Be (adP:=adP) (cP:=cP) (adN:=some ⟨bx,on,none⟩) (cN:=cN) (adE:=adE) (cE:=cE) (net:=v.net) (ys:=ys) ep dc ew nA I.sub⟩
  refine RN 1 E I λa E=>?_;have ho:¬ (t.a<0∨(y.2.2.2.2.length:Int)≤t.a):=by omega
  obtain⟨A,hA⟩:∃ A:Nat,t.a=A:=⟨t.a.toNat,by omega⟩;have Bf:A<y.2.2.2.2.length:=by omega
  have zL:=Gf (I.pick (ah bX ys)) hy;replace I:=I.bH 5 1 none;refine RN 2 E I λa E=>?_;refine gW E rfl I underlying22 Ty.t5 rfl rfl (by decide) (λh0=>zL.get h0) (by rw[dx];omega) (ek _) (by omega) λm3 kP a w E I=>?_;rw[nil_append,Nat.zero_add]at I;rw[Nat.zero_add]at E;refine RN 2 E I λa E=>?_;have aeq:=((I.pick (Sl 5 1 m3 y.2.2.2.2.length kP (bc y.2.2.2.2))).sl m3).2;obtain⟨bb,pre,post,⟨h3,h4,rfl,h6⟩,gx⟩:=(I.pick (Sl 5 1 m3 y.2.2.2.2.length kP (bc y.2.2.2.2))).ln (by omega);replace I:=gx;clear gx;have hb:(pre++bc y.2.2.2.2++post)[pre.length+A]?=some (.int .u8 (y.2.2.2.2[A].toNat:Int)):=by
   rw[dw,getElem?_append_right (by omega),show pre.length+A-pre.length=A from by omega,lM (by rw[dx];exact Bf)];simp[bc,Bf]
  refine aY 0 (λw0 w'=>Rd w' b3 0 (dC t)∧w'.cell? ⟨bb,pre.length+A,none⟩=some (.int .u8 (y.2.2.2.2[A].toNat:Int))) [6,7,8] [0,1,5,3002,3,3004,1006,1007,1008,9,10,1011] E I λa w E I hH=>?_;have U:=hH.at w ⟨I.ai (b:=b3),I.bu (b:=bb) hb⟩;refine RH 3 E I hH U λa E=>?_;refine QH E (λw hc=>ag E (hc.1 1 _ rfl)) U λa E=>?_;rw[hA]at E;refine RH 1 E I hH U λa E=>?_;refine QH E (λw hc=>ag E (hc.2)) U λa E=>?_;refine RH 0 E I hH U λa E=>?_;refine SS E (ag E (U.1 2 _ rfl)) λa E=>?_;refine RH 1 E I hH U λa E=>?_;refine SS E (gd E underlying3 underlying5) λa E=>?_;rw[Nf]at E;refine RH 2 E I hH U λa E=>?_;refine ST 0 E I (λa w E I=>?_) (hlt:=(by simp only[aK,dx];omega));refine RN 0 E I λa E=>?_;rw[yh (by rw[dx];exact Bf),Mr]at I;have Ng:=V.iF (n:=y.2.2.2.2.length) (c:=kP) (sz:=1) (I.jy bb) (by rw[dx,br,Nat.mul_one]) h4 h6;replace I:=Ng;clear Ng;have oZ:=((I.pick (Sl 60 3 (some ⟨bx,on,none⟩) v.net.length cN (rows bW ys))).sl (some ⟨bx,on,none⟩)).2;obtain⟨lj,uK,Nh,⟨qo,rK,vy,Ni⟩,gx⟩:=(I.pick (Sl 60 3 (some ⟨bx,on,none⟩) v.net.length cN (rows bW ys))).ln (by omega);replace I:=gx;clear gx;obtain⟨rfl,rfl⟩:bx=lj∧on=uK.length:=by simpa using vy
  refine aY 1 (λw0 w'=>Rd w' b3 0 (dC t)∧Rd w' D.wb 0 [pt D.mb,.slice adP xs.length cP,.slice (some ⟨bx,uK.length,none⟩) v.net.length cN,.slice adE es.length cE]) [5] [0,1,2,4,6,3003,1005,7,8,1009] E I λa w E I hH=>?_;have U:=hH.at w ⟨I.ai (b:=b3),I.ai (b:=D.wb)⟩;refine RH 5 E I hH U λa E=>?_;refine QH E (λw hc=>ag E (hc.2 2 _ rfl)) U λa E=>?_;refine RH 0 E I hH U λa E=>?_;refine SS E (ag E (U.1 3 _ rfl)) λa E=>?_;rw[gE]at E;refine RH 2 E I hH U λa E=>?_;refine ST 0 E I (λa w E I=>?_) (hlt:=(by simp only[aK];omega));refine RT 2 E I ?_;rw[uB (by assumption) gE hm,ae ho];refine⟨rfl,?_⟩;rw[hA,Int.toNat_natCast,bl,aO Bf,Option.getD_some];obtain⟨sk,yu⟩:=a1.1 hy;obtain⟨Y,vb⟩:∃ Y:Mx,Y=(some ⟨bb,pre.length,none⟩,kP,(y.2.2.1,y.2.2.2.1,y.2.2.2.2.set A (y.2.2.2.2[A] ^^^ fU t.b))):=⟨_,rfl⟩;have e1:(rows bW ys).set (j*3+2) (.slice (some ⟨bb,pre.length,none⟩) y.2.2.2.2.length kP)=rows bW (ys.set j Y):=pM oj ys (i:=j) (k:=2) Y sk (by decide) (by rw[yu,vb];simp[bW,br]);rw[Nat.add_assoc,yh (by rw[qo];omega),e1]at I;have h8:=V.iF (n:=v.net.length) (c:=cN) (sz:=3) (I.jy bx) (by rw[iT oj,br,uH]) rK Ni;have h9:=((h8.pick (ah bX ys)).fE sk).tail;have FU:Sl 5 1 (some ⟨bb,pre.length,none⟩) y.2.2.2.2.length kP (bc (y.2.2.2.2.set A (y.2.2.2.2[A] ^^^ fU t.b)))=bX Y:=by rw[vb,bX];simp only[br]
  have fF:=(h9.pick (ah bX (ys.eraseIdx j))).pick (Sl 5 1 (some ⟨bb,pre.length,none⟩) y.2.2.2.2.length kP (bc (y.2.2.2.2.set A (y.2.2.2.2[A] ^^^ fU t.b))));rw[FU]at fF;have mH:=V.ko (f:=bX) sk fF;refine b9.Be (adP:=adP) (cP:=cP) (adN:=some ⟨bx,uK.length,none⟩) (cN:=cN) (adE:=adE) (cE:=cE) (ys:=ys.set j Y) ep dc ew (by rw[List.map_set,nA,vb]) ?_;rw[br];exact mH.sub
 refine RN 0 E I λa E=>?_;refine bZ (M:=λa w=>∃ (cj:Option Addr) (cM:Nat) (zs:List Mx) (Z:SP),((zs.map (·.2.2)=(if t.fn=5 then v.net else v.net.eraseIdx j)∧(∀ w' L',V W w' (ah bX zs::Z::L')→a6 w' y.1 y.2.2.2.2.length y.2.2.2.2)∧y.2.2.2.2.length≤y.2.1)∧Fr a 103 [(0,pt D.wb),(3,pt b3),(5,pt b5)])∧V W w (aa b5 60 (bW y)::aa b3 58 (dC t)::Sl 60 3 cj zs.length cM (rows bW zs)::ah bX zs::Z::aa D.wb 40 [pt D.mb,.slice adP xs.length cP,.slice cj zs.length cM,.slice adE es.length cE]::Sl 34 1 adP xs.length cP (xs.map eD)::ah (dv W p) xs::Sl 70 1 adE es.length cE (es.map bF)::ah fW es::L)) ?_ ?_
 ·
  refine IF 4 E I (λbg a E=>?_) λbg a E=>?_
  ·
   refine RN 0 E I λa E=>?_;have oZ:=((I.pick (Sl 60 3 (some ⟨bx,on,none⟩) v.net.length cN (rows bW ys))).sl (some ⟨bx,on,none⟩)).2;refine aY 0 (λw0 w'=>Rd w' b3 0 (dC t)∧Rd w' D.wb 0 [pt D.mb,.slice adP xs.length cP,.slice (some ⟨bx,on,none⟩) v.net.length cN,.slice adE es.length cE]) [6,8,13,15,16,17] [0,1,2,3,5,7,10,11,12,14,3004,3006,3008,9,3013,1015,1016,1017,1018,19,20,1021] E I λa w E I hH=>?_;have U:=hH.at w ⟨I.ai (b:=b3),I.ai (b:=D.wb)⟩;refine RH 10 E I hH U λa E=>?_;refine QH E (λw hc=>ag E (hc.2 2 _ rfl)) U λa E=>?_;refine QH E (λw hc=>ag E (hc.1 3 _ rfl)) U λa E=>?_;rw[gE]at E;refine RH 0 E I hH U λa E=>?_;refine QH E (λw hc=>ag E (hc.1 3 _ rfl)) U λa E=>?_;rw[gE]at E;refine RH 1 E I hH U λa E=>?_;refine QH E (λw hc=>ag E (hc.2 2 _ rfl)) U λa E=>?_;refine RH 0 E I hH U λa E=>?_;refine SS E (ag E (U.1 3 _ rfl)) λa E=>?_;rw[gE]at E;refine RH 2 E I hH U λa E=>?_;have abI:fm (some ⟨bx,on,none⟩) 0 j 3=some ⟨bx,on,none⟩:=by
    by_cases h0:j=0
    ·subst h0;rfl
    ·rw[oG h0,Nat.zero_mul,Nat.add_zero]
   have v7:rows bW ys=rows bW (ys.take j)++rows bW (ys.drop j):=by rw[← j5,jz]
   have abJ:rows bW ys=rows bW (ys.take (j+1))++rows bW (ys.drop (j+1)):=by rw[← j5,jz]
   have cK:Rd w bx (on+(j+1)*3) (rows bW (ys.drop (j+1))):=by
    have h1:Rd w bx on (rows bW ys):=I.cX bx on (by omega);have h2:=h1.part ((j+1)*3) ((ys.length-(j+1))*3);rw[abJ,List.drop_left' (by rw[iT oj,en];omega),fX (by rw[iT oj,c7];omega)]at h2;exact h2
   obtain⟨lj,uK,Nh,⟨qo,rK,vy,Ni⟩,gx⟩:=(I.pick (Sl 60 3 (some ⟨bx,on,none⟩) v.net.length cN (rows bW ys))).ln (by omega);obtain⟨rfl,rfl⟩:bx=lj∧on=uK.length:=by simpa using vy
   rw[v7,← dw uK,dw _ _ Nh]at gx;replace I:=V.iF (n:=j) (c:=j) (sz:=3) gx (by rw[iT oj,en];omega) (bh _) (by omega);clear gx;rw[abI]at E;refine gW E rfl I underlying37 Ty.t60 rfl rfl (by decide) (λh0=>⟨bx,uK.length+(j+1)*3,oG (by omega),cK⟩) (by rw[iT oj,c7];omega) (yK XX _) (by omega) λabK c86 a w E I=>?_;rw[← j5,← eraseIdx_eq_take_drop_succ]at I;have rq:j+(v.net.length-(j+1))=(ys.eraseIdx j).length:=by rw[List.length_eraseIdx_of_lt (by omega)];omega
   rw[rq]at I E;refine ST 2 E I (λa w E I=>?_);refine RN 0 E I λa E=>?_;obtain⟨sk,yu⟩:=a1.1 hy;have h1:=(I.pick (ah bX ys)).fE sk;rw[yu]at h1;have om:y.2.2.2.2.length≤y.2.1:=(V.sl (L:=bX y::_) (k:=(fL.head:fL (Sl 5 1 y.1 y.2.2.2.2.length y.2.1 (bc y.2.2.2.2)::_) y.1 _ _ _ _ _ _)) h1 y.1).2;refine⟨abK,c86,ys.eraseIdx j,bX y,⟨⟨?_,λw' L' h=>?_,om⟩,E.ab [0,3,5]⟩,h1.sub⟩
   ·rw[ae (by omega),← nA];simp only[eraseIdx_eq_take_drop_succ,cU,map_take,map_drop]
   ·have h2:=h.pick (bX y);exact V.cF (L:=bX y::_) h2 _ _ (k:=(fL.head:fL (Sl 5 1 y.1 y.2.2.2.2.length y.2.1 (bc y.2.2.2.2)::_) y.1 _ _ _ _ _ _)) rfl rfl
  refine RN 0 E I λa E=>?_;obtain⟨sk,yu⟩:=a1.1 hy;have om:y.2.2.2.2.length≤y.2.1:=by
   have h1:=(I.pick (ah bX ys)).fE sk;rw[yu]at h1;exact (V.sl (L:=bX y::_) (k:=(fL.head:fL (Sl 5 1 y.1 y.2.2.2.2.length y.2.1 (bc y.2.2.2.2)::_) y.1 _ _ _ _ _ _)) h1 y.1).2
  refine⟨some ⟨bx,on,none⟩,cN,ys,Sl 5 1 none 0 0 [],⟨⟨by rw[al (by omega)];exact nA,λw' L' h=>Gf h hy,om⟩,E.ab [0,3,5]⟩,?_⟩;rw[uH];exact (I.bH 5 1 none).sub
 clear E;(try clear I);rintro a w ⟨cj,cM,zs,Z,⟨⟨qe,abL,om⟩,E⟩,I⟩;refine IF 5 E I (λbM a E=>?_) λbM a E=>?_
 ·
  refine RT 2 E I ?_;have iR:zs.length=(v.net.eraseIdx j).length:=by rw[← bf (f:=(·.2.2)),qe,ae (by omega)]
  rw[F1 (by assumption) gE hm];rw[ae (by omega)]at qe;refine⟨rfl,?_⟩;refine b9.Be (adP:=adP) (cP:=cP) (adN:=cj) (cN:=cM) (adE:=adE) (cE:=cE) (ys:=zs) ep dc ew qe ?_;rw[← iR];exact I.sub
 refine RN 1 E I λa E=>?_;obtain⟨x,hx⟩:∃ x,xs[y.2.2.2.1]?=some (x,aq v y.2.2.2.1):=A9 dc (by omega);have sX:(xs.map eD)[y.2.2.2.1]?=some (pt x.pb):=by rw[bn,hx];rfl
 obtain⟨bp,op,rfl,_⟩:=(I.pick (Sl 34 1 adP xs.length cP (xs.map eD))).bY adP (by omega);refine aY 0 (λw0 w'=>(Rd w' b5 0 (bW y)∧Rd w' D.wb 0 [pt D.mb,.slice (some ⟨bp,op,none⟩) xs.length cP,.slice cj zs.length cM,.slice adE es.length cE])∧Rd w' bp op (xs.map eD)) [5,9] [0,1,2,4,8,3003,3005,6,3007,1009,1010,11] E I λa w E I hH=>?_;have U:=hH.at w ⟨⟨I.ai (b:=b5),I.ai (b:=D.wb)⟩,I.cX bp op (by omega)⟩;refine RH 5 E I hH U λa E=>?_;refine QH E (λw hc=>ag E (hc.1.2 1 _ rfl)) U λa E=>?_;refine QH E (λw hc=>ag E (hc.1.1 1 _ rfl)) U λa E=>?_;refine RH 1 E I hH U λa E=>?_;refine QH E (λw hc=>ag E (hc.2 _ _ sX)) U λa E=>?_;refine RH 0 E I hH U λa E=>?_;refine SS E (ag E (U.1.1 2 _ rfl)) λa E=>?_;replace I:=Ba (I.pick (ah (dv W p) xs)) hx;refine RH 0 E I hH U λa E=>?_;refine CL 0 E I (aaj (bs:=y.2.2.2.2) (I.pick (bT W x p (aq v y.2.2.2.1))) hw aZ aE (by omega) om (λw' dh=>abL w' _ ((dh.pick Z).pick (ah bX zs)))) λa w E I=>?_;refine RN 1 E I λa E=>?_;refine RT 0 E I ?_;rw[AX (by omega) (by omega) gE hm];refine⟨rfl,?_⟩;have iR:zs.length=(if t.fn=5 then v.net else v.net.eraseIdx j).length:=by rw[← bf (f:=(·.2.2)),qe]
 have h1:=cv.close ((I.pick (ah bX zs)).pick (Sl 60 3 cj zs.length cM (rows bW zs))) qe iR.symm;refine b9.put (adP:=some ⟨bp,op,none⟩) (cP:=cP) (adN:=cj) (cN:=cM) (adE:=adE) (cE:=cE) ep dc ew hx (if t.fn=5 then v.net else v.net.eraseIdx j) ?_;rw[← iR];exact h1.sub
end
end
section
section
variable {W w:World}{L:List SP}{c:Nat}{p:Pr}{v:Wd}{D:qi}{t:fz}{cf:Cf}
theorem abM (I:V W w (b9 W D p v::L))(hv:bI p cf c v)(aZ:dj p)(aE:p.title.size≤1000000000)(hf:t.fn=3∨t.fn=4∨t.fn=5∨t.fn=6) :
   Calls prog 70 #[pt D.wb,.agg (dC t).toArray] w λe w'=>e=.returned (.int .i64 (gD p t v).1)∧V W w' (b9 W D p (gD p t v).2::L):=by
 by_cases h0:t.n<0∨(v.net.length:Int)≤t.n
 ·rw[MQ h0];exact abG I h0
 ·exact abH (j:=t.n.toNat) I hv aZ aE hf (by omega) (aO (by omega))
theorem abN (I:V W w (b9 W D p v::L))(hv:bI p cf c v)(aZ:dj p)(aE:p.title.size≤1000000000)(hf:3≤t.fn∧t.fn≤6) :
   Calls prog 50 #[pt D.wb,.agg (dC t).toArray] w λe w'=>e=.returned (.int .i64 (bt p t v).1)∧V W w' (b9 W D p (bt p t v).2::L):=by
 have aQ:bt p t v=gD p t v:=by rw[bt,ae (by omega),al hf]
 rw[aQ];refine EN func50 ntmps50 rfl rfl λa E=>?_;refine BX 1 E I λb3 a w E I=>?_;change V W w (aa b3 58 (dC t)::_) at I;refine RN 7 E I λa E=>?_;rw[bq (by omega)]at E;refine RN 4 E I λa E=>?_;rw[bq (by omega)]at E;refine RN 7 E I λa E=>?_;rw[dd (by omega)]at E;refine RN 4 E I λa E=>?_;rw[dd (by omega)]at E;refine CL 4 E I (abM (I.pick (b9 W D p v)) hv aZ aE (by omega)) λa w E I=>?_;refine RT 1 E I ?_;exact⟨rfl,I.sub⟩
theorem abO (I:V W w (b9 W D p v::L))(hv:bI p cf c v)(aZ:dj p)(aE:p.title.size≤1000000000)(hc:c≤1000000) :
   Calls prog 50 #[pt D.wb,.agg (dC t).toArray] w λe w'=>e=.returned (.int .i64 (bt p t v).1)∧V W w' (b9 W D p (bt p t v).2::L):=by
 by_cases hf:3≤t.fn∧t.fn≤6
 ·exact abN I hv aZ aE hf
 ·exact abF I hv aZ aE hc hf
end
end
section
section
variable {W w:World}{L:List SP}{c i:Nat}{p:Pr}{v:Wd}{B:jw}
theorem abP (I:V W w (aP W B p c v::L))(hi:i<v.ps.length)(rq:v.ev.length=v.ps.length)(hl:(v.ev.getD i []).length≤1000000000) :
   Calls prog 34 #[pt B.mb,.int .i64 i] w λe w'=>∃ ad c',e=.returned (.slice ad (v.ev.getD i []).length c')∧V W w' (Sl 135 1 ad (v.ev.getD i []).length c' ((v.ev.getD i []).map cy)::aP W B p c v::L):=by
 replace I:=aP.wm I;obtain⟨adL,cL,adE,cE,xs,es,⟨h1,h2,h3⟩,I⟩:=I;have ch:xs.length=v.ps.length:=by rw[← h2,bf]
 have abQ:es.length=v.ps.length:=by rw[← rq,← h3,bf]
 obtain⟨im,iq,l,kQ⟩:∃ im iq l,es[i]?=some (im,iq,l):=⟨_,_,_,aO (by omega)⟩;obtain⟨wv,oA⟩:=a1.1 kQ;have p5:v.ev.getD i []=l:=by rw[← h3,bl,bn,kQ];rfl
 rw[p5]at hl ⊢;refine EN func34 ntmps34 rfl rfl λa E=>?_;refine CL 6 E I (rp ((I.pick (Sl 81 1 adL xs.length cL (xs.map cB))).pick (aa B.mb 107 [.slice adL xs.length cL,pt B.q,.slice adE es.length cE])) (by omega)) λa w E I=>?_;refine RN 1 E I λa E=>?_;replace E:=E.aN 8;refine RN 2 E I λa E=>?_;obtain⟨iD,oE,rfl,iK⟩:=(I.pick (Sl 90 1 adE es.length cE (es.map bF))).bY adE (by omega);have n1:=iK i (.slice im l.length iq) (by rw[bn,kQ];rfl);refine RN 6 E I λa E=>?_;refine SS E (ag E (n1)) λa E=>?_;replace I:=(I.pick (ah eC es)).fE wv;rw[oA]at I;change V W w (Sl 135 1 im l.length iq (l.map cy)::_) at I;refine a2 0 E I (ML I hl) λad2 c2 a w E I=>?_;refine RT 1 E I ?_;refine⟨ad2,c2,rfl,?_⟩;have h4:=(I.pick (ah eC (es.eraseIdx i))).pick (Sl 135 1 im l.length iq (l.map cy));have h5:V W w (ah eC es::_):=V.wi (f:=eC) wv (by rw[oA];exact h4);have h6:V W w (aP W B p c v::Sl 135 1 ad2 l.length c2 (l.map cy)::L):=aP.uC (adL:=adL) (cL:=cL) (adE:=some ⟨iD,oE,none⟩) (cE:=cE) (xs:=xs) (es:=es) h5.sub h1 h2 h3;exact h6.sub
end
end
section
def rA (v:Wd):Prop:=∀ i,i<v.ps.length→(aq v i).k.ev=[]
theorem abR {v:Wd}{i:Nat}(hi:i<v.ps.length)(hl:v.ev.length=v.ps.length)(h:(aq v i).k.ev=[]):AO i v=v:=by
 have h1:(⟨{ (aq v i).k with ev:=[] },(aq v i).g⟩:Pl)=v.ps[i]:=by
  rw[show ({ (aq v i).k with ev:=[] }:Ks)=(aq v i).k from by rw[← h]];show aq v i=_;rw[aq,bl,aO hi];rfl
 have h2:v.ev.getD i []++(aq v i).k.ev=v.ev[i]'(by omega):=by
  rw[h,append_nil,bl,aO (by omega)];rfl
 rw[AO,h1,h2,set_getElem_self,set_getElem_self]
theorem Nj {v:Wd}(hl:v.ev.length=v.ps.length)(h:rA v):∀ i,i≤v.ps.length→cw v i=v
 | 0,_=>rfl
 | i+1,hi=>by
  show AO i (cw v i)=v;rw[Nj hl h i (by omega)];exact abR (by omega) hl (h i (by omega))
theorem Gg {v:Wd}(hl:v.ev.length=v.ps.length)(h:rA v):lh v=v:=Nj hl h _ (bh _)
theorem abS (v:Wd):rA (lh v):=λi hi=>by
 have h1:i<v.ps.length:=by rw[lh,(rk v _).1]at hi;exact hi
 rw[lh,yg v (bh _),al h1]
theorem Nk {p:Pr}{t:fz}{v:Wd}(h:t.fn=7):(bt p t v).2=v:=by
 rw[bt,ae (by omega),ae (by omega),gm];split
 ·rfl
 ·rw[ae (by omega),ae (by omega),ae (by omega)]
section
variable {W w:World}{L:List SP}{c i:Nat}{p:Pr}{v:Wd}{B:jw}{D:qi}{t:fz}{cf:Cf}
theorem Gh {mb:Nat}(hmb:mb=B.mb)(I:V W w (aP W B p c v::L))(hB:B.Ok p (c+10))(hv:bI p cf c v)(k0:9*c+100≤1000000000) :
   Calls prog 29 #[pt mb,.agg (dC t).toArray] w λe w'=>∃ z:Int,e=.returned (.int .i64 z)∧(t.fn≠7→z=(bt p t v).1)∧(t.fn=7→AZ B t v z)∧V W w' (aP W B p (c+10) (lh (bt p t v).2)::L):=by
 subst hmb;exact MS I hB hv k0
set_option maxHeartbeats 2000000 in
theorem abT (I:V W w (aP W B p c v::b9 W D p v::L))(wx:D.mb=B.mb)(hB:B.Ok p (c+10))(hv:bI p cf c v)(Bg:rA v)(k0:9*c+100≤1000000000)
   (Nl:∀ (w:World) (u:Wd),bI p cf (c+10) u→rA u→V W w (aP W B p (c+10) u::b9 W D p u::L)→Calls prog 33 #[pt D.wb] w λe w'=>e=.returned (.bool true)∧V W w' (aP W B p (c+10) u::b9 W D p u::L)) :
   Calls prog 32 #[pt D.wb,.agg (dC t).toArray] w λe w'=>e=.returned (.bool true)∧V W w' (aP W B p (c+10) (ee p t v)::b9 W D p (ee p t v)::L):=by
 have mL:=hB.c;have hu:=hv.step (s:=t);refine EN func32 ntmps32 rfl rfl λa E=>?_;refine BX 1 E I λb3 a w E I=>?_;change V W w (aa b3 58 (dC t)::_) at I;refine IF 6 E I (λaj a E=>?_) λaj a E=>?_
 ·
  refine RN 1 E I λa E=>?_;replace I:=b9.open (I.pick (b9 W D p v));obtain⟨adP,cP,adN,cN,adE,cE,xs,es,⟨ep,dc,ew⟩,I⟩:=I;refine bL 0 [4] [0,1,2,3003,1004,1005] E I λa w E I hH U=>?_;refine RH 5 E I hH U λa E=>?_;refine bd 0 E I (Gh wx (I.pick (aP W B p c v)) hB hv k0) λz a w E ⟨_,_,I⟩=>?_;refine RN 1 E I λa E=>?_;rw[Nk (by assumption),Gg hv.ev Bg]at I;replace I:=b9.close (v:=v) (D:=D) (I.sub (M:=aa D.wb 40 [pt D.mb,.slice adP xs.length cP,.slice adN v.net.length cN,.slice adE es.length cE]::Sl 34 1 adP xs.length cP (xs.map eD)::ah (dv W p) xs::cv 60 adN v.net.length cN v.net::Sl 70 1 adE es.length cE (es.map bF)::ah fW es::aP W B p (c+10) v::L)) ep dc ew;refine CL 1 E I (Nl _ v (hv.more (by omega)) Bg (I.pick (aP W B p (c+10) v))) λa w E I=>?_;refine RT 1 E I ?_;rw[ee,al (by assumption)];exact⟨rfl,I⟩
 refine CL 3 E I (abO (I.pick (b9 W D p v)) hv hB.pr hB.sz (by omega)) λa w E I=>?_;refine RN 3 E I λa E=>?_;generalize Nm:(bt p t v).2=u at I hu;replace I:=b9.open (I.pick (b9 W D p u));obtain⟨adP,cP,adN,cN,adE,cE,yo,yp,⟨ep,dc,ew⟩,I⟩:=I;have ch:yo.length=u.ps.length:=by rw[← dc,bf]
 have rq:yp.length=u.ps.length:=by rw[← hu.ev,← ew,bf]
 have vY:=hu.len;refine bL 0 [4] [0,1,2,6,3003,1004,1005,7] E I λa w E I hH U=>?_;refine RH 6 E I hH U λa E=>?_;refine bd 0 E I (Gh wx (I.pick (aP W B p c v)) hB hv k0) λz a w E ⟨c5,_,I⟩=>?_;rw[c5 (by assumption)]at E;rw[Nm]at I;refine RN 1 E I λa E=>?_;rw[bq (by simp)]at E;refine RN 4 E I λa E=>?_;refine aS (λμ a w=>∃ (i:Nat) (xs:List (fT×Pl)) (es:List kl),(μ=u.ps.length-i∧(i≤u.ps.length∧xs.length=u.ps.length∧es.length=u.ps.length)∧xs.map (·.1)=D.mv∧xs.map (·.2)=(cw u i).ps∧es.map (·.2.2)=(cw u i).ev)∧Fr a 65 [(0,pt D.wb),(6,.int .i64 i)]∧V W w (aa D.wb 40 [pt D.mb,.slice adP u.ps.length cP,.slice adN u.net.length cN,.slice adE u.ps.length cE]::Sl 34 1 adP u.ps.length cP (xs.map eD)::ah (dv W p) xs::cv 60 adN u.net.length cN u.net::Sl 70 1 adE u.ps.length cE (es.map bF)::ah fW es::aP W B p (c+10) (lh u)::L)) (u.ps.length) (⟨0,yo,yp,⟨rfl,⟨by omega,ch,rq⟩,ep,dc,ew⟩,E.ab [0,6],(by rw[ch,rq]at I;exact I.sub)⟩) ?_;clear E I;rintro μ a w ⟨i,xs,es,⟨rfl,⟨hi,yq,yr⟩,tO,sC,p4⟩,E,I⟩;refine IF 9 E I (λay a E=>?_) λay a E=>?_
 ·
  have aJ:i<u.ps.length:=by omega
  obtain⟨x,hx⟩:∃ x,xs[i]?=some (x,(aq (cw u i) i)):=A9 sC (by omega);have sX:(xs.map eD)[i]?=some (pt x.pb):=by rw[bn,hx];rfl
  have hd:=hu.cw (i:=i) (by omega);obtain⟨hw,df,wk⟩:=hd.pl i (by rw[(rk u i).1];exact aJ);have F3:=hd.kK;have MT:=hw.wc.kK;obtain⟨im,iq,l,kQ⟩:∃ im iq l,es[i]?=some (im,iq,l):=⟨_,_,_,aO (by omega)⟩;obtain⟨_,oA⟩:=a1.1 kQ;have ia:l.length≤9*(c+2):=(F3 l (by rw[← p4];exact c8.2 ⟨(im,iq,l),by rw[← oA];exact getElem_mem _,rfl⟩)).1;refine RN 1 E I λa E=>?_;obtain⟨bp,op,rfl,_⟩:=(I.pick (Sl 34 1 adP u.ps.length cP (xs.map eD))).bY adP (by omega);obtain⟨iD,oE,rfl,_⟩:=(I.pick (Sl 70 1 adE u.ps.length cE (es.map bF))).bY adE (by omega);replace I:=bT.open (Ba (I.pick (ah (dv W p) xs)) hx);refine aY 0 (λw0 w'=>(Rd w' D.wb 0 [pt D.mb,.slice (some ⟨bp,op,none⟩) u.ps.length cP,.slice adN u.net.length cN,.slice (some ⟨iD,oE,none⟩) u.ps.length cE]∧Rd w' iD oE (es.map bF))∧Rd w' bp op (xs.map eD)∧Rd w' x.pb 0 (eR p x (aq (cw u i) i).g)) [8,10,11,15,17,18,19,20,21,22,23] [0,1,2,4,5,6,7,9,12,13,14,16,3003,3008,3010,3011,1015,1017,1018,1019,1020,1021,1022,1023,24,1025] E I λa w E I hH=>?_;have U:=hH.at w ⟨⟨I.ai (b:=D.wb),I.cX iD oE (by omega)⟩,I.cX bp op (by omega),I.ai (b:=x.pb)⟩;refine RH 12 E I hH U λa E=>?_;refine QH E (λw hc=>ag E (hc.1.1 3 _ rfl)) U λa E=>?_;refine QH E (λw hc=>ag E (hc.1.1 3 _ rfl)) U λa E=>?_;refine RH 1 E I hH U λa E=>?_;refine QH E (λw hc=>ag E (hc.1.2 i (.slice im l.length iq) (by rw[bn,kQ];rfl))) U λa E=>?_;refine RH 0 E I hH U λa E=>?_;refine SS E (ag E (U.1.1 1 _ rfl)) λa E=>?_;refine RH 1 E I hH U λa E=>?_;refine SS E (ag E (U.2.1 i _ sX)) λa E=>?_;refine RH 2 E I hH U λa E=>?_;refine SS E (ag E (U.2.2 0 _ rfl)) λa E=>?_;refine RH 0 E I hH U λa E=>?_;refine a2 0 E I (ZQ (I.pick (aW x.core (aq (cw u i) i).k))) λam ji a w E I=>?_;replace U:=hH.at w ⟨⟨I.ai (b:=D.wb),I.cX iD oE (by omega)⟩,I.cX bp op (by omega),I.ai (b:=x.pb)⟩;replace I:=(I.pick (ah fW es)).fE (i:=i) (by omega);rw[oA]at I;change V W w (Sl 102 3 im l.length iq (rows bS l)::_) at I;refine RH 0 E I hH U λa E=>?_;refine gW E rfl I underlying70 Ty.t102 rfl rfl (by decide) (λh0=>(I.pick (Sl 102 3 am (aq (cw u i) i).k.ev.length ji (rows bS (aq (cw u i) i).k.ev))).bY am h0) (by rw[iT El]) (yK Em _) (by omega) λwy wz a w E I=>?_;replace U:=hH.at w ⟨⟨I.ai (b:=D.wb),I.cX iD oE (by omega)⟩,I.cX bp op (by omega),I.ai (b:=x.pb)⟩;have hcE:=((I.pick (Sl 70 1 (some ⟨iD,oE,none⟩) u.ps.length cE (es.map bF))).sl (some ⟨iD,oE,none⟩)).2;obtain⟨lj,pre,post,⟨h3,h4,h5,h6⟩,gx⟩:=(I.pick (Sl 70 1 (some ⟨iD,oE,none⟩) u.ps.length cE (es.map bF))).ln (by omega);replace I:=gx;clear gx;obtain⟨rfl,rfl⟩:iD=lj∧oE=pre.length:=by simpa using h5
  refine RH 1 E I hH U λa E=>?_;refine ST 0 E I (λa w E I=>?_) (hlt:=(by simp only[aK,bf];omega));refine RN 3 E I λa E=>?_;have p5:(cw u i).ev.getD i []=l:=by rw[← p4,bl,bn,kQ];rfl
  have F4:(es.map bF).set i (.slice wy (l.length+(aq (cw u i) i).k.ev.length) wz)=(es.set i (wy,wz,l++(aq (cw u i) i).k.ev)).map bF:=by
   rw[List.map_set,bF,aK]
  have dy:=I;rw[yh (by rw[bf];omega),F4]at dy;replace dy:=V.iF (n:=u.ps.length) (c:=cE) (sz:=1) (dy.jy iD) (by rw[bf,br];omega) h4 h6;have yi:=bT.fold dy x p ⟨{ (aq (cw u i) i).k with ev:=[] },(aq (cw u i) i).g⟩;have hk:=V.ko (f:=dv W p) (x:=(x,⟨{ (aq (cw u i) i).k with ev:=[] },(aq (cw u i) i).g⟩)) (i:=i) (by omega) ((yi.pick (ah (dv W p) (xs.eraseIdx i))).pick (bT W x p ⟨{ (aq (cw u i) i).k with ev:=[] },(aq (cw u i) i).g⟩));have pn:Sl 102 3 wy (l.length+(aq (cw u i) i).k.ev.length) wz (rows bS l++rows bS (aq (cw u i) i).k.ev)=fW (wy,wz,l++(aq (cw u i) i).k.ev):=by
   rw[fW,aK,j5]
  have hq:=(hk.pick (ah fW (es.eraseIdx i))).pick (Sl 102 3 wy (l.length+(aq (cw u i) i).k.ev.length) wz (rows bS l++rows bS (aq (cw u i) i).k.ev));rw[pn]at hq;have eN:=V.ko (f:=fW) (i:=i) (by omega) hq;refine⟨u.ps.length-(i+1),by omega,i+1,xs.set i (x,⟨{ (aq (cw u i) i).k with ev:=[] },(aq (cw u i) i).g⟩),es.set i (wy,wz,l++(aq (cw u i) i).k.ev),⟨rfl,⟨by omega,by rw[br];exact yq,by rw[br];exact yr⟩,(Bd hx).2.trans tO,?_,?_⟩,E.ab [0,6],?_⟩
  ·rw[List.map_set,sC];rfl
  ·rw[List.map_set,p4,← p5];rfl
  ·rw[(Bd hx).1];exact eN.sub
 refine RN 1 E I λa E=>?_;obtain rfl:i=u.ps.length:=by omega
 have eI:ee p t v=lh u:=by rw[ee,ae (by assumption),Nm]
 rw[eI];have hD:V W w (b9 W D p (lh u)::aP W B p (c+10) (lh u)::L):=by
  refine b9.close (adP:=adP) (cP:=cP) (adN:=adN) (cN:=cN) (adE:=adE) (cE:=cE) (xs:=xs) (es:=es) ?_ tO sC p4;rw[yq,yr,show (lh u).net=u.net from (rk u _).2.1];exact I.sub
 replace I:=hD.pick (aP W B p (c+10) (lh u));refine CL 1 E I (Nl _ (lh u) (hu.drain.more (by omega)) (abS u) I) λa w E I=>?_;refine RT 1 E I ?_;exact⟨rfl,I⟩
end
end
section
section
variable {p:Pr}{cf:Cf}{K:Int→Prop}{G G':List (List UInt8)}{v:Wd}{c i j x y:Nat}{n:Nat}{T:Nat→Nat}{net:List Ml}{ev:List (List jV)}{m:Ml}{q:Pk}{b:UInt8}
theorem uL (hi:i<n):aq (gp p cf n) i=ez p (dN cf i):=by
 rw[aq,gp,bl,bn,getElem?_range hi];rfl
theorem rB:(gp p cf n).ps.length=n:=by rw[gp,bf,length_range]
theorem sY (h:fg cf)(hi:i<cf.n.toNat):fg (dN cf i):=by
 obtain⟨⟨h1,h2,h3⟩,h4⟩:=h;refine⟨⟨h1,?_,h3⟩,h4⟩;show fv (i:Int) 0 (cf.n-1);unfold fv at h1 ⊢;omega
theorem Gi (h:fg cf):bI p cf 0 (gp p cf cf.n.toNat):=by
 refine⟨h,rB,?_,λi hi=>?_,⟨Nat.zero_le _,λm hm=>by cases hm⟩,λe he=>?_⟩
 ·rw[rB];exact j8
 ·rw[rB]at hi;rw[uL hi];have h1:=sY h hi;obtain⟨mr,h2⟩:=uF p h1;refine⟨cx.new h1,?_,by rw[h2];exact bh _⟩;rw[h2];exact (WC.new h1).2.2
 ·have h1:=List.eq_of_mem_replicate (show e∈List.replicate _ [] from he);subst h1;exact⟨Nat.zero_le _,λx hx=>by cases hx⟩
theorem Nn (h:fg cf):rA (gp p cf cf.n.toNat):=λi hi=>by
 rw[rB]at hi;rw[uL hi];obtain⟨mr,h2⟩:=uF p (sY h hi);rw[h2];rfl
theorem Bh (h:fg cf)(hi:i<cf.n.toNat)(hj:j<cf.n.toNat):bK (gp p cf cf.n.toNat) i j=cf.aH.toNat:=by
 rw[bK,uL hi];obtain⟨mr,h2⟩:=uF p (sY h hi);rw[h2];show ((List.replicate cf.n.toNat (List.replicate cf.aH.toNat (0:UInt8))).getD j []).length=_;rw[bl,List.getElem?_replicate,al hj];exact j8
theorem No (h:fg cf)(hi:i<cf.n.toNat)(hj:j<cf.n.toNat):au (ez p (dN cf i)).k j=fw cf.aH.toNat:=by
 obtain⟨mr,h2⟩:=uF p (sY h hi);rw[h2,au,bl];show ((List.replicate cf.n.toNat (fw cf.aH.toNat))[j]?).getD _=_;rw[List.getElem?_replicate,al hj];rfl
theorem gN.new (h:fg cf):gN p cf K (List.replicate cf.n.toNat (List.replicate cf.aH.toNat 0)) (gp p cf cf.n.toNat):=by
 have hl:=rB (p:=p) (cf:=cf) (n:=cf.n.toNat);refine⟨λi hi=>?_,λa b E hb A7=>?_,λi hi=>?_,λm hm=>(by cases hm),λl hl e he=>?_,λi hi=>?_⟩
 ·rw[hl]at hi;rw[uL hi];have h1:=sY h hi;obtain⟨mr,h2⟩:=uF p h1;refine⟨cx.new h1,by rw[h2];exact Ext.refl _,by rw[h2];rfl,λj hj=>?_⟩;have kT:j<cf.n.toNat:=by
   rw[h2]at hj;have:j<(List.replicate cf.n.toNat (fw cf.aH.toNat)).length:=hj
   rwa [j8]at this
  rw[No h hi kT];exact⟨rfl,Nat.zero_le _,λh=>absurd h (by show ¬ 0<0;omega)⟩
 ·rw[hl]at E hb;rw[Bh h hb E,Bh h E hb,pB,uL E,No h E hb];exact⟨bh _,Nat.le_add_right _ _⟩
 ·rw[hl]at hi;rw[Bh h hi hi];have h1:cf.aH.toNat≤ax (aq (gp p cf cf.n.toNat) i).k:=by
   rw[uL hi];obtain⟨mr,h2⟩:=uF p (sY h hi);rw[h2];have hc:=(WC.new (sY h hi)).1;refine D7 hc.kL λl hl=>?_;have:=List.eq_of_mem_replicate (show l∈List.replicate cf.n.toNat (List.replicate cf.aH.toNat (0:UInt8)) from hl);rw[this,j8];exact bh _
  omega
 ·have h1:=List.eq_of_mem_replicate (show l∈List.replicate _ [] from hl);subst h1;cases he
 ·rw[Nn h i hi] ;intro e he;cases he
structure Lv (p:Pr)(cf:Cf)(T:Nat→Nat)(v:Wd):Prop where
 ok:∃ c,bI p cf c v
 lk:∃ G,gN p cf (·=1) G v
 op:∀ i,i<v.ps.length→(aq v i).k.cl=false∧(aq v i).k.now≤T i∧(aq v i).k.ev=[]
 ev:∀ l∈v.ev,l=[]
theorem Lv.calm (h:Lv p cf T v):rA v:=λi hi=>(h.op i hi).2.2
theorem Lv.still (h:Lv p cf T v):lh v=v:=by
 obtain⟨c,hv⟩:=h.ok;exact Gg hv.ev h.calm
theorem Lv.new (h:fg cf):Lv p cf (λ_=>0) (gp p cf cf.n.toNat):=⟨⟨0,Gi h⟩,⟨_,gN.new h⟩,λi hi=>by
 rw[rB]at hi;rw[uL hi];obtain⟨mr,h2⟩:=uF p (sY h hi);rw[h2];exact⟨rfl,bh _,rfl⟩,λl hl=>List.eq_of_mem_replicate (show l∈List.replicate _ [] from hl)⟩
theorem Lv.abU (h:Lv p cf T v)(hi:i<v.ps.length)(hj:j<v.ps.length):ax (aq v i).k≤bK v i j:=by
 obtain⟨c,hv⟩:=h.ok;exact vE (tU (by rw[(hv.pl i hi).1.wc.ls,hv.sV hi];exact hj))
theorem Lv.abV (h:Lv p cf T v)(hi:i<v.ps.length)(hx:∀ j,j<v.ps.length→x≤bK v i j):x≤ax (aq v i).k:=by
 obtain⟨c,hv⟩:=h.ok;refine D7 (hv.pl i hi).1.wc.kL λl hl=>?_;obtain⟨j,hj,rfl⟩:=List.getElem_of_mem hl;rw[(hv.pl i hi).1.wc.ls,hv.sV hi]at hj;have:=hx j hj;rw[bK,bl,aO (by rw[(hv.pl i hi).1.wc.ls,hv.sV hi];exact hj)]at this;exact this
theorem Lv.front {h:Nat}(qT:Lv p cf T v)(hi:i<v.ps.length)(hx:∀ j,j<v.ps.length→h≤bK v i j)(hy:j<v.ps.length)(he:bK v i j=h):ax (aq v i).k=h :=
 Nat.le_antisymm (he ▸ qT.abU hi hy) (qT.abV hi hx)
theorem Lv.head (h:Lv p cf T v)(hi:i<v.ps.length):aF (aq v i).k=bK v i i:=by
 obtain⟨c,hv⟩:=h.ok;rw[aF,(hv.qh hi).1];rfl
theorem Lv.ak (h:Lv p cf T v)(hi:i<v.ps.length)(b n:Int):Lv p cf T (ee p ⟨1,i,b,n⟩ v)∧(ee p ⟨1,i,b,n⟩ v).net=v.net∧(ee p ⟨1,i,b,n⟩ v).ps.length=v.ps.length ∧
   (∀ x y,bK (ee p ⟨1,i,b,n⟩ v) x y=bK v x y+if (x=i∧y=i)∧bK v i i<1000∧bK v i i<cf.bo.toNat+ax (aq v i).k then 1 else 0) ∧
   (bK v i i<1000∧bK v i i<cf.bo.toNat+ax (aq v i).k→(bt p ⟨1,i,b,n⟩ v).1=0):=by
 obtain⟨c,hv⟩:=h.ok;obtain⟨G,oB⟩:=h.lk;obtain⟨eA,wq,bU,hn,_⟩:=hv.qh hi;have aQ:bt p ⟨1,i,b,n⟩ v=((dI p (fU b) (aq v i)).1,{ v with ps:=v.ps.set i (dI p (fU b) (aq v i)).2 }):=by
  rw[bt,ae (by show ¬ ((1:Int)<1∨(8:Int)<1);omega),ae (by show ¬ ((3:Int)≤1∧(1:Int)≤6);omega),AU rfl rfl hi]
 obtain⟨⟨G',h1⟩,h2⟩:=oB.ak hv hi (fU b);have q8:=hv.ak hi (fU b);have u2:(dI p (fU b) (aq v i)).2.k.cl=(aq v i).k.cl∧(dI p (fU b) (aq v i)).2.k.now=(aq v i).k.now∧(dI p (fU b) (aq v i)).2.k.ev=(aq v i).k.ev:=by
  by_cases h0:(dI p (fU b) (aq v i)).1=0
  ·obtain⟨_,mr,hk⟩:=(oB.pl i hi).ak h0;rw[hk];exact⟨rfl,rfl,rfl⟩
  ·rw[MY (hv.pl i hi).1 h0];exact⟨rfl,rfl,rfl⟩
 have qT:Lv p cf T { v with ps:=v.ps.set i (dI p (fU b) (aq v i)).2 }:=⟨⟨_,q8⟩,⟨G',h1⟩,λj hj=>by
  have kT:j<v.ps.length:=by have:j<(v.ps.set i _).length:=hj;rwa [br]at this
  rw[qg hi];split
  ·rename_i e;subst e;rw[u2.1,u2.2.1,u2.2.2];exact h.op _ hi
  ·exact h.op j kT,h.ev⟩
 have eI:ee p ⟨1,i,b,n⟩ v={ v with ps:=v.ps.set i (dI p (fU b) (aq v i)).2 }:=by
  rw[ee,ae (by show ¬ (1:Int)=7;omega),aQ,qT.still]
 have Gj:(dI p (fU b) (aq v i)).1=0↔bK v i i<1000∧bK v i i<cf.bo.toNat+ax (aq v i).k:=by
  have hd:=h.head hi;show (c3 (fU b) (aq v i).k).1=0↔_;rw[c3,ae (by rw[(h.op i hi).1];decide),← hd,← wq];split
  ·exact⟨λh=>absurd h (by intro e;cases e),λh=>by omega⟩
  ·split
   ·exact⟨λh=>absurd h (by intro e;cases e),λh=>by omega⟩
   ·exact⟨λ_=>by omega,λ_=>rfl⟩
 rw[eI];refine⟨qT,rfl,br,λx y=>?_,λh=>by rw[aQ];exact Gj.2 h⟩;rw[h2];by_cases e:x=i∧y=i
 ·by_cases e2:(dI p (fU b) (aq v i)).1=0
  ·rw[al ⟨e,e2⟩,al ⟨e,Gj.1 e2⟩]
  ·rw[ae (λh=>e2 h.2),ae (λh=>e2 (Gj.2 h.2))]
 ·rw[ae (λh=>e h.1),ae (λh=>e h.1)]
noncomputable def sZ (v:Wd)(i:Nat):List Ml:=((List.range v.ps.length).filter (·≠i)).map λj=>(i,j,aR (dS (aq v i).k j))
theorem abW {k:Ks}(hc:k.cl=false)(hn:k.now<39):bm k=((bB k).map λi=>(k.me,i,aR (dS k i)),{ k with now:=k.now+1 }):=by
 rw[bm,ae (by rw[hc];decide)];simp only;have:(bB { k with now:=k.now+1 }).find? (λi=>decide (jd { k with now:=k.now+1 } i))=none:=by
  rw[List.find?_eq_none];intro i _;rw[decide_eq_true_eq,jd];show ¬ (_+40≤k.now+1);omega
 rw[this];rfl
theorem Np:∀ {l net:List Ml},net.length+l.length≤300→eB net l=net++l
 | [],net,_=>by rw[append_nil];rfl
 | m::l,net,h=>by
  rw[e9]at h;show eB (ow net m) l=_;rw[ow,al (by omega),Np (by rw[aK,ja];omega),dw];rfl
theorem Lv.tick (h:Lv p cf T v)(hT:T i<39)(hi:i<v.ps.length)(hf:v.net.length+v.ps.length≤300)(b n:Int):Lv p cf (λj=>if j=i then T j+1 else T j) (ee p ⟨2,i,b,n⟩ v)∧(ee p ⟨2,i,b,n⟩ v).net=v.net++sZ v i∧(ee p ⟨2,i,b,n⟩ v).ps.length=v.ps.length ∧
   (∀ x y,bK (ee p ⟨2,i,b,n⟩ v) x y=bK v x y)∧(∀ m∈sZ v i,ry m=bK v i i)∧(bt p ⟨2,i,b,n⟩ v).1=0:=by
 obtain⟨c,hv⟩:=h.ok;obtain⟨G,oB⟩:=h.lk;obtain⟨eA,wq,bU,hn,_⟩:=hv.qh hi;have ho:=h.op i hi;have fV:=abW ho.1 (by omega);have gH:(bm (aq v i).k).1=sZ v i:=by rw[fV,sZ,bB,hn,eA]
 have lR:(sZ v i).length≤v.ps.length:=by
  rw[sZ,bf];exact gO (length_filter_le _ _) (by rw[length_range];exact bh _)
 have aQ:bt p ⟨2,i,b,n⟩ v=(0,{ v with ps:=v.ps.set i ⟨(bm (aq v i).k).2,(aq v i).g⟩,net:=eB v.net (bm (aq v i).k).1 }):=by
  rw[bt,ae (by show ¬ ((2:Int)<1∨(8:Int)<2);omega),ae (by show ¬ ((3:Int)≤2∧(2:Int)≤6);omega),wj rfl rfl hi]
 obtain⟨h1,h2⟩:=oB.tick hv hi rfl;have qT:Lv p cf (λj=>if j=i then T j+1 else T j) { v with ps:=v.ps.set i ⟨(bm (aq v i).k).2,(aq v i).g⟩,net:=eB v.net (bm (aq v i).k).1 }:=⟨⟨_,hv.tick hi⟩,⟨G,h1⟩,λj hj=>by
  have kT:j<v.ps.length:=by have:j<(v.ps.set i _).length:=hj;rwa [br]at this
  rw[qg hi];split
  ·rename_i e;subst e;show (bm (aq v i).k).2.cl=false∧(bm (aq v i).k).2.now≤_∧(bm (aq v i).k).2.ev=[];rw[fV];exact⟨ho.1,by show (aq v i).k.now+1≤if i=i then _ else _;rw[al rfl];omega,ho.2.2⟩
  ·have:=h.op j kT;exact⟨this.1,by split <;> omega,this.2.2⟩,h.ev⟩
 have eI:ee p ⟨2,i,b,n⟩ v={ v with ps:=v.ps.set i ⟨(bm (aq v i).k).2,(aq v i).g⟩,net:=eB v.net (bm (aq v i).k).1 }:=by
  rw[ee,ae (by show ¬ (2:Int)=7;omega),aQ,qT.still]
 rw[eI];refine⟨qT,?_,br,λx y=>h2 x y,λm hm=>?_,by rw[aQ]⟩
 ·show eB v.net (bm (aq v i).k).1=_;rw[gH,Np (by omega)]
 ·rw[← gH]at hm;obtain⟨q,_,hq⟩:=oB.M7 hv hi rfl hm;exact hq
theorem Lv.abX (h:Lv p cf T v)(vc:m∈v.net)(xc:∀ m∈net,m∈v.net)(hl:net.length≤v.net.length):Lv p cf T { v with ps:=v.ps.set m.2.1 (dJ p m.2.2 (aq v m.2.1)).2,net:=net }∧(dJ p m.2.2 (aq v m.2.1)).1=0 ∧
   (∀ x y,bK { v with ps:=v.ps.set m.2.1 (dJ p m.2.2 (aq v m.2.1)).2,net:=net } x y=if x=m.2.1∧y=m.1 then max (bK v x y) (ry m) else bK v x y)∧m.1<v.ps.length∧m.2.1<v.ps.length∧m.1≠m.2.1:=by
 obtain⟨c,hv⟩:=h.ok;obtain⟨G,oB⟩:=h.lk;obtain⟨q,hq⟩:=oB.net m vc;obtain⟨h1,h2⟩:=oB.recv hv vc xc;have hi:=hq.lt.2;obtain⟨eA,wq,bU,hn,_⟩:=hv.qh hi;obtain⟨_,h0,mr,hk⟩:=(oB.pl _ hi).xO hq.lk (h.op _ hi).1 (by rw[hq.to,eA]) (by rw[hq.fr,hn];have:=hq.lt.1;omega) (by rw[hq.id,bU]) hq.kind;rw[← hq.bs]at h0 hk;have oY:=hv.net.1;refine⟨⟨⟨_,hv.recv hi m.2.2 (net:=net) (by omega) λm hm=>hv.net.2 m (xc m hm)⟩,⟨G,h1⟩,λj hj=>?_,h.ev⟩,h0,λx y=>?_,hq.lt.1,hi,λe=>hq.lk.may.2.2.1 (by rw[hq.fr,hq.to,e])⟩
 ·have kT:j<v.ps.length:=by have:j<(v.ps.set m.2.1 _).length:=hj;rwa [br]at this
  rw[qg hi];split
  ·rename_i e;subst e;rw[hk];exact h.op _ hi
  ·exact h.op j kT
 ·rw[h2];by_cases e:x=m.2.1∧y=m.1
  ·rw[al ⟨e,(h.op _ hi).1⟩,al e]
  ·rw[ae (λh=>e h.1),ae e]
theorem Nq (p:Pr){r:List Ml}(hm:v.net=m::r)(a b:Int):bt p ⟨3,a,b,0⟩ v=((dJ p m.2.2 (aq v m.2.1)).1,{ v with ps:=v.ps.set m.2.1 (dJ p m.2.2 (aq v m.2.1)).2,net:=r }):=by
 rw[bt,ae (by show ¬ ((3:Int)<1∨(8:Int)<3);omega),al (by show (3:Int)≤3∧(3:Int)≤6;omega),AX (j:=0) (m:=m) (by show (3:Int)≠4;omega) (by show (3:Int)≠6;omega) rfl (by rw[hm];rfl)];show (_,Wd.mk _ (if (3:Int)=5 then v.net else v.net.eraseIdx 0) _)=_;rw[ae (by omega),hm];rfl
theorem Lv.send (h:Lv p cf T v){r:List Ml}(hm:v.net=m::r)(a b:Int):Lv p cf T (ee p ⟨3,a,b,0⟩ v)∧(ee p ⟨3,a,b,0⟩ v).net=r∧(ee p ⟨3,a,b,0⟩ v).ps.length=v.ps.length ∧
   (∀ x y,bK (ee p ⟨3,a,b,0⟩ v) x y=if x=m.2.1∧y=m.1 then max (bK v x y) (ry m) else bK v x y)∧(bt p ⟨3,a,b,0⟩ v).1=0∧m.1<v.ps.length∧m.2.1<v.ps.length∧m.1≠m.2.1:=by
 obtain⟨h1,h2,h3,h4⟩:=h.abX (m:=m) (net:=r) (by rw[hm];exact mem_cons_self) (λm' wg=>by rw[hm];exact gP _ wg) (by rw[hm,e9];omega);have eI:ee p ⟨3,a,b,0⟩ v={ v with ps:=v.ps.set m.2.1 (dJ p m.2.2 (aq v m.2.1)).2,net:=r }:=by
  rw[ee,ae (by show ¬ (3:Int)=7;omega),Nq p hm,h1.still]
 rw[eI];exact⟨h1,rfl,br,h3,by rw[Nq p hm];exact h2,h4⟩
end
end
section
section
variable {W w:World}{L:List SP}{c c' m i:Nat}{ad av:Option Addr}{ev:List (Nat×Nat×Nat)}{e:jV}{M:jg}{p:Pr}{s:Pl}{cf:Cf}
theorem abY (I:V W w (Sl 135 1 ad ev.length c (ev.map cy)::L))(hn:ev.length≤1000000000)(ho:∀ e∈ev,sF e):Calls prog 55 #[.slice ad ev.length c] w λr w'=>∃ av c',r=.returned (.slice av ev.length c')∧V W w' (Sl 102 3 av ev.length c' (rows bS ev)::L):=by
 refine EN func55 ntmps55 rfl rfl λa E=>?_;refine RN 7 E I λa E=>?_;replace I:=I.bH 102 3 none;refine aS (λμ a w=>∃ (i:Nat) (mi:Option Addr) (co:Nat),(μ=ev.length-i∧i≤ev.length)∧Fr a 20 [(0,.slice ad ev.length c),(3,.slice mi i co),(4,.int .i64 i)]∧V W w (Sl 102 3 mi i co (rows bS (ev.take i))::Sl 135 1 ad ev.length c (ev.map cy)::L)) (ev.length) (⟨0,none,0,⟨rfl,by omega⟩,E.ab [0,3,4],(show V W w (Sl 102 3 none 0 0 (rows bS (ev.take 0))::_) from I).sub⟩) ?_;clear E I;rintro μ a w ⟨i,mi,co,⟨rfl,hi⟩,E,I⟩;refine IF 6 E I (λaj a E=>?_) λaj a E=>?_
 ·
  have aJ:i<ev.length:=by omega
  obtain⟨bi,oi,rfl,o4⟩:=(I.pick (Sl 135 1 ad ev.length c (ev.map cy))).bY ad (by omega);have fc:=o4 i (cy ev[i]) (by rw[bn,aO aJ];rfl);have Nr:=ho _ (getElem_mem aJ);generalize yc:ev[i]=x at fc Nr;have n1:Rd w bi (oi+i) [cy x]:=by
   intro k v hk;cases k with
   | zero=>simp at hk;subst hk;exact fc
   | succ k=>simp at hk
  refine RN 5 E I λa E=>?_;refine SS E (bO E underlying135 rfl Ty.t135 (n1)) λa E=>?_;refine CL 0 E I (XQ I Nr) λa w E I=>?_;refine RN 0 E I λa E=>?_;refine cm E rfl I underlying70 Ty.t102 rfl rfl rfl rfl (by decide) (by decide) λcV a w E I ho=>?_;clear ho;refine RN 0 E I λa E=>?_;refine cJ E rfl I underlying70 Ty.t102 rfl rfl I.ai rfl (λv hv=>Em x v (by simpa using hv)) (by decide) (by decide) (by omega) λFq Fs a w E I=>?_;rw[show rows bS (ev.take i)++_=rows bS (ev.take (i+1)) from by rw[← List.take_append_getElem aJ,j5,yc];rfl]at I;refine RN 4 E I λa E=>?_;exact⟨ev.length-(i+1),by omega,i+1,Fq,Fs,⟨rfl,by omega⟩,E.ab [0,3,4],I.sub⟩
 refine RT 3 E I ?_;obtain rfl:i=ev.length:=by omega
 rw[take_length]at I;exact⟨mi,co,rfl,I.sub⟩
theorem abZ (I:V W w (Sl 102 3 ad ev.length c (rows bS ev)::Sl 102 3 av ev.length c' (rows bS ev)::L))(hn:ev.length≤1000000000):Calls prog 54 #[.slice ad ev.length c,.slice av ev.length c'] w λr w'=>r=.returned (.bool true)∧V W w' (Sl 102 3 ad ev.length c (rows bS ev)::Sl 102 3 av ev.length c' (rows bS ev)::L):=by
 refine EN func54 ntmps54 rfl rfl λa E=>?_;refine RN 9 E I λa E=>?_;rw[bq (by omega)]at E;refine RN 4 E I λa E=>?_;refine aS (λμ a w=>∃ (i:Nat),(μ=ev.length-i∧i≤ev.length)∧Fr a 27 [(0,.slice ad ev.length c),(1,.slice av ev.length c'),(5,.int .i64 i)]∧V W w (Sl 102 3 ad ev.length c (rows bS ev)::Sl 102 3 av ev.length c' (rows bS ev)::L)) (ev.length) (⟨0,⟨rfl,by omega⟩,E.ab [0,1,5],I⟩) ?_;clear E I;rintro μ a w ⟨i,⟨rfl,hi⟩,E,I⟩;refine IF 6 E I (λan a E=>?_) λan a E=>?_
 ·
  have aJ:i<ev.length:=by omega
  refine RN 2 E I λa E=>?_;obtain⟨l9,ox,rfl,fG⟩:=I.drew.bY ad (by omega);obtain⟨Gk,Gl,rfl,pw⟩:=I.drew.tail.bY av (by omega);replace fG:=jv El fG (aO aJ);replace pw:=jv El pw (aO aJ);generalize ev[i]=x at fG pw;refine qv 0 (λw'=>Rd w' l9 (ox+i*3) (bS x)∧Rd w' Gk (Gl+i*3) (bS x)) [7] [0,1,2,4,5,6,3003,1007,1008,9] E I λa E=>?_;replace I:=I.drew;generalize w.drew=w at I fG pw ⊢;have U:Rd w l9 (ox+i*3) (bS x)∧Rd w Gk (Gl+i*3) (bS x):=⟨fG,pw⟩;have hH:=Hd.any (λw'=>Rd w' l9 (ox+i*3) (bS x)∧Rd w' Gk (Gl+i*3) (bS x));refine RH 6 E I hH U λa E=>?_;refine QH E (λw hc=>bO E underlying102 rfl Ty.t102 (hc.1)) U λa E=>?_;refine RH 0 E I hH U λa E=>?_;refine SS E (bO E underlying102 rfl Ty.t102 (U.2)) λa E=>?_;refine RH 0 E I hH U λa E=>?_;refine CL 0 E I (aam I) λa w E I=>?_;refine RN 1 E I λa E=>?_;replace E:=E.aN 26;refine RN 4 E I λa E=>?_;exact⟨ev.length-(i+1),by omega,i+1,⟨rfl,by omega⟩,E.ab [0,1,5],I⟩
 refine RT 2 E I ?_;exact⟨rfl,I⟩
theorem ab0 (I:V W w (fj W M p cf i s::L)) :
   Calls prog 56 #[pt M.mb,.agg (b7 cf).toArray] w λe w'=>e=.returned (.bool true)∧V W w' (fj W M p cf i s::L):=by
 replace I:=fj.open I;obtain⟨m,⟨rfl,hI,hc⟩,I⟩:=I;exact (abd I hI hc).mono λe w' ⟨h1,h2⟩=>⟨h1,fj.close h2 hI (bh _) rfl hc⟩
end
end
section
def yv (W:World)(p:Pr)(ad:Option Addr)(c:Nat):Prop:=(rows dO p.ops).length=p.ops.length*4∧p.ops.length≤c∧(0<p.ops.length→∃ b off,ad=some ⟨b,off,none⟩∧b<W.heap.size∧Rd W b off (rows dO p.ops))
def Bi (W:World)(mv:List fT)(cf:Cf)(tb:List UInt8):Prop:=∀ r∈mv,r.gs=⟨cf.ba,cf.order,tb⟩∧a6 W r.adT tb.length tb
section
variable {W w:World}{L:List SP}{n c cP cT i:Nat}{ad adP adT:Option Addr}{p:Pr}{tb:List UInt8}{cf:Cf}{hL:Bool}
theorem yv.ro (h:yv W p ad c)(I:V W w L):V W w (aA W p ad c::L):=I.TX h.1 h.2.1 h.2.2
theorem Rd.lt {b off:Nat}{v:Value}{vs:List Value}(h:Rd w b off (v::vs)):b<w.heap.size:=by
 have h1:=h 0 v rfl;rcases Nat.lt_or_ge b w.heap.size with h2 | h2
 ·exact h2
 ·rw[World.cell?]at h1;simp[h2]at h1
theorem V.roW (I:V W w (aA W p ad c::L)):yv w p ad c:=by
 obtain⟨h1,h2⟩:=I.ro ad;refine⟨h1,h2,λh0=>?_⟩;obtain⟨b,off,rfl,hr⟩:=I.qH ad h0;refine⟨b,off,rfl,?_,hr⟩;cases hl:rows dO p.ops with
 | nil=>rw[hl]at h1;simp at h1;omega
 | cons v vs=>rw[hl]at hr;exact hr.lt
theorem Ns (I:V W w L):∀ n:Nat,V W w (ah fW (List.replicate n (none,0,[]))::L)
 | 0=>V.iG I
 | n+1=>V.uW (f:=fW) (x:=(none,0,[])) ((Ns I n).bH 102 3 none)
set_option maxHeartbeats 1000000 in
theorem ab1 (gn:nx (dN cf 0) p tb)(I:V W w L)(yw:yv W p adP cP)(hn:tb.length=n)(aZ:dj p)(aE:p.title.size≤1000000000)(dX:p.ops.length≤1000000000)(eL:tb.length≤1099511627776)(hT:∀ w',V W w' []→a6 w' adT tb.length tb) :
   Calls prog 30 #[.agg (b7 cf).toArray,.agg (bJ p adP cP).toArray,.slice adT n cT,.bool hL] w λr w'=>∃ (B:jw) (D:qi),r=.returned (pt D.wb)∧(D.mb=B.mb∧uG B.fk cf tb hL cf.n.toNat∧Bi W D.mv cf tb)∧V W w' (aP W B p 0 (gp p cf cf.n.toNat)::b9 W D p (gp p cf cf.n.toNat)::L):=by
 have oZ:=gn.1.1.1;unfold fv at oZ;obtain⟨N,hN⟩:∃ N:Nat,(dN cf 0).n=N:=⟨(dN cf 0).n.toNat,by omega⟩;replace hN:cf.n=N:=hN;have hN2:2≤N∧N≤8:=by
  have h1:(dN cf 0).n=cf.n:=rfl;omega
 have hTW:a6 W adT tb.length tb:=hT W (V.start W);rw[show cf.n.toNat=N from by omega];refine EN func30 ntmps30 rfl rfl λa E=>?_;refine BX 1 E I λb4 a w E I=>?_;change V W w (aa b4 28 (b7 cf)::_) at I;refine BX 0 E I λb5 a w E I=>?_;change V W w (aa b5 45 (bJ p adP cP)::_) at I;refine ST 3 E I (λa w E I=>?_);refine RN 0 E I λa E=>?_;change V W w (aa b4 28 (b7 (dN cf 0))::_) at I;refine RN 5 E I λa E=>?_;replace I:=yw.ro I;refine bd 0 E I (Na (cf:=dN cf 0) gn I hn aE dX eL (λw' dh=>hT _ dh.nil)) λB a w E ⟨hB,I⟩=>?_;refine RN 5 E I λa E=>?_;rw[show (dN cf 0).n.toNat=N from by show cf.n.toNat=N;omega]at I hB;replace I:V W w (aP W B p 0 (gp p cf N)::aA W p adP cP::_):=I;replace I:=I.sub (M:=aP W B p 0 (gp p cf N)::aa b4 28 (b7 (dN cf 0))::aa b5 45 (bJ p adP cP)::L);refine RN 5 E I λa E=>?_;replace E:=E.aN 24;refine RN 3 E I λa E=>?_;replace E:=E.aN 27;refine RN 5 E I λa E=>?_;rw[show (dN cf 0).n=(N:Int) from hN]at E;refine cg E rfl I underlying38 Ty.t70 rfl (by omega) (by omega) λs0 a w E I ho=>?_;clear ho;rw[du _ rfl]at I;refine BX 1 E I λjS a w E I=>?_;refine RN 1 E I λa E=>?_;replace I:=V.iG (f:=dv W p) (I.bH 34 1 none);refine RN 3 E I λa E=>?_;refine aS (λμ a w=>∃ (i:Nat) (adL:Option Addr) (cL:Nat) (rs:List (fT×Pl)) (me:Int),(μ=N-i∧(i≤N∧rs.length=i)∧rs.map (·.2)=(List.range i).map (λi=>ez p (dN cf i))∧Bi W (rs.map (·.1)) cf tb)∧Fr a 56 [(2,.slice adT n cT),(4,pt b4),(5,pt b5),(11,pt jS),(12,.int .i64 i)]∧V W w (aa jS 40 [pt B.mb,.slice adL i cL,.slice none 0 0,.slice (some ⟨s0,0,none⟩) N N]::Sl 34 1 adL i cL (rs.map eD)::ah (dv W p) rs::aa s0 70 (List.replicate N (.slice none 0 0))::aa b4 28 (b7 { cf with me:=me })::aa b5 45 (bJ p adP cP)::aP W B p 0 (gp p cf N)::L)) (N) (⟨0,none,0,[],0,⟨rfl,⟨by omega,rfl⟩,rfl,λr h=>by cases h⟩,E.ab [2,4,5,11,12],(show V W w (ah (dv W p) []::Sl 34 1 none 0 0 (([]:List (fT×Pl)).map eD)::aa jS 40 _::aa s0 70 _::aP W B p 0 (gp p cf N)::aa b4 28 (b7 { cf with me:=0 })::_) from I).sub⟩) ?_;clear E I;rintro μ a w ⟨i,adL,cL,rs,me,⟨rfl,⟨hi,iK⟩,eU,jP⟩,E,I⟩;refine RN 5 E I λa E=>?_;rw[hN]at E;refine IF 1 E I (λan a E=>?_) λan a E=>?_
 ·
  have aJ:i<N:=by omega
  have Gb:=M8 (i:=i) gn (by show (i:Int)<(dN cf 0).n;rw[show (dN cf 0).n=(N:Int) from hN];omega);refine ST 4 E I (λa w E I=>?_);refine RN 0 E I λa E=>?_;replace I:V W w (aa b4 28 (b7 (dN cf i))::_):=I;refine aY 0 (λw0 w'=>Rd w' jS 0 [pt B.mb,.slice adL i cL,.slice none 0 0,.slice (some ⟨s0,0,none⟩) N N]∧Rd w' b4 0 (b7 (dN cf i))∧Rd w' b5 0 (bJ p adP cP)) [5,6,8,9] [0,1,2,3,7,3004,3005,1006,1008,1009,1010,11,12,1013] E I λa w E I hH=>?_;have U:=hH.at w ⟨I.ai (b:=jS),I.ai (b:=b4),I.ai (b:=b5)⟩;refine RH 5 E I hH U λa E=>?_;refine QH E (λw hc=>ag E (hc.1 1 _ rfl)) U λa E=>?_;refine QH E (λw hc=>bO E underlying28 rfl Ty.t28 (hc.2.1)) U λa E=>?_;refine RH 0 E I hH U λa E=>?_;refine SS E (bO E underlying45 rfl Ty.t45 (U.2.2)) λa E=>?_;replace I:=yw.ro I;refine RH 0 E I hH U λa E=>?_;refine bd 0 E I (aaZ (cf:=dN cf i) Gb.1 I hn aZ aE) λr a w E ⟨hr,I⟩=>?_;replace U:=hH.at w ⟨I.ai (b:=jS),I.ai (b:=b4),I.ai (b:=b5)⟩;refine RH 0 E I hH U λa E=>?_;refine cm E rfl I underlying36 Ty.t34 rfl rfl rfl rfl (by decide) (by decide) λPZ a w E I ho=>?_;clear ho;replace U:=hH.at w ⟨I.ai (b:=jS),I.ai (b:=b4),I.ai (b:=b5)⟩;refine RH 0 E I hH U λa E=>?_;refine cJ E rfl I underlying36 Ty.t34 rfl rfl I.ai rfl (by simp[Value.oneCell']) (by decide) (by decide) (by omega) λqV qW a w E I=>?_;rw[show List.map eD rs++_=(rs++[((r:fT),ez p (dN cf i))]).map eD from by rw[cU];rfl]at I;refine ST 2 E I (λa w E I=>?_);refine RN 3 E I λa E=>?_;have kf:V W w (dv W p (r,ez p (dN cf i))::_):=(I.pick (ah (dv W p) rs)).pick (bT W r p (ez p (dN cf i)));have hA:=V.jB (f:=dv W p) (x:=(r,ez p (dN cf i))) kf;refine⟨N-(i+1),by omega,i+1,qV,qW,rs++[(r,ez p (dN cf i))],i,⟨rfl,⟨by omega,by rw[aK,iK];rfl⟩,?_,?_⟩,E.ab [2,4,5,11,12],?_⟩
  ·rw[cU,eU,range_succ,cU];rfl
  ·intro x hx;rw[cU]at hx;rcases eV.1 hx with hx | hx
   ·exact jP x hx
   ·rw[mem_singleton.1 hx,hr.2];exact⟨hr.1,hTW⟩
  ·rw[show ({ cf with me:=(i:Int) }:Cf)=dN cf i from rfl];exact hA.sub
 obtain rfl:i=N:=by omega
 refine RT 3 E I ?_;have h1:=I.jy s0;rw[show List.replicate i (Value.slice none 0 0)=[]++(List.replicate i ((none,0,[]):kl)).map bF++[] from by rw[nil_append,append_nil,map_replicate];rfl]at h1;have h2:=Ns (V.iF (n:=i) (c:=i) (sz:=1) h1 (by rw[bf,j8,Nat.mul_one]) (bh _) (by simp)) i;simp only[length_nil]at h2;have h3:=cv.nil (e:=60) h2;refine⟨B,⟨jS,B.mb,rs.map (·.1)⟩,rfl,⟨rfl,hB,jP⟩,?_⟩;have h4:V W w (b9 W ⟨jS,B.mb,rs.map (·.1)⟩ p (gp p cf i)::aP W B p 0 (gp p cf i)::L):=by
  refine b9.close (adP:=adL) (cP:=cL) (adN:=none) (cN:=0) (adE:=some ⟨s0,0,none⟩) (cE:=i) (xs:=rs) (es:=List.replicate i (none,0,[])) ?_ rfl eU (by rw[map_replicate];rfl);rw[iK,j8];exact h3.sub (M:=aa jS 40 [pt B.mb,.slice adL i cL,.slice none 0 0,.slice (some ⟨s0,0,none⟩) i i]::Sl 34 1 adL i cL (rs.map eD)::ah (dv W p) rs::cv 60 none 0 0 []::Sl 70 1 (some ⟨s0,0,none⟩) i i ((List.replicate i ((none,0,[]):kl)).map bF)::ah fW (List.replicate i (none,0,[]))::aP W B p 0 (gp p cf i)::L)
 exact h4.sub
end
end
section
abbrev wA:=(fT×Pl)×(mo×List ea)
def lI (W:World)(p:Pr)(y:wA):SP:=λh=>bj y.2.2=y.1.2.k.ls∧ck [aa y.1.1.pb 51 (eR p y.1.1 y.1.2.g),aa y.1.1.core.cb 72 (cZ y.1.2.k y.1.1.core y.2.1),Sl 65 1 (some ⟨y.1.1.core.lb,y.1.1.core.lo,none⟩) y.1.2.k.ls.length y.1.1.core.cL (y.2.2.map aI),ah a7 y.2.2,
 aa y.1.1.core.hb 3 (e5 y.1.2.k.ps),aa y.1.1.core.dW 3 (eQ y.1.2.k.ps),aa y.1.1.core.wb 313 (rows e7 y.1.2.k.ps),aa y.1.1.core.xb 4 (e6 y.1.2.k.ps),Sl 100 1 y.2.1.cj y.1.2.k.mr.length y.2.1.cM (c6 y.1.2.k.mr),Sl 102 3 y.2.1.adE y.1.2.k.ev.length y.2.1.cE (rows bS y.1.2.k.ev),aA W p y.1.1.ao y.1.1.cO] h
structure ab2 (w:World)(p:Pr)(y:wA):Prop where
 pb:Rd w y.1.1.pb 0 (eR p y.1.1 y.1.2.g)
 cb:Rd w y.1.1.core.cb 0 (cZ y.1.2.k y.1.1.core y.2.1)
 ls:iH w (some ⟨y.1.1.core.lb,y.1.1.core.lo,none⟩) y.2.2
 eq:bj y.2.2=y.1.2.k.ls
 mr:0<y.1.2.k.mr.length→∃ b o,y.2.1.cj=some ⟨b,o,none⟩∧Rd w b o (c6 y.1.2.k.mr)
section
variable {W w:World}{L:List SP}{i:Nat}{p:Pr}{xs:List (fT×Pl)}{ys:List wA}{y:wA}{k:Ks}{A:mo}{Bj:List ea}
theorem ab3 {x:fT×Pl}(I:V W w (dv W p x::L)):∃ z,V W w (lI W p (x,z)::L):=by
 replace I:V W w (bT W x.1 p x.2::L):=I;obtain⟨A,I⟩:=aW.open ((bT.open I).pick (aW x.1.core x.2.k));obtain⟨Bj,ch,I⟩:=bG.open (I.pick (bG x.1.core.lb x.1.core.lo x.1.core.cL x.2.k.ls));refine⟨(A,Bj),V.shut (M:=[_,_,_,_,_,_,_,_,_,_,_]) (I.sub (M:=aa x.1.pb 51 (eR p x.1 x.2.g)::aa x.1.core.cb 72 (cZ x.2.k x.1.core A)::Sl 65 1 (some ⟨x.1.core.lb,x.1.core.lo,none⟩) x.2.k.ls.length x.1.core.cL (Bj.map aI)::ah a7 Bj::aa x.1.core.hb 3 (e5 x.2.k.ps)::aa x.1.core.dW 3 (eQ x.2.k.ps)::aa x.1.core.wb 313 (rows e7 x.2.k.ps)::aa x.1.core.xb 4 (e6 x.2.k.ps)::Sl 100 1 A.cj x.2.k.mr.length A.cM (c6 x.2.k.mr)::Sl 102 3 A.adE x.2.k.ev.length A.cE (rows bS x.2.k.ev)::aA W p x.1.ao x.1.cO::L)) λ_ h=>⟨ch,h⟩⟩
theorem lI.open (I:V W w (lI W p y::L)):bj y.2.2=y.1.2.k.ls∧V W w (aa y.1.1.pb 51 (eR p y.1.1 y.1.2.g)::aa y.1.1.core.cb 72 (cZ y.1.2.k y.1.1.core y.2.1)::Sl 65 1 (some ⟨y.1.1.core.lb,y.1.1.core.lo,none⟩) y.1.2.k.ls.length y.1.1.core.cL (y.2.2.map aI)::ah a7 y.2.2 ::
 aa y.1.1.core.hb 3 (e5 y.1.2.k.ps)::aa y.1.1.core.dW 3 (eQ y.1.2.k.ps)::aa y.1.1.core.wb 313 (rows e7 y.1.2.k.ps)::aa y.1.1.core.xb 4 (e6 y.1.2.k.ps)::Sl 100 1 y.2.1.cj y.1.2.k.mr.length y.2.1.cM (c6 y.1.2.k.mr)::Sl 102 3 y.2.1.adE y.1.2.k.ev.length y.2.1.cE (rows bS y.1.2.k.ev)::aA W p y.1.1.ao y.1.1.cO::L) :=
 ⟨I.tell λ_ h=>h.1,I.open (M:=[_,_,_,_,_,_,_,_,_,_,_]) λ_ h=>h.2⟩
theorem ab4 (I:V W w (lI W p y::L)):V W w (dv W p y.1::L):=by
 obtain⟨ch,I⟩:=lI.open I;replace I:=bG.close ((I.pick (ah a7 y.2.2)).pick (Sl 65 1 (some ⟨y.1.1.core.lb,y.1.1.core.lo,none⟩) y.1.2.k.ls.length y.1.1.core.cL (y.2.2.map aI))) ch;replace I:=aW.fold I y.1.1.core y.1.2.k y.2.1;exact bT.fold I y.1.1 p y.1.2
theorem Nt:∀ {xs:List (fT×Pl)} {L:List SP},V W w (ah (dv W p) xs::L)→∃ ys:List wA,ys.map (·.1)=xs∧V W w (ah (lI W p) ys::L)
 | [],_,I=>⟨[],rfl,V.iG I.tail⟩
 | x::xs,L,I=>by
  have h1:V W w (dv W p x::ah (dv W p) xs::L):=V.fE (l:=x::xs) (i:=0) I (by simp);obtain⟨z,h2⟩:=ab3 h1;obtain⟨ys,h3,h4⟩:=Nt (h2.pick (ah (dv W p) xs));exact⟨(x,z)::ys,by rw[map_cons,h3],V.uW (h4.pick (lI W p (x,z)))⟩
theorem Nu:∀ {ys:List wA} {L:List SP},V W w (ah (lI W p) ys::L)→V W w (ah (dv W p) (ys.map (·.1))::L)
 | [],_,I=>V.iG I.tail
 | y::ys,L,I=>by
  have h1:V W w (lI W p y::ah (lI W p) ys::L):=V.fE (l:=y::ys) (i:=0) I (by simp);have h2:=Nu ((ab4 h1).pick (ah (lI W p) ys));exact V.uW (h2.pick (dv W p y.1))
theorem Nv (I:V W w (ah (lI W p) ys::L))(hy:ys[i]?=some y):ab2 w p y:=by
 obtain⟨hi,h1⟩:=a1.1 hy;replace I:=I.fE hi;rw[h1]at I;obtain⟨h2,I⟩:=lI.open I;refine⟨I.ai (b:=y.1.1.pb),I.ai (b:=y.1.1.core.cb),?_,h2,λh0=>?_⟩
 ·exact V.ov ((I.pick (ah a7 y.2.2)).pick (Sl 65 1 (some ⟨y.1.1.core.lb,y.1.1.core.lo,none⟩) y.1.2.k.ls.length y.1.1.core.cL (y.2.2.map aI)))
 ·exact (I.pick (Sl 100 1 y.2.1.cj y.1.2.k.mr.length y.2.1.cM (c6 y.1.2.k.mr))).bY y.2.1.cj h0
end
end
end Go.Proofs.YteoldcfapaiobaaGreat
