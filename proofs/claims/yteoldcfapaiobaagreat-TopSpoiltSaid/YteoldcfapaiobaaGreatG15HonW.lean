/- A match of players of whom none lies, plainly: the document's R3. -/
import Derived.Test.YteoldcfapaiobaaGreatG14ArgC
import Derived.Test.YteoldcfapaiobaaGreatG06Ref
namespace Go.Proofs.YteoldcfapaiobaaGreat
open Tryz
open List (length_range nil_append length_nil mem_range getElem?_range getElem_map append_nil map_take map_drop range_succ getElem?_set_ne getElem?_set_self mem_append_left map_replicate)
open Go.RowKit
set_option linter.unusedVariables false
set_option linter.unusedSimpArgs false
set_option maxRecDepth 10000
set_option synthInstance.maxSize 4000
set_option synthInstance.maxHeartbeats 400000
section
def bn (v:Wd)(i j:Nat):Nat:=((an v i).k.ls.getD j []).length
def qq (v:Wd)(i j:Nat):Nat:=(au (an v i).k j).has
noncomputable def py (m:Ml):Nat:=match dN m.2.2 with
 | some q=>if q.kind=1 then q.first.toNat+q.al.length else 0
 | none=>0
structure nN (p:Pr)(cf:Cf)(K:Int→Prop)(G:List (List UInt8))(v:Wd)(m:Ml)(q:Pk):Prop where
 iX:vH p G q
 kind:K q.kind
 fr:q.aW=m.1
 to:q.to=m.2.1
 bs:m.2.2=aT q
 lt:m.1<v.ps.length∧m.2.1<v.ps.length
 id:q.id=cf.id
 vI:q.kind=1→q.dc.toNat≤bn v m.1 m.2.1∧q.first.toNat≤bn v m.2.1 m.1∧q.first.toNat+q.al.length≤q.dc.toNat+cf.bq.toNat
structure fQ (p:Pr)(cf:Cf)(K:Int→Prop)(G:List (List UInt8))(v:Wd):Prop where
 pl:∀ i,i<v.ps.length→gQ p G (an v i)
 ac:∀ i j,i<v.ps.length→j<v.ps.length→i≠j→qq v i j≤bn v j i∧bn v i j≤qq v i j+cf.bq.toNat
 hd:∀ i,i<v.ps.length→bn v i i≤aw (an v i).k+cf.bq.toNat
 net:∀ m∈v.net,∃ q,nN p cf K G v m q
 bx:∀ l∈v.ev,∀ e∈l,e.1≠3
 xJ:∀ i,i<v.ps.length→∀ e∈(an v i).k.ev,e.1≠3
section
variable {p:Pr}{cf:Cf}{K:Int→Prop}{G G':List (List UInt8)}{v u:Wd}{c i j x y:Nat}{s':Pl}{net:List Ml}{ev:List (List ko)}{m:Ml}{q:Pk}{t:fN}{b:UInt8}
theorem bK.rl (h:bK p cf c v)(hi:i<v.ps.length):(an v i).k.me=i∧(an v i).k.bq=cf.bq.toNat∧(an v i).k.id=cf.id∧(an v i).k.n=v.ps.length∧(an v i).k.aL=cf.aL.toNat:=by
 have h1:=(h.pl i hi).2.1;have h2:(fk (an v i).k).me=(i:Int):=by rw[h1]
 have h3:(fk (an v i).k).bq=cf.bq:=by rw[h1]
 have h4:(fk (an v i).k).id=cf.id:=by rw[h1]
 have h5:(fk (an v i).k).aL=cf.aL:=by rw[h1]
 simp only[fk]at h2 h3 h4 h5;exact⟨by omega,by omega,h4,h.kn hi,by omega⟩
theorem bK.OR (h:bK p cf c v):1≤cf.bq.toNat∧cf.bq.toNat≤16:=by
 have h1:=h.may.2.1.2.1;unfold fB at h1;omega
theorem uh (hi:i<v.ps.length):bn ⟨v.ps.set i s',net,ev⟩ x y=if i=x then (s'.k.ls.getD y []).length else bn v x y:=by
 rw[bn,rj hi];split <;> rfl
theorem acW (hi:i<v.ps.length):qq ⟨v.ps.set i s',net,ev⟩ x y=if i=x then (au s'.k y).has else qq v x y:=by
 rw[qq,rj hi];split <;> rfl
theorem HO (hi:i<v.ps.length):v.ps.set i (an v i)=v.ps:=by
 rw[an,bm,aD hi];exact mN _
theorem OS {l:List (List UInt8)}{a:List UInt8}(hi:i<l.length):((l.set i a).getD j []).length=if i=j then a.length else (l.getD j []).length:=by
 rw[bm,jO];split
 ·rename_i h;subst h;rfl
 ·rw[bm]
theorem acX {l a:List UInt8}{f:Nat}(h1:f≤l.length)(h2:f+a.length≤1000)(h3:l.length≤1000):(du l f a).length=max l.length (f+a.length):=by
 rw[du,ag (by omega),aJ,eA,c7];omega
theorem acY (now head:Nat)(q:Pk)(z:Pe):(fY now head q z).has=if z.has<q.dc.toNat∧q.dc.toNat≤head then q.dc.toNat else z.has:=by
 unfold fY;simp only;split <;> rfl
theorem fQ.CI (h:fQ p cf K G v)(hv:bK p cf c v)(hi:i<v.ps.length)(hj:j<v.ps.length):bn v i j≤bn v j j∧(G.getD j []).length=bn v j j:=by
 have h1:=(h.pl j hj).own;rw[(hv.rl hj).1]at h1;obtain⟨t,ht⟩:=(h.pl i hi).ext.2 j (by rw[(hv.pl i hi).1.wc.ls,(hv.rl hi).2.2.2.1];exact hj);have h2:(G.getD j []).length=bn v j j:=by rw[← h1];rfl
 refine⟨?_,h2⟩;rw[← h2,ht,aJ,bn];omega
theorem fQ.OT (h:fQ p cf K G v)(hv:bK p cf c v):G.length=v.ps.length∧G≠[]:=by
 have h0:=hv.len;have h1:=h.pl 0 (by omega);exact⟨by rw[h1.lens,hv.kn (by omega)],h1.HN⟩
theorem nN.more (h:nN p cf K G v m q)(xK:Ext G G')(h0:G≠[])(hG:G.length=v.ps.length)(hl:u.ps.length=v.ps.length)(hk:∀ a b,bn v a b≤bn u a b):nN p cf K G' u m q:=by
 refine⟨h.iX.ext xK h0 (by have:=h.lt.1;have:=h.fr;omega),h.kind,h.fr,h.to,h.bs,by rw[hl];exact h.lt,h.id,λh1=>?_⟩;obtain⟨c0,cU,a3⟩:=h.vI h1;exact⟨fG c0 (hk _ _),fG cU (hk _ _),a3⟩
theorem nN.dec (h:nN p cf K G v m q):dN m.2.2=some q:=by rw[h.bs];exact Lc h.iX.may h.iX.sum
theorem nN.val (h:nN p cf K G v m q):py m=if q.kind=1 then q.first.toNat+q.al.length else 0:=by rw[py,h.dec]
theorem fQ.put (h:fQ p cf K G v)(hv:bK p cf c v)(hi:i<v.ps.length)(hH:gQ p G' s')(xK:Ext G G')(hO:∀ j,j≠i→G'.getD j []=G.getD j [])(hk:∀ j,bn v i j≤(s'.k.ls.getD j []).length)
   (kf:∀ j,j<v.ps.length→j≠i→(au s'.k j).has≤bn v j i∧(s'.k.ls.getD j []).length≤(au s'.k j).has+cf.bq.toNat) (gX:(s'.k.ls.getD i []).length≤aw s'.k+cf.bq.toNat)
   (HP:∀ e∈s'.k.ev,e.1≠3) (HQ:∀ m∈net,m∈v.net∨∃ q,nN p cf K G' ⟨v.ps.set i s',net,ev⟩ m q) (qh:∀ l∈ev,∀ e∈l,e.1≠3):fQ p cf K G' ⟨v.ps.set i s',net,ev⟩:=by
 have hg:=h.OT hv;have hl:(⟨v.ps.set i s',net,ev⟩:Wd).ps.length=v.ps.length:=bt;have hm:∀ a b,bn v a b≤bn ⟨v.ps.set i s',net,ev⟩ a b:=λa b=>by
  rw[uh hi];split
  ·rename_i e;subst e;exact hk b
  ·exact a7 _
 refine⟨λj hj=>?_,λa b E hb CJ=>?_,λj hj=>?_,λm gT=>?_,qh,λj hj=>?_⟩
 ·rw[hl]at hj;rw[rj hi];split
  ·exact hH
  ·rename_i e;exact (h.pl j hj).more xK (by rw[(hv.rl hj).1];exact hO j (λe2=>e e2.symm))
 ·rw[hl]at E hb;rw[uh hi,uh hi,acW hi];by_cases h1:i=a
  ·subst h1;rw[ak rfl,ag CJ,ak rfl];exact kf b hb (Ne.symm CJ)
  ·rw[ag h1,ag h1];have h3:=h.ac a b E hb CJ;by_cases h2:i=b
   ·subst h2;rw[ak rfl];exact⟨fG h3.1 (hk a),h3.2⟩
   ·rw[ag h2];exact h3
 ·rw[hl]at hj;rw[uh hi,rj hi];split
  ·rename_i e;subst e;exact gX
  ·exact h.hd j hj
 ·rcases HQ m gT with h1 | h1
  ·obtain⟨q,hq⟩:=h.net m h1;exact⟨q,hq.more xK hg.2 hg.1 hl hm⟩
  ·exact h1
 ·rw[hl]at hj;rw[rj hi];split
  ·exact HP
  ·exact h.xJ j hj
theorem fQ.al (h:fQ p cf K G v)(hv:bK p cf c v)(hi:i<v.ps.length)(b:UInt8):(∃ G',fQ p cf K G' { v with ps:=v.ps.set i (dK p b (an v i)).2 }) ∧
   ∀ x y,bn { v with ps:=v.ps.set i (dK p b (an v i)).2 } x y=bn v x y+if (x=i∧y=i)∧(dK p b (an v i)).1=0 then 1 else 0:=by
 obtain⟨eE,xL,b6,hn,_⟩:=hv.rl hi;by_cases h0:(dK p b (an v i)).1=0
 ·obtain⟨hH,mr,hk⟩:=(h.pl i hi).al h0;obtain⟨g1,hS,l9,ma⟩:=vf (k:=(an v i).k) (b:=b) h0;rw[eE]at hH hk;have aI:i<(an v i).k.ls.length:=by rw[(hv.pl i hi).1.wc.ls,hn];exact hi
  have fa:(dK p b (an v i)).2.k.ls=(an v i).k.ls.set i ((an v i).k.ls.getD i []++[b]):=by rw[hk]
  have fL:∀ j,au (dK p b (an v i)).2.k j=au (an v i).k j:=λj=>by rw[au,hk];rfl
  have ig:∀ j,((dK p b (an v i)).2.k.ls.getD j []).length=bn v i j+if i=j then 1 else 0:=λj=>by
   rw[fa,OS aI];split
   ·rename_i e;subst e;rw[aJ];rfl
   ·rfl
  have fw:aw (an v i).k≤aw (dK p b (an v i)).2.k:=by
   rw[aw,aw,fa];exact Ext.set.front (hv.pl i hi).1.wc.lu
  have gX:aG (an v i).k=bn v i i:=by rw[aG,eE];rfl
  refine⟨⟨_,h.put hv hi hH Ext.set (λj hj=>?_) (λj=>?_) (λj hj gU=>?_) ?_ ?_ (λm hm=>.inl hm) h.bx⟩,λx y=>?_⟩
  ·rw[bm,getElem?_set_ne (Ne.symm hj),← bm]
  ·rw[ig];omega
  ·rw[ig,fL,ag (Ne.symm gU),Nat.add_zero];exact h.ac i j hi hj (Ne.symm gU)
  ·rw[ig,ak rfl];omega
  ·rw[hk];exact h.xJ i hi
  ·rw[uh hi];by_cases e:i=x
   ·subst e;rw[ak rfl,ig];by_cases e2:i=y
    ·rw[ak e2,ak ⟨⟨rfl,e2.symm⟩,h0⟩]
    ·rw[ag e2,ag (λh=>e2 h.1.2.symm)]
   ·rw[ag e,ag (λh=>e h.1.1.symm),Nat.add_zero]
 ·rw[OM (hv.pl i hi).1 h0,HO hi];exact⟨⟨G,h⟩,λx y=>by rw[ag (λh=>h0 h.2)];rfl⟩
theorem fQ.CK (h:fQ p cf K G v)(hn:∀ m∈net,m∈v.net):fQ p cf K G { v with net:=net } :=
 ⟨h.pl,h.ac,h.hd,λm hm=>(h.net m (hn m hm)).imp λq hq=>⟨hq.iX,hq.kind,hq.fr,hq.to,hq.bs,hq.lt,hq.id,hq.vI⟩,h.bx,h.xJ⟩
theorem fQ.recv (h:fQ p cf K G v)(hv:bK p cf c v)(hm:m∈v.net)(hn:∀ m∈net,m∈v.net):fQ p cf K G { v with ps:=v.ps.set m.2.1 (dB p m.2.2 (an v m.2.1)).2,net:=net } ∧
   ∀ x y,bn { v with ps:=v.ps.set m.2.1 (dB p m.2.2 (an v m.2.1)).2,net:=net } x y=if (x=m.2.1∧y=m.1)∧(an v m.2.1).k.cl=false then max (bn v x y) (py m) else bn v x y:=by
 obtain⟨q,hq⟩:=h.net m hm;obtain⟨ef,hi⟩:=hq.lt;obtain⟨eE,xL,b6,n0,_⟩:=hv.rl hi;have FU:q.aW.toNat=m.1:=by have:=hq.fr;omega
 have jW:m.1≠m.2.1:=λe=>hq.iX.may.2.2.1 (by rw[hq.fr,hq.to,e]);rw[hq.bs];generalize I:an v m.2.1=s at *;have zp:=h.pl _ hi;have sK:=hv.pl _ hi;rw[I]at zp sK;cases hc:s.k.cl with
 | true =>
  have h0:(dB p (aT q) s).1≠0:=by
   show (dp (aT q) s.k).1≠0;rw[dp,ak hc];show (6:Int)≠0;decide
  rw[ON sK.1 h0,← I,HO hi];exact⟨h.CK hn,λx y=>by rw[ag (λh=>by have:=h.2;cases this)];rfl⟩
 | false =>
  have sI:m.1<s.k.ps.length:=by rw[sK.1.wc.ps,n0];exact ef
  have aI:m.1<s.k.ls.length:=by rw[sK.1.wc.ls,n0];exact ef
  have kf:=h.ac _ _ hi ef (Ne.symm jW);have oT:=h.CI hv ef hi;have pF:=h.CI hv hi ef;have jA:=(hv.pl _ ef).1.wc.mz (i:=m.1) (by rw[hv.kn ef];exact ef);have j8:=sK.1.wc.mz (i:=m.1) (by rw[n0];exact ef);have OU:aG s.k=bn v m.2.1 m.2.1:=by rw[aG,eE,bn,I]
  rcases hq.iX.may.2.2.2.2 with ⟨h1,_⟩ | ⟨h1,_⟩
  ·obtain⟨hH,h0,mr,hk⟩:=zp.za hq.iX hc (by rw[hq.to,eE]) (by rw[hq.fr,n0];omega) (by rw[hq.id,b6]) h1;obtain⟨s1,s2,vW⟩:=hq.vI h1;obtain⟨g1,hS⟩:=hq.iX.vI h1;rw[FU]at hk g1;have zd:bn v m.2.1 m.1=(s.k.ls.getD m.1 []).length:=by rw[bn,I]
   have eo:=acX (l:=s.k.ls.getD m.1 []) (a:=q.al) (f:=q.first.toNat) (by rw[← zd];exact s2) (by rw[pF.2]at g1;rw[bn]at g1;omega) j8;have fa:(dB p (aT q) s).2.k.ls=s.k.ls.set m.1 (du (s.k.ls.getD m.1 []) q.first.toNat q.al):=by rw[hk]
   have ig:∀ j,((dB p (aT q) s).2.k.ls.getD j []).length=if m.1=j then max (bn v m.2.1 m.1) (q.first.toNat+q.al.length) else bn v m.2.1 j:=λj=>by
    rw[fa,OS aI,eo,bn,bn,I]
   have fL:∀ j,au (dB p (aT q) s).2.k j=if j=m.1 then fY s.k.now (aG s.k) q (au s.k m.1) else au s.k j:=λj=>by
    rw[au,hk];exact xi sI
   have fw:aw s.k≤aw (dB p (aT q) s).2.k:=by
    have h5:=so (aT q) s.k;obtain⟨t5,h6⟩:=Md (s.k.ls.getD m.1 []) q.first.toNat q.al;rw[aw,aw,fa,h6];exact Ext.set.front sK.1.wc.lu
   refine⟨h.put hv hi hH (Ext.refl _) (λ_ _=>rfl) (λj=>?_) (λj hj gU=>?_) ?_ ?_ (λm hm=>.inl (hn m hm)) h.bx,λx y=>?_⟩
   ·rw[ig];split
    ·rename_i e;subst e;omega
    ·exact a7 _
   ·rw[ig,fL];have xM:=h.ac _ _ hi hj (Ne.symm gU);by_cases e:j=m.1
    ·subst e;rw[ak rfl,ak rfl,acY];rw[qq,I]at xM;rw[bn]at oT;simp only[bn] at *;split <;> omega
    ·rw[ag (Ne.symm e),ag e];rw[qq,I]at xM;exact xM
   ·rw[ig,ag jW];have:=h.hd _ hi;rw[I]at this;omega
   ·rw[hk];have:=h.xJ _ hi;rw[I]at this;exact this
   ·rw[uh hi,ig,hq.val,ak h1];by_cases e:m.2.1=x
    ·subst e;rw[ak rfl];by_cases e2:m.1=y
     ·subst e2;rw[ak rfl,ak ⟨⟨rfl,rfl⟩,rfl⟩]
     ·rw[ag e2,ag (λh=>e2 h.1.2.symm)]
    ·rw[ag e,ag (λh=>e h.1.1.symm)]
  ·obtain⟨hH,h0,hk⟩:=zp.bye hq.iX hc (by rw[hq.to,eE]) (by rw[hq.fr,n0];omega) (by rw[hq.id,b6]) h1;rw[FU]at hk;have fa:(dB p (aT q) s).2.k.ls=s.k.ls:=by rw[hk]
   have ig:∀ j,((dB p (aT q) s).2.k.ls.getD j []).length=bn v m.2.1 j:=λj=>by rw[fa,bn,I]
   have fL:∀ j,(au (dB p (aT q) s).2.k j).has=(au s.k j).has:=λj=>by
    rw[au,hk];show ((s.k.ps.set _ _).getD j (fC 0)).has=_;rw[xi sI];split
    ·rename_i e;subst e;rfl
    ·rfl
   refine⟨h.put hv hi hH (Ext.refl _) (λ_ _=>rfl) (λj=>?_) (λj hj gU=>?_) ?_ ?_ (λm hm=>.inl (hn m hm)) h.bx,λx y=>?_⟩
   ·rw[ig];exact a7 _
   ·have xM:=h.ac _ _ hi hj (Ne.symm gU);rw[qq,I]at xM;rw[ig,fL];exact xM
   ·have:=h.hd _ hi;rw[I]at this;rw[ig,aw,fa];exact this
   ·rw[hk];intro e he;rcases eT.1 he with he | he
    ·have:=h.xJ _ hi;rw[I]at this;exact this e he
    ·rw[iK.1 he];show (1:Nat)≠3;decide
   ·have rM:py m=0:=by rw[hq.val,ag (by omega)]
    rw[uh hi,ig,rM,Nat.max_zero];by_cases e:m.2.1=x
    ·subst e;rw[ak rfl];split <;> rfl
    ·rw[ag e,ag (λh=>e h.1.1.symm)]
theorem acZ {k:Ks}(h:m∈(br k).1):∃ j,j<k.n∧j≠k.me∧m=(k.me,j,aT (dP k j)):=by
 unfold br at h;split at h
 ·cases h
 ·simp only at h;split at h
  ·cases h
  ·obtain⟨j,hj,rfl⟩:=cR.1 h;obtain⟨h1,h2⟩:=xk.1 hj;exact⟨j,h1,h2,rfl⟩
theorem fQ.same (h:fQ p cf K G v)(hv:bK p cf c v)(hi:i<v.ps.length)(hH:gQ p G s')(fa:s'.k.ls=(an v i).k.ls)(fL:s'.k.ps=(an v i).k.ps)(HP:∀ e∈s'.k.ev,e.1≠3)
   (HQ:∀ m∈net,m∈v.net∨∃ q,nN p cf K G v m q) (qh:∀ l∈ev,∀ e∈l,e.1≠3):fQ p cf K G ⟨v.ps.set i s',net,ev⟩∧∀ x y,bn ⟨v.ps.set i s',net,ev⟩ x y=bn v x y:=by
 have ph:∀ x y,bn ⟨v.ps.set i s',net,ev⟩ x y=bn v x y:=λx y=>by
  rw[uh hi];split
  ·rename_i e;subst e;rw[fa];rfl
  ·rfl
 have hg:=h.OT hv;refine⟨h.put hv hi hH (Ext.refl _) (λ_ _=>rfl) (λj=>by rw[fa];exact a7 _) (λj hj gU=>?_) ?_ HP (λm hm=>(HQ m hm).imp_right λ⟨q,hq⟩=>⟨q,hq.more (Ext.refl _) hg.2 hg.1 bt λa b=>by rw[ph];exact a7 _⟩) qh,ph⟩
 ·rw[fa,au,fL];exact h.ac i j hi hj (Ne.symm gU)
 ·rw[aw,fa];exact h.hd i hi
theorem fQ.OV (h:fQ p cf K G v)(hv:bK p cf c v)(hi:i<v.ps.length)(HR:K 1)(hm:m∈(br (an v i).k).1):∃ q,nN p cf K G v m q∧py m=bn v i i:=by
 obtain⟨eE,xL,b6,hn,_⟩:=hv.rl hi;obtain⟨j,hj,bD,rfl⟩:=acZ hm;rw[hn]at hj;rw[eE]at bD;have kf:=h.ac i j hi hj (Ne.symm bD);have hb:=h.CI hv hj hi;have gX:=h.hd i hi;have ef:aw (an v i).k≤bn v i j:=xd (ve (by rw[(hv.pl i hi).1.wc.ls,hn];exact hj));have OU:aG (an v i).k=bn v i i:=by rw[aG,eE];rfl
 have hw:=hv.OR;have iX:=(h.pl i hi).zD (i:=j) (by rw[hn];exact hj) (by rw[eE];exact bD) (by rw[OU];rw[qq]at kf;omega);have ig:(dP (an v i).k j).first.toNat+(dP (an v i).k j).al.length=bn v i i:=by
  show (((au (an v i).k j).has:Nat):Int).toNat+((((an v i).k.ls.getD (an v i).k.me []).drop (au (an v i).k j).has).take 32).length=_;rw[qq]at kf;rw[eA,c7,eE,c8];show _+min 32 (bn v i i-_)=_;omega
 have hq:nN p cf K G v ((an v i).k.me,j,aT (dP (an v i).k j)) (dP (an v i).k j):=by
  refine⟨iX,HR,rfl,rfl,rfl,⟨by rw[eE];exact hi,hj⟩,b6,λ_=>⟨?_,?_,?_⟩⟩
  ·show ((((an v i).k.ls.getD j []).length:Nat):Int).toNat≤bn v (an v i).k.me j;rw[eE,c8];exact a7 _
  ·show (((au (an v i).k j).has:Nat):Int).toNat≤bn v j (an v i).k.me;rw[eE,c8];exact kf.1
  ·rw[ig];show _≤((((an v i).k.ls.getD j []).length:Nat):Int).toNat+_;rw[c8];show _≤bn v i j+_;omega
 exact⟨_,hq,by rw[hq.val,ak (show (dP (an v i).k j).kind=1 from rfl),ig]⟩
theorem ac0 (k:Ks):(br k).2.ls=k.ls∧(br k).2.ps=k.ps∧∀ e∈(br k).2.ev,e∈k.ev∨e.1=2:=by
 rcases xm k with h1 | ⟨_,h1 | ⟨i,_,h1⟩⟩ <;> rw[h1]
 ·exact⟨rfl,rfl,λe he=>.inl he⟩
 ·exact⟨rfl,rfl,λe he=>.inl he⟩
 ·refine⟨rfl,rfl,λe he=>?_⟩;rcases eT.1 he with he | he
  ·exact .inl he
  ·rw[iK.1 he];exact .inr rfl
theorem fQ.tick (h:fQ p cf K G v)(hv:bK p cf c v)(hi:i<v.ps.length)(HR:K 1):fQ p cf K G { v with ps:=v.ps.set i ⟨(br (an v i).k).2,(an v i).g⟩,net:=eF v.net (br (an v i).k).1 } ∧
   ∀ x y,bn { v with ps:=v.ps.set i ⟨(br (an v i).k).2,(an v i).g⟩,net:=eF v.net (br (an v i).k).1 } x y=bn v x y:=by
 obtain⟨h1,h2,h3⟩:=ac0 (an v i).k;refine h.same hv hi (h.pl i hi).tick h1 h2 (λe he=>?_) (λm hm=>(Hu hm).imp_right λhm=>(h.OV hv hi HR hm).imp λq hq=>hq.1) h.bx;rcases h3 e he with h4 | h4
 ·exact h.xJ i hi e h4
 ·omega
theorem vJ (p:Pr){cf:Cf}(h:eV cf):∃ mr,(eD p cf).k={ fl cf with mr:=mr }:=by
 refine HM (G:=(fl cf).ls) (xn (p:=p) h) (Ext.refl _) λi hi=>?_;have pN:au (fl cf) i=fC cf.aL.toNat∨au (fl cf) i=fC 0:=by
  rw[au,bm];show ((List.replicate cf.n.toNat (fC cf.aL.toNat))[i]?).getD (fC 0)=_∨((List.replicate cf.n.toNat (fC cf.aL.toNat))[i]?).getD (fC 0)=_;rw[List.getElem?_replicate];split
  ·exact .inl rfl
  ·exact .inr rfl
 have h2:(au (fl cf) i).frame=0:=by rcases pN with e | e <;> rw[e] <;> rfl
 show m7 p _ (au (fl cf) i).frame _;rw[h2];exact⟨Nat.zero_le _,λh=>absurd h (by omega)⟩
end
end
section
def fP.zR:fP→Bool
 | .mu _=>true
 | .pl _=>false
def dC (cf:Cf)(i:Nat):Cf:={ cf with me:=i }
def gh (p:Pr)(cf:Cf)(n:Nat):Wd:=⟨(List.range n).map λi=>eD p (dC cf i),[],List.replicate n []⟩
def vK (fx:List fF)(cf:Cf)(tb:List UInt8)(gn:Bool)(n:Nat):Prop:=fx.map (·.cf)=(List.range n).map (dC cf)∧∀ x∈fx,x.z.gs=⟨cf.bf,cf.order,tb⟩∧x.z.zR=gn
theorem ac1 {cf:Cf}{i:Nat}(h:eV (dC cf 0))(hi:(i:Int)<cf.n):eV (dC cf i):=by
 obtain⟨⟨h1,h2,h3⟩,h4⟩:=h;refine⟨⟨h1,?_,h3⟩,h4⟩;show fB (i:Int) 0 (cf.n-1);unfold fB;omega
theorem OW {cf:Cf}{p:Pr}{tb:List UInt8}{i:Nat}(h:nM (dC cf 0) p tb)(hi:(i:Int)<cf.n):nM (dC cf i) p tb:=⟨ac1 h.1 hi,h.2⟩
section
variable {W w:World}{L:List SP}{n c cP cT i:Nat}{ad adP adT:Option Addr}{p:Pr}{tb:List UInt8}{cf:Cf}{gn:Bool}
theorem ac2 (gf:nM cf p tb)(I:U W w (aA W p adP cP::L))(hn:tb.length=n)(aH:p.title.size≤1000000000)(ea:p.ops.length≤1000000000)(eP:tb.length≤1099511627776)(hT:∀ w',U W w' (aA W p adP cP::L)→aX w' adT tb.length tb) :
   Calls prog 60 #[.agg (bV cf).toArray,.agg (bO p adP cP).toArray,.slice adT n cT] w λr w'=>∃ B:jr,r=.returned (.tuple #[pt B.pb,.int .i64 0])∧B.gs=⟨cf.bf,cf.order,tb⟩∧U W w' (aR W B p (eD p cf)::aA W p adP cP::L) :=
 (ack I hn aH ea eP hT).mono λr w' h=>h.elim (λh=>h.2) λh=>absurd gf h.1
theorem ac3 (gf:nM cf p tb)(I:U W w (aA W p adP cP::L))(hn:tb.length=n)(aH:p.title.size≤1000000000)(ea:p.ops.length≤1000000000)(eP:tb.length≤1099511627776)(hT:∀ w',U W w' (aA W p adP cP::L)→aX w' adT tb.length tb) :
   Calls prog 43 #[.agg (bV cf).toArray,.agg (bO p adP cP).toArray,.slice adT n cT,.bool gn] w λr w'=>∃ z:fP,r=.returned (.tuple #[.iface z.t (.pointer (some z.ad)),.int .i64 0])∧(z.gs=⟨cf.bf,cf.order,tb⟩∧z.zR=gn)∧U W w' (fF.J W p ⟨cf,z⟩ 0 (eD p cf)::aA W p adP cP::L):=by
 refine EN func43 ntmps43 rfl rfl λa E=>?_;refine BX 1 E I λb4 a w E I=>?_;change U W w (aa b4 28 (bV cf)::_) at I;refine BX 0 E I λb5 a w E I=>?_;change U W w (aa b5 45 (bO p adP cP)::_) at I;refine IF 5 E I (λaj a E=>?_) λaj a E=>?_
 ·
  refine bh 4 E I (acq gf (I.pick (aA W p adP cP)) hn aH ea eP (λw' di=>hT _ di.sub)) λM a w E ⟨hg,I⟩=>?_;refine RT 11 E I ?_;exact⟨.mu M,rfl,⟨hg,by rw[show gn=true from by simpa using aj];rfl⟩,(show U W w (fF.J W p ⟨cf,.mu M⟩ 0 (eD p cf)::_) from I).sub⟩
 refine bh 4 E I (ac2 gf (I.pick (aA W p adP cP)) hn aH ea eP (λw' di=>hT _ di.sub)) λB a w E ⟨hg,I⟩=>?_;refine RT 11 E I ?_;exact⟨.pl B,rfl,⟨hg,by rw[show gn=false from by simpa using aj];rfl⟩,(show U W w (fF.J W p ⟨cf,.pl B⟩ 0 (eD p cf)::_) from I).sub⟩
theorem OX (I:U W w L):∀ n:Nat,U W w (ah ew (List.replicate n (none,0,[]))::L)
 | 0=>U.ja I
 | n+1=>U.wj (f:=ew) (x:=(none,0,[])) ((OX I n).bM 135 1 none)
theorem OY (gf:nM (dC cf 0) p tb)(I:U W w (aA W p adP cP::L))(hn:tb.length=n)(aH:p.title.size≤1000000000)(ea:p.ops.length≤1000000000)(eP:tb.length≤1099511627776)(hT:∀ w',U W w' (aA W p adP cP::L)→aX w' adT tb.length tb) :
   Calls prog 24 #[.agg (bV cf).toArray,.agg (bO p adP cP).toArray,.slice adT n cT,.bool gn] w λr w'=>∃ B:iV,r=.returned (.tuple #[pt B.mb,.int .i64 0])∧vK B.fx cf tb gn cf.n.toNat∧U W w' (aE W B p 0 (gh p cf cf.n.toNat)::aA W p adP cP::L):=by
 have pY:=gf.1.1.1;unfold fB at pY;obtain⟨N,hN⟩:∃ N:Nat,(dC cf 0).n=N:=⟨(dC cf 0).n.toNat,by omega⟩;replace hN:cf.n=N:=hN;have hN2:2≤N∧N≤8:=by
  have h1:(dC cf 0).n=cf.n:=rfl;omega
 rw[show cf.n.toNat=N from by omega];refine EN func24 ntmps24 rfl rfl λa E=>?_;refine BX 1 E I λb4 a w E I=>?_;change U W w (aa b4 28 (bV cf)::_) at I;refine BX 0 E I λb5 a w E I=>?_;change U W w (aa b5 45 (bO p adP cP)::_) at I;refine bh 3 E I (ab1 I) λq a w E I=>?_;refine BX 1 E I λqZ a w E I=>?_;refine RN 1 E I λa E=>?_;replace I:=U.ja (f:=cA W p 0) (I.bM 81 1 none);refine RN 7 E I λa E=>?_;rw[hN,show min (max (N:Int) 1) 8=(N:Int) from by omega]at E;refine aN (λμ a w=>∃ (i:Nat) (adL:Option Addr) (cL:Nat) (xs:List (fF×Pl)) (me:Int),(μ=N-i∧(i≤N∧xs.length=i)∧xs.map (·.2)=(List.range i).map (λi=>eD p (dC cf i))∧vK (xs.map (·.1)) cf tb gn i)∧Fr a 58 [(2,.slice adT n cT),(3,.bool gn),(4,pt b4),(5,pt b5),(10,pt qZ),(20,.int .i64 N),(21,.int .i64 i)]∧U W w (aa qZ 107 [.slice adL i cL,pt q,.slice none 0 0]::Sl 81 1 adL i cL (xs.map cC)::ah (cA W p 0) xs::bG q []::aa b4 28 (bV { cf with me:=me })::aa b5 45 (bO p adP cP)::aA W p adP cP::L)) (N) (⟨0,none,0,[],cf.me,⟨rfl,⟨by omega,rfl⟩,rfl,rfl,λx h=>by cases h⟩,E.ab [2,3,4,5,10,20,21],(show U W w (ah (cA W p 0) []::Sl 81 1 none 0 0 (([]:List (fF×Pl)).map cC)::_) from I).sub⟩) ?_;clear E I;rintro μ a w ⟨i,adL,cL,xs,me,⟨rfl,⟨hi,b9⟩,c6,ek⟩,E,I⟩;refine IF 3 E I (λaj a E=>?_) λaj a E=>?_
 ·
  have aI:i<N:=by omega
  have HS:=OW (i:=i) gf (by omega);refine ST 7 E I (λa w E I=>?_);refine RN 0 E I λa E=>?_;change U W w (aa b4 28 (bV (dC cf i))::_) at I;refine bh 5 E I (ac3 HS (I.pick (aA W p adP cP)) hn aH ea eP (λw' di=>hT _ di.sub)) λz a w E ⟨hz,I⟩=>?_;refine RN 9 E I λa E=>?_;replace E:=E.aP 35;refine RN 7 E I λa E=>?_;refine cp E rfl I underlying104 Ty.t81 rfl rfl rfl rfl (by decide) (by decide) λb43 a w E I ho=>?_;clear ho;replace I:=I.pick (Sl 81 1 adL i cL (xs.map cC));refine RN 0 E I λa E=>?_;refine cQ E rfl I underlying104 Ty.t81 rfl rfl I.ai rfl (by simp[Value.oneCell']) (by decide) (by decide) (by omega) λnL ly a w E I=>?_;rw[show List.map cC xs++_=(xs++[((⟨dC cf i,z⟩:fF),eD p (dC cf i))]).map cC from by rw[cW];rfl]at I;refine ST 2 E I (λa w E I=>?_);refine RN 2 E I λa E=>?_;have kP:=(I.pick (ah (cA W p 0) xs)).pick (fF.J W p ⟨dC cf i,z⟩ 0 (eD p (dC cf i)));have hA:=U.j1 (f:=cA W p 0) (x:=(⟨dC cf i,z⟩,eD p (dC cf i))) kP;refine⟨N-(i+1),by omega,i+1,nL,ly,xs++[(⟨dC cf i,z⟩,eD p (dC cf i))],i,⟨rfl,⟨by omega,by rw[aJ,b9];rfl⟩,?_,?_⟩,E.ab [2,3,4,5,10,20,21],?_⟩
  ·rw[cW,c6,range_succ,cW];rfl
  ·refine⟨?_,λx hx=>?_⟩
   ·rw[cW,cW,range_succ,cW,ek.1];rfl
   ·rw[cW]at hx;rcases eT.1 hx with hx | hx
    ·exact ek.2 x hx
    ·rw[iK.1 hx];exact hz
  ·rw[show ({ cf with me:=(i:Int) }:Cf)=dC cf i from rfl];exact hA.sub
 obtain rfl:i=N:=by omega
 refine RN 7 E I λa E=>?_;refine rB E rfl I underlying105 Ty.t90 rfl (by omega) (by omega) λCM a w E I ho=>?_;clear ho;rw[Ci _ rfl]at I;refine ST 2 E I (λa w E I=>?_);refine RT 4 E I ?_;refine⟨⟨qZ,q,xs.map (·.1)⟩,rfl,ek,?_⟩;have h1:=I.jZ CM;rw[show List.replicate i (Value.slice none 0 0)=[]++(List.replicate i ((none,0,[]):kx)).map bx++[] from by rw[nil_append,append_nil,map_replicate];rfl]at h1;have h2:=OX (U.iZ (n:=i) (c:=i) (sz:=1) h1 (by rw[a8,kJ,fW]) (a7 _) (by simp)) i;refine aE.sG (adL:=adL) (cL:=cL) (adE:=some ⟨CM,0,none⟩) (cE:=i) (xs:=xs) (es:=List.replicate i (none,0,[])) ?_ rfl c6 (by rw[map_replicate];rfl);rw[b9,kJ];simp only[length_nil]at h2;show U W w (aa qZ 107 [.slice adL i cL,pt q,.slice (some ⟨CM,0,none⟩) i i]::Sl 81 1 adL i cL (xs.map cC)::ah (cA W p 0) xs::bG q []::Sl 90 1 (some ⟨CM,0,none⟩) i i ((List.replicate i ((none,0,[]):kx)).map bx)::ah ew (List.replicate i (none,0,[]))::aA W p adP cP::L);exact h2.sub
end
end
section
abbrev dD (x:gd×Pl):Value:=pt x.1.pb
def dg (W:World)(p:Pr)(x:gd×Pl):SP:=bZ W x.1 p x.2
def eY (x:kx):SP:=Sl 102 3 x.1 x.2.2.length x.2.1 (rows bW x.2.2)
structure ot where
 wb:Nat
 mb:Nat
 m8:List gd
def bC (W:World)(D:ot)(p:Pr)(v:Wd):SP:=λh=>∃ i:(Option Addr×Nat)×(Option Addr×Nat)×(Option Addr×Nat)×List (gd×Pl)×List kx,(i.2.2.2.1.map (·.1)=D.m8∧i.2.2.2.1.map (·.2)=v.ps∧i.2.2.2.2.map (·.2.2)=v.ev) ∧
 cm [aa D.wb 40 [pt D.mb,.slice i.1.1 i.2.2.2.1.length i.1.2,.slice i.2.1.1 v.net.length i.2.1.2,.slice i.2.2.1.1 i.2.2.2.2.length i.2.2.1.2],
  Sl 34 1 i.1.1 i.2.2.2.1.length i.1.2 (i.2.2.2.1.map dD),ah (dg W p) i.2.2.2.1,cd 60 i.2.1.1 v.net.length i.2.1.2 v.net,Sl 70 1 i.2.2.1.1 i.2.2.2.2.length i.2.2.1.2 (i.2.2.2.2.map bx),ah eY i.2.2.2.2] h
section
variable {W w:World}{L:List SP}{n c k cP cN cE wb i:Nat}{ad adP adN adE:Option Addr}{p:Pr}{v:Wd}{D:ot}{x0 x1 x3:Value}{l net:List Ml}{xs:List (gd×Pl)}{es:List kx}
theorem bC.open (I:U W w (bC W D p v::L)):∃ (adP:Option Addr) (cP:Nat) (adN:Option Addr) (cN:Nat) (adE:Option Addr) (cE:Nat) (xs:List (gd×Pl)) (es:List kx),(xs.map (·.1)=D.m8∧xs.map (·.2)=v.ps∧es.map (·.2.2)=v.ev) ∧
   U W w (aa D.wb 40 [pt D.mb,.slice adP xs.length cP,.slice adN v.net.length cN,.slice adE es.length cE] ::
    Sl 34 1 adP xs.length cP (xs.map dD)::ah (dg W p) xs::cd 60 adN v.net.length cN v.net::Sl 70 1 adE es.length cE (es.map bx)::ah eY es::L):=by
 obtain⟨i,h1,I⟩:=I.jM (ι:=(Option Addr×Nat)×(Option Addr×Nat)×(Option Addr×Nat)×List (gd×Pl)×List kx) (p:=λi=>i.2.2.2.1.map (·.1)=D.m8∧i.2.2.2.1.map (·.2)=v.ps∧i.2.2.2.2.map (·.2.2)=v.ev)
  (B:=λi h=>cm [aa D.wb 40 [pt D.mb,.slice i.1.1 i.2.2.2.1.length i.1.2,.slice i.2.1.1 v.net.length i.2.1.2,.slice i.2.2.1.1 i.2.2.2.2.length i.2.2.1.2],
  Sl 34 1 i.1.1 i.2.2.2.1.length i.1.2 (i.2.2.2.1.map dD),ah (dg W p) i.2.2.2.1,cd 60 i.2.1.1 v.net.length i.2.1.2 v.net,Sl 70 1 i.2.2.1.1 i.2.2.2.2.length i.2.2.1.2 (i.2.2.2.2.map bx),ah eY i.2.2.2.2] h) λ_ h=>h
 obtain⟨⟨adP,cP⟩,⟨adN,cN⟩,⟨adE,cE⟩,xs,es⟩:=i;exact⟨adP,cP,adN,cN,adE,cE,xs,es,h1,I.open (M:=[_,_,_,_,_,_]) λ_ h=>h⟩
theorem bC.close (I:U W w (aa D.wb 40 [pt D.mb,.slice adP xs.length cP,.slice adN v.net.length cN,.slice adE es.length cE] ::
     Sl 34 1 adP xs.length cP (xs.map dD)::ah (dg W p) xs::cd 60 adN v.net.length cN v.net::Sl 70 1 adE es.length cE (es.map bx)::ah eY es::L))
 (h1:xs.map (·.1)=D.m8) (h2:xs.map (·.2)=v.ps) (h3:es.map (·.2.2)=v.ev):U W w (bC W D p v::L) :=
 U.shut (M:=[_,_,_,_,_,_]) I λ_ h=>⟨((adP,cP),(adN,cN),(adE,cE),xs,es),⟨h1,h2,h3⟩,h⟩
theorem OZ (I:U W w (cd 60 ad n c l::cd 60 adN k cN net::aa wb 40 [x0,x1,.slice adN k cN,x3]::L))(hn:n≤1000)(hk:net.length≤300) :
   Calls prog 72 #[pt wb,.slice ad n c] w λe w'=>e=.returned (.tuple #[])∧∃ O0 HT,U W w' (cd 60 O0 (eF net l).length HT (eF net l)::aa wb 40 [x0,x1,.slice O0 (eF net l).length HT,x3]::L):=by
 obtain⟨xs,eI,b9,I⟩:=cd.open I;have bd:xs.length=n:=by rw[← b9,← eI,a8]
 subst bd;obtain⟨ys,mB,jm,I⟩:=cd.open (I.pick (cd 60 adN k cN net));subst jm;refine EN func72 ntmps72 rfl rfl λa E=>?_;refine RN 2 E I λa E=>?_;refine aN (λμ a w=>∃ (i:Nat) (adN:Option Addr) (cN:Nat) (ys:List Mx) (N:List Ml),(μ=xs.length-i∧i≤xs.length∧N=eF net (l.take i)∧ys.map (·.2.2)=N)∧Fr a 30 [(0,pt wb),(1,.slice ad xs.length c),(4,.int .i64 i)]∧U W w (aa wb 40 [x0,x1,.slice adN N.length cN,x3]::Sl 60 3 adN N.length cN (rows b7 ys)::ah ca ys::Sl 60 3 ad xs.length c (rows b7 xs)::ah ca (xs.drop i)::L)) (xs.length) (⟨0,adN,cN,ys,net,⟨rfl,by omega,rfl,mB⟩,E.ab [0,1,4],(show U W w (Sl 60 3 adN net.length cN (rows b7 ys)::ah ca ys::Sl 60 3 ad xs.length c (rows b7 xs)::ah ca (xs.drop 0)::_) from I).sub⟩) ?_;clear E I;rintro μ a w ⟨i,adN,cN,ys,N,⟨rfl,hi,hN,lB⟩,E,I⟩;refine IF 6 E I (λaj a E=>?_) λaj a E=>?_
 ·
  have aI:i<xs.length:=by omega
  have zJ:i<l.length:=by omega
  have hNl:N.length≤300:=by rw[hN];exact Hv hk
  have HU:=N5 net zJ;rw[← hN]at HU;obtain⟨x,hx⟩:∃ x,x=xs[i]:=⟨_,rfl⟩;have ac4:x.2.2=l[i]:=by
   have h1:(xs.map (·.2.2))[i]?=l[i]?:=by rw[eI]
   rw[bl,aD aI,aD zJ,← hx]at h1;simpa using h1
  have e8:xs[i]?=some x:=by rw[hx];exact aD aI
  refine IF 8 E I (λao a E=>?_) λao a E=>?_
  ·
   refine RN 0 E I λa E=>?_;obtain⟨bi,oi,rfl,p3⟩:=(I.drew.pick (Sl 60 3 ad xs.length c (rows b7 xs))).bU ad (by omega);replace p3:=jl oc p3 (aD aI);rw[← hx]at p3;refine rG 0 (λw'=>Rd w' wb 0 [x0,x1,.slice adN N.length cN,x3]∧Rd w' bi (oi+i*3) (b7 x)) [8,9] [0,1,2,3,5,6,7,3004,1008,1009,1010,11,12,1013] E I λa E=>?_;replace I:=I.drew;generalize w.drew=w at I p3 ⊢;have hC:Rd w wb 0 [x0,x1,.slice adN N.length cN,x3]∧Rd w bi (oi+i*3) (b7 x):=⟨I.ai (b:=wb),p3⟩;have hH:=Hd.any (λw'=>Rd w' wb 0 [x0,x1,.slice adN N.length cN,x3]∧Rd w' bi (oi+i*3) (b7 x));refine RH 7 E I hH hC λa E=>?_;refine QH E (λw hc=>ae E (hc.1 2 _ rfl)) hC λa E=>?_;refine RH 0 E I hH hC λa E=>?_;refine SS E (bT E underlying60 rfl Ty.t60 (hC.2)) λa E=>?_;refine RH 0 E I hH hC λa E=>?_;refine cp E rfl I underlying37 Ty.t60 rfl rfl rfl rfl (by decide) (by decide) λKr a w E I ho=>?_;clear ho;replace hC:=hH.at w ⟨I.ai (b:=wb),jl oc (I.cK bi oi (by omega)) e8⟩;refine RH 0 E I hH hC λa E=>?_;refine cQ E rfl I underlying37 Ty.t60 rfl rfl I.ai rfl (by simp[Value.oneCell']) (by decide) (by decide) (by omega) λEA EB a w E I=>?_;rw[show rows b7 ys++_=rows b7 (ys++[x]) from by rw[kG];rfl]at I;refine ST 2 E I (λa w E I=>?_);refine RN 3 E I λa E=>?_;rw[kH aI,← hx]at I;have h1:U W w (ca x::ah ca (xs.drop (i+1))::_):=U.fy (l:=x::xs.drop (i+1)) (i:=0) (I.pick (ah ca (x::xs.drop (i+1)))) (by simp);have h3:=U.j1 (f:=ca) (x:=x) ((h1.pick (ah ca ys)).pick (ca x));refine⟨xs.length-(i+1),by omega,i+1,EA,EB,ys++[x],N++[l[i]],⟨rfl,by omega,by rw[HU,pn,ak (by omega)],by rw[cW,lB,← ac4];rfl⟩,E.ab [0,1,4],?_⟩;rw[aJ,jF];exact h3.sub
  refine RN 3 E I λa E=>?_;rw[kH aI,← hx]at I;have h1:U W w (ca x::ah ca (xs.drop (i+1))::_):=U.fy (l:=x::xs.drop (i+1)) (i:=0) (I.pick (ah ca (x::xs.drop (i+1)))) (by simp);exact⟨xs.length-(i+1),by omega,i+1,adN,cN,ys,N,⟨rfl,by omega,by rw[HU,pn,ag (by omega)],lB⟩,E.ab [0,1,4],h1.sub⟩
 refine RT 0 E I ?_;obtain rfl:i=xs.length:=by omega
 rw[gi (by omega)]at hN;subst hN;exact⟨rfl,adN,cN,(cd.close (I.sub (M:=Sl 60 3 adN (eF net l).length cN (rows b7 ys)::ah ca ys::aa wb 40 [x0,x1,.slice adN (eF net l).length cN,x3]::L)) lB rfl)⟩
end
end
section
section
variable {W w:World}{L:List SP}{c k cP cN cE wb i:Nat}{adP adN adE:Option Addr}{p:Pr}{v:Wd}{D:ot}{net:List Ml}{xs:List (gd×Pl)}{es:List kx}{x:gd}{s xy s':Pl}{t:fN}{cf:Cf}
theorem CO {ps:List Pl}(h2:xs.map (·.2)=ps)(hi:i<xs.length):∃ x,xs[i]?=some (x,ps.getD i Ct):=by
 refine⟨xs[i].1,?_⟩;rw[aD hi,bm,← h2,bl,aD hi];rfl
theorem CP (I:U W w (ah (dg W p) xs::L))(hx:xs[i]?=some (x,s)):U W w (bZ W x p s::ah (dg W p) (xs.eraseIdx i)::L):=by
 obtain⟨hi,h1⟩:=aY.1 hx;have h2:=I.fy hi;rw[h1]at h2;exact h2
theorem CQ (I:U W w (bZ W x p s::ah (dg W p) (xs.eraseIdx i)::L))(hx:xs[i]?=some (x,s)):U W w (ah (dg W p) xs::L):=by
 obtain⟨hi,h1⟩:=aY.1 hx;refine U.xG hi ?_;rw[h1];exact I
theorem CR (hx:xs[i]?=some (x,s)):(xs.set i (x,s')).map dD=xs.map dD∧(xs.set i (x,s')).map (·.1)=xs.map (·.1):=by
 obtain⟨hi,h1⟩:=aY.1 hx;constructor
 ·rw[jz,show dD (x,s')=(xs.map dD)[i]'(by rw[a8];exact hi) from by rw[getElem_map,h1],mN]
 ·rw[jz];show (xs.map (·.1)).set i x=_;rw[show x=(xs.map (·.1))[i]'(by rw[a8];exact hi) from by rw[getElem_map,h1],mN]
theorem bC.put (h1:xs.map (·.1)=D.m8)(h2:xs.map (·.2)=v.ps)(h3:es.map (·.2.2)=v.ev)(hx:xs[i]?=some (x,xy))(net:List Ml)
   (I:U W w (bZ W x p s'::ah (dg W p) (xs.eraseIdx i)::aa D.wb 40 [pt D.mb,.slice adP xs.length cP,.slice adN net.length cN,.slice adE es.length cE] ::
    Sl 34 1 adP xs.length cP (xs.map dD)::cd 60 adN net.length cN net::Sl 70 1 adE es.length cE (es.map bx)::ah eY es::L)) :
   U W w (bC W D p { v with ps:=v.ps.set i s',net:=net }::L):=by
 obtain⟨hi,_⟩:=aY.1 hx;have h4:=U.kZ (f:=dg W p) (x:=(x,s')) hi I;refine bC.close (adP:=adP) (cP:=cP) (adN:=adN) (cN:=cN) (adE:=adE) (cE:=cE) (xs:=xs.set i (x,s')) (es:=es) ?_ ((CR hx).2.trans h1) (by rw[jz,h2]) h3;rw[bt,(CR hx).1];exact h4.sub
theorem O1 (b:Int):IntKind.u8.wrap (IntKind.i64.wrap ((BitVec.ofInt IntKind.i64.bits b &&& BitVec.ofInt IntKind.i64.bits 255).toNat))=((fm b).toNat:Int):=by
 have h1:(BitVec.ofInt IntKind.i64.bits b &&& BitVec.ofInt IntKind.i64.bits 255).toNat=(b%256).toNat:=by
  have h2:(BitVec.ofInt 64 b &&& BitVec.ofInt 64 255).toNat=(BitVec.ofInt 64 b).toNat%256:=by
   rw[BitVec.toNat_and,show (BitVec.ofInt 64 255).toNat=2 ^ 8-1 from rfl,Nat.and_two_pow_sub_one_eq_mod]
  show (BitVec.ofInt 64 b &&& BitVec.ofInt 64 255).toNat=_;rw[h2,BitVec.toNat_ofInt];omega
 rw[h1,fN.u8,fm,fm];have h3:=Int.emod_nonneg b (show (256:Int)≠0 by decide);have h4:=Int.emod_lt_of_pos b (show (0:Int)<256 by decide);have h5:IntKind.i64.wrap ((b%256).toNat:Int)=b%256:=by rw[fR (by omega) (by omega)];omega
 rw[h5,Int.emod_emod_of_dvd _ (by decide)]
set_option maxHeartbeats 1000000 in
theorem ac5 (I:U W w (bC W D p v::L))(hv:bK p cf c v)(a6:dm p)(aH:p.title.size≤1000000000)(hc:c≤1000000)(hf:¬ (3≤t.fn∧t.fn≤6)) :
   Calls prog 50 #[pt D.wb,.agg (dW t).toArray] w λe w'=>e=.returned (.int .i64 (bu p t v).1)∧U W w' (bC W D p (bu p t v).2::L):=by
 replace I:=bC.open I;obtain⟨adP,cP,adN,cN,adE,cE,xs,es,⟨dX,c6,ek⟩,I⟩:=I;have b9:xs.length=v.ps.length:=by rw[← c6,a8]
 have cn:∀ w',U W w' (aa D.wb 40 [pt D.mb,.slice adP xs.length cP,.slice adN v.net.length cN,.slice adE es.length cE]::Sl 34 1 adP xs.length cP (xs.map dD)::ah (dg W p) xs::cd 60 adN v.net.length cN v.net::Sl 70 1 adE es.length cE (es.map bx)::ah eY es::L)→U W w' (bC W D p v::L):=λw' h=>bC.close h dX c6 ek;refine EN func50 ntmps50 rfl rfl λa E=>?_;refine BX 1 E I λb3 a w E I=>?_;change U W w (aa b3 58 (dW t)::_) at I;refine BY 7 E I (λbX a E=>?_) λbX a E=>?_
 ·
  refine RT 7 E I ?_;rw[bu,ak (by omega)];exact⟨rfl,cn _ I.sub⟩
 refine IF 4 E I (λaj a E=>?_) λaj a E=>?_
 ·
  refine RT 2 E I ?_;rw[bu,ak (by omega)];exact⟨rfl,cn _ I.sub⟩
 refine RN 0 E I λa E=>?_;refine cc (M:=λa w=>(¬ (t.fn<1∨8<t.fn)∧Fr a 74 [(0,pt D.wb),(3,pt b3),(4,.int .i64 0)])∧U W w (aa b3 58 (dW t)::aa D.wb 40 [pt D.mb,.slice adP xs.length cP,.slice adN v.net.length cN,.slice adE es.length cE]::Sl 34 1 adP xs.length cP (xs.map dD)::ah (dg W p) xs::cd 60 adN v.net.length cN v.net::Sl 70 1 adE es.length cE (es.map bx)::ah eY es::L)) ?_ ?_
 ·
  refine BY 5 E I (λbX a E=>?_) λbX a E=>?_
  ·
   refine RN 4 E I λa E=>?_;rw[bo (by omega)]at E;refine RN 1 E I λa E=>?_;exact⟨⟨by omega,E.ab [0,3,4]⟩,I.sub⟩
  refine RN 5 E I λa E=>?_;exact⟨⟨by omega,E.ab [0,3,4]⟩,I.sub⟩
 clear E;(try clear I);rintro a w ⟨⟨hJ,E⟩,I⟩;refine cc (M:=λa w=>(∃ i:Nat,(t.a=i∧i<v.ps.length)∧Fr a 74 [(0,pt D.wb),(3,pt b3),(4,.int .i64 0)])∧U W w (aa b3 58 (dW t)::aa D.wb 40 [pt D.mb,.slice adP xs.length cP,.slice adN v.net.length cN,.slice adE es.length cE]::Sl 34 1 adP xs.length cP (xs.map dD)::ah (dg W p) xs::cd 60 adN v.net.length cN v.net::Sl 70 1 adE es.length cE (es.map bx)::ah eY es::L)) ?_ ?_
 ·
  refine aV 1 (λw0 w'=>Rd w' b3 0 (dW t)∧Rd w' D.wb 0 [pt D.mb,.slice adP xs.length cP,.slice adN v.net.length cN,.slice adE es.length cE]) [9,10] [0,1001,2,3,4,6,7,8,3005,1009,1010,11,12] E I λa w E I hH=>?_;have hC:=hH.at w ⟨I.ai (b:=b3),I.ai (b:=D.wb)⟩;refine RH 1 E I hH hC λa E=>?_;refine SS E (ae E (hC.1 1 _ rfl)) λa E=>?_;refine RH 2 E I hH hC λa E=>?_;refine E.by (s:=28) (λbX E=>?_) (λbX E=>?_)
  ·
   refine RH 9 E I hH hC λa E=>?_;refine RT 3 E I ?_;have ho:t.a<0∨(v.ps.length:Int)≤t.a:=by omega
   have aS:bu p t v=(7,v):=by rw[bu,ag (by omega),ag hf,gC,ak ho]
   rw[aS];exact⟨rfl,cn _ I.sub⟩
  refine RH 4 E I hH hC λa E=>?_;refine QH E (λw hc=>ae E (hc.1 1 _ rfl)) hC λa E=>?_;refine RH 0 E I hH hC λa E=>?_;refine bw E (cw E rfl (s:=28)) (ae E (hC.2 1 _ rfl)) rfl λa E=>?_;refine RH 3 E I hH hC λa E=>?_;refine IF 0 E I (λay a E=>?_) λay a E=>?_
  ·
   refine RT 2 E I ?_;have ho:t.a<0∨(v.ps.length:Int)≤t.a:=by omega
   have aS:bu p t v=(7,v):=by rw[bu,ag (by omega),ag hf,gC,ak ho]
   rw[aS];exact⟨rfl,cn _ I.sub⟩
  refine RN 0 E I λa E=>?_;exact⟨⟨t.a.toNat,⟨by omega,by omega⟩,E.ab [0,3,4]⟩,I.sub⟩
 clear E;(try clear I);rintro a w ⟨⟨i,⟨gg,hi⟩,E⟩,I⟩;refine RN 1 E I λa E=>?_;obtain⟨x,hx⟩:∃ x,xs[i]?=some (x,an v i):=CO c6 (by omega);have aS:bu p t v=gC p t v:=by rw[bu,ag hJ,ag hf]
 obtain⟨hw,df,xI⟩:=hv.pl i hi;have ui:(xs.map dD)[i]?=some (pt x.pb):=by rw[bl,hx];rfl
 obtain⟨bp,op,rfl,_⟩:=(I.pick (Sl 34 1 adP xs.length cP (xs.map dD))).bU adP (by omega);refine aV 0 (λw0 w'=>(Rd w' b3 0 (dW t)∧Rd w' D.wb 0 [pt D.mb,.slice (some ⟨bp,op,none⟩) xs.length cP,.slice adN v.net.length cN,.slice adE es.length cE])∧Rd w' bp op (xs.map dD)) [5] [0,1,2,4,3003,1005,6,1007,8] E I λa w E I hH=>?_;have hC:=hH.at w ⟨⟨I.ai (b:=b3),I.ai (b:=D.wb)⟩,I.cK bp op (by omega)⟩;refine RH 4 E I hH hC λa E=>?_;refine QH E (λw hc=>ae E (hc.1.2 1 _ rfl)) hC λa E=>?_;refine RH 0 E I hH hC λa E=>?_;refine SS E (ae E (hC.1.1 1 _ rfl)) λa E=>?_;rw[gg]at E;refine RH 1 E I hH hC λa E=>?_;refine SS E (ae E (hC.2 i _ ui)) λa E=>?_;refine RH 1 E I hH hC λa E=>?_;refine RN 2 E I λa E=>?_;replace I:=CP (I.pick (ah (dg W p) xs)) hx;refine IF 5 E I (λbk a E=>?_) λbk a E=>?_
 ·
  refine RN 5 E I λa E=>?_;refine SS E (gr E underlying3 underlying5) λa E=>?_;rw[O1]at E;refine CL 0 E I (abJ (x:=fm t.b) (I.pick (bZ W x p (an v i))) hw a6 aH) λa w E I=>?_;refine RT 1 E I ?_;rw[aS,Cz (by assumption) gg hi];exact⟨rfl,bC.put (adP:=some ⟨bp,op,none⟩) (cP:=cP) (adN:=adN) (cN:=cN) (adE:=adE) (cE:=cE) dX c6 ek hx v.net I.sub⟩
 refine IF 3 E I (λbN a E=>?_) λbN a E=>?_
 ·
  replace I:=bZ.open (I.pick (bZ W x p (an v i)));refine aZ 5 E I (abz (I.pick (a1 x.core (an v i).k)) hw.wc (by omega)) λHV o4 a w E I=>?_;refine CL 0 E I (OZ (((I.pick (aa D.wb 40 [pt D.mb,.slice (some ⟨bp,op,none⟩) xs.length cP,.slice adN v.net.length cN,.slice adE es.length cE])).pick (cd 60 adN v.net.length cN v.net)).pick (cd 60 HV (br (an v i).k).1.length o4 (br (an v i).k).1)) (N2 hw.wc) hv.net.1) λa w E ⟨vL,vM,I⟩=>?_;refine RN 0 E I λa E=>?_;replace I:=bZ.fold I x p ⟨(br (an v i).k).2,(an v i).g⟩;refine RT 2 E I ?_;rw[aS]
  first
   | (rw[xH (by assumption) gg hi];exact⟨rfl,bC.put (adP:=some ⟨bp,op,none⟩) (cP:=cP) (adN:=vL) (cN:=vM) (adE:=adE) (cE:=cE) dX c6 ek hx (eF v.net (br (an v i).k).1) I.sub⟩)
   | (rw[zK (by assumption) gg hi];exact⟨rfl,bC.put (adP:=some ⟨bp,op,none⟩) (cP:=cP) (adN:=vL) (cN:=vM) (adE:=adE) (cE:=cE) dX c6 ek hx (eF v.net (cy (an v i).k).1) I.sub⟩)
   | (rw[zL (by omega) gg hi];exact⟨rfl,cn _ (CQ ((I.pick (ah (dg W p) (xs.eraseIdx i))).pick (bZ W x p (an v i))) hx).sub⟩)
 refine IF 3 E I (λeN a E=>?_) λeN a E=>?_
 ·
  replace I:=bZ.open (I.pick (bZ W x p (an v i)));refine aZ 5 E I (abw (I.pick (a1 x.core (an v i).k)) hw.wc) λHV o4 a w E I=>?_;refine CL 0 E I (OZ (((I.pick (aa D.wb 40 [pt D.mb,.slice (some ⟨bp,op,none⟩) xs.length cP,.slice adN v.net.length cN,.slice adE es.length cE])).pick (cd 60 adN v.net.length cN v.net)).pick (cd 60 HV (cy (an v i).k).1.length o4 (cy (an v i).k).1)) (N3 hw.wc) hv.net.1) λa w E ⟨vL,vM,I⟩=>?_;refine RN 0 E I λa E=>?_;replace I:=bZ.fold I x p ⟨(cy (an v i).k).2,(an v i).g⟩;refine RT 2 E I ?_;rw[aS]
  first
   | (rw[xH (by assumption) gg hi];exact⟨rfl,bC.put (adP:=some ⟨bp,op,none⟩) (cP:=cP) (adN:=vL) (cN:=vM) (adE:=adE) (cE:=cE) dX c6 ek hx (eF v.net (br (an v i).k).1) I.sub⟩)
   | (rw[zK (by assumption) gg hi];exact⟨rfl,bC.put (adP:=some ⟨bp,op,none⟩) (cP:=cP) (adN:=vL) (cN:=vM) (adE:=adE) (cE:=cE) dX c6 ek hx (eF v.net (cy (an v i).k).1) I.sub⟩)
   | (rw[zL (by omega) gg hi];exact⟨rfl,cn _ (CQ ((I.pick (ah (dg W p) (xs.eraseIdx i))).pick (bZ W x p (an v i))) hx).sub⟩)
 refine RT 2 E I ?_;rw[aS]
 first
  | (rw[xH (by assumption) gg hi];exact⟨rfl,bC.put (adP:=some ⟨bp,op,none⟩) (cP:=cP) (adN:=vL) (cN:=vM) (adE:=adE) (cE:=cE) dX c6 ek hx (eF v.net (br (an v i).k).1) I.sub⟩)
  | (rw[zK (by assumption) gg hi];exact⟨rfl,bC.put (adP:=some ⟨bp,op,none⟩) (cP:=cP) (adN:=vL) (cN:=vM) (adE:=adE) (cE:=cE) dX c6 ek hx (eF v.net (cy (an v i).k).1) I.sub⟩)
  | (rw[zL (by omega) gg hi];exact⟨rfl,cn _ (CQ ((I.pick (ah (dg W p) (xs.eraseIdx i))).pick (bZ W x p (an v i))) hx).sub⟩)
end
end
section
section
variable {W w:World}{L L':List SP}{n c k cP cN cE wb i j:Nat}{adP adN adE:Option Addr}{p:Pr}{v:Wd}{D:ot}{net:List Ml}{xs:List (gd×Pl)}{es:List kx}{x:gd}{s:Pl}{t:fN}{cf:Cf}{m:Ml}
theorem ac6 (I:U W w (bC W D p v::L))(ho:t.n<0∨(v.net.length:Int)≤t.n) :
   Calls prog 70 #[pt D.wb,.agg (dW t).toArray] w λe w'=>e=.returned (.int .i64 3)∧U W w' (bC W D p v::L):=by
 replace I:=bC.open I;obtain⟨adP,cP,adN,cN,adE,cE,xs,es,⟨dX,c6,ek⟩,I⟩:=I;have cn:∀ w',U W w' (aa D.wb 40 [pt D.mb,.slice adP xs.length cP,.slice adN v.net.length cN,.slice adE es.length cE]::Sl 34 1 adP xs.length cP (xs.map dD)::ah (dg W p) xs::cd 60 adN v.net.length cN v.net::Sl 70 1 adE es.length cE (es.map bx)::ah eY es::L)→U W w' (bC W D p v::L):=λw' h=>bC.close h dX c6 ek;refine EN func70 ntmps70 rfl rfl λa E=>?_;refine BX 1 E I λb3 a w E I=>?_;change U W w (aa b3 58 (dW t)::_) at I;refine aV 3 (λw0 w'=>Rd w' b3 0 (dW t)∧Rd w' D.wb 0 [pt D.mb,.slice adP xs.length cP,.slice adN v.net.length cN,.slice adE es.length cE]) [9,10] [0,1001,2,3,4,6,7,8,3005,1009,1010,11,12] E I λa w E I hH=>?_;have hC:=hH.at w ⟨I.ai (b:=b3),I.ai (b:=D.wb)⟩;refine RH 1 E I hH hC λa E=>?_;refine SS E (ae E (hC.1 3 _ rfl)) λa E=>?_;refine RH 2 E I hH hC λa E=>?_;refine E.by (s:=10) (λbX E=>?_) (λbX E=>?_)
 ·
  refine RH 9 E I hH hC λa E=>?_;refine RT 3 E I ?_;exact⟨rfl,cn _ I.sub⟩
 refine RH 4 E I hH hC λa E=>?_;refine QH E (λw hc=>ae E (hc.1 3 _ rfl)) hC λa E=>?_;refine RH 0 E I hH hC λa E=>?_;refine bw E (cw E rfl (s:=10)) (ae E (hC.2 2 _ rfl)) rfl λa E=>?_;refine RH 3 E I hH hC λa E=>?_;rw[dk (by omega)]at E;refine RT 3 E I ?_;exact⟨rfl,cn _ I.sub⟩
theorem bC.CS {ys:List Mx}(h1:xs.map (·.1)=D.m8)(h2:xs.map (·.2)=v.ps)(h3:es.map (·.2.2)=v.ev)(hy:ys.map (·.2.2)=net)
   (I:U W w (Sl 60 3 adN net.length cN (rows b7 ys)::ah ca ys::aa D.wb 40 [pt D.mb,.slice adP xs.length cP,.slice adN net.length cN,.slice adE es.length cE]::Sl 34 1 adP xs.length cP (xs.map dD)::ah (dg W p) xs::Sl 70 1 adE es.length cE (es.map bx)::ah eY es::L)) :
   U W w (bC W D p { v with net:=net }::L):=by
 have h4:=cd.close I hy rfl;exact bC.close (v:={ v with net:=net }) (h4.sub (M:=aa D.wb 40 [pt D.mb,.slice adP xs.length cP,.slice adN net.length cN,.slice adE es.length cE]::Sl 34 1 adP xs.length cP (xs.map dD)::ah (dg W p) xs::cd 60 adN net.length cN net::Sl 70 1 adE es.length cE (es.map bx)::ah eY es::L)) h1 h2 h3
theorem HW {ys:List Mx}{y:Mx}(I:U W w (ah ca ys::L))(hy:ys[j]?=some y):aX w y.1 y.2.2.2.2.length y.2.2.2.2:=by
 obtain⟨h1,h2⟩:=aY.1 hy;have h3:=I.fy h1;rw[h2]at h3;exact U.cu (L:=ca y::_) h3 _ _ (k:=(fS.head:fS (Sl 5 1 y.1 y.2.2.2.2.length y.2.1 (bc y.2.2.2.2)::_) y.1 _ _ _ _ _ _)) rfl rfl
set_option maxHeartbeats 2000000 in
theorem ac7 (I:U W w (bC W D p v::L))(hv:bK p cf c v)(a6:dm p)(aH:p.title.size≤1000000000)(hf:t.fn=3∨t.fn=4∨t.fn=5∨t.fn=6)(gP:t.n=j)(hm:v.net[j]?=some m) :
   Calls prog 70 #[pt D.wb,.agg (dW t).toArray] w λe w'=>e=.returned (.int .i64 (gO p t v).1)∧U W w' (bC W D p (gO p t v).2::L):=by
 have dQ:=(aY.1 hm).1;have gf:=hv.Hw dQ;rw[CB hm]at gf;obtain⟨hw,df,xI⟩:=hv.pl m.2.1 gf.1;have n1:=hv.net.1;replace I:=bC.open I;obtain⟨adP,cP,adN,cN,adE,cE,xs,es,⟨dX,c6,ek⟩,I⟩:=I;have b9:xs.length=v.ps.length:=by rw[← c6,a8]
 obtain⟨ys,mB,jm,I⟩:=cd.open (I.pick (cd 60 adN v.net.length cN v.net));have lB:ys.length=v.net.length:=by rw[← mB,a8]
 obtain⟨y,hy,jh⟩:∃ y,ys[j]?=some y∧y.2.2=m:=by
  have h1:(ys.map (·.2.2))[j]?=some m:=by rw[mB,hm]
  rw[bl,aD (by omega)]at h1;exact⟨_,aD (by omega),by simpa using h1⟩
 subst jh;obtain⟨bB,on,rfl,_⟩:=(I.pick (Sl 60 3 adN v.net.length cN (rows b7 ys))).bU adN (by omega);refine EN func70 ntmps70 rfl rfl λa E=>?_;refine BX 1 E I λb3 a w E I=>?_;change U W w (aa b3 58 (dW t)::_) at I;refine aV 3 (λw0 w'=>Rd w' b3 0 (dW t)∧Rd w' D.wb 0 [pt D.mb,.slice adP xs.length cP,.slice (some ⟨bB,on,none⟩) v.net.length cN,.slice adE es.length cE]) [9,10] [0,1001,2,3,4,6,7,8,3005,1009,1010,11,12] E I λa w E I hH=>?_;have hC:=hH.at w ⟨I.ai (b:=b3),I.ai (b:=D.wb)⟩;refine RH 1 E I hH hC λa E=>?_;refine SS E (ae E (hC.1 3 _ rfl)) λa E=>?_;refine RH 2 E I hH hC λa E=>?_;rw[bo (by omega)]at E;refine RH 4 E I hH hC λa E=>?_;refine QH E (λw hc=>ae E (hc.1 3 _ rfl)) hC λa E=>?_;refine RH 0 E I hH hC λa E=>?_;refine bw E (cw E rfl (s:=10)) (ae E (hC.2 2 _ rfl)) rfl λa E=>?_;refine RH 3 E I hH hC λa E=>?_;rw[bo (by omega)]at E;refine aV 2 (λw0 w'=>(Rd w' b3 0 (dW t)∧Rd w' D.wb 0 [pt D.mb,.slice adP xs.length cP,.slice (some ⟨bB,on,none⟩) v.net.length cN,.slice adE es.length cE])∧Rd w' bB (on+j*3) (b7 y)) [5,8] [0,1,2,4,3003,3005,6,3007,1008,1009] E I λa w E I hH=>?_;have hC:=hH.at w ⟨⟨I.ai (b:=b3),I.ai (b:=D.wb)⟩,jl oc (I.cK bB on (by omega)) hy⟩;refine RH 4 E I hH hC λa E=>?_;refine QH E (λw hc=>ae E (hc.1.2 2 _ rfl)) hC λa E=>?_;refine QH E (λw hc=>ae E (hc.1.1 3 _ rfl)) hC λa E=>?_;rw[gP]at E;refine RH 1 E I hH hC λa E=>?_;refine QH E (λw hc=>bT E underlying60 rfl Ty.t60 (hc.2)) hC λa E=>?_;refine RH 0 E I hH hC λa E=>?_;refine eZ E rfl I Ty.t60 rfl λb5 a w E I ho=>?_;clear ho;replace hC:=hH.at w ⟨⟨I.ai (b:=b3),I.ai (b:=D.wb)⟩,jl oc (I.cK bB on (by omega)) hy⟩;refine RH 0 E I hH hC λa E=>?_;refine SA 0 E I λa w E I=>?_;refine RN 0 E I λa E=>?_;refine IF 5 E I (λao a E=>?_) λao a E=>?_
 ·
  refine BY 6 E I (λbX a E=>?_) λbX a E=>?_
  ·
   refine RT 10 E I ?_;have ho:t.a<0∨(y.2.2.2.2.length:Int)≤t.a:=by omega
   rw[uf (by assumption) gP hm,ak ho];exact⟨rfl,bC.CS (adP:=adP) (cP:=cP) (adN:=some ⟨bB,on,none⟩) (cN:=cN) (adE:=adE) (cE:=cE) (net:=v.net) (ys:=ys) dX c6 ek mB I.sub⟩
  refine IF 7 E I (λay a E=>?_) λay a E=>?_
  ·
   refine RT 2 E I ?_;have ho:t.a<0∨(y.2.2.2.2.length:Int)≤t.a:=by omega
   rw[uf (by assumption) gP hm,ak ho];exact⟨rfl,bC.CS (adP:=adP) (cP:=cP) (adN:=some ⟨bB,on,none⟩) (cN:=cN) (adE:=adE) (cE:=cE) (net:=v.net) (ys:=ys) dX c6 ek mB I.sub⟩
  refine RN 1 E I λa E=>?_;have ho:¬ (t.a<0∨(y.2.2.2.2.length:Int)≤t.a):=by omega
  obtain⟨A,hA⟩:∃ A:Nat,t.a=A:=⟨t.a.toNat,by omega⟩;have CT:A<y.2.2.2.2.length:=by omega
  have Bq:=HW (I.pick (ah ca ys)) hy;replace I:=I.bM 5 1 none;refine RN 2 E I λa E=>?_;refine g8 E rfl I underlying22 Ty.t5 rfl rfl (by decide) (λh0=>Bq.get h0) (by rw[dy];omega) (ez _) (by omega) λnL ly a w E I=>?_;rw[nil_append,eG]at I;rw[eG]at E;refine RN 2 E I λa E=>?_;have agk:=((I.pick (Sl 5 1 nL y.2.2.2.2.length ly (bc y.2.2.2.2))).sl nL).2;obtain⟨bb,pre,post,⟨h3,h4,rfl,h6⟩,gI⟩:=(I.pick (Sl 5 1 nL y.2.2.2.2.length ly (bc y.2.2.2.2))).l8 (by omega);replace I:=gI;clear gI;have hb:(pre++bc y.2.2.2.2++post)[pre.length+A]?=some (.int .u8 (y.2.2.2.2[A].toNat:Int)):=by
   rw[dx,pD (by omega),show pre.length+A-pre.length=A from by omega,mF (by rw[dy];exact CT)];simp[bc,CT]
  refine aV 0 (λw0 w'=>Rd w' b3 0 (dW t)∧w'.cell? ⟨bb,pre.length+A,none⟩=some (.int .u8 (y.2.2.2.2[A].toNat:Int))) [6,7,8] [0,1,5,3002,3,3004,1006,1007,1008,9,10,1011] E I λa w E I hH=>?_;have hC:=hH.at w ⟨I.ai (b:=b3),I.bz (b:=bb) hb⟩;refine RH 3 E I hH hC λa E=>?_;refine QH E (λw hc=>ae E (hc.1 1 _ rfl)) hC λa E=>?_;rw[hA]at E;refine RH 1 E I hH hC λa E=>?_;refine QH E (λw hc=>ae E (hc.2)) hC λa E=>?_;refine RH 0 E I hH hC λa E=>?_;refine SS E (ae E (hC.1 2 _ rfl)) λa E=>?_;refine RH 1 E I hH hC λa E=>?_;refine SS E (gr E underlying3 underlying5) λa E=>?_;rw[O1]at E;refine RH 2 E I hH hC λa E=>?_;refine ST 0 E I (λa w E I=>?_) (hlt:=(by simp only[aJ,dy];omega));refine RN 0 E I λa E=>?_;rw[zF (by rw[dy];exact CT),Of]at I;have O2:=U.iZ (n:=y.2.2.2.2.length) (c:=ly) (sz:=1) (I.jZ bb) (by rw[dy,bt,fW]) h4 h6;replace I:=O2;clear O2;have pY:=((I.pick (Sl 60 3 (some ⟨bB,on,none⟩) v.net.length cN (rows b7 ys))).sl (some ⟨bB,on,none⟩)).2;obtain⟨js,vN,O3,⟨l9,ma,o3,CU⟩,gI⟩:=(I.pick (Sl 60 3 (some ⟨bB,on,none⟩) v.net.length cN (rows b7 ys))).l8 (by omega);replace I:=gI;clear gI;obtain⟨rfl,rfl⟩:bB=js∧on=vN.length:=by simpa using o3
  refine aV 1 (λw0 w'=>Rd w' b3 0 (dW t)∧Rd w' D.wb 0 [pt D.mb,.slice adP xs.length cP,.slice (some ⟨bB,vN.length,none⟩) v.net.length cN,.slice adE es.length cE]) [5] [0,1,2,4,6,3003,1005,7,8,1009] E I λa w E I hH=>?_;have hC:=hH.at w ⟨I.ai (b:=b3),I.ai (b:=D.wb)⟩;refine RH 5 E I hH hC λa E=>?_;refine QH E (λw hc=>ae E (hc.2 2 _ rfl)) hC λa E=>?_;refine RH 0 E I hH hC λa E=>?_;refine SS E (ae E (hC.1 3 _ rfl)) λa E=>?_;rw[gP]at E;refine RH 2 E I hH hC λa E=>?_;refine ST 0 E I (λa w E I=>?_) (hlt:=(by simp only[aJ];omega));refine RT 2 E I ?_;rw[uf (by assumption) gP hm,ag ho];refine⟨rfl,?_⟩;rw[hA,c8,bm,aD CT,Option.getD_some];obtain⟨qV,zS⟩:=aY.1 hy;obtain⟨Y,wF⟩:∃ Y:Mx,Y=(some ⟨bb,pre.length,none⟩,ly,(y.2.2.1,y.2.2.2.1,y.2.2.2.2.set A (y.2.2.2.2[A] ^^^ fm t.b))):=⟨_,rfl⟩;have e1:(rows b7 ys).set (j*3+2) (.slice (some ⟨bb,pre.length,none⟩) y.2.2.2.2.length ly)=rows b7 (ys.set j Y):=qG oc ys (i:=j) (k:=2) Y qV (by decide) (by rw[zS,wF];simp[b7,bt]);rw[Nat.add_assoc,zF (by rw[l9];omega),e1]at I;have h8:=U.iZ (n:=v.net.length) (c:=cN) (sz:=3) (I.jZ bB) (by rw[jw oc,bt,lB]) ma CU;have h9:=((h8.pick (ah ca ys)).fy qV).tail;have HC:Sl 5 1 (some ⟨bb,pre.length,none⟩) y.2.2.2.2.length ly (bc (y.2.2.2.2.set A (y.2.2.2.2[A] ^^^ fm t.b)))=ca Y:=by rw[wF,ca];simp only[bt]
  have fg:=(h9.pick (ah ca (ys.eraseIdx j))).pick (Sl 5 1 (some ⟨bb,pre.length,none⟩) y.2.2.2.2.length ly (bc (y.2.2.2.2.set A (y.2.2.2.2[A] ^^^ fm t.b))));rw[HC]at fg;have lP:=U.kZ (f:=ca) qV fg;refine bC.CS (adP:=adP) (cP:=cP) (adN:=some ⟨bB,vN.length,none⟩) (cN:=cN) (adE:=adE) (cE:=cE) (ys:=ys.set j Y) dX c6 ek (by rw[jz,mB,wF]) ?_;rw[bt];exact lP.sub
 refine RN 0 E I λa E=>?_;refine cc (M:=λa w=>∃ (cj:Option Addr) (cM:Nat) (zs:List Mx) (Z:SP),((zs.map (·.2.2)=(if t.fn=5 then v.net else v.net.eraseIdx j)∧(∀ w' L',U W w' (ah ca zs::Z::L')→aX w' y.1 y.2.2.2.2.length y.2.2.2.2)∧y.2.2.2.2.length≤y.2.1)∧Fr a 103 [(0,pt D.wb),(3,pt b3),(5,pt b5)])∧U W w (aa b5 60 (b7 y)::aa b3 58 (dW t)::Sl 60 3 cj zs.length cM (rows b7 zs)::ah ca zs::Z::aa D.wb 40 [pt D.mb,.slice adP xs.length cP,.slice cj zs.length cM,.slice adE es.length cE]::Sl 34 1 adP xs.length cP (xs.map dD)::ah (dg W p) xs::Sl 70 1 adE es.length cE (es.map bx)::ah eY es::L)) ?_ ?_
 ·
  refine IF 4 E I (λbk a E=>?_) λbk a E=>?_
  ·
   refine RN 0 E I λa E=>?_;have pY:=((I.pick (Sl 60 3 (some ⟨bB,on,none⟩) v.net.length cN (rows b7 ys))).sl (some ⟨bB,on,none⟩)).2;refine aV 0 (λw0 w'=>Rd w' b3 0 (dW t)∧Rd w' D.wb 0 [pt D.mb,.slice adP xs.length cP,.slice (some ⟨bB,on,none⟩) v.net.length cN,.slice adE es.length cE]) [6,8,13,15,16,17] [0,1,2,3,5,7,10,11,12,14,3004,3006,3008,9,3013,1015,1016,1017,1018,19,20,1021] E I λa w E I hH=>?_;have hC:=hH.at w ⟨I.ai (b:=b3),I.ai (b:=D.wb)⟩;refine RH 10 E I hH hC λa E=>?_;refine QH E (λw hc=>ae E (hc.2 2 _ rfl)) hC λa E=>?_;refine QH E (λw hc=>ae E (hc.1 3 _ rfl)) hC λa E=>?_;rw[gP]at E;refine RH 0 E I hH hC λa E=>?_;refine QH E (λw hc=>ae E (hc.1 3 _ rfl)) hC λa E=>?_;rw[gP]at E;refine RH 1 E I hH hC λa E=>?_;refine QH E (λw hc=>ae E (hc.2 2 _ rfl)) hC λa E=>?_;refine RH 0 E I hH hC λa E=>?_;refine SS E (ae E (hC.1 3 _ rfl)) λa E=>?_;rw[gP]at E;refine RH 2 E I hH hC λa E=>?_;have ac8:ft (some ⟨bB,on,none⟩) 0 j 3=some ⟨bB,on,none⟩:=by
    by_cases h0:j=0
    ·subst h0;rfl
    ·rw[pE h0,Nat.zero_mul,Nat.add_zero]
   have xD:rows b7 ys=rows b7 (ys.take j)++rows b7 (ys.drop j):=by rw[← kG,j0]
   have ac9:rows b7 ys=rows b7 (ys.take (j+1))++rows b7 (ys.drop (j+1)):=by rw[← kG,j0]
   have c9:Rd w bB (on+(j+1)*3) (rows b7 (ys.drop (j+1))):=by
    have h1:Rd w bB on (rows b7 ys):=I.cK bB on (by omega);have h2:=h1.part ((j+1)*3) ((ys.length-(j+1))*3);rw[ac9,List.drop_left' (by rw[jw oc,eA];omega),gi (by rw[jw oc,c7];omega)]at h2;exact h2
   obtain⟨js,vN,O3,⟨l9,ma,o3,CU⟩,gI⟩:=(I.pick (Sl 60 3 (some ⟨bB,on,none⟩) v.net.length cN (rows b7 ys))).l8 (by omega);obtain⟨rfl,rfl⟩:bB=js∧on=vN.length:=by simpa using o3
   rw[xD,← dx vN,dx _ _ O3]at gI;replace I:=U.iZ (n:=j) (c:=j) (sz:=3) gI (by rw[jw oc,eA];omega) (a7 _) (by omega);clear gI;rw[ac8]at E;refine g8 E rfl I underlying37 Ty.t60 rfl rfl (by decide) (λh0=>⟨bB,vN.length+(j+1)*3,pE (by omega),c9⟩) (by rw[jw oc,c7];omega) (Aj ZT _) (by omega) λada c86 a w E I=>?_;rw[← kG,← sZ]at I;have sH:j+(v.net.length-(j+1))=(ys.eraseIdx j).length:=by rw[List.length_eraseIdx_of_lt (by omega)];omega
   rw[sH]at I E;refine ST 2 E I (λa w E I=>?_);refine RN 0 E I λa E=>?_;obtain⟨qV,zS⟩:=aY.1 hy;have h1:=(I.pick (ah ca ys)).fy qV;rw[zS]at h1;have pd:y.2.2.2.2.length≤y.2.1:=(U.sl (L:=ca y::_) (k:=(fS.head:fS (Sl 5 1 y.1 y.2.2.2.2.length y.2.1 (bc y.2.2.2.2)::_) y.1 _ _ _ _ _ _)) h1 y.1).2;refine⟨ada,c86,ys.eraseIdx j,ca y,⟨⟨?_,λw' L' h=>?_,pd⟩,E.ab [0,3,5]⟩,h1.sub⟩
   ·rw[ag (by omega),← mB];simp only[sZ,cW,map_take,map_drop]
   ·have h2:=h.pick (ca y);exact U.cu (L:=ca y::_) h2 _ _ (k:=(fS.head:fS (Sl 5 1 y.1 y.2.2.2.2.length y.2.1 (bc y.2.2.2.2)::_) y.1 _ _ _ _ _ _)) rfl rfl
  refine RN 0 E I λa E=>?_;obtain⟨qV,zS⟩:=aY.1 hy;have pd:y.2.2.2.2.length≤y.2.1:=by
   have h1:=(I.pick (ah ca ys)).fy qV;rw[zS]at h1;exact (U.sl (L:=ca y::_) (k:=(fS.head:fS (Sl 5 1 y.1 y.2.2.2.2.length y.2.1 (bc y.2.2.2.2)::_) y.1 _ _ _ _ _ _)) h1 y.1).2
  refine⟨some ⟨bB,on,none⟩,cN,ys,Sl 5 1 none 0 0 [],⟨⟨by rw[ak (by omega)];exact mB,λw' L' h=>HW h hy,pd⟩,E.ab [0,3,5]⟩,?_⟩;rw[lB];exact (I.bM 5 1 none).sub
 clear E;(try clear I);rintro a w ⟨cj,cM,zs,Z,⟨⟨rh,adb,pd⟩,E⟩,I⟩;refine IF 5 E I (λbN a E=>?_) λbN a E=>?_
 ·
  refine RT 2 E I ?_;have iL:zs.length=(v.net.eraseIdx j).length:=by rw[← a8 (f:=(·.2.2)),rh,ag (by omega)]
  rw[HI (by assumption) gP hm];rw[ag (by omega)]at rh;refine⟨rfl,?_⟩;refine bC.CS (adP:=adP) (cP:=cP) (adN:=cj) (cN:=cM) (adE:=adE) (cE:=cE) (ys:=zs) dX c6 ek rh ?_;rw[← iL];exact I.sub
 refine RN 1 E I λa E=>?_;obtain⟨x,hx⟩:∃ x,xs[y.2.2.2.1]?=some (x,an v y.2.2.2.1):=CO c6 (by omega);have ui:(xs.map dD)[y.2.2.2.1]?=some (pt x.pb):=by rw[bl,hx];rfl
 obtain⟨bp,op,rfl,_⟩:=(I.pick (Sl 34 1 adP xs.length cP (xs.map dD))).bU adP (by omega);refine aV 0 (λw0 w'=>(Rd w' b5 0 (b7 y)∧Rd w' D.wb 0 [pt D.mb,.slice (some ⟨bp,op,none⟩) xs.length cP,.slice cj zs.length cM,.slice adE es.length cE])∧Rd w' bp op (xs.map dD)) [5,9] [0,1,2,4,8,3003,3005,6,3007,1009,1010,11] E I λa w E I hH=>?_;have hC:=hH.at w ⟨⟨I.ai (b:=b5),I.ai (b:=D.wb)⟩,I.cK bp op (by omega)⟩;refine RH 5 E I hH hC λa E=>?_;refine QH E (λw hc=>ae E (hc.1.2 1 _ rfl)) hC λa E=>?_;refine QH E (λw hc=>ae E (hc.1.1 1 _ rfl)) hC λa E=>?_;refine RH 1 E I hH hC λa E=>?_;refine QH E (λw hc=>ae E (hc.2 _ _ ui)) hC λa E=>?_;refine RH 0 E I hH hC λa E=>?_;refine SS E (ae E (hC.1.1 2 _ rfl)) λa E=>?_;replace I:=CP (I.pick (ah (dg W p) xs)) hx;refine RH 0 E I hH hC λa E=>?_;refine CL 0 E I (abK (bs:=y.2.2.2.2) (I.pick (bZ W x p (an v y.2.2.2.1))) hw a6 aH (by omega) pd (λw' di=>adb w' _ ((di.pick Z).pick (ah ca zs)))) λa w E I=>?_;refine RN 1 E I λa E=>?_;refine RT 0 E I ?_;rw[CC (by omega) (by omega) gP hm];refine⟨rfl,?_⟩;have iL:zs.length=(if t.fn=5 then v.net else v.net.eraseIdx j).length:=by rw[← a8 (f:=(·.2.2)),rh]
 have h1:=cd.close ((I.pick (ah ca zs)).pick (Sl 60 3 cj zs.length cM (rows b7 zs))) rh iL.symm;refine bC.put (adP:=some ⟨bp,op,none⟩) (cP:=cP) (adN:=cj) (cN:=cM) (adE:=adE) (cE:=cE) dX c6 ek hx (if t.fn=5 then v.net else v.net.eraseIdx j) ?_;rw[← iL];exact h1.sub
end
end
section
section
variable {W w:World}{L:List SP}{c:Nat}{p:Pr}{v:Wd}{D:ot}{t:fN}{cf:Cf}
theorem ade (I:U W w (bC W D p v::L))(hv:bK p cf c v)(a6:dm p)(aH:p.title.size≤1000000000)(hf:t.fn=3∨t.fn=4∨t.fn=5∨t.fn=6) :
   Calls prog 70 #[pt D.wb,.agg (dW t).toArray] w λe w'=>e=.returned (.int .i64 (gO p t v).1)∧U W w' (bC W D p (gO p t v).2::L):=by
 by_cases h0:t.n<0∨(v.net.length:Int)≤t.n
 ·rw[OF h0];exact ac6 I h0
 ·exact ac7 (j:=t.n.toNat) I hv a6 aH hf (by omega) (aD (by omega))
theorem adf (I:U W w (bC W D p v::L))(hv:bK p cf c v)(a6:dm p)(aH:p.title.size≤1000000000)(hf:3≤t.fn∧t.fn≤6) :
   Calls prog 50 #[pt D.wb,.agg (dW t).toArray] w λe w'=>e=.returned (.int .i64 (bu p t v).1)∧U W w' (bC W D p (bu p t v).2::L):=by
 have aS:bu p t v=gO p t v:=by rw[bu,ag (by omega),ak hf]
 rw[aS];refine EN func50 ntmps50 rfl rfl λa E=>?_;refine BX 1 E I λb3 a w E I=>?_;change U W w (aa b3 58 (dW t)::_) at I;refine RN 7 E I λa E=>?_;rw[bo (by omega)]at E;refine RN 4 E I λa E=>?_;rw[bo (by omega)]at E;refine RN 7 E I λa E=>?_;rw[dk (by omega)]at E;refine RN 4 E I λa E=>?_;rw[dk (by omega)]at E;refine CL 4 E I (ade (I.pick (bC W D p v)) hv a6 aH (by omega)) λa w E I=>?_;refine RT 1 E I ?_;exact⟨rfl,I.sub⟩
theorem adg (I:U W w (bC W D p v::L))(hv:bK p cf c v)(a6:dm p)(aH:p.title.size≤1000000000)(hc:c≤1000000) :
   Calls prog 50 #[pt D.wb,.agg (dW t).toArray] w λe w'=>e=.returned (.int .i64 (bu p t v).1)∧U W w' (bC W D p (bu p t v).2::L):=by
 by_cases hf:3≤t.fn∧t.fn≤6
 ·exact adf I hv a6 aH hf
 ·exact ac5 I hv a6 aH hc hf
end
end
section
section
variable {W w:World}{L:List SP}{c i:Nat}{p:Pr}{v:Wd}{B:iV}
theorem adh (I:U W w (aE W B p c v::L))(hi:i<v.ps.length)(sH:v.ev.length=v.ps.length)(hl:(v.ev.getD i []).length≤1000000000) :
   Calls prog 34 #[pt B.mb,.int .i64 i] w λe w'=>∃ ad c',e=.returned (.slice ad (v.ev.getD i []).length c')∧U W w' (Sl 135 1 ad (v.ev.getD i []).length c' ((v.ev.getD i []).map cB)::aE W B p c v::L):=by
 replace I:=aE.ug I;obtain⟨adL,cL,adE,cE,xs,es,⟨h1,h2,h3⟩,I⟩:=I;have b9:xs.length=v.ps.length:=by rw[← h2,a8]
 have adi:es.length=v.ps.length:=by rw[← sH,← h3,a8]
 obtain⟨iH,iI,l,lA⟩:∃ iH iI l,es[i]?=some (iH,iI,l):=⟨_,_,_,aD (by omega)⟩;obtain⟨xN,pw⟩:=aY.1 lA;have q4:v.ev.getD i []=l:=by rw[← h3,bm,bl,lA];rfl
 rw[q4]at hl ⊢;refine EN func34 ntmps34 rfl rfl λa E=>?_;refine CL 6 E I (sF ((I.pick (Sl 81 1 adL xs.length cL (xs.map cC))).pick (aa B.mb 107 [.slice adL xs.length cL,pt B.q,.slice adE es.length cE])) (by omega)) λa w E I=>?_;refine RN 1 E I λa E=>?_;replace E:=E.aP 8;refine RN 2 E I λa E=>?_;obtain⟨iW,oE,rfl,gv⟩:=(I.pick (Sl 90 1 adE es.length cE (es.map bx))).bU adE (by omega);have mm:=gv i (.slice iH l.length iI) (by rw[bl,lA];rfl);refine RN 6 E I λa E=>?_;refine SS E (ae E (mm)) λa E=>?_;replace I:=(I.pick (ah ew es)).fy xN;rw[pw]at I;change U W w (Sl 135 1 iH l.length iI (l.map cB)::_) at I;refine aZ 0 E I (OA I hl) λad2 c2 a w E I=>?_;refine RT 1 E I ?_;refine⟨ad2,c2,rfl,?_⟩;have h4:=(I.pick (ah ew (es.eraseIdx i))).pick (Sl 135 1 iH l.length iI (l.map cB));have h5:U W w (ah ew es::_):=U.xG (f:=ew) xN (by rw[pw];exact h4);have h6:U W w (aE W B p c v::Sl 135 1 ad2 l.length c2 (l.map cB)::L):=aE.sG (adL:=adL) (cL:=cL) (adE:=some ⟨iW,oE,none⟩) (cE:=cE) (xs:=xs) (es:=es) h5.sub h1 h2 h3;exact h6.sub
end
end
section
def qs (v:Wd):Prop:=∀ i,i<v.ps.length→(an v i).k.ev=[]
theorem adj {v:Wd}{i:Nat}(hi:i<v.ps.length)(hl:v.ev.length=v.ps.length)(h:(an v i).k.ev=[]):Cu i v=v:=by
 have h1:(⟨{ (an v i).k with ev:=[] },(an v i).g⟩:Pl)=v.ps[i]:=by
  rw[show ({ (an v i).k with ev:=[] }:Ks)=(an v i).k from by rw[← h]];show an v i=_;rw[an,bm,aD hi];rfl
 have h2:v.ev.getD i []++(an v i).k.ev=v.ev[i]'(by omega):=by
  rw[h,append_nil,bm,aD (by omega)];rfl
 rw[Cu,h1,h2,mN,mN]
theorem O4 {v:Wd}(hl:v.ev.length=v.ps.length)(h:qs v):∀ i,i≤v.ps.length→cz v i=v
 | 0,_=>rfl
 | i+1,hi=>by
  show Cu i (cz v i)=v;rw[O4 hl h i (by omega)];exact adj (by omega) hl (h i (by omega))
theorem HX {v:Wd}(hl:v.ev.length=v.ps.length)(h:qs v):lz v=v:=O4 hl h _ (a7 _)
theorem O5 (v:Wd):qs (lz v):=λi hi=>by
 have h1:i<v.ps.length:=by rw[lz,(rk v _).1]at hi;exact hi
 rw[lz,zE v (a7 _),ak h1]
theorem adk {p:Pr}{t:fN}{v:Wd}(h:t.fn=7):(bu p t v).2=v:=by
 rw[bu,ag (by omega),ag (by omega),gC];split
 ·rfl
 ·rw[ag (by omega),ag (by omega),ag (by omega)]
theorem adl {p:Pr}{t:fN}{v:Wd}(h:qs v):qs (bS p t v):=by
 unfold bS;split
 ·exact h
 ·exact O5 _
section
variable {W w:World}{L:List SP}{c i:Nat}{p:Pr}{v:Wd}{B:iV}{D:ot}{t:fN}{cf:Cf}
theorem O6 {mb:Nat}(HY:mb=B.mb)(I:U W w (aE W B p c v::L))(hB:B.Ok p (c+10))(hv:bK p cf c v)(ke:9*c+100≤1000000000) :
   Calls prog 29 #[pt mb,.agg (dW t).toArray] w λe w'=>∃ z:Int,e=.returned (.int .i64 z)∧(t.fn≠7→z=(bu p t v).1)∧(t.fn=7→CE B t v z)∧U W w' (aE W B p (c+10) (lz (bu p t v).2)::L):=by
 subst HY;exact OH I hB hv ke
set_option maxHeartbeats 2000000 in
theorem adm (I:U W w (aE W B p c v::bC W D p v::L))(xO:D.mb=B.mb)(hB:B.Ok p (c+10))(hv:bK p cf c v)(CV:qs v)(ke:9*c+100≤1000000000)
   (O7:∀ (w:World) (u:Wd),bK p cf (c+10) u→qs u→U W w (aE W B p (c+10) u::bC W D p u::L)→Calls prog 33 #[pt D.wb] w λe w'=>e=.returned (.bool true)∧U W w' (aE W B p (c+10) u::bC W D p u::L)) :
   Calls prog 32 #[pt D.wb,.agg (dW t).toArray] w λe w'=>e=.returned (.bool true)∧U W w' (aE W B p (c+10) (bS p t v)::bC W D p (bS p t v)::L):=by
 have jS:=hB.c;have hu:=hv.step (s:=t);refine EN func32 ntmps32 rfl rfl λa E=>?_;refine BX 1 E I λb3 a w E I=>?_;change U W w (aa b3 58 (dW t)::_) at I;refine IF 6 E I (λaj a E=>?_) λaj a E=>?_
 ·
  refine RN 1 E I λa E=>?_;replace I:=bC.open (I.pick (bC W D p v));obtain⟨adP,cP,adN,cN,adE,cE,xs,es,⟨dX,c6,ek⟩,I⟩:=I;refine bR 0 [4] [0,1,2,3003,1004,1005] E I λa w E I hH hC=>?_;refine RH 5 E I hH hC λa E=>?_;refine bh 0 E I (O6 xO (I.pick (aE W B p c v)) hB hv ke) λz a w E ⟨_,_,I⟩=>?_;refine RN 1 E I λa E=>?_;rw[adk (by assumption),HX hv.ev CV]at I;replace I:=bC.close (v:=v) (D:=D) (I.sub (M:=aa D.wb 40 [pt D.mb,.slice adP xs.length cP,.slice adN v.net.length cN,.slice adE es.length cE]::Sl 34 1 adP xs.length cP (xs.map dD)::ah (dg W p) xs::cd 60 adN v.net.length cN v.net::Sl 70 1 adE es.length cE (es.map bx)::ah eY es::aE W B p (c+10) v::L)) dX c6 ek;refine CL 1 E I (O7 _ v (hv.more (by omega)) CV (I.pick (aE W B p (c+10) v))) λa w E I=>?_;refine RT 1 E I ?_;rw[bS,ak (by assumption)];exact⟨rfl,I⟩
 refine CL 3 E I (adg (I.pick (bC W D p v)) hv hB.pr hB.sz (by omega)) λa w E I=>?_;refine RN 3 E I λa E=>?_;generalize O8:(bu p t v).2=u at I hu;replace I:=bC.open (I.pick (bC W D p u));obtain⟨adP,cP,adN,cN,adE,cE,zN,zO,⟨dX,c6,ek⟩,I⟩:=I;have b9:zN.length=u.ps.length:=by rw[← c6,a8]
 have sH:zO.length=u.ps.length:=by rw[← hu.ev,← ek,a8]
 have xB:=hu.len;refine bR 0 [4] [0,1,2,6,3003,1004,1005,7] E I λa w E I hH hC=>?_;refine RH 6 E I hH hC λa E=>?_;refine bh 0 E I (O6 xO (I.pick (aE W B p c v)) hB hv ke) λz a w E ⟨cV,_,I⟩=>?_;rw[cV (by assumption)]at E;rw[O8]at I;refine RN 1 E I λa E=>?_;rw[bo (by simp)]at E;refine RN 4 E I λa E=>?_;refine aN (λμ a w=>∃ (i:Nat) (xs:List (gd×Pl)) (es:List kx),(μ=u.ps.length-i∧(i≤u.ps.length∧xs.length=u.ps.length∧es.length=u.ps.length)∧xs.map (·.1)=D.m8∧xs.map (·.2)=(cz u i).ps∧es.map (·.2.2)=(cz u i).ev)∧Fr a 65 [(0,pt D.wb),(6,.int .i64 i)]∧U W w (aa D.wb 40 [pt D.mb,.slice adP u.ps.length cP,.slice adN u.net.length cN,.slice adE u.ps.length cE]::Sl 34 1 adP u.ps.length cP (xs.map dD)::ah (dg W p) xs::cd 60 adN u.net.length cN u.net::Sl 70 1 adE u.ps.length cE (es.map bx)::ah eY es::aE W B p (c+10) (lz u)::L)) (u.ps.length) (⟨0,zN,zO,⟨rfl,⟨by omega,b9,sH⟩,dX,c6,ek⟩,E.ab [0,6],(by rw[b9,sH]at I;exact I.sub)⟩) ?_;clear E I;rintro μ a w ⟨i,xs,es,⟨rfl,⟨hi,zP,zQ⟩,u9,tI,q3⟩,E,I⟩;refine IF 9 E I (λay a E=>?_) λay a E=>?_
 ·
  have aI:i<u.ps.length:=by omega
  obtain⟨x,hx⟩:∃ x,xs[i]?=some (x,(an (cz u i) i)):=CO tI (by omega);have ui:(xs.map dD)[i]?=some (pt x.pb):=by rw[bl,hx];rfl
  have hd:=hu.cz (i:=i) (by omega);obtain⟨hw,df,xI⟩:=hd.pl i (by rw[(rk u i).1];exact aI);have HK:=hd.kT;have OI:=hw.wc.kT;obtain⟨iH,iI,l,lA⟩:∃ iH iI l,es[i]?=some (iH,iI,l):=⟨_,_,_,aD (by omega)⟩;obtain⟨_,pw⟩:=aY.1 lA;have ha:l.length≤9*(c+2):=(HK l (by rw[← q3];exact cR.2 ⟨(iH,iI,l),by rw[← pw];exact jd _,rfl⟩)).1;refine RN 1 E I λa E=>?_;obtain⟨bp,op,rfl,_⟩:=(I.pick (Sl 34 1 adP u.ps.length cP (xs.map dD))).bU adP (by omega);obtain⟨iW,oE,rfl,_⟩:=(I.pick (Sl 70 1 adE u.ps.length cE (es.map bx))).bU adE (by omega);replace I:=bZ.open (CP (I.pick (ah (dg W p) xs)) hx);refine aV 0 (λw0 w'=>(Rd w' D.wb 0 [pt D.mb,.slice (some ⟨bp,op,none⟩) u.ps.length cP,.slice adN u.net.length cN,.slice (some ⟨iW,oE,none⟩) u.ps.length cE]∧Rd w' iW oE (es.map bx))∧Rd w' bp op (xs.map dD)∧Rd w' x.pb 0 (eX p x (an (cz u i) i).g)) [8,10,11,15,17,18,19,20,21,22,23] [0,1,2,4,5,6,7,9,12,13,14,16,3003,3008,3010,3011,1015,1017,1018,1019,1020,1021,1022,1023,24,1025] E I λa w E I hH=>?_;have hC:=hH.at w ⟨⟨I.ai (b:=D.wb),I.cK iW oE (by omega)⟩,I.cK bp op (by omega),I.ai (b:=x.pb)⟩;refine RH 12 E I hH hC λa E=>?_;refine QH E (λw hc=>ae E (hc.1.1 3 _ rfl)) hC λa E=>?_;refine QH E (λw hc=>ae E (hc.1.1 3 _ rfl)) hC λa E=>?_;refine RH 1 E I hH hC λa E=>?_;refine QH E (λw hc=>ae E (hc.1.2 i (.slice iH l.length iI) (by rw[bl,lA];rfl))) hC λa E=>?_;refine RH 0 E I hH hC λa E=>?_;refine SS E (ae E (hC.1.1 1 _ rfl)) λa E=>?_;refine RH 1 E I hH hC λa E=>?_;refine SS E (ae E (hC.2.1 i _ ui)) λa E=>?_;refine RH 2 E I hH hC λa E=>?_;refine SS E (ae E (hC.2.2 0 _ rfl)) λa E=>?_;refine RH 0 E I hH hC λa E=>?_;refine aZ 0 E I (abk (I.pick (a1 x.core (an (cz u i) i).k))) λam jL a w E I=>?_;replace hC:=hH.at w ⟨⟨I.ai (b:=D.wb),I.cK iW oE (by omega)⟩,I.cK bp op (by omega),I.ai (b:=x.pb)⟩;replace I:=(I.pick (ah eY es)).fy (i:=i) (by omega);rw[pw]at I;change U W w (Sl 102 3 iH l.length iI (rows bW l)::_) at I;refine RH 0 E I hH hC λa E=>?_;refine g8 E rfl I underlying70 Ty.t102 rfl rfl (by decide) (λh0=>(I.pick (Sl 102 3 am (an (cz u i) i).k.ev.length jL (rows bW (an (cz u i) i).k.ev))).bU am h0) (by rw[jw BQ]) (Aj F4 _) (by omega) λxP xQ a w E I=>?_;replace hC:=hH.at w ⟨⟨I.ai (b:=D.wb),I.cK iW oE (by omega)⟩,I.cK bp op (by omega),I.ai (b:=x.pb)⟩;have hcE:=((I.pick (Sl 70 1 (some ⟨iW,oE,none⟩) u.ps.length cE (es.map bx))).sl (some ⟨iW,oE,none⟩)).2;obtain⟨js,pre,post,⟨h3,h4,h5,h6⟩,gI⟩:=(I.pick (Sl 70 1 (some ⟨iW,oE,none⟩) u.ps.length cE (es.map bx))).l8 (by omega);replace I:=gI;clear gI;obtain⟨rfl,rfl⟩:iW=js∧oE=pre.length:=by simpa using h5
  refine RH 1 E I hH hC λa E=>?_;refine ST 0 E I (λa w E I=>?_) (hlt:=(by simp only[aJ,a8];omega));refine RN 3 E I λa E=>?_;have q4:(cz u i).ev.getD i []=l:=by rw[← q3,bm,bl,lA];rfl
  have HL:(es.map bx).set i (.slice xP (l.length+(an (cz u i) i).k.ev.length) xQ)=(es.set i (xP,xQ,l++(an (cz u i) i).k.ev)).map bx:=by
   rw[jz,bx,aJ]
  have dz:=I;rw[zF (by rw[a8];omega),HL]at dz;replace dz:=U.iZ (n:=u.ps.length) (c:=cE) (sz:=1) (dz.jZ iW) (by rw[a8,bt];omega) h4 h6;have zG:=bZ.fold dz x p ⟨{ (an (cz u i) i).k with ev:=[] },(an (cz u i) i).g⟩;have hk:=U.kZ (f:=dg W p) (x:=(x,⟨{ (an (cz u i) i).k with ev:=[] },(an (cz u i) i).g⟩)) (i:=i) (by omega) ((zG.pick (ah (dg W p) (xs.eraseIdx i))).pick (bZ W x p ⟨{ (an (cz u i) i).k with ev:=[] },(an (cz u i) i).g⟩));have qh:Sl 102 3 xP (l.length+(an (cz u i) i).k.ev.length) xQ (rows bW l++rows bW (an (cz u i) i).k.ev)=eY (xP,xQ,l++(an (cz u i) i).k.ev):=by
   rw[eY,aJ,kG]
  have hq:=(hk.pick (ah eY (es.eraseIdx i))).pick (Sl 102 3 xP (l.length+(an (cz u i) i).k.ev.length) xQ (rows bW l++rows bW (an (cz u i) i).k.ev));rw[qh]at hq;have eS:=U.kZ (f:=eY) (i:=i) (by omega) hq;refine⟨u.ps.length-(i+1),by omega,i+1,xs.set i (x,⟨{ (an (cz u i) i).k with ev:=[] },(an (cz u i) i).g⟩),es.set i (xP,xQ,l++(an (cz u i) i).k.ev),⟨rfl,⟨by omega,by rw[bt];exact zP,by rw[bt];exact zQ⟩,(CR hx).2.trans u9,?_,?_⟩,E.ab [0,6],?_⟩
  ·rw[jz,tI];rfl
  ·rw[jz,q3,← q4];rfl
  ·rw[(CR hx).1];exact eS.sub
 refine RN 1 E I λa E=>?_;obtain rfl:i=u.ps.length:=by omega
 have eK:bS p t v=lz u:=by rw[bS,ag (by assumption),O8]
 rw[eK];have hD:U W w (bC W D p (lz u)::aE W B p (c+10) (lz u)::L):=by
  refine bC.close (adP:=adP) (cP:=cP) (adN:=adN) (cN:=cN) (adE:=adE) (cE:=cE) (xs:=xs) (es:=es) ?_ u9 tI q3;rw[zP,zQ,show (lz u).net=u.net from (rk u _).2.1];exact I.sub
 replace I:=hD.pick (aE W B p (c+10) (lz u));refine CL 1 E I (O7 _ (lz u) (hu.drain.more (by omega)) (O5 u) I) λa w E I=>?_;refine RT 1 E I ?_;exact⟨rfl,I⟩
end
end
section
section
variable {p:Pr}{cf:Cf}{K:Int→Prop}{G G':List (List UInt8)}{v:Wd}{c i j x y:Nat}{n:Nat}{T:Nat→Nat}{net:List Ml}{ev:List (List ko)}{m:Ml}{q:Pk}{b:UInt8}
theorem vO (hi:i<n):an (gh p cf n) i=eD p (dC cf i):=by
 rw[an,gh,bm,bl,getElem?_range hi];rfl
theorem sL:(gh p cf n).ps.length=n:=by rw[gh,a8,length_range]
theorem uj (h:eV cf)(hi:i<cf.n.toNat):eV (dC cf i):=by
 obtain⟨⟨h1,h2,h3⟩,h4⟩:=h;refine⟨⟨h1,?_,h3⟩,h4⟩;show fB (i:Int) 0 (cf.n-1);unfold fB at h1 ⊢;omega
theorem HZ (h:eV cf):bK p cf 0 (gh p cf cf.n.toNat):=by
 refine⟨h,sL,?_,λi hi=>?_,⟨Nat.zero_le _,λm hm=>by cases hm⟩,λe he=>?_⟩
 ·rw[sL];exact kJ
 ·rw[sL]at hi;rw[vO hi];have h1:=uj h hi;obtain⟨mr,h2⟩:=vJ p h1;refine⟨ct.new h1,?_,by rw[h2];exact a7 _⟩;rw[h2];exact (WC.new h1).2.2
 ·have h1:=CW (show e∈List.replicate _ [] from he);subst h1;exact⟨Nat.zero_le _,λx hx=>by cases hx⟩
theorem O9 (h:eV cf):qs (gh p cf cf.n.toNat):=λi hi=>by
 rw[sL]at hi;rw[vO hi];obtain⟨mr,h2⟩:=vJ p (uj h hi);rw[h2];rfl
theorem zT (h:eV cf)(hi:i<cf.n.toNat)(hj:j<cf.n.toNat):bn (gh p cf cf.n.toNat) i j=cf.aL.toNat:=by
 rw[bn,vO hi];obtain⟨mr,h2⟩:=vJ p (uj h hi);rw[h2];show ((List.replicate cf.n.toNat (List.replicate cf.aL.toNat (0:UInt8))).getD j []).length=_;rw[bm,List.getElem?_replicate,ak hj];exact kJ
theorem Pa (h:eV cf)(hi:i<cf.n.toNat)(hj:j<cf.n.toNat):au (eD p (dC cf i)).k j=fC cf.aL.toNat:=by
 obtain⟨mr,h2⟩:=vJ p (uj h hi);rw[h2,au,bm];show ((List.replicate cf.n.toNat (fC cf.aL.toNat))[j]?).getD _=_;rw[List.getElem?_replicate,ak hj];rfl
theorem fQ.new (h:eV cf):fQ p cf K (List.replicate cf.n.toNat (List.replicate cf.aL.toNat 0)) (gh p cf cf.n.toNat):=by
 have hl:=sL (p:=p) (cf:=cf) (n:=cf.n.toNat);refine⟨λi hi=>?_,λa b E hb CJ=>?_,λi hi=>?_,λm hm=>(by cases hm),λl hl e he=>?_,λi hi=>?_⟩
 ·rw[hl]at hi;rw[vO hi];have h1:=uj h hi;obtain⟨mr,h2⟩:=vJ p h1;refine⟨ct.new h1,by rw[h2];exact Ext.refl _,by rw[h2];rfl,λj hj=>?_⟩;have lH:j<cf.n.toNat:=by
   rw[h2]at hj;have:j<(List.replicate cf.n.toNat (fC cf.aL.toNat)).length:=hj
   rwa [kJ]at this
  rw[Pa h hi lH];exact⟨rfl,Nat.zero_le _,λh=>absurd h (by show ¬ 0<0;omega)⟩
 ·rw[hl]at E hb;rw[zT h hb E,zT h E hb,qq,vO E,Pa h E hb];exact⟨a7 _,Nat.le_add_right _ _⟩
 ·rw[hl]at hi;rw[zT h hi hi];have h1:cf.aL.toNat≤aw (an (gh p cf cf.n.toNat) i).k:=by
   rw[vO hi];obtain⟨mr,h2⟩:=vJ p (uj h hi);rw[h2];have hc:=(WC.new (uj h hi)).1;refine FO hc.lu λl hl=>?_;have:=CW (show l∈List.replicate cf.n.toNat (List.replicate cf.aL.toNat (0:UInt8)) from hl);rw[this,kJ];exact a7 _
  omega
 ·have h1:=CW (show l∈List.replicate _ [] from hl);subst h1;cases he
 ·rw[O9 h i hi] ;intro e he;cases he
structure Lv (p:Pr)(cf:Cf)(T:Nat→Nat)(v:Wd):Prop where
 ok:∃ c,bK p cf c v
 iX:∃ G,fQ p cf (·=1) G v
 op:∀ i,i<v.ps.length→(an v i).k.cl=false∧(an v i).k.now≤T i∧(an v i).k.ev=[]
 ev:∀ l∈v.ev,l=[]
theorem Lv.more (h:Lv p cf T v){T':Nat→Nat}(ht:∀ i,i<v.ps.length→T i≤T' i):Lv p cf T' v:=⟨h.ok,h.iX,λi hi=>⟨(h.op i hi).1,fG (h.op i hi).2.1 (ht i hi),(h.op i hi).2.2⟩,h.ev⟩
theorem Lv.calm (h:Lv p cf T v):qs v:=λi hi=>(h.op i hi).2.2
theorem Lv.still (h:Lv p cf T v):lz v=v:=by
 obtain⟨c,hv⟩:=h.ok;exact HX hv.ev h.calm
theorem Lv.new (h:eV cf):Lv p cf (λ_=>0) (gh p cf cf.n.toNat):=⟨⟨0,HZ h⟩,⟨_,fQ.new h⟩,λi hi=>by
 rw[sL]at hi;rw[vO hi];obtain⟨mr,h2⟩:=vJ p (uj h hi);rw[h2];exact⟨rfl,a7 _,rfl⟩,λl hl=>CW (show l∈List.replicate _ [] from hl)⟩
theorem Lv.len (h:Lv p cf T v):v.ps.length=cf.n.toNat∧2≤v.ps.length∧v.ps.length≤8:=by
 obtain⟨c,hv⟩:=h.ok;exact⟨hv.n,hv.len⟩
theorem Lv.Pb (h:Lv p cf T v)(hi:i<v.ps.length)(hj:j<v.ps.length):aw (an v i).k≤bn v i j:=by
 obtain⟨c,hv⟩:=h.ok;exact xd (ve (by rw[(hv.pl i hi).1.wc.ls,hv.kn hi];exact hj))
theorem Lv.H0 (h:Lv p cf T v)(hi:i<v.ps.length)(hx:∀ j,j<v.ps.length→x≤bn v i j):x≤aw (an v i).k:=by
 obtain⟨c,hv⟩:=h.ok;refine FO (hv.pl i hi).1.wc.lu λl hl=>?_;obtain⟨j,hj,rfl⟩:=xe hl;rw[(hv.pl i hi).1.wc.ls,hv.kn hi]at hj;have:=hx j hj;rw[bn,bm,aD (by rw[(hv.pl i hi).1.wc.ls,hv.kn hi];exact hj)]at this;exact this
theorem Lv.front {h:Nat}(jG:Lv p cf T v)(hi:i<v.ps.length)(hx:∀ j,j<v.ps.length→h≤bn v i j)(hy:j<v.ps.length)(he:bn v i j=h):aw (an v i).k=h :=
 D7 (he ▸ jG.Pb hi hy) (jG.H0 hi hx)
theorem Lv.head (h:Lv p cf T v)(hi:i<v.ps.length):aG (an v i).k=bn v i i:=by
 obtain⟨c,hv⟩:=h.ok;rw[aG,(hv.rl hi).1];rfl
theorem Lv.adn (h:Lv p cf T v)(hi:i<v.ps.length)(hj:j<v.ps.length):bn v i j≤bn v j j:=by
 obtain⟨c,hv⟩:=h.ok;obtain⟨G,hG⟩:=h.iX;exact (hG.CI hv hi hj).1
theorem Lv.al (h:Lv p cf T v)(hi:i<v.ps.length)(b n:Int):Lv p cf T (bS p ⟨1,i,b,n⟩ v)∧(bS p ⟨1,i,b,n⟩ v).net=v.net∧(bS p ⟨1,i,b,n⟩ v).ps.length=v.ps.length ∧
   (∀ x y,bn (bS p ⟨1,i,b,n⟩ v) x y=bn v x y+if (x=i∧y=i)∧bn v i i<1000∧bn v i i<cf.bq.toNat+aw (an v i).k then 1 else 0) ∧
   (bn v i i<1000∧bn v i i<cf.bq.toNat+aw (an v i).k→(bu p ⟨1,i,b,n⟩ v).1=0):=by
 obtain⟨c,hv⟩:=h.ok;obtain⟨G,hG⟩:=h.iX;obtain⟨eE,xL,b6,hn,_⟩:=hv.rl hi;have aS:bu p ⟨1,i,b,n⟩ v=((dK p (fm b) (an v i)).1,{ v with ps:=v.ps.set i (dK p (fm b) (an v i)).2 }):=by
  rw[bu,ag (by show ¬ ((1:Int)<1∨(8:Int)<1);omega),ag (by show ¬ ((3:Int)≤1∧(1:Int)≤6);omega),Cz rfl rfl hi]
 obtain⟨⟨G',h1⟩,h2⟩:=hG.al hv hi (fm b);have sw:=hv.al hi (fm b);have wv:(dK p (fm b) (an v i)).2.k.cl=(an v i).k.cl∧(dK p (fm b) (an v i)).2.k.now=(an v i).k.now∧(dK p (fm b) (an v i)).2.k.ev=(an v i).k.ev:=by
  by_cases h0:(dK p (fm b) (an v i)).1=0
  ·obtain⟨_,mr,hk⟩:=(hG.pl i hi).al h0;rw[hk];exact⟨rfl,rfl,rfl⟩
  ·rw[OM (hv.pl i hi).1 h0];exact⟨rfl,rfl,rfl⟩
 have jG:Lv p cf T { v with ps:=v.ps.set i (dK p (fm b) (an v i)).2 }:=⟨⟨_,sw⟩,⟨G',h1⟩,λj hj=>by
  have lH:j<v.ps.length:=by have:j<(v.ps.set i _).length:=hj;rwa [bt]at this
  rw[rj hi];split
  ·rename_i e;subst e;rw[wv.1,wv.2.1,wv.2.2];exact h.op _ hi
  ·exact h.op j lH,h.ev⟩
 have eK:bS p ⟨1,i,b,n⟩ v={ v with ps:=v.ps.set i (dK p (fm b) (an v i)).2 }:=by
  rw[bS,ag (by show ¬ (1:Int)=7;omega),aS,jG.still]
 have H2:(dK p (fm b) (an v i)).1=0↔bn v i i<1000∧bn v i i<cf.bq.toNat+aw (an v i).k:=by
  have hd:=h.head hi;show (c3 (fm b) (an v i).k).1=0↔_;rw[c3,ag (by rw[(h.op i hi).1];decide),← hd,← xL];split
  ·exact⟨λh=>absurd h (by intro e;cases e),λh=>by omega⟩
  ·split
   ·exact⟨λh=>absurd h (by intro e;cases e),λh=>by omega⟩
   ·exact⟨λ_=>by omega,λ_=>rfl⟩
 rw[eK];refine⟨jG,rfl,bt,λx y=>?_,λh=>by rw[aS];exact H2.2 h⟩;rw[h2];by_cases e:x=i∧y=i
 ·by_cases e2:(dK p (fm b) (an v i)).1=0
  ·rw[ak ⟨e,e2⟩,ak ⟨e,H2.1 e2⟩]
  ·rw[ag (λh=>e2 h.2),ag (λh=>e2 (H2.2 h.2))]
 ·rw[ag (λh=>e h.1),ag (λh=>e h.1)]
noncomputable def ou (v:Wd)(i:Nat):List Ml:=((List.range v.ps.length).filter (·≠i)).map λj=>(i,j,aT (dP (an v i).k j))
theorem ado {k:Ks}(hc:k.cl=false)(hn:k.now<39):br k=((bH k).map λi=>(k.me,i,aT (dP k i)),{ k with now:=k.now+1 }):=by
 rw[br,ag (by rw[hc];decide)];simp only;have:(bH { k with now:=k.now+1 }).find? (λi=>decide (jH { k with now:=k.now+1 } i))=none:=by
  rw[List.find?_eq_none];intro i _;rw[oB,jH];show ¬ (_+40≤k.now+1);omega
 rw[this];rfl
theorem Pc:∀ {l net:List Ml},net.length+l.length≤300→eF net l=net++l
 | [],net,_=>by rw[append_nil];rfl
 | m::l,net,h=>by
  rw[eH]at h;show eF (pn net m) l=_;rw[pn,ak (by omega),Pc (by rw[aJ,jF];omega),dx];rfl
theorem Lv.tick (h:Lv p cf T v)(hT:T i<39)(hi:i<v.ps.length)(hf:v.net.length+v.ps.length≤300)(b n:Int):Lv p cf (λj=>if j=i then T j+1 else T j) (bS p ⟨2,i,b,n⟩ v)∧(bS p ⟨2,i,b,n⟩ v).net=v.net++ou v i∧(bS p ⟨2,i,b,n⟩ v).ps.length=v.ps.length ∧
   (∀ x y,bn (bS p ⟨2,i,b,n⟩ v) x y=bn v x y)∧(∀ m∈ou v i,py m=bn v i i)∧(bu p ⟨2,i,b,n⟩ v).1=0:=by
 obtain⟨c,hv⟩:=h.ok;obtain⟨G,hG⟩:=h.iX;obtain⟨eE,xL,b6,hn,_⟩:=hv.rl hi;have ho:=h.op i hi;have gg:=ado ho.1 (by omega);have gT:(br (an v i).k).1=ou v i:=by rw[gg,ou,bH,hn,eE]
 have lM:(ou v i).length≤v.ps.length:=by
  rw[ou,a8];exact fG (pR _ _) (by rw[length_range];exact a7 _)
 have aS:bu p ⟨2,i,b,n⟩ v=(0,{ v with ps:=v.ps.set i ⟨(br (an v i).k).2,(an v i).g⟩,net:=eF v.net (br (an v i).k).1 }):=by
  rw[bu,ag (by show ¬ ((2:Int)<1∨(8:Int)<2);omega),ag (by show ¬ ((3:Int)≤2∧(2:Int)≤6);omega),xH rfl rfl hi]
 obtain⟨h1,h2⟩:=hG.tick hv hi rfl;have jG:Lv p cf (λj=>if j=i then T j+1 else T j) { v with ps:=v.ps.set i ⟨(br (an v i).k).2,(an v i).g⟩,net:=eF v.net (br (an v i).k).1 }:=⟨⟨_,hv.tick hi⟩,⟨G,h1⟩,λj hj=>by
  have lH:j<v.ps.length:=by have:j<(v.ps.set i _).length:=hj;rwa [bt]at this
  rw[rj hi];split
  ·rename_i e;subst e;show (br (an v i).k).2.cl=false∧(br (an v i).k).2.now≤_∧(br (an v i).k).2.ev=[];rw[gg];exact⟨ho.1,by show (an v i).k.now+1≤if i=i then _ else _;rw[ak rfl];omega,ho.2.2⟩
  ·have:=h.op j lH;exact⟨this.1,by split <;> omega,this.2.2⟩,h.ev⟩
 have eK:bS p ⟨2,i,b,n⟩ v={ v with ps:=v.ps.set i ⟨(br (an v i).k).2,(an v i).g⟩,net:=eF v.net (br (an v i).k).1 }:=by
  rw[bS,ag (by show ¬ (2:Int)=7;omega),aS,jG.still]
 rw[eK];refine⟨jG,?_,bt,λx y=>h2 x y,λm hm=>?_,by rw[aS]⟩
 ·show eF v.net (br (an v i).k).1=_;rw[gT,Pc (by omega)]
 ·rw[← gT]at hm;obtain⟨q,_,hq⟩:=hG.OV hv hi rfl hm;exact hq
theorem adp (hj:j<v.ps.length)(bD:j≠i):∃ m∈ou v i,m.1=i∧m.2.1=j :=
 ⟨(i,j,aT (dP (an v i).k j)),cR.2 ⟨j,List.mem_filter.2 ⟨mem_range.2 hj,by simpa using bD⟩,rfl⟩,rfl,rfl⟩
theorem adr:(ou v i).length≤v.ps.length:=by
 rw[ou,a8];exact fG (pR _ _) (by rw[length_range];exact a7 _)
theorem Lv.CK (h:Lv p cf T v)(hn:∀ m∈net,m∈v.net)(hl:net.length≤v.net.length):Lv p cf T { v with net:=net }:=by
 obtain⟨c,hv⟩:=h.ok;obtain⟨G,hG⟩:=h.iX;exact⟨⟨_,hv.Hx (by have:=hv.net.1;omega) λm hm=>hv.net.2 m (hn m hm)⟩,⟨G,hG.CK hn⟩,h.op,h.ev⟩
theorem Lv.ads (h:Lv p cf T v)(wG:m∈v.net)(yy:∀ m∈net,m∈v.net)(hl:net.length≤v.net.length):Lv p cf T { v with ps:=v.ps.set m.2.1 (dB p m.2.2 (an v m.2.1)).2,net:=net }∧(dB p m.2.2 (an v m.2.1)).1=0 ∧
   (∀ x y,bn { v with ps:=v.ps.set m.2.1 (dB p m.2.2 (an v m.2.1)).2,net:=net } x y=if x=m.2.1∧y=m.1 then max (bn v x y) (py m) else bn v x y)∧m.1<v.ps.length∧m.2.1<v.ps.length∧m.1≠m.2.1:=by
 obtain⟨c,hv⟩:=h.ok;obtain⟨G,hG⟩:=h.iX;obtain⟨q,hq⟩:=hG.net m wG;obtain⟨h1,h2⟩:=hG.recv hv wG yy;have hi:=hq.lt.2;obtain⟨eE,xL,b6,hn,_⟩:=hv.rl hi;obtain⟨_,h0,mr,hk⟩:=(hG.pl _ hi).za hq.iX (h.op _ hi).1 (by rw[hq.to,eE]) (by rw[hq.fr,hn];have:=hq.lt.1;omega) (by rw[hq.id,b6]) hq.kind;rw[← hq.bs]at h0 hk;have n1:=hv.net.1;refine⟨⟨⟨_,hv.recv hi m.2.2 (net:=net) (by omega) λm hm=>hv.net.2 m (yy m hm)⟩,⟨G,h1⟩,λj hj=>?_,h.ev⟩,h0,λx y=>?_,hq.lt.1,hi,λe=>hq.iX.may.2.2.1 (by rw[hq.fr,hq.to,e])⟩
 ·have lH:j<v.ps.length:=by have:j<(v.ps.set m.2.1 _).length:=hj;rwa [bt]at this
  rw[rj hi];split
  ·rename_i e;subst e;rw[hk];exact h.op _ hi
  ·exact h.op j lH
 ·rw[h2];by_cases e:x=m.2.1∧y=m.1
  ·rw[ak ⟨e,(h.op _ hi).1⟩,ak e]
  ·rw[ag (λh=>e h.1),ag e]
theorem CX (p:Pr){r:List Ml}(hm:v.net=m::r)(a b:Int):bu p ⟨3,a,b,0⟩ v=((dB p m.2.2 (an v m.2.1)).1,{ v with ps:=v.ps.set m.2.1 (dB p m.2.2 (an v m.2.1)).2,net:=r }):=by
 rw[bu,ag (by show ¬ ((3:Int)<1∨(8:Int)<3);omega),ak (by show (3:Int)≤3∧(3:Int)≤6;omega),CC (j:=0) (m:=m) (by show (3:Int)≠4;omega) (by show (3:Int)≠6;omega) rfl (by rw[hm];rfl)];show (_,Wd.mk _ (if (3:Int)=5 then v.net else v.net.eraseIdx 0) _)=_;rw[ag (by omega),hm];rfl
theorem Lv.send (h:Lv p cf T v){r:List Ml}(hm:v.net=m::r)(a b:Int):Lv p cf T (bS p ⟨3,a,b,0⟩ v)∧(bS p ⟨3,a,b,0⟩ v).net=r∧(bS p ⟨3,a,b,0⟩ v).ps.length=v.ps.length ∧
   (∀ x y,bn (bS p ⟨3,a,b,0⟩ v) x y=if x=m.2.1∧y=m.1 then max (bn v x y) (py m) else bn v x y)∧(bu p ⟨3,a,b,0⟩ v).1=0∧m.1<v.ps.length∧m.2.1<v.ps.length∧m.1≠m.2.1:=by
 obtain⟨h1,h2,h3,h4⟩:=h.ads (m:=m) (net:=r) (by rw[hm];exact iJ) (λm' kv=>by rw[hm];exact gF _ kv) (by rw[hm,eH];omega);have eK:bS p ⟨3,a,b,0⟩ v={ v with ps:=v.ps.set m.2.1 (dB p m.2.2 (an v m.2.1)).2,net:=r }:=by
  rw[bS,ag (by show ¬ (3:Int)=7;omega),CX p hm,h1.still]
 rw[eK];exact⟨h1,rfl,bt,h3,by rw[CX p hm];exact h2,h4⟩
noncomputable def pz (p:Pr):Nat→Wd→Wd
 | 0,v=>v
 | k+1,v=>pz p k (bS p ⟨3,0,0,0⟩ v)
theorem Lv.zU:∀ {l:List Ml} {v:Wd},Lv p cf T v→v.net=l→Lv p cf T (pz p l.length v)∧(pz p l.length v).net=[]∧(pz p l.length v).ps.length=v.ps.length ∧
   (∀ x y,bn v x y≤bn (pz p l.length v) x y)∧(∀ x,x<v.ps.length→bn (pz p l.length v) x x=bn v x x)∧(∀ m∈l,py m≤bn (pz p l.length v) m.2.1 m.1)∧∀ x y,(∀ m∈l,m.2.1=x→m.1=y→False)→bn (pz p l.length v) x y=bn v x y
 | [],v,h,hm=>⟨h,hm,rfl,λ_ _=>a7 _,λ_ _=>rfl,λm hm=>(by cases hm),λ_ _ _=>rfl⟩
 | m::l,v,h,hm=>by
  obtain⟨h1,h2,h3,h4,_,_,_,bD⟩:=h.send hm 0 0;obtain⟨g1,hS,l9,ma,o3,CU,adt⟩:=Lv.zU h1 h2;rw[eH];show Lv p cf T (pz p l.length _)∧_;have adu:∀ x y,bn v x y≤bn (bS p ⟨3,0,0,0⟩ v) x y:=λx y=>by rw[h4];split <;> omega
  refine⟨g1,hS,l9.trans h3,λx y=>fG (adu x y) (ma x y),λx hx=>?_,λm' kv=>?_,λx y bQ=>?_⟩
  ·have:=o3 x (by rw[h3];exact hx);refine this.trans ?_;rw[h4,ag];exact λe=>bD (e.2.symm.trans e.1)
  ·rcases List.mem_cons.1 kv with rfl | kv
   ·refine fG ?_ (ma _ _);rw[h4,ak ⟨rfl,rfl⟩];omega
   ·exact CU m' kv
  ·refine (adt x y λm' kv=>bQ m' (gF _ kv)).trans ?_;rw[h4,ag (λe=>bQ m iJ e.1.symm e.2.symm)]
end
end
section
noncomputable def uk (p:Pr)(tk:Nat→Bool)(b:Int)(v:Wd):Nat→Wd
 | 0=>v
 | i+1=>if tk i=true then bS p ⟨2,i,0,0⟩ (bS p ⟨1,i,b+i,0⟩ (uk p tk b v i)) else bS p ⟨1,i,b+i,0⟩ (uk p tk b v i)
noncomputable def vP (p:Pr)(v:Wd):Wd:=pz p v.net.length v
structure sM (p:Pr)(cf:Cf)(t:Nat)(h:Nat→Nat)(v:Wd):Prop where
 lC:Lv p cf (λ_=>t) v
 net:v.net=[]
 hd:∀ x,x<v.ps.length→bn v x x=h x
 fr:∀ x,x<v.ps.length→h x<cf.bq.toNat+aw (an v x).k
structure pA (p:Pr)(cf:Cf)(t h:Nat)(v:Wd):Prop where
 lC:Lv p cf (λ_=>t) v
 net:v.net=[]
 kn:∀ x y,x<v.ps.length→y<v.ps.length→bn v x y=h
section
variable {p:Pr}{cf:Cf}{v u:Wd}{i j x y k t:Nat}{h:Nat→Nat}{tk:Nat→Bool}
theorem pA.new (hm:eV cf):pA p cf 0 cf.aL.toNat (gh p cf cf.n.toNat) :=
 ⟨Lv.new hm,rfl,λx y hx hy=>by rw[sL]at hx hy;exact zT hm hx hy⟩
theorem pA.front (e:pA p cf t k v)(hi:i<v.ps.length):aw (an v i).k=k∧aG (an v i).k=k:=by
 have h1:=e.kn i i hi hi;exact⟨e.lC.front hi (λj hj=>by rw[e.kn i j hi hj];exact a7 _) hi h1,by rw[e.lC.head hi,h1]⟩
theorem pA.base (e:pA p cf t k v):sM p cf t (λ_=>k) v:=by
 obtain⟨c,hv⟩:=e.lC.ok;exact⟨e.lC,e.net,λx hx=>e.kn x x hx hx,λx hx=>by rw[(e.front hx).1];have:=hv.OR.1;omega⟩
structure rp (p:Pr)(cf:Cf)(t:Nat)(h:Nat→Nat)(tk:Nat→Bool)(i:Nat)(v u:Wd):Prop where
 lC:Lv p cf (λj=>if j<i then t+1 else t) u
 len:u.ps.length=v.ps.length
 H3:u.net.length≤i*v.ps.length
 kn:∀ x y,x<v.ps.length→y<v.ps.length→bn u x y=if x=y∧x<i then h x+1 else bn v x y
 on:∀ x y,x<v.ps.length→y<i→x≠y→tk y=true→∃ m∈u.net,(m.1=y∧m.2.1=x)∧py m=h y+1
 of:∀ m∈u.net,m.1<i
theorem sM.half (e:sM p cf t h v):rp p cf t h tk 0 v v :=
 ⟨e.lC.more λi hi=>by rw[ag (Nat.not_lt_zero _)];exact a7 _,rfl,by rw[e.net];exact Nat.zero_le _,λx y hx hy=>by rw[ag (λh=>Nat.not_lt_zero _ h.2)],λx y _ hy=>absurd hy (Nat.not_lt_zero _),λm hm=>by rw[e.net]at hm;cases hm⟩
theorem rp.al (e:rp p cf t h tk i v u)(hB:sM p cf t h v)(hi:i<v.ps.length)(hh:∀ x,x<v.ps.length→h x<1000)(b n:Int):rp p cf t h (λj=>decide (j≠i)&&tk j) (i+1) v (bS p ⟨1,i,b,n⟩ u)∧(bS p ⟨1,i,b,n⟩ u).net=u.net∧Lv p cf (λj=>if j<i then t+1 else t) (bS p ⟨1,i,b,n⟩ u):=by
 obtain⟨h1,h2,h3,h4,_⟩:=e.lC.al (i:=i) (by rw[e.len];exact hi) b n;have hhi:=hh i hi;have h5:bn u i i=h i:=by rw[e.kn i i hi hi,ag (by omega),hB.hd i hi]
 have h6:aw (an v i).k≤aw (an u i).k:=e.lC.H0 (by rw[e.len];exact hi) λj hj=>by
  rw[e.len]at hj;have h7:=hB.lC.Pb hi hj;rw[e.kn i j hi hj,ag (by omega)];exact h7
 have h8:=hB.fr i hi;refine⟨⟨h1.more λj hj=>?_,h3.trans e.len,?_,λx y hx hy=>?_,λx y hx hy bD jE=>?_,λm hm=>?_⟩,h2,h1⟩
 ·split <;> split <;> omega
 ·rw[h2,Nat.succ_mul];have:=e.H3;omega
 ·rw[h4,e.kn x y hx hy];by_cases e1:x=i∧y=i
  ·obtain⟨rfl,rfl⟩:=e1;rw[ag (by omega),ak ⟨⟨rfl,rfl⟩,by omega,by omega⟩,ak (by omega),hB.hd _ hi]
  ·rw[ag (c:=(x=i∧y=i)∧_) (λh=>e1 h.1),Nat.add_zero];by_cases e2:x=y∧x<i
   ·rw[ak e2,ak (by omega)]
   ·rw[ag e2,ag (by omega)]
 ·simp only[fq,oB]at jE;rw[h2];exact e.on x y hx (by omega) bD jE.2
 ·rw[h2]at hm;have:=e.of m hm;omega
theorem rp.next (e:rp p cf t h tk i v u)(hB:sM p cf t h v)(hi:i<v.ps.length)(hh:∀ x,x<v.ps.length→h x<1000)(ht:t<39)(b n b' n':Int):rp p cf t h tk (i+1) v (bS p ⟨2,i,b',n'⟩ (bS p ⟨1,i,b,n⟩ u))∧(bS p ⟨2,i,b',n'⟩ (bS p ⟨1,i,b,n⟩ u)).net=u.net++ou (bS p ⟨1,i,b,n⟩ u) i:=by
 obtain⟨e1,h2,h1⟩:=e.al hB hi hh b n;have h3:=e1.len;have ie:=h1.len.2.2;have cD:i*v.ps.length≤8*8:=Nat.mul_le_mul (by omega) (by omega);have n1:=e.H3;obtain⟨g1,hS,l9,ma,o3,_⟩:=h1.tick (i:=i) (by show (if i<i then t+1 else t)<39;rw[ag (by omega)];exact ht) (by rw[h3];exact hi) (by rw[h2,h3];omega) b' n';refine⟨⟨g1.more λj hj=>?_,l9.trans h3,?_,λx y hx hy=>by rw[ma];exact e1.kn x y hx hy,λx y hx hy bD jE=>?_,λm hm=>?_⟩,by rw[hS,h2]⟩
 ·show (if j=i then (if j<i then t+1 else t)+1 else if j<i then t+1 else t)≤if j<i+1 then t+1 else t
  split <;> split <;> (try split) <;> omega
 ·have:=adr (v:=bS p ⟨1,i,b,n⟩ u) (i:=i);rw[hS,h2,aJ,Nat.succ_mul];omega
 ·rw[hS,h2];by_cases e2:y=i
  ·subst e2;obtain⟨m,hm,h5,h6⟩:=adp (v:=bS p ⟨1,y,b,n⟩ u) (i:=y) (j:=x) (by rw[h3];exact hx) bD;exact⟨m,List.mem_append_right _ hm,⟨h5,h6⟩,by rw[o3 m hm,e1.kn y y hi hi,ak ⟨rfl,by omega⟩]⟩
  ·obtain⟨m,hm,h5⟩:=e.on x y hx (by omega) bD jE;exact⟨m,mem_append_left _ hm,h5⟩
 ·rw[hS,h2]at hm;rcases eT.1 hm with hm | hm
  ·have:=e.of m hm;omega
  ·obtain⟨j,_,rfl⟩:=cR.1 hm;show i<i+1;omega
theorem sM.H4 (hB:sM p cf t h v)(hh:∀ x,x<v.ps.length→h x<1000)(ht:t<39)(tk:Nat→Bool)(b:Int):∀ i,i≤v.ps.length→rp p cf t h tk i v (uk p tk b v i)
 | 0,_=>hB.half
 | i+1,hi=>by
  have h1:=hB.H4 hh ht tk b i (by omega);rw[uk];split
  ·exact (h1.next hB (by omega) hh ht _ _ _ _).1
  ·rename_i hk;have h2:=(h1.al hB (by omega) hh (b+i) 0).1;exact⟨h2.lC,h2.len,h2.H3,h2.kn,λx y hx hy bD jE=>h2.on x y hx hy bD (by
    simp only[fq,oB];exact⟨λe=>hk (by rw[← e];exact jE),jE⟩),h2.of⟩
structure adv (p:Pr)(cf:Cf)(t:Nat)(h:Nat→Nat)(tk:Nat→Bool)(v u:Wd):Prop where
 lC:Lv p cf (λ_=>t+1) u
 len:u.ps.length=v.ps.length
 net:u.net=[]
 hd:∀ x,x<v.ps.length→bn u x x=h x+1
 up:∀ x y,x<v.ps.length→y<v.ps.length→bn v x y≤bn u x y
 all:∀ x y,x<v.ps.length→y<v.ps.length→tk y=true→bn u x y=h y+1
theorem rp.zU (e:rp p cf t h tk v.ps.length v u)(hB:sM p cf t h v):adv p cf t h tk v (vP p u):=by
 obtain⟨h1,h2,h3,h4,h5,h6,_⟩:=e.lC.zU (l:=u.net) rfl;have hl:=h3.trans e.len;have H5:∀ y,y<v.ps.length→bn (pz p u.net.length u) y y=h y+1:=λy hy=>by
  rw[h5 y (by rw[e.len];exact hy),e.kn y y hy hy,ak ⟨rfl,hy⟩]
 refine⟨h1.more λj hj=>by rw[hl]at hj;rw[ak hj];exact a7 _,hl,h2,H5,λx y hx hy=>?_,λx y hx hy jE=>?_⟩
 ·refine fG ?_ (h4 x y);rw[e.kn x y hx hy];split
  ·rename_i e1;rw[e1.1,hB.hd y hy];omega
  ·exact a7 _
 ·by_cases e1:x=y
  ·subst e1;exact H5 x hx
  ·obtain⟨m,hm,⟨h7,h8⟩,h9⟩:=e.on x y hx hy e1 jE;have fg:=h6 m hm;rw[h7,h8,h9]at fg;have lP:=h1.adn (i:=x) (j:=y) (by rw[hl];exact hx) (by rw[hl];exact hy);rw[H5 y hy]at lP;exact D7 lP fg
noncomputable def pB (p:Pr)(b:Int)(v:Wd):Wd:=vP p (uk p (λ_=>true) b v v.ps.length)
theorem pA.round (e:pA p cf t k v)(hh:k<1000)(ht:t<39)(b:Int):pA p cf (t+1) (k+1) (pB p b v)∧(pB p b v).ps.length=v.ps.length:=by
 have h1:=(e.base.H4 (λ_ _=>hh) ht (λ_=>true) b _ (a7 _)).zU e.base;exact⟨⟨h1.lC,h1.net,λx y hx hy=>h1.all x y (by rw[← h1.len];exact hx) (by rw[← h1.len];exact hy) rfl⟩,h1.len⟩
end
end
section
theorem H6 {a b c:Nat}(h:a ^^^ c=b ^^^ c):a=b:=by
 have h1:=dd (· ^^^ c) h;simpa [Nat.xor_assoc] using h1
theorem adw {x y:Nat}(hx:x<4294967296)(hy:y<4294967296)(h:p5 x=p5 y):x=y:=by
 have hb:∀ z,z<4294967296→(z/2).testBit 31=false:=λz hz=>Nat.testBit_lt_two_pow (by omega);have hd:∀ z w,z<4294967296→w<4294967296→z/2 ^^^ 3988292384≠w/2:=λz w hz hw e=>by
  have h1:=dd (Nat.testBit · 31) e;simp only[Nat.testBit_xor,hb z hz,hb w hw]at h1;exact absurd h1 (by decide)
 unfold p5 at h;split at h <;> split at h
 ·have:=H6 h;omega
 ·exact absurd h (hd _ _ hx hy)
 ·exact absurd h.symm (hd _ _ hy hx)
 ·omega
theorem Pd {x y:Nat}(hx:x<4294967296)(hy:y<4294967296):∀ {k},lU k x=lU k y→x=y
 | 0,h=>h
 | k+1,h=>Pd hx hy (k:=k) (adw (wX hx k) (wX hy k) h)
theorem Pf {x y:Nat}{b c:UInt8}(hx:x<4294967296)(hy:y<4294967296)(h:o2 x b=o2 y c):x ^^^ b.toNat=y ^^^ c.toNat:=by
 have h1:=lk b;have h2:=lk c;exact Pd (Nat.xor_lt_two_pow (n:=32) hx (by show _<4294967296;omega)) (Nat.xor_lt_two_pow (n:=32) hy (by show _<4294967296;omega)) h
theorem Ph:∀ (bs:List UInt8) {x y:Nat},x<4294967296→y<4294967296→bs.foldl o2 x=bs.foldl o2 y→x=y
 | [],_,_,_,_,h=>h
 | b::bs,x,y,hx,hy,h=>H6 (Pf hx hy (Ph bs (wY b hx) (wY b hy) h))
theorem adx {a b c:Nat}(h:c ^^^ a=c ^^^ b):a=b:=H6 (c:=c) (by rw[Nat.xor_comm a,Nat.xor_comm b];exact h)
theorem Pj:∀ (bs:List UInt8) {i:Nat} {c:UInt8} {x:Nat},x<4294967296→(h:i<bs.length)→(bs.set i c).foldl o2 x=bs.foldl o2 x→c=bs[i]
 | b::bs,0,c,x,hx,_,h=>by
  have h1:=Pf hx hx (Ph bs (wY c hx) (wY b hx) h);exact UInt8.toNat.inj (adx h1)
 | b::bs,i+1,c,x,hx,hi,h=>Pj bs (i:=i) (wY b hx) (by simpa using hi) h
theorem ady {bs:List UInt8}{i:Nat}{c:UInt8}(hi:i<bs.length)(h:gL (bs.set i c)=gL bs):c=bs[i]:=by
 refine Pj bs (x:=4294967295) (by decide) hi ?_;have h1:=wZ bs;have h2:=wZ (bs.set i c);unfold gL at h;show nt _=nt _;omega
theorem adz {q:Pk}{k:Nat}{c:UInt8}(hk:k<(ib q).length)(hc:c≠(ib q)[k]):dN ((ib q).set k c)=none:=by
 refine Bp λp ⟨_,_,hp⟩=>?_;have hl:(eU p).length=(eU q).length:=by
  have h1:=dd List.length hp;rw[bt,ib,ib,aJ,aJ,lW,lW]at h1;omega
 by_cases hb:k<(eU q).length
 ·have h2:(ib q).set k c=(eU q).set k c++eL (gL (eU q)):=by rw[ib,sT _ _ hb]
  rw[h2,ib]at hp;obtain⟨h3,h4⟩:=List.append_inj hp (by rw[bt];exact hl);have h5:=K9 (yQ _) (yQ _) h4;rw[h3]at h5;have h6:=ady hb h5;refine hc (h6.trans ?_);simp only[ib];rw[List.getElem_append_left hb]
 ·have h2:(ib q).set k c=eU q++(eL (gL (eU q))).set (k-(eU q).length) c:=by rw[ib,uz _ _ (by omega)]
  rw[h2,ib]at hp;obtain⟨h3,h4⟩:=List.append_inj hp hl;rw[h3]at h4;have mX:k-(eU q).length<(eL (gL (eU q))).length:=by
   have h1:=hk;rw[ib,aJ]at h1;omega
  have h5:c=(eL (gL (eU q)))[k-(eU q).length]:=by
   have h6:=dd (λl=>l[k-(eU q).length]?) h4;simp only[getElem?_set_self mX,aD mX]at h6;exact (p4 h6).symm
  refine hc (h5.trans ?_);simp only[ib];rw[List.getElem_append_right (by omega)]
end
end Go.Proofs.YteoldcfapaiobaaGreat
