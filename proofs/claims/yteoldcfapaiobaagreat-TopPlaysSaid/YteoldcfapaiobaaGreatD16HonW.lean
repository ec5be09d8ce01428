/- A match of players of whom none lies, plainly: the document's R3. -/
import Derived.Test.YteoldcfapaiobaaGreatD15ArgC
namespace Go.Proofs.YteoldcfapaiobaaGreat
open Tryz
open List (mem_cons_self length_range getElem?_append_right nil_append length_nil mem_range getElem?_range getElem_map eraseIdx_eq_take_drop_succ take_length append_nil getElem_mem map_take map_drop mem_singleton range_succ getElem?_set_ne set_getElem_self length_filter_le map_replicate)
open Go.RowKit
set_option linter.unusedVariables false
set_option linter.unusedSimpArgs false
set_option maxRecDepth 10000
set_option synthInstance.maxSize 4000
set_option synthInstance.maxHeartbeats 400000
section
def bq (v:Wd)(i j:Nat):Nat:=((an v i).k.ls.getD j []).length
def pO (v:Wd)(i j:Nat):Nat:=(au (an v i).k j).has
noncomputable def pP (m:Ml):Nat:=match ep m.2.2 with
 | some q=>if q.kind=1 then q.first.toNat+q.al.length else 0
 | none=>0
structure oO (p:Pr)(cf:Cf)(K:Int→Prop)(G:List (List UInt8))(v:Wd)(m:Ml)(q:Pk):Prop where
 ka:u1 p G q
 kind:K q.kind
 fr:q.aW=m.1
 to:q.to=m.2.1
 bs:m.2.2=aR q
 lt:m.1<v.ps.length∧m.2.1<v.ps.length
 id:q.id=cf.id
 u2:q.kind=1→q.c7.toNat≤bq v m.1 m.2.1∧q.first.toNat≤bq v m.2.1 m.1∧q.first.toNat+q.al.length≤q.c7.toNat+cf.br.toNat
structure gv (p:Pr)(cf:Cf)(K:Int→Prop)(G:List (List UInt8))(v:Wd):Prop where
 pl:∀ i,i<v.ps.length→gI p G (an v i)
 ac:∀ i j,i<v.ps.length→j<v.ps.length→i≠j→pO v i j≤bq v j i∧bq v i j≤pO v i j+cf.br.toNat
 hd:∀ i,i<v.ps.length→bq v i i≤aw (an v i).k+cf.br.toNat
 net:∀ m∈v.net,∃ q,oO p cf K G v m q
 bx:∀ l∈v.ev,∀ e∈l,e.1≠3
 wW:∀ i,i<v.ps.length→∀ e∈(an v i).k.ev,e.1≠3
section
variable {p:Pr}{cf:Cf}{K:Int→Prop}{G G':List (List UInt8)}{v u:Wd}{c i j x y:Nat}{s':Pl}{net:List Ml}{ev:List (List j5)}{m:Ml}{q:Pk}{t:fG}{b:UInt8}
theorem bK.qG (h:bK p cf c v)(hi:i<v.ps.length):(an v i).k.me=i∧(an v i).k.br=cf.br.toNat∧(an v i).k.id=cf.id∧(an v i).k.n=v.ps.length∧(an v i).k.aJ=cf.aJ.toNat:=by
 have h1:=(h.pl i hi).2.1;have h2:(fe (an v i).k).me=(i:Int):=by rw[h1]
 have h3:(fe (an v i).k).br=cf.br:=by rw[h1]
 have h4:(fe (an v i).k).id=cf.id:=by rw[h1]
 have h5:(fe (an v i).k).aJ=cf.aJ:=by rw[h1]
 simp only[fe]at h2 h3 h4 h5;exact⟨by omega,by omega,h4,h.kn hi,by omega⟩
theorem bK.NL (h:bK p cf c v):1≤cf.br.toNat∧cf.br.toNat≤16:=by
 have h1:=h.may.2.1.2.1;unfold fv at h1;omega
theorem tl (hi:i<v.ps.length):bq ⟨v.ps.set i s',net,ev⟩ x y=if i=x then (s'.k.ls.getD y []).length else bq v x y:=by
 rw[bq,qE hi];split <;> rfl
theorem ach (hi:i<v.ps.length):pO ⟨v.ps.set i s',net,ev⟩ x y=if i=x then (au s'.k y).has else pO v x y:=by
 rw[pO,qE hi];split <;> rfl
theorem NM (hi:i<v.ps.length):v.ps.set i (an v i)=v.ps:=by
 rw[an,bl,aD hi];exact set_getElem_self _
theorem NN {l:List (List UInt8)}{a:List UInt8}(hi:i<l.length):((l.set i a).getD j []).length=if i=j then a.length else (l.getD j []).length:=by
 rw[bl,jK];split
 ·rename_i h;subst h;rfl
 ·rw[bl]
theorem aci {l a:List UInt8}{f:Nat}(h1:f≤l.length)(h2:f+a.length≤1000)(h3:l.length≤1000):(dr l f a).length=max l.length (f+a.length):=by
 rw[dr,ag (by omega),aL,ef,c3];omega
theorem acj (now head:Nat)(q:Pk)(z:Pe):(fO now head q z).has=if z.has<q.c7.toNat∧q.c7.toNat≤head then q.c7.toNat else z.has:=by
 unfold fO;simp only;split <;> rfl
theorem gv.BN (h:gv p cf K G v)(hv:bK p cf c v)(hi:i<v.ps.length)(hj:j<v.ps.length):bq v i j≤bq v j j∧(G.getD j []).length=bq v j j:=by
 have h1:=(h.pl j hj).own;rw[(hv.qG hj).1]at h1;obtain⟨t,ht⟩:=(h.pl i hi).ext.2 j (by rw[(hv.pl i hi).1.wc.ls,(hv.qG hi).2.2.2.1];exact hj);have h2:(G.getD j []).length=bq v j j:=by rw[← h1];rfl
 refine⟨?_,h2⟩;rw[← h2,ht,aL,bq];omega
theorem gv.NO (h:gv p cf K G v)(hv:bK p cf c v):G.length=v.ps.length∧G≠[]:=by
 have h0:=hv.len;have h1:=h.pl 0 (by omega);exact⟨by rw[h1.lens,hv.kn (by omega)],h1.GL⟩
theorem oO.more (h:oO p cf K G v m q)(qH:Ext G G')(h0:G≠[])(ju:G.length=v.ps.length)(hl:u.ps.length=v.ps.length)(hk:∀ a b,bq v a b≤bq u a b):oO p cf K G' u m q:=by
 refine⟨h.ka.ext qH h0 (by have:=h.lt.1;have:=h.fr;omega),h.kind,h.fr,h.to,h.bs,by rw[hl];exact h.lt,h.id,λh1=>?_⟩;obtain⟨df,dc,a3⟩:=h.u2 h1;exact⟨fA df (hk _ _),fA dc (hk _ _),a3⟩
theorem oO.dec (h:oO p cf K G v m q):ep m.2.2=some q:=by rw[h.bs];exact J5 h.ka.may h.ka.sum
theorem oO.val (h:oO p cf K G v m q):pP m=if q.kind=1 then q.first.toNat+q.al.length else 0:=by rw[pP,h.dec]
theorem gv.put (h:gv p cf K G v)(hv:bK p cf c v)(hi:i<v.ps.length)(hH:gI p G' s')(qH:Ext G G')(jH:∀ j,j≠i→G'.getD j []=G.getD j [])(hk:∀ j,bq v i j≤(s'.k.ls.getD j []).length)
   (jY:∀ j,j<v.ps.length→j≠i→(au s'.k j).has≤bq v j i∧(s'.k.ls.getD j []).length≤(au s'.k j).has+cf.br.toNat) (gP:(s'.k.ls.getD i []).length≤aw s'.k+cf.br.toNat)
   (GM:∀ e∈s'.k.ev,e.1≠3) (GN:∀ m∈net,m∈v.net∨∃ q,oO p cf K G' ⟨v.ps.set i s',net,ev⟩ m q) (pF:∀ l∈ev,∀ e∈l,e.1≠3):gv p cf K G' ⟨v.ps.set i s',net,ev⟩:=by
 have hg:=h.NO hv;have hl:(⟨v.ps.set i s',net,ev⟩:Wd).ps.length=v.ps.length:=bu;have hm:∀ a b,bq v a b≤bq ⟨v.ps.set i s',net,ev⟩ a b:=λa b=>by
  rw[tl hi];split
  ·rename_i e;subst e;exact hk b
  ·exact bd _
 refine⟨λj hj=>?_,λa b E hb BO=>?_,λj hj=>?_,λm gL=>?_,pF,λj hj=>?_⟩
 ·rw[hl]at hj;rw[qE hi];split
  ·exact hH
  ·rename_i e;exact (h.pl j hj).more qH (by rw[(hv.qG hj).1];exact jH j (λe2=>e e2.symm))
 ·rw[hl]at E hb;rw[tl hi,tl hi,ach hi];by_cases h1:i=a
  ·subst h1;rw[ak rfl,ag BO,ak rfl];exact jY b hb (Ne.symm BO)
  ·rw[ag h1,ag h1];have h3:=h.ac a b E hb BO;by_cases h2:i=b
   ·subst h2;rw[ak rfl];exact⟨fA h3.1 (hk a),h3.2⟩
   ·rw[ag h2];exact h3
 ·rw[hl]at hj;rw[tl hi,qE hi];split
  ·rename_i e;subst e;exact gP
  ·exact h.hd j hj
 ·rcases GN m gL with h1 | h1
  ·obtain⟨q,hq⟩:=h.net m h1;exact⟨q,hq.more qH hg.2 hg.1 hl hm⟩
  ·exact h1
 ·rw[hl]at hj;rw[qE hi];split
  ·exact GM
  ·exact h.wW j hj
theorem gv.al (h:gv p cf K G v)(hv:bK p cf c v)(hi:i<v.ps.length)(b:UInt8):(∃ G',gv p cf K G' { v with ps:=v.ps.set i (dF p b (an v i)).2 }) ∧
   ∀ x y,bq { v with ps:=v.ps.set i (dF p b (an v i)).2 } x y=bq v x y+if (x=i∧y=i)∧(dF p b (an v i)).1=0 then 1 else 0:=by
 obtain⟨ej,wX,bZ,hn,_⟩:=hv.qG hi;by_cases h0:(dF p b (an v i)).1=0
 ·obtain⟨hH,mr,hk⟩:=(h.pl i hi).al h0;obtain⟨g1,jy,nq,nr⟩:=uy (k:=(an v i).k) (b:=b) h0;rw[ej]at hH hk;have aH:i<(an v i).k.ls.length:=by rw[(hv.pl i hi).1.wc.ls,hn];exact hi
  have eP:(dF p b (an v i)).2.k.ls=(an v i).k.ls.set i ((an v i).k.ls.getD i []++[b]):=by rw[hk]
  have gB:∀ j,au (dF p b (an v i)).2.k j=au (an v i).k j:=λj=>by rw[au,hk];rfl
  have hO:∀ j,((dF p b (an v i)).2.k.ls.getD j []).length=bq v i j+if i=j then 1 else 0:=λj=>by
   rw[eP,NN aH];split
   ·rename_i e;subst e;rw[aL];rfl
   ·rfl
  have fo:aw (an v i).k≤aw (dF p b (an v i)).2.k:=by
   rw[aw,aw,eP];exact Ext.set.front (hv.pl i hi).1.wc.kY
  have gP:aE (an v i).k=bq v i i:=by rw[aE,ej];rfl
  refine⟨⟨_,h.put hv hi hH Ext.set (λj hj=>?_) (λj=>?_) (λj hj gM=>?_) ?_ ?_ (λm hm=>.inl hm) h.bx⟩,λx y=>?_⟩
  ·rw[bl,getElem?_set_ne (Ne.symm hj),← bl]
  ·rw[hO];omega
  ·rw[hO,gB,ag (Ne.symm gM),Nat.add_zero];exact h.ac i j hi hj (Ne.symm gM)
  ·rw[hO,ak rfl];omega
  ·rw[hk];exact h.wW i hi
  ·rw[tl hi];by_cases e:i=x
   ·subst e;rw[ak rfl,hO];by_cases e2:i=y
    ·rw[ak e2,ak ⟨⟨rfl,e2.symm⟩,h0⟩]
    ·rw[ag e2,ag (λh=>e2 h.1.2.symm)]
   ·rw[ag e,ag (λh=>e h.1.1.symm),Nat.add_zero]
 ·rw[NH (hv.pl i hi).1 h0,NM hi];exact⟨⟨G,h⟩,λx y=>by rw[ag (λh=>h0 h.2)];rfl⟩
theorem gv.ack (h:gv p cf K G v)(hn:∀ m∈net,m∈v.net):gv p cf K G { v with net:=net } :=
 ⟨h.pl,h.ac,h.hd,λm hm=>(h.net m (hn m hm)).imp λq hq=>⟨hq.ka,hq.kind,hq.fr,hq.to,hq.bs,hq.lt,hq.id,hq.u2⟩,h.bx,h.wW⟩
theorem gv.recv (h:gv p cf K G v)(hv:bK p cf c v)(hm:m∈v.net)(hn:∀ m∈net,m∈v.net):gv p cf K G { v with ps:=v.ps.set m.2.1 (dG p m.2.2 (an v m.2.1)).2,net:=net } ∧
   ∀ x y,bq { v with ps:=v.ps.set m.2.1 (dG p m.2.2 (an v m.2.1)).2,net:=net } x y=if (x=m.2.1∧y=m.1)∧(an v m.2.1).k.cl=false then max (bq v x y) (pP m) else bq v x y:=by
 obtain⟨q,hq⟩:=h.net m hm;obtain⟨dY,hi⟩:=hq.lt;obtain⟨ej,wX,bZ,nz,_⟩:=hv.qG hi;have EX:q.aW.toNat=m.1:=by have:=hq.fr;omega
 have jE:m.1≠m.2.1:=λe=>hq.ka.may.2.2.1 (by rw[hq.fr,hq.to,e]);rw[hq.bs];generalize I:an v m.2.1=s at *;have yD:=h.pl _ hi;have rS:=hv.pl _ hi;rw[I]at yD rS;cases hc:s.k.cl with
 | true =>
  have h0:(dG p (aR q) s).1≠0:=by
   show (dx (aR q) s.k).1≠0;rw[dx,ak hc];show (6:Int)≠0;decide
  rw[acf rS.1 h0,← I,NM hi];exact⟨h.ack hn,λx y=>by rw[ag (λh=>by have:=h.2;cases this)];rfl⟩
 | false =>
  have rQ:m.1<s.k.ps.length:=by rw[rS.1.wc.ps,nz];exact dY
  have aH:m.1<s.k.ls.length:=by rw[rS.1.wc.ls,nz];exact dY
  have jY:=h.ac _ _ hi dY (Ne.symm jE);have n4:=h.BN hv dY hi;have oU:=h.BN hv hi dY;have kL:=(hv.pl _ dY).1.wc.lT (i:=m.1) (by rw[hv.kn dY];exact dY);have lg:=rS.1.wc.lT (i:=m.1) (by rw[nz];exact dY);have NP:aE s.k=bq v m.2.1 m.2.1:=by rw[aE,ej,bq,I]
  rcases hq.ka.may.2.2.2.2 with ⟨h1,_⟩ | ⟨h1,_⟩
  ·obtain⟨hH,h0,mr,hk⟩:=yD.yo hq.ka hc (by rw[hq.to,ej]) (by rw[hq.fr,nz];omega) (by rw[hq.id,bZ]) h1;obtain⟨s1,s2,vj⟩:=hq.u2 h1;obtain⟨g1,jy⟩:=hq.ka.u2 h1;rw[EX]at hk g1;have yr:bq v m.2.1 m.1=(s.k.ls.getD m.1 []).length:=by rw[bq,I]
   have ez:=aci (l:=s.k.ls.getD m.1 []) (a:=q.al) (f:=q.first.toNat) (by rw[← yr];exact s2) (by rw[oU.2]at g1;rw[bq]at g1;omega) lg;have eP:(dG p (aR q) s).2.k.ls=s.k.ls.set m.1 (dr (s.k.ls.getD m.1 []) q.first.toNat q.al):=by rw[hk]
   have hO:∀ j,((dG p (aR q) s).2.k.ls.getD j []).length=if m.1=j then max (bq v m.2.1 m.1) (q.first.toNat+q.al.length) else bq v m.2.1 j:=λj=>by
    rw[eP,NN aH,ez,bq,bq,I]
   have gB:∀ j,au (dG p (aR q) s).2.k j=if j=m.1 then fO s.k.now (aE s.k) q (au s.k m.1) else au s.k j:=λj=>by
    rw[au,hk];exact wv rQ
   have fo:aw s.k≤aw (dG p (aR q) s).2.k:=by
    have h5:=rD (aR q) s.k;obtain⟨t5,h6⟩:=K0 (s.k.ls.getD m.1 []) q.first.toNat q.al;rw[aw,aw,eP,h6];exact Ext.set.front rS.1.wc.kY
   refine⟨h.put hv hi hH (Ext.refl _) (λ_ _=>rfl) (λj=>?_) (λj hj gM=>?_) ?_ ?_ (λm hm=>.inl (hn m hm)) h.bx,λx y=>?_⟩
   ·rw[hO];split
    ·rename_i e;subst e;omega
    ·exact bd _
   ·rw[hO,gB];have wY:=h.ac _ _ hi hj (Ne.symm gM);by_cases e:j=m.1
    ·subst e;rw[ak rfl,ak rfl,acj];rw[pO,I]at wY;rw[bq]at n4;simp only[bq] at *;split <;> omega
    ·rw[ag (Ne.symm e),ag e];rw[pO,I]at wY;exact wY
   ·rw[hO,ag jE];have:=h.hd _ hi;rw[I]at this;omega
   ·rw[hk];have:=h.wW _ hi;rw[I]at this;exact this
   ·rw[tl hi,hO,hq.val,ak h1];by_cases e:m.2.1=x
    ·subst e;rw[ak rfl];by_cases e2:m.1=y
     ·subst e2;rw[ak rfl,ak ⟨⟨rfl,rfl⟩,rfl⟩]
     ·rw[ag e2,ag (λh=>e2 h.1.2.symm)]
    ·rw[ag e,ag (λh=>e h.1.1.symm)]
  ·obtain⟨hH,h0,hk⟩:=yD.bye hq.ka hc (by rw[hq.to,ej]) (by rw[hq.fr,nz];omega) (by rw[hq.id,bZ]) h1;rw[EX]at hk;have eP:(dG p (aR q) s).2.k.ls=s.k.ls:=by rw[hk]
   have hO:∀ j,((dG p (aR q) s).2.k.ls.getD j []).length=bq v m.2.1 j:=λj=>by rw[eP,bq,I]
   have gB:∀ j,(au (dG p (aR q) s).2.k j).has=(au s.k j).has:=λj=>by
    rw[au,hk];show ((s.k.ps.set _ _).getD j (fw 0)).has=_;rw[wv rQ];split
    ·rename_i e;subst e;rfl
    ·rfl
   refine⟨h.put hv hi hH (Ext.refl _) (λ_ _=>rfl) (λj=>?_) (λj hj gM=>?_) ?_ ?_ (λm hm=>.inl (hn m hm)) h.bx,λx y=>?_⟩
   ·rw[hO];exact bd _
   ·have wY:=h.ac _ _ hi hj (Ne.symm gM);rw[pO,I]at wY;rw[hO,gB];exact wY
   ·have:=h.hd _ hi;rw[I]at this;rw[hO,aw,eP];exact this
   ·rw[hk];intro e he;rcases eN.1 he with he | he
    ·have:=h.wW _ hi;rw[I]at this;exact this e he
    ·rw[mem_singleton.1 he];show (1:Nat)≠3;decide
   ·have qX:pP m=0:=by rw[hq.val,ag (by omega)]
    rw[tl hi,hO,qX,Nat.max_zero];by_cases e:m.2.1=x
    ·subst e;rw[ak rfl];split <;> rfl
    ·rw[ag e,ag (λh=>e h.1.1.symm)]
theorem acm {k:Ks}(h:m∈(bo k).1):∃ j,j<k.n∧j≠k.me∧m=(k.me,j,aR (dL k j)):=by
 unfold bo at h;split at h
 ·cases h
 ·simp only at h;split at h
  ·cases h
  ·obtain⟨j,hj,rfl⟩:=cV.1 h;obtain⟨h1,h2⟩:=wy.1 hj;exact⟨j,h1,h2,rfl⟩
theorem gv.same (h:gv p cf K G v)(hv:bK p cf c v)(hi:i<v.ps.length)(hH:gI p G s')(eP:s'.k.ls=(an v i).k.ls)(gB:s'.k.ps=(an v i).k.ps)(GM:∀ e∈s'.k.ev,e.1≠3)
   (GN:∀ m∈net,m∈v.net∨∃ q,oO p cf K G v m q) (pF:∀ l∈ev,∀ e∈l,e.1≠3):gv p cf K G ⟨v.ps.set i s',net,ev⟩∧∀ x y,bq ⟨v.ps.set i s',net,ev⟩ x y=bq v x y:=by
 have uJ:∀ x y,bq ⟨v.ps.set i s',net,ev⟩ x y=bq v x y:=λx y=>by
  rw[tl hi];split
  ·rename_i e;subst e;rw[eP];rfl
  ·rfl
 have hg:=h.NO hv;refine⟨h.put hv hi hH (Ext.refl _) (λ_ _=>rfl) (λj=>by rw[eP];exact bd _) (λj hj gM=>?_) ?_ GM (λm hm=>(GN m hm).imp_right λ⟨q,hq⟩=>⟨q,hq.more (Ext.refl _) hg.2 hg.1 bu λa b=>by rw[uJ];exact bd _⟩) pF,uJ⟩
 ·rw[eP,au,gB];exact h.ac i j hi hj (Ne.symm gM)
 ·rw[aw,eP];exact h.hd i hi
theorem gv.NQ (h:gv p cf K G v)(hv:bK p cf c v)(hi:i<v.ps.length)(GO:K 1)(hm:m∈(bo (an v i).k).1):∃ q,oO p cf K G v m q∧pP m=bq v i i:=by
 obtain⟨ej,wX,bZ,hn,_⟩:=hv.qG hi;obtain⟨j,hj,bB,rfl⟩:=acm hm;rw[hn]at hj;rw[ej]at bB;have jY:=h.ac i j hi hj (Ne.symm bB);have hb:=h.BN hv hj hi;have gP:=h.hd i hi;have dY:aw (an v i).k≤bq v i j:=wm (ux (by rw[(hv.pl i hi).1.wc.ls,hn];exact hj));have NP:aE (an v i).k=bq v i i:=by rw[aE,ej];rfl
 have hw:=hv.NL;have ka:=(h.pl i hi).Gu (i:=j) (by rw[hn];exact hj) (by rw[ej];exact bB) (by rw[NP];rw[pO]at jY;omega);have hO:(dL (an v i).k j).first.toNat+(dL (an v i).k j).al.length=bq v i i:=by
  show (((au (an v i).k j).has:Nat):Int).toNat+((((an v i).k.ls.getD (an v i).k.me []).drop (au (an v i).k j).has).take 32).length=_;rw[pO]at jY;rw[ef,c3,ej,Int.toNat_natCast];show _+min 32 (bq v i i-_)=_;omega
 have hq:oO p cf K G v ((an v i).k.me,j,aR (dL (an v i).k j)) (dL (an v i).k j):=by
  refine⟨ka,GO,rfl,rfl,rfl,⟨by rw[ej];exact hi,hj⟩,bZ,λ_=>⟨?_,?_,?_⟩⟩
  ·show ((((an v i).k.ls.getD j []).length:Nat):Int).toNat≤bq v (an v i).k.me j;rw[ej,Int.toNat_natCast];exact bd _
  ·show (((au (an v i).k j).has:Nat):Int).toNat≤bq v j (an v i).k.me;rw[ej,Int.toNat_natCast];exact jY.1
  ·rw[hO];show _≤((((an v i).k.ls.getD j []).length:Nat):Int).toNat+_;rw[Int.toNat_natCast];show _≤bq v i j+_;omega
 exact⟨_,hq,by rw[hq.val,ak (show (dL (an v i).k j).kind=1 from rfl),hO]⟩
theorem acn (k:Ks):(bo k).2.ls=k.ls∧(bo k).2.ps=k.ps∧∀ e∈(bo k).2.ev,e∈k.ev∨e.1=2:=by
 rcases wz k with h1 | ⟨_,h1 | ⟨i,_,h1⟩⟩ <;> rw[h1]
 ·exact⟨rfl,rfl,λe he=>.inl he⟩
 ·exact⟨rfl,rfl,λe he=>.inl he⟩
 ·refine⟨rfl,rfl,λe he=>?_⟩;rcases eN.1 he with he | he
  ·exact .inl he
  ·rw[mem_singleton.1 he];exact .inr rfl
theorem gv.tick (h:gv p cf K G v)(hv:bK p cf c v)(hi:i<v.ps.length)(GO:K 1):gv p cf K G { v with ps:=v.ps.set i ⟨(bo (an v i).k).2,(an v i).g⟩,net:=ew v.net (bo (an v i).k).1 } ∧
   ∀ x y,bq { v with ps:=v.ps.set i ⟨(bo (an v i).k).2,(an v i).g⟩,net:=ew v.net (bo (an v i).k).1 } x y=bq v x y:=by
 obtain⟨h1,h2,h3⟩:=acn (an v i).k;refine h.same hv hi (h.pl i hi).tick h1 h2 (λe he=>?_) (λm hm=>(Gq hm).imp_right λhm=>(h.NQ hv hi GO hm).imp λq hq=>hq.1) h.bx;rcases h3 e he with h4 | h4
 ·exact h.wW i hi e h4
 ·omega
theorem u3 (p:Pr){cf:Cf}(h:eQ cf):∃ mr,(eu p cf).k={ ff cf with mr:=mr }:=by
 refine GK (G:=(ff cf).ls) (wA (p:=p) h) (Ext.refl _) λi hi=>?_;have o3:au (ff cf) i=fw cf.aJ.toNat∨au (ff cf) i=fw 0:=by
  rw[au,bl];show ((List.replicate cf.n.toNat (fw cf.aJ.toNat))[i]?).getD (fw 0)=_∨((List.replicate cf.n.toNat (fw cf.aJ.toNat))[i]?).getD (fw 0)=_;rw[List.getElem?_replicate];split
  ·exact .inl rfl
  ·exact .inr rfl
 have h2:(au (ff cf) i).frame=0:=by rcases o3 with e | e <;> rw[e] <;> rfl
 show mE p _ (au (ff cf) i).frame _;rw[h2];exact⟨Nat.zero_le _,λh=>absurd h (by omega)⟩
end
end
section
def fI.yZ:fI→Bool
 | .mu _=>true
 | .pl _=>false
def dy (cf:Cf)(i:Nat):Cf:={ cf with me:=i }
def fW (p:Pr)(cf:Cf)(n:Nat):Wd:=⟨(List.range n).map λi=>eu p (dy cf i),[],List.replicate n []⟩
def u4 (fp:List fz)(cf:Cf)(tb:List UInt8)(gw:Bool)(n:Nat):Prop:=fp.map (·.cf)=(List.range n).map (dy cf)∧∀ x∈fp,x.z.gs=⟨cf.bf,cf.order,tb⟩∧x.z.yZ=gw
theorem aco {cf:Cf}{i:Nat}(h:eQ (dy cf 0))(hi:(i:Int)<cf.n):eQ (dy cf i):=by
 obtain⟨⟨h1,h2,h3⟩,h4⟩:=h;refine⟨⟨h1,?_,h3⟩,h4⟩;show fv (i:Int) 0 (cf.n-1);unfold fv;omega
theorem NR {cf:Cf}{p:Pr}{tb:List UInt8}{i:Nat}(h:nf (dy cf 0) p tb)(hi:(i:Int)<cf.n):nf (dy cf i) p tb:=⟨aco h.1 hi,h.2⟩
section
variable {W w:World}{L:List SP}{n c cP cT i:Nat}{ad adP adT:Option Addr}{p:Pr}{tb:List UInt8}{cf:Cf}{gw:Bool}
theorem acp (fU:nf cf p tb)(I:U W w (aA W p adP cP::L))(hn:tb.length=n)(aG:p.title.size≤1000000000)(dU:p.ops.length≤1000000000)(eG:tb.length≤1099511627776)(hT:∀ w',U W w' (aA W p adP cP::L)→aT w' adT tb.length tb) :
   Calls prog 60 #[.agg (bS cf).toArray,.agg (bO p adP cP).toArray,.slice adT n cT] w λr w'=>∃ B:iS,r=.returned (.tuple #[pt B.pb,.int .i64 0])∧B.gs=⟨cf.bf,cf.order,tb⟩∧U W w' (aQ W B p (eu p cf)::aA W p adP cP::L) :=
 (abF I hn aG dU eG hT).mono λr w' h=>h.elim (λh=>h.2) λh=>absurd fU h.1
theorem acq (fU:nf cf p tb)(I:U W w (aA W p adP cP::L))(hn:tb.length=n)(aG:p.title.size≤1000000000)(dU:p.ops.length≤1000000000)(eG:tb.length≤1099511627776)(hT:∀ w',U W w' (aA W p adP cP::L)→aT w' adT tb.length tb) :
   Calls prog 43 #[.agg (bS cf).toArray,.agg (bO p adP cP).toArray,.slice adT n cT,.bool gw] w λr w'=>∃ z:fI,r=.returned (.tuple #[.iface z.t (.pointer (some z.ad)),.int .i64 0])∧(z.gs=⟨cf.bf,cf.order,tb⟩∧z.yZ=gw)∧U W w' (fz.J W p ⟨cf,z⟩ 0 (eu p cf)::aA W p adP cP::L):=by
 refine EN func43 ntmps43 rfl rfl λa E=>?_;refine BX 1 E I λb4 a w E I=>?_;change U W w (aa b4 28 (bS cf)::_) at I;refine BX 0 E I λb5 a w E I=>?_;change U W w (aa b5 45 (bO p adP cP)::_) at I;refine IF 5 E I (λaj a E=>?_) λaj a E=>?_
 ·
  refine bh 4 E I (abK fU (I.pick (aA W p adP cP)) hn aG dU eG (λw' dd=>hT _ dd.sub)) λM a w E ⟨hg,I⟩=>?_;refine RT 11 E I ?_;exact⟨.mu M,rfl,⟨hg,by rw[show gw=true from by simpa using aj];rfl⟩,(show U W w (fz.J W p ⟨cf,.mu M⟩ 0 (eu p cf)::_) from I).sub⟩
 refine bh 4 E I (acp fU (I.pick (aA W p adP cP)) hn aG dU eG (λw' dd=>hT _ dd.sub)) λB a w E ⟨hg,I⟩=>?_;refine RT 11 E I ?_;exact⟨.pl B,rfl,⟨hg,by rw[show gw=false from by simpa using aj];rfl⟩,(show U W w (fz.J W p ⟨cf,.pl B⟩ 0 (eu p cf)::_) from I).sub⟩
theorem NS (I:U W w L):∀ n:Nat,U W w (ah ey (List.replicate n (none,0,[]))::L)
 | 0=>U.iK I
 | n+1=>U.vu (f:=ey) (x:=(none,0,[])) ((NS I n).bN 135 1 none)
theorem NT (fU:nf (dy cf 0) p tb)(I:U W w (aA W p adP cP::L))(hn:tb.length=n)(aG:p.title.size≤1000000000)(dU:p.ops.length≤1000000000)(eG:tb.length≤1099511627776)(hT:∀ w',U W w' (aA W p adP cP::L)→aT w' adT tb.length tb) :
   Calls prog 24 #[.agg (bS cf).toArray,.agg (bO p adP cP).toArray,.slice adT n cT,.bool gw] w λr w'=>∃ B:js,r=.returned (.tuple #[pt B.mb,.int .i64 0])∧u4 B.fp cf tb gw cf.n.toNat∧U W w' (aN W B p 0 (fW p cf cf.n.toNat)::aA W p adP cP::L):=by
 have pf:=fU.1.1.1;unfold fv at pf;obtain⟨N,hN⟩:∃ N:Nat,(dy cf 0).n=N:=⟨(dy cf 0).n.toNat,by omega⟩;replace hN:cf.n=N:=hN;have hN2:2≤N∧N≤8:=by
  have h1:(dy cf 0).n=cf.n:=rfl;omega
 rw[show cf.n.toNat=N from by omega];refine EN func24 ntmps24 rfl rfl λa E=>?_;refine BX 1 E I λb4 a w E I=>?_;change U W w (aa b4 28 (bS cf)::_) at I;refine BX 0 E I λb5 a w E I=>?_;change U W w (aa b5 45 (bO p adP cP)::_) at I;refine bh 3 E I (abm I) λq a w E I=>?_;refine BX 1 E I λqn a w E I=>?_;refine RN 1 E I λa E=>?_;replace I:=U.iK (f:=cB W p 0) (I.bN 81 1 none);refine RN 7 E I λa E=>?_;rw[hN,show min (max (N:Int) 1) 8=(N:Int) from by omega]at E;refine aO (λμ a w=>∃ (i:Nat) (adL:Option Addr) (cL:Nat) (xs:List (fz×Pl)) (me:Int),(μ=N-i∧(i≤N∧xs.length=i)∧xs.map (·.2)=(List.range i).map (λi=>eu p (dy cf i))∧u4 (xs.map (·.1)) cf tb gw i)∧Fr a 58 [(2,.slice adT n cT),(3,.bool gw),(4,pt b4),(5,pt b5),(10,pt qn),(20,.int .i64 N),(21,.int .i64 i)]∧U W w (aa qn 107 [.slice adL i cL,pt q,.slice none 0 0]::Sl 81 1 adL i cL (xs.map cF)::ah (cB W p 0) xs::bJ q []::aa b4 28 (bS { cf with me:=me })::aa b5 45 (bO p adP cP)::aA W p adP cP::L)) (N) (⟨0,none,0,[],cf.me,⟨rfl,⟨by omega,rfl⟩,rfl,rfl,λx h=>by cases h⟩,E.ab [2,3,4,5,10,20,21],(show U W w (ah (cB W p 0) []::Sl 81 1 none 0 0 (([]:List (fz×Pl)).map cF)::_) from I).sub⟩) ?_;clear E I;rintro μ a w ⟨i,adL,cL,xs,me,⟨rfl,⟨hi,bV⟩,dg,eH⟩,E,I⟩;refine IF 3 E I (λaj a E=>?_) λaj a E=>?_
 ·
  have aH:i<N:=by omega
  have GP:=NR (i:=i) fU (by omega);refine ST 7 E I (λa w E I=>?_);refine RN 0 E I λa E=>?_;change U W w (aa b4 28 (bS (dy cf i))::_) at I;refine bh 5 E I (acq GP (I.pick (aA W p adP cP)) hn aG dU eG (λw' dd=>hT _ dd.sub)) λz a w E ⟨hz,I⟩=>?_;refine RN 9 E I λa E=>?_;replace E:=E.aM 35;refine RN 7 E I λa E=>?_;refine cn E rfl I underlying104 Ty.t81 rfl rfl rfl rfl (by decide) (by decide) λb43 a w E I ho=>?_;clear ho;replace I:=I.pick (Sl 81 1 adL i cL (xs.map cF));refine RN 0 E I λa E=>?_;refine cK E rfl I underlying104 Ty.t81 rfl rfl I.ai rfl (by simp[Value.oneCell']) (by decide) (by decide) (by omega) λnd k5 a w E I=>?_;rw[show List.map cF xs++_=(xs++[((⟨dy cf i,z⟩:fz),eu p (dy cf i))]).map cF from by rw[cW];rfl]at I;refine ST 2 E I (λa w E I=>?_);refine RN 2 E I λa E=>?_;have kv:=(I.pick (ah (cB W p 0) xs)).pick (fz.J W p ⟨dy cf i,z⟩ 0 (eu p (dy cf i)));have hA:=U.jL (f:=cB W p 0) (x:=(⟨dy cf i,z⟩,eu p (dy cf i))) kv;refine⟨N-(i+1),by omega,i+1,nd,k5,xs++[(⟨dy cf i,z⟩,eu p (dy cf i))],i,⟨rfl,⟨by omega,by rw[aL,bV];rfl⟩,?_,?_⟩,E.ab [2,3,4,5,10,20,21],?_⟩
  ·rw[cW,dg,range_succ,cW];rfl
  ·refine⟨?_,λx hx=>?_⟩
   ·rw[cW,cW,range_succ,cW,eH.1];rfl
   ·rw[cW]at hx;rcases eN.1 hx with hx | hx
    ·exact eH.2 x hx
    ·rw[mem_singleton.1 hx];exact hz
  ·rw[show ({ cf with me:=(i:Int) }:Cf)=dy cf i from rfl];exact hA.sub
 obtain rfl:i=N:=by omega
 refine RN 7 E I λa E=>?_;refine qO E rfl I underlying105 Ty.t90 rfl (by omega) (by omega) λBQ a w E I ho=>?_;clear ho;rw[Bk _ rfl]at I;refine ST 2 E I (λa w E I=>?_);refine RT 4 E I ?_;refine⟨⟨qn,q,xs.map (·.1)⟩,rfl,eH,?_⟩;have h1:=I.jI BQ;rw[show List.replicate i (Value.slice none 0 0)=[]++(List.replicate i ((none,0,[]):j9)).map bx++[] from by rw[nil_append,append_nil,map_replicate];rfl]at h1;have h2:=NS (U.iJ (n:=i) (c:=i) (sz:=1) h1 (by rw[a8,kl,Nat.mul_one]) (bd _) (by simp)) i;refine aN.u0 (adL:=adL) (cL:=cL) (adE:=some ⟨BQ,0,none⟩) (cE:=i) (xs:=xs) (es:=List.replicate i (none,0,[])) ?_ rfl dg (by rw[map_replicate];rfl);rw[bV,kl];simp only[length_nil]at h2;show U W w (aa qn 107 [.slice adL i cL,pt q,.slice (some ⟨BQ,0,none⟩) i i]::Sl 81 1 adL i cL (xs.map cF)::ah (cB W p 0) xs::bJ q []::Sl 90 1 (some ⟨BQ,0,none⟩) i i ((List.replicate i ((none,0,[]):j9)).map bx)::ah ey (List.replicate i (none,0,[]))::aA W p adP cP::L);exact h2.sub
end
end
section
abbrev dz (x:fS×Pl):Value:=pt x.1.pb
def da (W:World)(p:Pr)(x:fS×Pl):SP:=bY W x.1 p x.2
def eT (x:j9):SP:=Sl 102 3 x.1 x.2.2.length x.2.1 (rows bT x.2.2)
structure nK where
 wb:Nat
 mb:Nat
 mF:List fS
def bE (W:World)(D:nK)(p:Pr)(v:Wd):SP:=λh=>∃ i:(Option Addr×Nat)×(Option Addr×Nat)×(Option Addr×Nat)×List (fS×Pl)×List j9,(i.2.2.2.1.map (·.1)=D.mF∧i.2.2.2.1.map (·.2)=v.ps∧i.2.2.2.2.map (·.2.2)=v.ev) ∧
 cj [aa D.wb 40 [pt D.mb,.slice i.1.1 i.2.2.2.1.length i.1.2,.slice i.2.1.1 v.net.length i.2.1.2,.slice i.2.2.1.1 i.2.2.2.2.length i.2.2.1.2],
  Sl 34 1 i.1.1 i.2.2.2.1.length i.1.2 (i.2.2.2.1.map dz),ah (da W p) i.2.2.2.1,ch 60 i.2.1.1 v.net.length i.2.1.2 v.net,Sl 70 1 i.2.2.1.1 i.2.2.2.2.length i.2.2.1.2 (i.2.2.2.2.map bx),ah eT i.2.2.2.2] h
section
variable {W w:World}{L:List SP}{n c k cP cN cE wb i:Nat}{ad adP adN adE:Option Addr}{p:Pr}{v:Wd}{D:nK}{x0 x1 x3:Value}{l net:List Ml}{xs:List (fS×Pl)}{es:List j9}
theorem bE.open (I:U W w (bE W D p v::L)):∃ (adP:Option Addr) (cP:Nat) (adN:Option Addr) (cN:Nat) (adE:Option Addr) (cE:Nat) (xs:List (fS×Pl)) (es:List j9),(xs.map (·.1)=D.mF∧xs.map (·.2)=v.ps∧es.map (·.2.2)=v.ev) ∧
   U W w (aa D.wb 40 [pt D.mb,.slice adP xs.length cP,.slice adN v.net.length cN,.slice adE es.length cE] ::
    Sl 34 1 adP xs.length cP (xs.map dz)::ah (da W p) xs::ch 60 adN v.net.length cN v.net::Sl 70 1 adE es.length cE (es.map bx)::ah eT es::L):=by
 obtain⟨i,h1,I⟩:=I.jv (ι:=(Option Addr×Nat)×(Option Addr×Nat)×(Option Addr×Nat)×List (fS×Pl)×List j9) (p:=λi=>i.2.2.2.1.map (·.1)=D.mF∧i.2.2.2.1.map (·.2)=v.ps∧i.2.2.2.2.map (·.2.2)=v.ev)
  (B:=λi h=>cj [aa D.wb 40 [pt D.mb,.slice i.1.1 i.2.2.2.1.length i.1.2,.slice i.2.1.1 v.net.length i.2.1.2,.slice i.2.2.1.1 i.2.2.2.2.length i.2.2.1.2],
  Sl 34 1 i.1.1 i.2.2.2.1.length i.1.2 (i.2.2.2.1.map dz),ah (da W p) i.2.2.2.1,ch 60 i.2.1.1 v.net.length i.2.1.2 v.net,Sl 70 1 i.2.2.1.1 i.2.2.2.2.length i.2.2.1.2 (i.2.2.2.2.map bx),ah eT i.2.2.2.2] h) λ_ h=>h
 obtain⟨⟨adP,cP⟩,⟨adN,cN⟩,⟨adE,cE⟩,xs,es⟩:=i;exact⟨adP,cP,adN,cN,adE,cE,xs,es,h1,I.open (M:=[_,_,_,_,_,_]) λ_ h=>h⟩
theorem bE.close (I:U W w (aa D.wb 40 [pt D.mb,.slice adP xs.length cP,.slice adN v.net.length cN,.slice adE es.length cE] ::
     Sl 34 1 adP xs.length cP (xs.map dz)::ah (da W p) xs::ch 60 adN v.net.length cN v.net::Sl 70 1 adE es.length cE (es.map bx)::ah eT es::L))
 (h1:xs.map (·.1)=D.mF) (h2:xs.map (·.2)=v.ps) (h3:es.map (·.2.2)=v.ev):U W w (bE W D p v::L) :=
 U.shut (M:=[_,_,_,_,_,_]) I λ_ h=>⟨((adP,cP),(adN,cN),(adE,cE),xs,es),⟨h1,h2,h3⟩,h⟩
theorem NU (I:U W w (ch 60 ad n c l::ch 60 adN k cN net::aa wb 40 [x0,x1,.slice adN k cN,x3]::L))(hn:n≤1000)(hk:net.length≤300) :
   Calls prog 72 #[pt wb,.slice ad n c] w λe w'=>e=.returned (.tuple #[])∧∃ NV NW,U W w' (ch 60 NV (ew net l).length NW (ew net l)::aa wb 40 [x0,x1,.slice NV (ew net l).length NW,x3]::L):=by
 obtain⟨xs,eA,bV,I⟩:=ch.open I;have ba:xs.length=n:=by rw[← bV,← eA,a8]
 subst ba;obtain⟨ys,nL,iE,I⟩:=ch.open (I.pick (ch 60 adN k cN net));subst iE;refine EN func72 ntmps72 rfl rfl λa E=>?_;refine RN 2 E I λa E=>?_;refine aO (λμ a w=>∃ (i:Nat) (adN:Option Addr) (cN:Nat) (ys:List Mx) (N:List Ml),(μ=xs.length-i∧i≤xs.length∧N=ew net (l.take i)∧ys.map (·.2.2)=N)∧Fr a 30 [(0,pt wb),(1,.slice ad xs.length c),(4,.int .i64 i)]∧U W w (aa wb 40 [x0,x1,.slice adN N.length cN,x3]::Sl 60 3 adN N.length cN (rows b0 ys)::ah b6 ys::Sl 60 3 ad xs.length c (rows b0 xs)::ah b6 (xs.drop i)::L)) (xs.length) (⟨0,adN,cN,ys,net,⟨rfl,by omega,rfl,nL⟩,E.ab [0,1,4],(show U W w (Sl 60 3 adN net.length cN (rows b0 ys)::ah b6 ys::Sl 60 3 ad xs.length c (rows b0 xs)::ah b6 (xs.drop 0)::_) from I).sub⟩) ?_;clear E I;rintro μ a w ⟨i,adN,cN,ys,N,⟨rfl,hi,hN,lD⟩,E,I⟩;refine IF 6 E I (λaj a E=>?_) λaj a E=>?_
 ·
  have aH:i<xs.length:=by omega
  have yR:i<l.length:=by omega
  have hNl:N.length≤300:=by rw[hN];exact Gr hk
  have GQ:=MZ net yR;rw[← hN]at GQ;obtain⟨x,hx⟩:∃ x,x=xs[i]:=⟨_,rfl⟩;have acr:x.2.2=l[i]:=by
   have h1:(xs.map (·.2.2))[i]?=l[i]?:=by rw[eA]
   rw[bm,aD aH,aD yR,← hx]at h1;simpa using h1
  have e0:xs[i]?=some x:=by rw[hx];exact aD aH
  refine IF 8 E I (λao a E=>?_) λao a E=>?_
  ·
   refine RN 0 E I λa E=>?_;obtain⟨bi,oi,rfl,pn⟩:=(I.drew.pick (Sl 60 3 ad xs.length c (rows b0 xs))).bU ad (by omega);replace pn:=jl oC pn (aD aH);rw[← hx]at pn;refine qT 0 (λw'=>Rd w' wb 0 [x0,x1,.slice adN N.length cN,x3]∧Rd w' bi (oi+i*3) (b0 x)) [8,9] [0,1,2,3,5,6,7,3004,1008,1009,1010,11,12,1013] E I λa E=>?_;replace I:=I.drew;generalize w.drew=w at I pn ⊢;have hC:Rd w wb 0 [x0,x1,.slice adN N.length cN,x3]∧Rd w bi (oi+i*3) (b0 x):=⟨I.ai (b:=wb),pn⟩;have hH:=Hd.any (λw'=>Rd w' wb 0 [x0,x1,.slice adN N.length cN,x3]∧Rd w' bi (oi+i*3) (b0 x));refine RH 7 E I hH hC λa E=>?_;refine QH E (λw hc=>ae E (hc.1 2 _ rfl)) hC λa E=>?_;refine RH 0 E I hH hC λa E=>?_;refine SS E (bR E underlying60 rfl Ty.t60 (hC.2)) λa E=>?_;refine RH 0 E I hH hC λa E=>?_;refine cn E rfl I underlying37 Ty.t60 rfl rfl rfl rfl (by decide) (by decide) λJk a w E I ho=>?_;clear ho;replace hC:=hH.at w ⟨I.ai (b:=wb),jl oC (I.cJ bi oi (by omega)) e0⟩;refine RH 0 E I hH hC λa E=>?_;refine cK E rfl I underlying37 Ty.t60 rfl rfl I.ai rfl (by simp[Value.oneCell']) (by decide) (by decide) (by omega) λDx Dy a w E I=>?_;rw[show rows b0 ys++_=rows b0 (ys++[x]) from by rw[kh];rfl]at I;refine ST 2 E I (λa w E I=>?_);refine RN 3 E I λa E=>?_;rw[ki aH,← hx]at I;have h1:U W w (b6 x::ah b6 (xs.drop (i+1))::_):=U.fq (l:=x::xs.drop (i+1)) (i:=0) (I.pick (ah b6 (x::xs.drop (i+1)))) (by simp);have h3:=U.jL (f:=b6) (x:=x) ((h1.pick (ah b6 ys)).pick (b6 x));refine⟨xs.length-(i+1),by omega,i+1,Dx,Dy,ys++[x],N++[l[i]],⟨rfl,by omega,by rw[GQ,oJ,ak (by omega)],by rw[cW,lD,← acr];rfl⟩,E.ab [0,1,4],?_⟩;rw[aL,jj];exact h3.sub
  refine RN 3 E I λa E=>?_;rw[ki aH,← hx]at I;have h1:U W w (b6 x::ah b6 (xs.drop (i+1))::_):=U.fq (l:=x::xs.drop (i+1)) (i:=0) (I.pick (ah b6 (x::xs.drop (i+1)))) (by simp);exact⟨xs.length-(i+1),by omega,i+1,adN,cN,ys,N,⟨rfl,by omega,by rw[GQ,oJ,ag (by omega)],lD⟩,E.ab [0,1,4],h1.sub⟩
 refine RT 0 E I ?_;obtain rfl:i=xs.length:=by omega
 rw[fZ (by omega)]at hN;subst hN;exact⟨rfl,adN,cN,(ch.close (I.sub (M:=Sl 60 3 adN (ew net l).length cN (rows b0 ys)::ah b6 ys::aa wb 40 [x0,x1,.slice adN (ew net l).length cN,x3]::L)) lD rfl)⟩
end
end
section
section
variable {W w:World}{L:List SP}{c k cP cN cE wb i:Nat}{adP adN adE:Option Addr}{p:Pr}{v:Wd}{D:nK}{net:List Ml}{xs:List (fS×Pl)}{es:List j9}{x:fS}{s wK s':Pl}{t:fG}{cf:Cf}
theorem BR {ps:List Pl}(h2:xs.map (·.2)=ps)(hi:i<xs.length):∃ x,xs[i]?=some (x,ps.getD i Bw):=by
 refine⟨xs[i].1,?_⟩;rw[aD hi,bl,← h2,bm,aD hi];rfl
theorem BS (I:U W w (ah (da W p) xs::L))(hx:xs[i]?=some (x,s)):U W w (bY W x p s::ah (da W p) (xs.eraseIdx i)::L):=by
 obtain⟨hi,h1⟩:=a2.1 hx;have h2:=I.fq hi;rw[h1]at h2;exact h2
theorem BT (I:U W w (bY W x p s::ah (da W p) (xs.eraseIdx i)::L))(hx:xs[i]?=some (x,s)):U W w (ah (da W p) xs::L):=by
 obtain⟨hi,h1⟩:=a2.1 hx;refine U.wS hi ?_;rw[h1];exact I
theorem BU (hx:xs[i]?=some (x,s)):(xs.set i (x,s')).map dz=xs.map dz∧(xs.set i (x,s')).map (·.1)=xs.map (·.1):=by
 obtain⟨hi,h1⟩:=a2.1 hx;constructor
 ·rw[List.map_set,show dz (x,s')=(xs.map dz)[i]'(by rw[a8];exact hi) from by rw[getElem_map,h1],set_getElem_self]
 ·rw[List.map_set];show (xs.map (·.1)).set i x=_;rw[show x=(xs.map (·.1))[i]'(by rw[a8];exact hi) from by rw[getElem_map,h1],set_getElem_self]
theorem bE.put (h1:xs.map (·.1)=D.mF)(h2:xs.map (·.2)=v.ps)(h3:es.map (·.2.2)=v.ev)(hx:xs[i]?=some (x,wK))(net:List Ml)
   (I:U W w (bY W x p s'::ah (da W p) (xs.eraseIdx i)::aa D.wb 40 [pt D.mb,.slice adP xs.length cP,.slice adN net.length cN,.slice adE es.length cE] ::
    Sl 34 1 adP xs.length cP (xs.map dz)::ch 60 adN net.length cN net::Sl 70 1 adE es.length cE (es.map bx)::ah eT es::L)) :
   U W w (bE W D p { v with ps:=v.ps.set i s',net:=net }::L):=by
 obtain⟨hi,_⟩:=a2.1 hx;have h4:=U.kG (f:=da W p) (x:=(x,s')) hi I;refine bE.close (adP:=adP) (cP:=cP) (adN:=adN) (cN:=cN) (adE:=adE) (cE:=cE) (xs:=xs.set i (x,s')) (es:=es) ?_ ((BU hx).2.trans h1) (by rw[List.map_set,h2]) h3;rw[bu,(BU hx).1];exact h4.sub
theorem NX (b:Int):IntKind.u8.wrap (IntKind.i64.wrap ((BitVec.ofInt IntKind.i64.bits b &&& BitVec.ofInt IntKind.i64.bits 255).toNat))=((fT b).toNat:Int):=by
 have h1:(BitVec.ofInt IntKind.i64.bits b &&& BitVec.ofInt IntKind.i64.bits 255).toNat=(b%256).toNat:=by
  have h2:(BitVec.ofInt 64 b &&& BitVec.ofInt 64 255).toNat=(BitVec.ofInt 64 b).toNat%256:=by
   rw[BitVec.toNat_and,show (BitVec.ofInt 64 255).toNat=2 ^ 8-1 from rfl,Nat.and_two_pow_sub_one_eq_mod]
  show (BitVec.ofInt 64 b &&& BitVec.ofInt 64 255).toNat=_;rw[h2,BitVec.toNat_ofInt];omega
 rw[h1,fG.u8,fT,fT];have h3:=Int.emod_nonneg b (show (256:Int)≠0 by decide);have h4:=Int.emod_lt_of_pos b (show (0:Int)<256 by decide);have h5:IntKind.i64.wrap ((b%256).toNat:Int)=b%256:=by rw[fY (by omega) (by omega)];omega
 rw[h5,Int.emod_emod_of_dvd _ (by decide)]
set_option maxHeartbeats 1000000 in
theorem acs (I:U W w (bE W D p v::L))(hv:bK p cf c v)(a6:di p)(aG:p.title.size≤1000000000)(hc:c≤1000000)(hf:¬ (3≤t.fn∧t.fn≤6)) :
   Calls prog 50 #[pt D.wb,.agg (dR t).toArray] w λe w'=>e=.returned (.int .i64 (bw p t v).1)∧U W w' (bE W D p (bw p t v).2::L):=by
 replace I:=bE.open I;obtain⟨adP,cP,adN,cN,adE,cE,xs,es,⟨eE,dg,eH⟩,I⟩:=I;have bV:xs.length=v.ps.length:=by rw[← dg,a8]
 have ck:∀ w',U W w' (aa D.wb 40 [pt D.mb,.slice adP xs.length cP,.slice adN v.net.length cN,.slice adE es.length cE]::Sl 34 1 adP xs.length cP (xs.map dz)::ah (da W p) xs::ch 60 adN v.net.length cN v.net::Sl 70 1 adE es.length cE (es.map bx)::ah eT es::L)→U W w' (bE W D p v::L):=λw' h=>bE.close h eE dg eH;refine EN func50 ntmps50 rfl rfl λa E=>?_;refine BX 1 E I λb3 a w E I=>?_;change U W w (aa b3 58 (dR t)::_) at I;refine BY 7 E I (λbW a E=>?_) λbW a E=>?_
 ·
  refine RT 7 E I ?_;rw[bw,ak (by omega)];exact⟨rfl,ck _ I.sub⟩
 refine IF 4 E I (λaj a E=>?_) λaj a E=>?_
 ·
  refine RT 2 E I ?_;rw[bw,ak (by omega)];exact⟨rfl,ck _ I.sub⟩
 refine RN 0 E I λa E=>?_;refine b7 (M:=λa w=>(¬ (t.fn<1∨8<t.fn)∧Fr a 74 [(0,pt D.wb),(3,pt b3),(4,.int .i64 0)])∧U W w (aa b3 58 (dR t)::aa D.wb 40 [pt D.mb,.slice adP xs.length cP,.slice adN v.net.length cN,.slice adE es.length cE]::Sl 34 1 adP xs.length cP (xs.map dz)::ah (da W p) xs::ch 60 adN v.net.length cN v.net::Sl 70 1 adE es.length cE (es.map bx)::ah eT es::L)) ?_ ?_
 ·
  refine BY 5 E I (λbW a E=>?_) λbW a E=>?_
  ·
   refine RN 4 E I λa E=>?_;rw[bn (by omega)]at E;refine RN 1 E I λa E=>?_;exact⟨⟨by omega,E.ab [0,3,4]⟩,I.sub⟩
  refine RN 5 E I λa E=>?_;exact⟨⟨by omega,E.ab [0,3,4]⟩,I.sub⟩
 clear E;(try clear I);rintro a w ⟨⟨g4,E⟩,I⟩;refine b7 (M:=λa w=>(∃ i:Nat,(t.a=i∧i<v.ps.length)∧Fr a 74 [(0,pt D.wb),(3,pt b3),(4,.int .i64 0)])∧U W w (aa b3 58 (dR t)::aa D.wb 40 [pt D.mb,.slice adP xs.length cP,.slice adN v.net.length cN,.slice adE es.length cE]::Sl 34 1 adP xs.length cP (xs.map dz)::ah (da W p) xs::ch 60 adN v.net.length cN v.net::Sl 70 1 adE es.length cE (es.map bx)::ah eT es::L)) ?_ ?_
 ·
  refine aX 1 (λw0 w'=>Rd w' b3 0 (dR t)∧Rd w' D.wb 0 [pt D.mb,.slice adP xs.length cP,.slice adN v.net.length cN,.slice adE es.length cE]) [9,10] [0,1001,2,3,4,6,7,8,3005,1009,1010,11,12] E I λa w E I hH=>?_;have hC:=hH.at w ⟨I.ai (b:=b3),I.ai (b:=D.wb)⟩;refine RH 1 E I hH hC λa E=>?_;refine SS E (ae E (hC.1 1 _ rfl)) λa E=>?_;refine RH 2 E I hH hC λa E=>?_;refine E.by (s:=28) (λbW E=>?_) (λbW E=>?_)
  ·
   refine RH 9 E I hH hC λa E=>?_;refine RT 3 E I ?_;have ho:t.a<0∨(v.ps.length:Int)≤t.a:=by omega
   have aS:bw p t v=(7,v):=by rw[bw,ag (by omega),ag hf,gu,ak ho]
   rw[aS];exact⟨rfl,ck _ I.sub⟩
  refine RH 4 E I hH hC λa E=>?_;refine QH E (λw hc=>ae E (hc.1 1 _ rfl)) hC λa E=>?_;refine RH 0 E I hH hC λa E=>?_;refine bt E (cm E rfl (s:=28)) (ae E (hC.2 1 _ rfl)) rfl λa E=>?_;refine RH 3 E I hH hC λa E=>?_;refine IF 0 E I (λay a E=>?_) λay a E=>?_
  ·
   refine RT 2 E I ?_;have ho:t.a<0∨(v.ps.length:Int)≤t.a:=by omega
   have aS:bw p t v=(7,v):=by rw[bw,ag (by omega),ag hf,gu,ak ho]
   rw[aS];exact⟨rfl,ck _ I.sub⟩
  refine RN 0 E I λa E=>?_;exact⟨⟨t.a.toNat,⟨by omega,by omega⟩,E.ab [0,3,4]⟩,I.sub⟩
 clear E;(try clear I);rintro a w ⟨⟨i,⟨fV,hi⟩,E⟩,I⟩;refine RN 1 E I λa E=>?_;obtain⟨x,hx⟩:∃ x,xs[i]?=some (x,an v i):=BR dg (by omega);have aS:bw p t v=gu p t v:=by rw[bw,ag g4,ag hf]
 obtain⟨hw,c9,wU⟩:=hv.pl i hi;have tm:(xs.map dz)[i]?=some (pt x.pb):=by rw[bm,hx];rfl
 obtain⟨bp,op,rfl,_⟩:=(I.pick (Sl 34 1 adP xs.length cP (xs.map dz))).bU adP (by omega);refine aX 0 (λw0 w'=>(Rd w' b3 0 (dR t)∧Rd w' D.wb 0 [pt D.mb,.slice (some ⟨bp,op,none⟩) xs.length cP,.slice adN v.net.length cN,.slice adE es.length cE])∧Rd w' bp op (xs.map dz)) [5] [0,1,2,4,3003,1005,6,1007,8] E I λa w E I hH=>?_;have hC:=hH.at w ⟨⟨I.ai (b:=b3),I.ai (b:=D.wb)⟩,I.cJ bp op (by omega)⟩;refine RH 4 E I hH hC λa E=>?_;refine QH E (λw hc=>ae E (hc.1.2 1 _ rfl)) hC λa E=>?_;refine RH 0 E I hH hC λa E=>?_;refine SS E (ae E (hC.1.1 1 _ rfl)) λa E=>?_;rw[fV]at E;refine RH 1 E I hH hC λa E=>?_;refine SS E (ae E (hC.2 i _ tm)) λa E=>?_;refine RH 1 E I hH hC λa E=>?_;refine RN 2 E I λa E=>?_;replace I:=BS (I.pick (ah (da W p) xs)) hx;refine IF 5 E I (λbk a E=>?_) λbk a E=>?_
 ·
  refine RN 5 E I λa E=>?_;refine SS E (gb E underlying3 underlying5) λa E=>?_;rw[NX]at E;refine CL 0 E I (aa3 (x:=fT t.b) (I.pick (bY W x p (an v i))) hw a6 aG) λa w E I=>?_;refine RT 1 E I ?_;rw[aS,BE (by assumption) fV hi];exact⟨rfl,bE.put (adP:=some ⟨bp,op,none⟩) (cP:=cP) (adN:=adN) (cN:=cN) (adE:=adE) (cE:=cE) eE dg eH hx v.net I.sub⟩
 refine IF 3 E I (λbL a E=>?_) λbL a E=>?_
 ·
  replace I:=bY.open (I.pick (bY W x p (an v i)));refine aY 5 E I (aaT (I.pick (aZ x.core (an v i).k)) hw.wc (by omega)) λGR ot a w E I=>?_;refine CL 0 E I (NU (((I.pick (aa D.wb 40 [pt D.mb,.slice (some ⟨bp,op,none⟩) xs.length cP,.slice adN v.net.length cN,.slice adE es.length cE])).pick (ch 60 adN v.net.length cN v.net)).pick (ch 60 GR (bo (an v i).k).1.length ot (bo (an v i).k).1)) (MX hw.wc) hv.net.1) λa w E ⟨u5,u6,I⟩=>?_;refine RN 0 E I λa E=>?_;replace I:=bY.fold I x p ⟨(bo (an v i).k).2,(an v i).g⟩;refine RT 2 E I ?_;rw[aS]
  first
   | (rw[wT (by assumption) fV hi];exact⟨rfl,bE.put (adP:=some ⟨bp,op,none⟩) (cP:=cP) (adN:=u5) (cN:=u6) (adE:=adE) (cE:=cE) eE dg eH hx (ew v.net (bo (an v i).k).1) I.sub⟩)
   | (rw[yS (by assumption) fV hi];exact⟨rfl,bE.put (adP:=some ⟨bp,op,none⟩) (cP:=cP) (adN:=u5) (cN:=u6) (adE:=adE) (cE:=cE) eE dg eH hx (ew v.net (cx (an v i).k).1) I.sub⟩)
   | (rw[yT (by omega) fV hi];exact⟨rfl,ck _ (BT ((I.pick (ah (da W p) (xs.eraseIdx i))).pick (bY W x p (an v i))) hx).sub⟩)
 refine IF 3 E I (λeO a E=>?_) λeO a E=>?_
 ·
  replace I:=bY.open (I.pick (bY W x p (an v i)));refine aY 5 E I (aaQ (I.pick (aZ x.core (an v i).k)) hw.wc) λGR ot a w E I=>?_;refine CL 0 E I (NU (((I.pick (aa D.wb 40 [pt D.mb,.slice (some ⟨bp,op,none⟩) xs.length cP,.slice adN v.net.length cN,.slice adE es.length cE])).pick (ch 60 adN v.net.length cN v.net)).pick (ch 60 GR (cx (an v i).k).1.length ot (cx (an v i).k).1)) (MY hw.wc) hv.net.1) λa w E ⟨u5,u6,I⟩=>?_;refine RN 0 E I λa E=>?_;replace I:=bY.fold I x p ⟨(cx (an v i).k).2,(an v i).g⟩;refine RT 2 E I ?_;rw[aS]
  first
   | (rw[wT (by assumption) fV hi];exact⟨rfl,bE.put (adP:=some ⟨bp,op,none⟩) (cP:=cP) (adN:=u5) (cN:=u6) (adE:=adE) (cE:=cE) eE dg eH hx (ew v.net (bo (an v i).k).1) I.sub⟩)
   | (rw[yS (by assumption) fV hi];exact⟨rfl,bE.put (adP:=some ⟨bp,op,none⟩) (cP:=cP) (adN:=u5) (cN:=u6) (adE:=adE) (cE:=cE) eE dg eH hx (ew v.net (cx (an v i).k).1) I.sub⟩)
   | (rw[yT (by omega) fV hi];exact⟨rfl,ck _ (BT ((I.pick (ah (da W p) (xs.eraseIdx i))).pick (bY W x p (an v i))) hx).sub⟩)
 refine RT 2 E I ?_;rw[aS]
 first
  | (rw[wT (by assumption) fV hi];exact⟨rfl,bE.put (adP:=some ⟨bp,op,none⟩) (cP:=cP) (adN:=u5) (cN:=u6) (adE:=adE) (cE:=cE) eE dg eH hx (ew v.net (bo (an v i).k).1) I.sub⟩)
  | (rw[yS (by assumption) fV hi];exact⟨rfl,bE.put (adP:=some ⟨bp,op,none⟩) (cP:=cP) (adN:=u5) (cN:=u6) (adE:=adE) (cE:=cE) eE dg eH hx (ew v.net (cx (an v i).k).1) I.sub⟩)
  | (rw[yT (by omega) fV hi];exact⟨rfl,ck _ (BT ((I.pick (ah (da W p) (xs.eraseIdx i))).pick (bY W x p (an v i))) hx).sub⟩)
end
end
section
section
variable {W w:World}{L L':List SP}{n c k cP cN cE wb i j:Nat}{adP adN adE:Option Addr}{p:Pr}{v:Wd}{D:nK}{net:List Ml}{xs:List (fS×Pl)}{es:List j9}{x:fS}{s:Pl}{t:fG}{cf:Cf}{m:Ml}
theorem acu (I:U W w (bE W D p v::L))(ho:t.n<0∨(v.net.length:Int)≤t.n) :
   Calls prog 70 #[pt D.wb,.agg (dR t).toArray] w λe w'=>e=.returned (.int .i64 3)∧U W w' (bE W D p v::L):=by
 replace I:=bE.open I;obtain⟨adP,cP,adN,cN,adE,cE,xs,es,⟨eE,dg,eH⟩,I⟩:=I;have ck:∀ w',U W w' (aa D.wb 40 [pt D.mb,.slice adP xs.length cP,.slice adN v.net.length cN,.slice adE es.length cE]::Sl 34 1 adP xs.length cP (xs.map dz)::ah (da W p) xs::ch 60 adN v.net.length cN v.net::Sl 70 1 adE es.length cE (es.map bx)::ah eT es::L)→U W w' (bE W D p v::L):=λw' h=>bE.close h eE dg eH;refine EN func70 ntmps70 rfl rfl λa E=>?_;refine BX 1 E I λb3 a w E I=>?_;change U W w (aa b3 58 (dR t)::_) at I;refine aX 3 (λw0 w'=>Rd w' b3 0 (dR t)∧Rd w' D.wb 0 [pt D.mb,.slice adP xs.length cP,.slice adN v.net.length cN,.slice adE es.length cE]) [9,10] [0,1001,2,3,4,6,7,8,3005,1009,1010,11,12] E I λa w E I hH=>?_;have hC:=hH.at w ⟨I.ai (b:=b3),I.ai (b:=D.wb)⟩;refine RH 1 E I hH hC λa E=>?_;refine SS E (ae E (hC.1 3 _ rfl)) λa E=>?_;refine RH 2 E I hH hC λa E=>?_;refine E.by (s:=10) (λbW E=>?_) (λbW E=>?_)
 ·
  refine RH 9 E I hH hC λa E=>?_;refine RT 3 E I ?_;exact⟨rfl,ck _ I.sub⟩
 refine RH 4 E I hH hC λa E=>?_;refine QH E (λw hc=>ae E (hc.1 3 _ rfl)) hC λa E=>?_;refine RH 0 E I hH hC λa E=>?_;refine bt E (cm E rfl (s:=10)) (ae E (hC.2 2 _ rfl)) rfl λa E=>?_;refine RH 3 E I hH hC λa E=>?_;rw[dh (by omega)]at E;refine RT 3 E I ?_;exact⟨rfl,ck _ I.sub⟩
theorem bE.BV {ys:List Mx}(h1:xs.map (·.1)=D.mF)(h2:xs.map (·.2)=v.ps)(h3:es.map (·.2.2)=v.ev)(hy:ys.map (·.2.2)=net)
   (I:U W w (Sl 60 3 adN net.length cN (rows b0 ys)::ah b6 ys::aa D.wb 40 [pt D.mb,.slice adP xs.length cP,.slice adN net.length cN,.slice adE es.length cE]::Sl 34 1 adP xs.length cP (xs.map dz)::ah (da W p) xs::Sl 70 1 adE es.length cE (es.map bx)::ah eT es::L)) :
   U W w (bE W D p { v with net:=net }::L):=by
 have h4:=ch.close I hy rfl;exact bE.close (v:={ v with net:=net }) (h4.sub (M:=aa D.wb 40 [pt D.mb,.slice adP xs.length cP,.slice adN net.length cN,.slice adE es.length cE]::Sl 34 1 adP xs.length cP (xs.map dz)::ah (da W p) xs::ch 60 adN net.length cN net::Sl 70 1 adE es.length cE (es.map bx)::ah eT es::L)) h1 h2 h3
theorem GS {ys:List Mx}{y:Mx}(I:U W w (ah b6 ys::L))(hy:ys[j]?=some y):aT w y.1 y.2.2.2.2.length y.2.2.2.2:=by
 obtain⟨h1,h2⟩:=a2.1 hy;have h3:=I.fq h1;rw[h2]at h3;exact U.cr (L:=b6 y::_) h3 _ _ (k:=(fJ.head:fJ (Sl 5 1 y.1 y.2.2.2.2.length y.2.1 (bc y.2.2.2.2)::_) y.1 _ _ _ _ _ _)) rfl rfl
set_option maxHeartbeats 2000000 in
theorem acv (I:U W w (bE W D p v::L))(hv:bK p cf c v)(a6:di p)(aG:p.title.size≤1000000000)(hf:t.fn=3∨t.fn=4∨t.fn=5∨t.fn=6)(gH:t.n=j)(hm:v.net[j]?=some m) :
   Calls prog 70 #[pt D.wb,.agg (dR t).toArray] w λe w'=>e=.returned (.int .i64 (gG p t v).1)∧U W w' (bE W D p (gG p t v).2::L):=by
 have eh:=(a2.1 hm).1;have fU:=hv.Gt eh;rw[BG hm]at fU;obtain⟨hw,c9,wU⟩:=hv.pl m.2.1 fU.1;have oa:=hv.net.1;replace I:=bE.open I;obtain⟨adP,cP,adN,cN,adE,cE,xs,es,⟨eE,dg,eH⟩,I⟩:=I;have bV:xs.length=v.ps.length:=by rw[← dg,a8]
 obtain⟨ys,nL,iE,I⟩:=ch.open (I.pick (ch 60 adN v.net.length cN v.net));have lD:ys.length=v.net.length:=by rw[← nL,a8]
 obtain⟨y,hy,iN⟩:∃ y,ys[j]?=some y∧y.2.2=m:=by
  have h1:(ys.map (·.2.2))[j]?=some m:=by rw[nL,hm]
  rw[bm,aD (by omega)]at h1;exact⟨_,aD (by omega),by simpa using h1⟩
 subst iN;obtain⟨bA,on,rfl,_⟩:=(I.pick (Sl 60 3 adN v.net.length cN (rows b0 ys))).bU adN (by omega);refine EN func70 ntmps70 rfl rfl λa E=>?_;refine BX 1 E I λb3 a w E I=>?_;change U W w (aa b3 58 (dR t)::_) at I;refine aX 3 (λw0 w'=>Rd w' b3 0 (dR t)∧Rd w' D.wb 0 [pt D.mb,.slice adP xs.length cP,.slice (some ⟨bA,on,none⟩) v.net.length cN,.slice adE es.length cE]) [9,10] [0,1001,2,3,4,6,7,8,3005,1009,1010,11,12] E I λa w E I hH=>?_;have hC:=hH.at w ⟨I.ai (b:=b3),I.ai (b:=D.wb)⟩;refine RH 1 E I hH hC λa E=>?_;refine SS E (ae E (hC.1 3 _ rfl)) λa E=>?_;refine RH 2 E I hH hC λa E=>?_;rw[bn (by omega)]at E;refine RH 4 E I hH hC λa E=>?_;refine QH E (λw hc=>ae E (hc.1 3 _ rfl)) hC λa E=>?_;refine RH 0 E I hH hC λa E=>?_;refine bt E (cm E rfl (s:=10)) (ae E (hC.2 2 _ rfl)) rfl λa E=>?_;refine RH 3 E I hH hC λa E=>?_;rw[bn (by omega)]at E;refine aX 2 (λw0 w'=>(Rd w' b3 0 (dR t)∧Rd w' D.wb 0 [pt D.mb,.slice adP xs.length cP,.slice (some ⟨bA,on,none⟩) v.net.length cN,.slice adE es.length cE])∧Rd w' bA (on+j*3) (b0 y)) [5,8] [0,1,2,4,3003,3005,6,3007,1008,1009] E I λa w E I hH=>?_;have hC:=hH.at w ⟨⟨I.ai (b:=b3),I.ai (b:=D.wb)⟩,jl oC (I.cJ bA on (by omega)) hy⟩;refine RH 4 E I hH hC λa E=>?_;refine QH E (λw hc=>ae E (hc.1.2 2 _ rfl)) hC λa E=>?_;refine QH E (λw hc=>ae E (hc.1.1 3 _ rfl)) hC λa E=>?_;rw[gH]at E;refine RH 1 E I hH hC λa E=>?_;refine QH E (λw hc=>bR E underlying60 rfl Ty.t60 (hc.2)) hC λa E=>?_;refine RH 0 E I hH hC λa E=>?_;refine eU E rfl I Ty.t60 rfl λb5 a w E I ho=>?_;clear ho;replace hC:=hH.at w ⟨⟨I.ai (b:=b3),I.ai (b:=D.wb)⟩,jl oC (I.cJ bA on (by omega)) hy⟩;refine RH 0 E I hH hC λa E=>?_;refine SA 0 E I λa w E I=>?_;refine RN 0 E I λa E=>?_;refine IF 5 E I (λao a E=>?_) λao a E=>?_
 ·
  refine BY 6 E I (λbW a E=>?_) λbW a E=>?_
  ·
   refine RT 10 E I ?_;have ho:t.a<0∨(y.2.2.2.2.length:Int)≤t.a:=by omega
   rw[uZ (by assumption) gH hm,ak ho];exact⟨rfl,bE.BV (adP:=adP) (cP:=cP) (adN:=some ⟨bA,on,none⟩) (cN:=cN) (adE:=adE) (cE:=cE) (net:=v.net) (ys:=ys) eE dg eH nL I.sub⟩
  refine IF 7 E I (λay a E=>?_) λay a E=>?_
  ·
   refine RT 2 E I ?_;have ho:t.a<0∨(y.2.2.2.2.length:Int)≤t.a:=by omega
   rw[uZ (by assumption) gH hm,ak ho];exact⟨rfl,bE.BV (adP:=adP) (cP:=cP) (adN:=some ⟨bA,on,none⟩) (cN:=cN) (adE:=adE) (cE:=cE) (net:=v.net) (ys:=ys) eE dg eH nL I.sub⟩
  refine RN 1 E I λa E=>?_;have ho:¬ (t.a<0∨(y.2.2.2.2.length:Int)≤t.a):=by omega
  obtain⟨A,hA⟩:∃ A:Nat,t.a=A:=⟨t.a.toNat,by omega⟩;have BW:A<y.2.2.2.2.length:=by omega
  have Ar:=GS (I.pick (ah b6 ys)) hy;replace I:=I.bN 5 1 none;refine RN 2 E I λa E=>?_;refine gY E rfl I underlying22 Ty.t5 rfl rfl (by decide) (λh0=>Ar.get h0) (by rw[dk];omega) (en _) (by omega) λnd k5 a w E I=>?_;rw[nil_append,Nat.zero_add]at I;rw[Nat.zero_add]at E;refine RN 2 E I λa E=>?_;have aft:=((I.pick (Sl 5 1 nd y.2.2.2.2.length k5 (bc y.2.2.2.2))).sl nd).2;obtain⟨bb,pre,post,⟨h3,h4,rfl,h6⟩,gz⟩:=(I.pick (Sl 5 1 nd y.2.2.2.2.length k5 (bc y.2.2.2.2))).lF (by omega);replace I:=gz;clear gz;have hb:(pre++bc y.2.2.2.2++post)[pre.length+A]?=some (.int .u8 (y.2.2.2.2[A].toNat:Int)):=by
   rw[du,getElem?_append_right (by omega),show pre.length+A-pre.length=A from by omega,lZ (by rw[dk];exact BW)];simp[bc,BW]
  refine aX 0 (λw0 w'=>Rd w' b3 0 (dR t)∧w'.cell? ⟨bb,pre.length+A,none⟩=some (.int .u8 (y.2.2.2.2[A].toNat:Int))) [6,7,8] [0,1,5,3002,3,3004,1006,1007,1008,9,10,1011] E I λa w E I hH=>?_;have hC:=hH.at w ⟨I.ai (b:=b3),I.bz (b:=bb) hb⟩;refine RH 3 E I hH hC λa E=>?_;refine QH E (λw hc=>ae E (hc.1 1 _ rfl)) hC λa E=>?_;rw[hA]at E;refine RH 1 E I hH hC λa E=>?_;refine QH E (λw hc=>ae E (hc.2)) hC λa E=>?_;refine RH 0 E I hH hC λa E=>?_;refine SS E (ae E (hC.1 2 _ rfl)) λa E=>?_;refine RH 1 E I hH hC λa E=>?_;refine SS E (gb E underlying3 underlying5) λa E=>?_;rw[NX]at E;refine RH 2 E I hH hC λa E=>?_;refine ST 0 E I (λa w E I=>?_) (hlt:=(by simp only[aL,dk];omega));refine RN 0 E I λa E=>?_;rw[yO (by rw[dk];exact BW),Nc]at I;have NY:=U.iJ (n:=y.2.2.2.2.length) (c:=k5) (sz:=1) (I.jI bb) (by rw[dk,bu,Nat.mul_one]) h4 h6;replace I:=NY;clear NY;have pf:=((I.pick (Sl 60 3 (some ⟨bA,on,none⟩) v.net.length cN (rows b0 ys))).sl (some ⟨bA,on,none⟩)).2;obtain⟨iT,u7,NZ,⟨nq,nr,qm,BZ⟩,gz⟩:=(I.pick (Sl 60 3 (some ⟨bA,on,none⟩) v.net.length cN (rows b0 ys))).lF (by omega);replace I:=gz;clear gz;obtain⟨rfl,rfl⟩:bA=iT∧on=u7.length:=by simpa using qm
  refine aX 1 (λw0 w'=>Rd w' b3 0 (dR t)∧Rd w' D.wb 0 [pt D.mb,.slice adP xs.length cP,.slice (some ⟨bA,u7.length,none⟩) v.net.length cN,.slice adE es.length cE]) [5] [0,1,2,4,6,3003,1005,7,8,1009] E I λa w E I hH=>?_;have hC:=hH.at w ⟨I.ai (b:=b3),I.ai (b:=D.wb)⟩;refine RH 5 E I hH hC λa E=>?_;refine QH E (λw hc=>ae E (hc.2 2 _ rfl)) hC λa E=>?_;refine RH 0 E I hH hC λa E=>?_;refine SS E (ae E (hC.1 3 _ rfl)) λa E=>?_;rw[gH]at E;refine RH 2 E I hH hC λa E=>?_;refine ST 0 E I (λa w E I=>?_) (hlt:=(by simp only[aL];omega));refine RT 2 E I ?_;rw[uZ (by assumption) gH hm,ag ho];refine⟨rfl,?_⟩;rw[hA,Int.toNat_natCast,bl,aD BW,Option.getD_some];obtain⟨om,y0⟩:=a2.1 hy;obtain⟨Y,vJ⟩:∃ Y:Mx,Y=(some ⟨bb,pre.length,none⟩,k5,(y.2.2.1,y.2.2.2.1,y.2.2.2.2.set A (y.2.2.2.2[A] ^^^ fT t.b))):=⟨_,rfl⟩;have e1:(rows b0 ys).set (j*3+2) (.slice (some ⟨bb,pre.length,none⟩) y.2.2.2.2.length k5)=rows b0 (ys.set j Y):=p3 oC ys (i:=j) (k:=2) Y om (by decide) (by rw[y0,vJ];simp[b0,bu]);rw[Nat.add_assoc,yO (by rw[nq];omega),e1]at I;have h8:=U.iJ (n:=v.net.length) (c:=cN) (sz:=3) (I.jI bA) (by rw[iY oC,bu,lD]) nr BZ;have h9:=((h8.pick (ah b6 ys)).fq om).tail;have Gy:Sl 5 1 (some ⟨bb,pre.length,none⟩) y.2.2.2.2.length k5 (bc (y.2.2.2.2.set A (y.2.2.2.2[A] ^^^ fT t.b)))=b6 Y:=by rw[vJ,b6];simp only[bu]
  have e9:=(h9.pick (ah b6 (ys.eraseIdx j))).pick (Sl 5 1 (some ⟨bb,pre.length,none⟩) y.2.2.2.2.length k5 (bc (y.2.2.2.2.set A (y.2.2.2.2[A] ^^^ fT t.b))));rw[Gy]at e9;have lk:=U.kG (f:=b6) om e9;refine bE.BV (adP:=adP) (cP:=cP) (adN:=some ⟨bA,u7.length,none⟩) (cN:=cN) (adE:=adE) (cE:=cE) (ys:=ys.set j Y) eE dg eH (by rw[List.map_set,nL,vJ]) ?_;rw[bu];exact lk.sub
 refine RN 0 E I λa E=>?_;refine b7 (M:=λa w=>∃ (cd:Option Addr) (cM:Nat) (zs:List Mx) (Z:SP),((zs.map (·.2.2)=(if t.fn=5 then v.net else v.net.eraseIdx j)∧(∀ w' L',U W w' (ah b6 zs::Z::L')→aT w' y.1 y.2.2.2.2.length y.2.2.2.2)∧y.2.2.2.2.length≤y.2.1)∧Fr a 103 [(0,pt D.wb),(3,pt b3),(5,pt b5)])∧U W w (aa b5 60 (b0 y)::aa b3 58 (dR t)::Sl 60 3 cd zs.length cM (rows b0 zs)::ah b6 zs::Z::aa D.wb 40 [pt D.mb,.slice adP xs.length cP,.slice cd zs.length cM,.slice adE es.length cE]::Sl 34 1 adP xs.length cP (xs.map dz)::ah (da W p) xs::Sl 70 1 adE es.length cE (es.map bx)::ah eT es::L)) ?_ ?_
 ·
  refine IF 4 E I (λbk a E=>?_) λbk a E=>?_
  ·
   refine RN 0 E I λa E=>?_;have pf:=((I.pick (Sl 60 3 (some ⟨bA,on,none⟩) v.net.length cN (rows b0 ys))).sl (some ⟨bA,on,none⟩)).2;refine aX 0 (λw0 w'=>Rd w' b3 0 (dR t)∧Rd w' D.wb 0 [pt D.mb,.slice adP xs.length cP,.slice (some ⟨bA,on,none⟩) v.net.length cN,.slice adE es.length cE]) [6,8,13,15,16,17] [0,1,2,3,5,7,10,11,12,14,3004,3006,3008,9,3013,1015,1016,1017,1018,19,20,1021] E I λa w E I hH=>?_;have hC:=hH.at w ⟨I.ai (b:=b3),I.ai (b:=D.wb)⟩;refine RH 10 E I hH hC λa E=>?_;refine QH E (λw hc=>ae E (hc.2 2 _ rfl)) hC λa E=>?_;refine QH E (λw hc=>ae E (hc.1 3 _ rfl)) hC λa E=>?_;rw[gH]at E;refine RH 0 E I hH hC λa E=>?_;refine QH E (λw hc=>ae E (hc.1 3 _ rfl)) hC λa E=>?_;rw[gH]at E;refine RH 1 E I hH hC λa E=>?_;refine QH E (λw hc=>ae E (hc.2 2 _ rfl)) hC λa E=>?_;refine RH 0 E I hH hC λa E=>?_;refine SS E (ae E (hC.1 3 _ rfl)) λa E=>?_;rw[gH]at E;refine RH 2 E I hH hC λa E=>?_;have acw:fk (some ⟨bA,on,none⟩) 0 j 3=some ⟨bA,on,none⟩:=by
    by_cases h0:j=0
    ·subst h0;rfl
    ·rw[oT h0,Nat.zero_mul,Nat.add_zero]
   have wP:rows b0 ys=rows b0 (ys.take j)++rows b0 (ys.drop j):=by rw[← kh,jJ]
   have acx:rows b0 ys=rows b0 (ys.take (j+1))++rows b0 (ys.drop (j+1)):=by rw[← kh,jJ]
   have c4:Rd w bA (on+(j+1)*3) (rows b0 (ys.drop (j+1))):=by
    have h1:Rd w bA on (rows b0 ys):=I.cJ bA on (by omega);have h2:=h1.part ((j+1)*3) ((ys.length-(j+1))*3);rw[acx,List.drop_left' (by rw[iY oC,ef];omega),fZ (by rw[iY oC,c3];omega)]at h2;exact h2
   obtain⟨iT,u7,NZ,⟨nq,nr,qm,BZ⟩,gz⟩:=(I.pick (Sl 60 3 (some ⟨bA,on,none⟩) v.net.length cN (rows b0 ys))).lF (by omega);obtain⟨rfl,rfl⟩:bA=iT∧on=u7.length:=by simpa using qm
   rw[wP,← du u7,du _ _ NZ]at gz;replace I:=U.iJ (n:=j) (c:=j) (sz:=3) gz (by rw[iY oC,ef];omega) (bd _) (by omega);clear gz;rw[acw]at E;refine gY E rfl I underlying37 Ty.t60 rfl rfl (by decide) (λh0=>⟨bA,u7.length+(j+1)*3,oT (by omega),c4⟩) (by rw[iY oC,c3];omega) (zh YR _) (by omega) λacy c86 a w E I=>?_;rw[← kh,← eraseIdx_eq_take_drop_succ]at I;have rP:j+(v.net.length-(j+1))=(ys.eraseIdx j).length:=by rw[List.length_eraseIdx_of_lt (by omega)];omega
   rw[rP]at I E;refine ST 2 E I (λa w E I=>?_);refine RN 0 E I λa E=>?_;obtain⟨om,y0⟩:=a2.1 hy;have h1:=(I.pick (ah b6 ys)).fq om;rw[y0]at h1;have oD:y.2.2.2.2.length≤y.2.1:=(U.sl (L:=b6 y::_) (k:=(fJ.head:fJ (Sl 5 1 y.1 y.2.2.2.2.length y.2.1 (bc y.2.2.2.2)::_) y.1 _ _ _ _ _ _)) h1 y.1).2;refine⟨acy,c86,ys.eraseIdx j,b6 y,⟨⟨?_,λw' L' h=>?_,oD⟩,E.ab [0,3,5]⟩,h1.sub⟩
   ·rw[ag (by omega),← nL];simp only[eraseIdx_eq_take_drop_succ,cW,map_take,map_drop]
   ·have h2:=h.pick (b6 y);exact U.cr (L:=b6 y::_) h2 _ _ (k:=(fJ.head:fJ (Sl 5 1 y.1 y.2.2.2.2.length y.2.1 (bc y.2.2.2.2)::_) y.1 _ _ _ _ _ _)) rfl rfl
  refine RN 0 E I λa E=>?_;obtain⟨om,y0⟩:=a2.1 hy;have oD:y.2.2.2.2.length≤y.2.1:=by
   have h1:=(I.pick (ah b6 ys)).fq om;rw[y0]at h1;exact (U.sl (L:=b6 y::_) (k:=(fJ.head:fJ (Sl 5 1 y.1 y.2.2.2.2.length y.2.1 (bc y.2.2.2.2)::_) y.1 _ _ _ _ _ _)) h1 y.1).2
  refine⟨some ⟨bA,on,none⟩,cN,ys,Sl 5 1 none 0 0 [],⟨⟨by rw[ak (by omega)];exact nL,λw' L' h=>GS h hy,oD⟩,E.ab [0,3,5]⟩,?_⟩;rw[lD];exact (I.bN 5 1 none).sub
 clear E;(try clear I);rintro a w ⟨cd,cM,zs,Z,⟨⟨qC,acz,oD⟩,E⟩,I⟩;refine IF 5 E I (λbL a E=>?_) λbL a E=>?_
 ·
  refine RT 2 E I ?_;have iW:zs.length=(v.net.eraseIdx j).length:=by rw[← a8 (f:=(·.2.2)),qC,ag (by omega)]
  rw[GG (by assumption) gH hm];rw[ag (by omega)]at qC;refine⟨rfl,?_⟩;refine bE.BV (adP:=adP) (cP:=cP) (adN:=cd) (cN:=cM) (adE:=adE) (cE:=cE) (ys:=zs) eE dg eH qC ?_;rw[← iW];exact I.sub
 refine RN 1 E I λa E=>?_;obtain⟨x,hx⟩:∃ x,xs[y.2.2.2.1]?=some (x,an v y.2.2.2.1):=BR dg (by omega);have tm:(xs.map dz)[y.2.2.2.1]?=some (pt x.pb):=by rw[bm,hx];rfl
 obtain⟨bp,op,rfl,_⟩:=(I.pick (Sl 34 1 adP xs.length cP (xs.map dz))).bU adP (by omega);refine aX 0 (λw0 w'=>(Rd w' b5 0 (b0 y)∧Rd w' D.wb 0 [pt D.mb,.slice (some ⟨bp,op,none⟩) xs.length cP,.slice cd zs.length cM,.slice adE es.length cE])∧Rd w' bp op (xs.map dz)) [5,9] [0,1,2,4,8,3003,3005,6,3007,1009,1010,11] E I λa w E I hH=>?_;have hC:=hH.at w ⟨⟨I.ai (b:=b5),I.ai (b:=D.wb)⟩,I.cJ bp op (by omega)⟩;refine RH 5 E I hH hC λa E=>?_;refine QH E (λw hc=>ae E (hc.1.2 1 _ rfl)) hC λa E=>?_;refine QH E (λw hc=>ae E (hc.1.1 1 _ rfl)) hC λa E=>?_;refine RH 1 E I hH hC λa E=>?_;refine QH E (λw hc=>ae E (hc.2 _ _ tm)) hC λa E=>?_;refine RH 0 E I hH hC λa E=>?_;refine SS E (ae E (hC.1.1 2 _ rfl)) λa E=>?_;replace I:=BS (I.pick (ah (da W p) xs)) hx;refine RH 0 E I hH hC λa E=>?_;refine CL 0 E I (aa4 (bs:=y.2.2.2.2) (I.pick (bY W x p (an v y.2.2.2.1))) hw a6 aG (by omega) oD (λw' dd=>acz w' _ ((dd.pick Z).pick (ah b6 zs)))) λa w E I=>?_;refine RN 1 E I λa E=>?_;refine RT 0 E I ?_;rw[BH (by omega) (by omega) gH hm];refine⟨rfl,?_⟩;have iW:zs.length=(if t.fn=5 then v.net else v.net.eraseIdx j).length:=by rw[← a8 (f:=(·.2.2)),qC]
 have h1:=ch.close ((I.pick (ah b6 zs)).pick (Sl 60 3 cd zs.length cM (rows b0 zs))) qC iW.symm;refine bE.put (adP:=some ⟨bp,op,none⟩) (cP:=cP) (adN:=cd) (cN:=cM) (adE:=adE) (cE:=cE) eE dg eH hx (if t.fn=5 then v.net else v.net.eraseIdx j) ?_;rw[← iW];exact h1.sub
end
end
section
section
variable {W w:World}{L:List SP}{c:Nat}{p:Pr}{v:Wd}{D:nK}{t:fG}{cf:Cf}
theorem acA (I:U W w (bE W D p v::L))(hv:bK p cf c v)(a6:di p)(aG:p.title.size≤1000000000)(hf:t.fn=3∨t.fn=4∨t.fn=5∨t.fn=6) :
   Calls prog 70 #[pt D.wb,.agg (dR t).toArray] w λe w'=>e=.returned (.int .i64 (gG p t v).1)∧U W w' (bE W D p (gG p t v).2::L):=by
 by_cases h0:t.n<0∨(v.net.length:Int)≤t.n
 ·rw[Nz h0];exact acu I h0
 ·exact acv (j:=t.n.toNat) I hv a6 aG hf (by omega) (aD (by omega))
theorem acB (I:U W w (bE W D p v::L))(hv:bK p cf c v)(a6:di p)(aG:p.title.size≤1000000000)(hf:3≤t.fn∧t.fn≤6) :
   Calls prog 50 #[pt D.wb,.agg (dR t).toArray] w λe w'=>e=.returned (.int .i64 (bw p t v).1)∧U W w' (bE W D p (bw p t v).2::L):=by
 have aS:bw p t v=gG p t v:=by rw[bw,ag (by omega),ak hf]
 rw[aS];refine EN func50 ntmps50 rfl rfl λa E=>?_;refine BX 1 E I λb3 a w E I=>?_;change U W w (aa b3 58 (dR t)::_) at I;refine RN 7 E I λa E=>?_;rw[bn (by omega)]at E;refine RN 4 E I λa E=>?_;rw[bn (by omega)]at E;refine RN 7 E I λa E=>?_;rw[dh (by omega)]at E;refine RN 4 E I λa E=>?_;rw[dh (by omega)]at E;refine CL 4 E I (acA (I.pick (bE W D p v)) hv a6 aG (by omega)) λa w E I=>?_;refine RT 1 E I ?_;exact⟨rfl,I.sub⟩
theorem acC (I:U W w (bE W D p v::L))(hv:bK p cf c v)(a6:di p)(aG:p.title.size≤1000000000)(hc:c≤1000000) :
   Calls prog 50 #[pt D.wb,.agg (dR t).toArray] w λe w'=>e=.returned (.int .i64 (bw p t v).1)∧U W w' (bE W D p (bw p t v).2::L):=by
 by_cases hf:3≤t.fn∧t.fn≤6
 ·exact acB I hv a6 aG hf
 ·exact acs I hv a6 aG hc hf
end
end
section
section
variable {W w:World}{L:List SP}{c i:Nat}{p:Pr}{v:Wd}{B:js}
theorem acD (I:U W w (aN W B p c v::L))(hi:i<v.ps.length)(rP:v.ev.length=v.ps.length)(hl:(v.ev.getD i []).length≤1000000000) :
   Calls prog 34 #[pt B.mb,.int .i64 i] w λe w'=>∃ ad c',e=.returned (.slice ad (v.ev.getD i []).length c')∧U W w' (Sl 135 1 ad (v.ev.getD i []).length c' ((v.ev.getD i []).map cA)::aN W B p c v::L):=by
 replace I:=aN.wV I;obtain⟨adL,cL,adE,cE,xs,es,⟨h1,h2,h3⟩,I⟩:=I;have bV:xs.length=v.ps.length:=by rw[← h2,a8]
 have acE:es.length=v.ps.length:=by rw[← rP,← h3,a8]
 obtain⟨iw,ix,l,k6⟩:∃ iw ix l,es[i]?=some (iw,ix,l):=⟨_,_,_,aD (by omega)⟩;obtain⟨wZ,oN⟩:=a2.1 k6;have qq:v.ev.getD i []=l:=by rw[← h3,bl,bm,k6];rfl
 rw[qq]at hl ⊢;refine EN func34 ntmps34 rfl rfl λa E=>?_;refine CL 6 E I (rO ((I.pick (Sl 81 1 adL xs.length cL (xs.map cF))).pick (aa B.mb 107 [.slice adL xs.length cL,pt B.q,.slice adE es.length cE])) (by omega)) λa w E I=>?_;refine RN 1 E I λa E=>?_;replace E:=E.aM 8;refine RN 2 E I λa E=>?_;obtain⟨iH,oE,rfl,gk⟩:=(I.pick (Sl 90 1 adE es.length cE (es.map bx))).bU adE (by omega);have lM:=gk i (.slice iw l.length ix) (by rw[bm,k6];rfl);refine RN 6 E I λa E=>?_;refine SS E (ae E (lM)) λa E=>?_;replace I:=(I.pick (ah ey es)).fq wZ;rw[oN]at I;change U W w (Sl 135 1 iw l.length ix (l.map cA)::_) at I;refine aY 0 E I (Nu I hl) λad2 c2 a w E I=>?_;refine RT 1 E I ?_;refine⟨ad2,c2,rfl,?_⟩;have h4:=(I.pick (ah ey (es.eraseIdx i))).pick (Sl 135 1 iw l.length ix (l.map cA));have h5:U W w (ah ey es::_):=U.wS (f:=ey) wZ (by rw[oN];exact h4);have h6:U W w (aN W B p c v::Sl 135 1 ad2 l.length c2 (l.map cA)::L):=aN.u0 (adL:=adL) (cL:=cL) (adE:=some ⟨iH,oE,none⟩) (cE:=cE) (xs:=xs) (es:=es) h5.sub h1 h2 h3;exact h6.sub
end
end
section
def pQ (v:Wd):Prop:=∀ i,i<v.ps.length→(an v i).k.ev=[]
theorem acF {v:Wd}{i:Nat}(hi:i<v.ps.length)(hl:v.ev.length=v.ps.length)(h:(an v i).k.ev=[]):By i v=v:=by
 have h1:(⟨{ (an v i).k with ev:=[] },(an v i).g⟩:Pl)=v.ps[i]:=by
  rw[show ({ (an v i).k with ev:=[] }:Ks)=(an v i).k from by rw[← h]];show an v i=_;rw[an,bl,aD hi];rfl
 have h2:v.ev.getD i []++(an v i).k.ev=v.ev[i]'(by omega):=by
  rw[h,append_nil,bl,aD (by omega)];rfl
 rw[By,h1,h2,set_getElem_self,set_getElem_self]
theorem N0 {v:Wd}(hl:v.ev.length=v.ps.length)(h:pQ v):∀ i,i≤v.ps.length→cz v i=v
 | 0,_=>rfl
 | i+1,hi=>by
  show By i (cz v i)=v;rw[N0 hl h i (by omega)];exact acF (by omega) hl (h i (by omega))
theorem N1 {v:Wd}(hl:v.ev.length=v.ps.length)(h:pQ v):lC v=v:=N0 hl h _ (bd _)
theorem N2 (v:Wd):pQ (lC v):=λi hi=>by
 have h1:i<v.ps.length:=by rw[lC,(qF v _).1]at hi;exact hi
 rw[lC,yN v (bd _),ak h1]
theorem acG {p:Pr}{t:fG}{v:Wd}(h:t.fn=7):(bw p t v).2=v:=by
 rw[bw,ag (by omega),ag (by omega),gu];split
 ·rfl
 ·rw[ag (by omega),ag (by omega),ag (by omega)]
theorem acH {p:Pr}{t:fG}{v:Wd}(h:pQ v):pQ (cv p t v):=by
 unfold cv;split
 ·exact h
 ·exact N2 _
section
variable {W w:World}{L:List SP}{c i:Nat}{p:Pr}{v:Wd}{B:js}{D:nK}{t:fG}{cf:Cf}
theorem N3 {mb:Nat}(hmb:mb=B.mb)(I:U W w (aN W B p c v::L))(hB:B.Ok p (c+10))(hv:bK p cf c v)(jW:9*c+100≤1000000000) :
   Calls prog 29 #[pt mb,.agg (dR t).toArray] w λe w'=>∃ z:Int,e=.returned (.int .i64 z)∧(t.fn≠7→z=(bw p t v).1)∧(t.fn=7→BJ B t v z)∧U W w' (aN W B p (c+10) (lC (bw p t v).2)::L):=by
 subst hmb;exact NB I hB hv jW
set_option maxHeartbeats 2000000 in
theorem acI (I:U W w (aN W B p c v::bE W D p v::L))(w1:D.mb=B.mb)(hB:B.Ok p (c+10))(hv:bK p cf c v)(B0:pQ v)(jW:9*c+100≤1000000000)
   (N4:∀ (w:World) (u:Wd),bK p cf (c+10) u→pQ u→U W w (aN W B p (c+10) u::bE W D p u::L)→Calls prog 33 #[pt D.wb] w λe w'=>e=.returned (.bool true)∧U W w' (aN W B p (c+10) u::bE W D p u::L)) :
   Calls prog 32 #[pt D.wb,.agg (dR t).toArray] w λe w'=>e=.returned (.bool true)∧U W w' (aN W B p (c+10) (cv p t v)::bE W D p (cv p t v)::L):=by
 have jX:=hB.c;have hu:=hv.step (s:=t);refine EN func32 ntmps32 rfl rfl λa E=>?_;refine BX 1 E I λb3 a w E I=>?_;change U W w (aa b3 58 (dR t)::_) at I;refine IF 6 E I (λaj a E=>?_) λaj a E=>?_
 ·
  refine RN 1 E I λa E=>?_;replace I:=bE.open (I.pick (bE W D p v));obtain⟨adP,cP,adN,cN,adE,cE,xs,es,⟨eE,dg,eH⟩,I⟩:=I;refine bP 0 [4] [0,1,2,3003,1004,1005] E I λa w E I hH hC=>?_;refine RH 5 E I hH hC λa E=>?_;refine bh 0 E I (N3 w1 (I.pick (aN W B p c v)) hB hv jW) λz a w E ⟨_,_,I⟩=>?_;refine RN 1 E I λa E=>?_;rw[acG (by assumption),N1 hv.ev B0]at I;replace I:=bE.close (v:=v) (D:=D) (I.sub (M:=aa D.wb 40 [pt D.mb,.slice adP xs.length cP,.slice adN v.net.length cN,.slice adE es.length cE]::Sl 34 1 adP xs.length cP (xs.map dz)::ah (da W p) xs::ch 60 adN v.net.length cN v.net::Sl 70 1 adE es.length cE (es.map bx)::ah eT es::aN W B p (c+10) v::L)) eE dg eH;refine CL 1 E I (N4 _ v (hv.more (by omega)) B0 (I.pick (aN W B p (c+10) v))) λa w E I=>?_;refine RT 1 E I ?_;rw[cv,ak (by assumption)];exact⟨rfl,I⟩
 refine CL 3 E I (acC (I.pick (bE W D p v)) hv hB.pr hB.sz (by omega)) λa w E I=>?_;refine RN 3 E I λa E=>?_;generalize N5:(bw p t v).2=u at I hu;replace I:=bE.open (I.pick (bE W D p u));obtain⟨adP,cP,adN,cN,adE,cE,yV,yW,⟨eE,dg,eH⟩,I⟩:=I;have bV:yV.length=u.ps.length:=by rw[← dg,a8]
 have rP:yW.length=u.ps.length:=by rw[← hu.ev,← eH,a8]
 have wN:=hu.len;refine bP 0 [4] [0,1,2,6,3003,1004,1005,7] E I λa w E I hH hC=>?_;refine RH 6 E I hH hC λa E=>?_;refine bh 0 E I (N3 w1 (I.pick (aN W B p c v)) hB hv jW) λz a w E ⟨cU,_,I⟩=>?_;rw[cU (by assumption)]at E;rw[N5]at I;refine RN 1 E I λa E=>?_;rw[bn (by simp)]at E;refine RN 4 E I λa E=>?_;refine aO (λμ a w=>∃ (i:Nat) (xs:List (fS×Pl)) (es:List j9),(μ=u.ps.length-i∧(i≤u.ps.length∧xs.length=u.ps.length∧es.length=u.ps.length)∧xs.map (·.1)=D.mF∧xs.map (·.2)=(cz u i).ps∧es.map (·.2.2)=(cz u i).ev)∧Fr a 65 [(0,pt D.wb),(6,.int .i64 i)]∧U W w (aa D.wb 40 [pt D.mb,.slice adP u.ps.length cP,.slice adN u.net.length cN,.slice adE u.ps.length cE]::Sl 34 1 adP u.ps.length cP (xs.map dz)::ah (da W p) xs::ch 60 adN u.net.length cN u.net::Sl 70 1 adE u.ps.length cE (es.map bx)::ah eT es::aN W B p (c+10) (lC u)::L)) (u.ps.length) (⟨0,yV,yW,⟨rfl,⟨by omega,bV,rP⟩,eE,dg,eH⟩,E.ab [0,6],(by rw[bV,rP]at I;exact I.sub)⟩) ?_;clear E I;rintro μ a w ⟨i,xs,es,⟨rfl,⟨hi,yX,yY⟩,uq,sW,qp⟩,E,I⟩;refine IF 9 E I (λay a E=>?_) λay a E=>?_
 ·
  have aH:i<u.ps.length:=by omega
  obtain⟨x,hx⟩:∃ x,xs[i]?=some (x,(an (cz u i) i)):=BR sW (by omega);have tm:(xs.map dz)[i]?=some (pt x.pb):=by rw[bm,hx];rfl
  have hd:=hu.cz (i:=i) (by omega);obtain⟨hw,c9,wU⟩:=hd.pl i (by rw[(qF u i).1];exact aH);have GI:=hd.kA;have NC:=hw.wc.kA;obtain⟨iw,ix,l,k6⟩:∃ iw ix l,es[i]?=some (iw,ix,l):=⟨_,_,_,aD (by omega)⟩;obtain⟨_,oN⟩:=a2.1 k6;have gD:l.length≤9*(c+2):=(GI l (by rw[← qp];exact cV.2 ⟨(iw,ix,l),by rw[← oN];exact getElem_mem _,rfl⟩)).1;refine RN 1 E I λa E=>?_;obtain⟨bp,op,rfl,_⟩:=(I.pick (Sl 34 1 adP u.ps.length cP (xs.map dz))).bU adP (by omega);obtain⟨iH,oE,rfl,_⟩:=(I.pick (Sl 70 1 adE u.ps.length cE (es.map bx))).bU adE (by omega);replace I:=bY.open (BS (I.pick (ah (da W p) xs)) hx);refine aX 0 (λw0 w'=>(Rd w' D.wb 0 [pt D.mb,.slice (some ⟨bp,op,none⟩) u.ps.length cP,.slice adN u.net.length cN,.slice (some ⟨iH,oE,none⟩) u.ps.length cE]∧Rd w' iH oE (es.map bx))∧Rd w' bp op (xs.map dz)∧Rd w' x.pb 0 (eS p x (an (cz u i) i).g)) [8,10,11,15,17,18,19,20,21,22,23] [0,1,2,4,5,6,7,9,12,13,14,16,3003,3008,3010,3011,1015,1017,1018,1019,1020,1021,1022,1023,24,1025] E I λa w E I hH=>?_;have hC:=hH.at w ⟨⟨I.ai (b:=D.wb),I.cJ iH oE (by omega)⟩,I.cJ bp op (by omega),I.ai (b:=x.pb)⟩;refine RH 12 E I hH hC λa E=>?_;refine QH E (λw hc=>ae E (hc.1.1 3 _ rfl)) hC λa E=>?_;refine QH E (λw hc=>ae E (hc.1.1 3 _ rfl)) hC λa E=>?_;refine RH 1 E I hH hC λa E=>?_;refine QH E (λw hc=>ae E (hc.1.2 i (.slice iw l.length ix) (by rw[bm,k6];rfl))) hC λa E=>?_;refine RH 0 E I hH hC λa E=>?_;refine SS E (ae E (hC.1.1 1 _ rfl)) λa E=>?_;refine RH 1 E I hH hC λa E=>?_;refine SS E (ae E (hC.2.1 i _ tm)) λa E=>?_;refine RH 2 E I hH hC λa E=>?_;refine SS E (ae E (hC.2.2 0 _ rfl)) λa E=>?_;refine RH 0 E I hH hC λa E=>?_;refine aY 0 E I (aaF (I.pick (aZ x.core (an (cz u i) i).k))) λam jt a w E I=>?_;replace hC:=hH.at w ⟨⟨I.ai (b:=D.wb),I.cJ iH oE (by omega)⟩,I.cJ bp op (by omega),I.ai (b:=x.pb)⟩;replace I:=(I.pick (ah eT es)).fq (i:=i) (by omega);rw[oN]at I;change U W w (Sl 102 3 iw l.length ix (rows bT l)::_) at I;refine RH 0 E I hH hC λa E=>?_;refine gY E rfl I underlying70 Ty.t102 rfl rfl (by decide) (λh0=>(I.pick (Sl 102 3 am (an (cz u i) i).k.ev.length jt (rows bT (an (cz u i) i).k.ev))).bU am h0) (by rw[iY AR]) (zh E7 _) (by omega) λw3 w4 a w E I=>?_;replace hC:=hH.at w ⟨⟨I.ai (b:=D.wb),I.cJ iH oE (by omega)⟩,I.cJ bp op (by omega),I.ai (b:=x.pb)⟩;have hcE:=((I.pick (Sl 70 1 (some ⟨iH,oE,none⟩) u.ps.length cE (es.map bx))).sl (some ⟨iH,oE,none⟩)).2;obtain⟨iT,pre,post,⟨h3,h4,h5,h6⟩,gz⟩:=(I.pick (Sl 70 1 (some ⟨iH,oE,none⟩) u.ps.length cE (es.map bx))).lF (by omega);replace I:=gz;clear gz;obtain⟨rfl,rfl⟩:iH=iT∧oE=pre.length:=by simpa using h5
  refine RH 1 E I hH hC λa E=>?_;refine ST 0 E I (λa w E I=>?_) (hlt:=(by simp only[aL,a8];omega));refine RN 3 E I λa E=>?_;have qq:(cz u i).ev.getD i []=l:=by rw[← qp,bl,bm,k6];rfl
  have GJ:(es.map bx).set i (.slice w3 (l.length+(an (cz u i) i).k.ev.length) w4)=(es.set i (w3,w4,l++(an (cz u i) i).k.ev)).map bx:=by
   rw[List.map_set,bx,aL]
  have dv:=I;rw[yO (by rw[a8];omega),GJ]at dv;replace dv:=U.iJ (n:=u.ps.length) (c:=cE) (sz:=1) (dv.jI iH) (by rw[a8,bu];omega) h4 h6;have yP:=bY.fold dv x p ⟨{ (an (cz u i) i).k with ev:=[] },(an (cz u i) i).g⟩;have hk:=U.kG (f:=da W p) (x:=(x,⟨{ (an (cz u i) i).k with ev:=[] },(an (cz u i) i).g⟩)) (i:=i) (by omega) ((yP.pick (ah (da W p) (xs.eraseIdx i))).pick (bY W x p ⟨{ (an (cz u i) i).k with ev:=[] },(an (cz u i) i).g⟩));have pF:Sl 102 3 w3 (l.length+(an (cz u i) i).k.ev.length) w4 (rows bT l++rows bT (an (cz u i) i).k.ev)=eT (w3,w4,l++(an (cz u i) i).k.ev):=by
   rw[eT,aL,kh]
  have hq:=(hk.pick (ah eT (es.eraseIdx i))).pick (Sl 102 3 w3 (l.length+(an (cz u i) i).k.ev.length) w4 (rows bT l++rows bT (an (cz u i) i).k.ev));rw[pF]at hq;have eK:=U.kG (f:=eT) (i:=i) (by omega) hq;refine⟨u.ps.length-(i+1),by omega,i+1,xs.set i (x,⟨{ (an (cz u i) i).k with ev:=[] },(an (cz u i) i).g⟩),es.set i (w3,w4,l++(an (cz u i) i).k.ev),⟨rfl,⟨by omega,by rw[bu];exact yX,by rw[bu];exact yY⟩,(BU hx).2.trans uq,?_,?_⟩,E.ab [0,6],?_⟩
  ·rw[List.map_set,sW];rfl
  ·rw[List.map_set,qp,← qq];rfl
  ·rw[(BU hx).1];exact eK.sub
 refine RN 1 E I λa E=>?_;obtain rfl:i=u.ps.length:=by omega
 have eC:cv p t v=lC u:=by rw[cv,ag (by assumption),N5]
 rw[eC];have hD:U W w (bE W D p (lC u)::aN W B p (c+10) (lC u)::L):=by
  refine bE.close (adP:=adP) (cP:=cP) (adN:=adN) (cN:=cN) (adE:=adE) (cE:=cE) (xs:=xs) (es:=es) ?_ uq sW qp;rw[yX,yY,show (lC u).net=u.net from (qF u _).2.1];exact I.sub
 replace I:=hD.pick (aN W B p (c+10) (lC u));refine CL 1 E I (N4 _ (lC u) (hu.drain.more (by omega)) (N2 u) I) λa w E I=>?_;refine RT 1 E I ?_;exact⟨rfl,I⟩
end
end
section
section
variable {p:Pr}{cf:Cf}{K:Int→Prop}{G G':List (List UInt8)}{v:Wd}{c i j x y:Nat}{n:Nat}{T:Nat→Nat}{net:List Ml}{ev:List (List j5)}{m:Ml}{q:Pk}{b:UInt8}
theorem u9 (hi:i<n):an (fW p cf n) i=eu p (dy cf i):=by
 rw[an,fW,bl,bm,getElem?_range hi];rfl
theorem rT:(fW p cf n).ps.length=n:=by rw[fW,a8,length_range]
theorem tn (h:eQ cf)(hi:i<cf.n.toNat):eQ (dy cf i):=by
 obtain⟨⟨h1,h2,h3⟩,h4⟩:=h;refine⟨⟨h1,?_,h3⟩,h4⟩;show fv (i:Int) 0 (cf.n-1);unfold fv at h1 ⊢;omega
theorem GU (h:eQ cf):bK p cf 0 (fW p cf cf.n.toNat):=by
 refine⟨h,rT,?_,λi hi=>?_,⟨Nat.zero_le _,λm hm=>by cases hm⟩,λe he=>?_⟩
 ·rw[rT];exact kl
 ·rw[rT]at hi;rw[u9 hi];have h1:=tn h hi;obtain⟨mr,h2⟩:=u3 p h1;refine⟨cu.new h1,?_,by rw[h2];exact bd _⟩;rw[h2];exact (WC.new h1).2.2
 ·have h1:=List.eq_of_mem_replicate (show e∈List.replicate _ [] from he);subst h1;exact⟨Nat.zero_le _,λx hx=>by cases hx⟩
theorem N6 (h:eQ cf):pQ (fW p cf cf.n.toNat):=λi hi=>by
 rw[rT]at hi;rw[u9 hi];obtain⟨mr,h2⟩:=u3 p (tn h hi);rw[h2];rfl
theorem y1 (h:eQ cf)(hi:i<cf.n.toNat)(hj:j<cf.n.toNat):bq (fW p cf cf.n.toNat) i j=cf.aJ.toNat:=by
 rw[bq,u9 hi];obtain⟨mr,h2⟩:=u3 p (tn h hi);rw[h2];show ((List.replicate cf.n.toNat (List.replicate cf.aJ.toNat (0:UInt8))).getD j []).length=_;rw[bl,List.getElem?_replicate,ak hj];exact kl
theorem N7 (h:eQ cf)(hi:i<cf.n.toNat)(hj:j<cf.n.toNat):au (eu p (dy cf i)).k j=fw cf.aJ.toNat:=by
 obtain⟨mr,h2⟩:=u3 p (tn h hi);rw[h2,au,bl];show ((List.replicate cf.n.toNat (fw cf.aJ.toNat))[j]?).getD _=_;rw[List.getElem?_replicate,ak hj];rfl
theorem gv.new (h:eQ cf):gv p cf K (List.replicate cf.n.toNat (List.replicate cf.aJ.toNat 0)) (fW p cf cf.n.toNat):=by
 have hl:=rT (p:=p) (cf:=cf) (n:=cf.n.toNat);refine⟨λi hi=>?_,λa b E hb BO=>?_,λi hi=>?_,λm hm=>(by cases hm),λl hl e he=>?_,λi hi=>?_⟩
 ·rw[hl]at hi;rw[u9 hi];have h1:=tn h hi;obtain⟨mr,h2⟩:=u3 p h1;refine⟨cu.new h1,by rw[h2];exact Ext.refl _,by rw[h2];rfl,λj hj=>?_⟩;have k8:j<cf.n.toNat:=by
   rw[h2]at hj;have:j<(List.replicate cf.n.toNat (fw cf.aJ.toNat)).length:=hj
   rwa [kl]at this
  rw[N7 h hi k8];exact⟨rfl,Nat.zero_le _,λh=>absurd h (by show ¬ 0<0;omega)⟩
 ·rw[hl]at E hb;rw[y1 h hb E,y1 h E hb,pO,u9 E,N7 h E hb];exact⟨bd _,Nat.le_add_right _ _⟩
 ·rw[hl]at hi;rw[y1 h hi hi];have h1:cf.aJ.toNat≤aw (an (fW p cf cf.n.toNat) i).k:=by
   rw[u9 hi];obtain⟨mr,h2⟩:=u3 p (tn h hi);rw[h2];have hc:=(WC.new (tn h hi)).1;refine ES hc.kY λl hl=>?_;have:=List.eq_of_mem_replicate (show l∈List.replicate cf.n.toNat (List.replicate cf.aJ.toNat (0:UInt8)) from hl);rw[this,kl];exact bd _
  omega
 ·have h1:=List.eq_of_mem_replicate (show l∈List.replicate _ [] from hl);subst h1;cases he
 ·rw[N6 h i hi] ;intro e he;cases he
structure Lv (p:Pr)(cf:Cf)(T:Nat→Nat)(v:Wd):Prop where
 ok:∃ c,bK p cf c v
 ka:∃ G,gv p cf (·=1) G v
 op:∀ i,i<v.ps.length→(an v i).k.cl=false∧(an v i).k.now≤T i∧(an v i).k.ev=[]
 ev:∀ l∈v.ev,l=[]
theorem Lv.more (h:Lv p cf T v){T':Nat→Nat}(ht:∀ i,i<v.ps.length→T i≤T' i):Lv p cf T' v:=⟨h.ok,h.ka,λi hi=>⟨(h.op i hi).1,fA (h.op i hi).2.1 (ht i hi),(h.op i hi).2.2⟩,h.ev⟩
theorem Lv.calm (h:Lv p cf T v):pQ v:=λi hi=>(h.op i hi).2.2
theorem Lv.still (h:Lv p cf T v):lC v=v:=by
 obtain⟨c,hv⟩:=h.ok;exact N1 hv.ev h.calm
theorem Lv.new (h:eQ cf):Lv p cf (λ_=>0) (fW p cf cf.n.toNat):=⟨⟨0,GU h⟩,⟨_,gv.new h⟩,λi hi=>by
 rw[rT]at hi;rw[u9 hi];obtain⟨mr,h2⟩:=u3 p (tn h hi);rw[h2];exact⟨rfl,bd _,rfl⟩,λl hl=>List.eq_of_mem_replicate (show l∈List.replicate _ [] from hl)⟩
theorem Lv.len (h:Lv p cf T v):v.ps.length=cf.n.toNat∧2≤v.ps.length∧v.ps.length≤8:=by
 obtain⟨c,hv⟩:=h.ok;exact⟨hv.n,hv.len⟩
theorem Lv.N8 (h:Lv p cf T v)(hi:i<v.ps.length)(hj:j<v.ps.length):aw (an v i).k≤bq v i j:=by
 obtain⟨c,hv⟩:=h.ok;exact wm (ux (by rw[(hv.pl i hi).1.wc.ls,hv.kn hi];exact hj))
theorem Lv.N9 (h:Lv p cf T v)(hi:i<v.ps.length)(hx:∀ j,j<v.ps.length→x≤bq v i j):x≤aw (an v i).k:=by
 obtain⟨c,hv⟩:=h.ok;refine ES (hv.pl i hi).1.wc.kY λl hl=>?_;obtain⟨j,hj,rfl⟩:=List.getElem_of_mem hl;rw[(hv.pl i hi).1.wc.ls,hv.kn hi]at hj;have:=hx j hj;rw[bq,bl,aD (by rw[(hv.pl i hi).1.wc.ls,hv.kn hi];exact hj)]at this;exact this
theorem Lv.front {h:Nat}(rl:Lv p cf T v)(hi:i<v.ps.length)(hx:∀ j,j<v.ps.length→h≤bq v i j)(hy:j<v.ps.length)(he:bq v i j=h):aw (an v i).k=h :=
 Nat.le_antisymm (he ▸ rl.N8 hi hy) (rl.N9 hi hx)
theorem Lv.head (h:Lv p cf T v)(hi:i<v.ps.length):aE (an v i).k=bq v i i:=by
 obtain⟨c,hv⟩:=h.ok;rw[aE,(hv.qG hi).1];rfl
theorem Lv.acJ (h:Lv p cf T v)(hi:i<v.ps.length)(hj:j<v.ps.length):bq v i j≤bq v j j:=by
 obtain⟨c,hv⟩:=h.ok;obtain⟨G,ju⟩:=h.ka;exact (ju.BN hv hi hj).1
theorem Lv.al (h:Lv p cf T v)(hi:i<v.ps.length)(b n:Int):Lv p cf T (cv p ⟨1,i,b,n⟩ v)∧(cv p ⟨1,i,b,n⟩ v).net=v.net∧(cv p ⟨1,i,b,n⟩ v).ps.length=v.ps.length ∧
   (∀ x y,bq (cv p ⟨1,i,b,n⟩ v) x y=bq v x y+if (x=i∧y=i)∧bq v i i<1000∧bq v i i<cf.br.toNat+aw (an v i).k then 1 else 0) ∧
   (bq v i i<1000∧bq v i i<cf.br.toNat+aw (an v i).k→(bw p ⟨1,i,b,n⟩ v).1=0):=by
 obtain⟨c,hv⟩:=h.ok;obtain⟨G,ju⟩:=h.ka;obtain⟨ej,wX,bZ,hn,_⟩:=hv.qG hi;have aS:bw p ⟨1,i,b,n⟩ v=((dF p (fT b) (an v i)).1,{ v with ps:=v.ps.set i (dF p (fT b) (an v i)).2 }):=by
  rw[bw,ag (by show ¬ ((1:Int)<1∨(8:Int)<1);omega),ag (by show ¬ ((3:Int)≤1∧(1:Int)≤6);omega),BE rfl rfl hi]
 obtain⟨⟨G',h1⟩,h2⟩:=ju.al hv hi (fT b);have rF:=hv.al hi (fT b);have vA:(dF p (fT b) (an v i)).2.k.cl=(an v i).k.cl∧(dF p (fT b) (an v i)).2.k.now=(an v i).k.now∧(dF p (fT b) (an v i)).2.k.ev=(an v i).k.ev:=by
  by_cases h0:(dF p (fT b) (an v i)).1=0
  ·obtain⟨_,mr,hk⟩:=(ju.pl i hi).al h0;rw[hk];exact⟨rfl,rfl,rfl⟩
  ·rw[NH (hv.pl i hi).1 h0];exact⟨rfl,rfl,rfl⟩
 have rl:Lv p cf T { v with ps:=v.ps.set i (dF p (fT b) (an v i)).2 }:=⟨⟨_,rF⟩,⟨G',h1⟩,λj hj=>by
  have k8:j<v.ps.length:=by have:j<(v.ps.set i _).length:=hj;rwa [bu]at this
  rw[qE hi];split
  ·rename_i e;subst e;rw[vA.1,vA.2.1,vA.2.2];exact h.op _ hi
  ·exact h.op j k8,h.ev⟩
 have eC:cv p ⟨1,i,b,n⟩ v={ v with ps:=v.ps.set i (dF p (fT b) (an v i)).2 }:=by
  rw[cv,ag (by show ¬ (1:Int)=7;omega),aS,rl.still]
 have GV:(dF p (fT b) (an v i)).1=0↔bq v i i<1000∧bq v i i<cf.br.toNat+aw (an v i).k:=by
  have hd:=h.head hi;show (cZ (fT b) (an v i).k).1=0↔_;rw[cZ,ag (by rw[(h.op i hi).1];decide),← hd,← wX];split
  ·exact⟨λh=>absurd h (by intro e;cases e),λh=>by omega⟩
  ·split
   ·exact⟨λh=>absurd h (by intro e;cases e),λh=>by omega⟩
   ·exact⟨λ_=>by omega,λ_=>rfl⟩
 rw[eC];refine⟨rl,rfl,bu,λx y=>?_,λh=>by rw[aS];exact GV.2 h⟩;rw[h2];by_cases e:x=i∧y=i
 ·by_cases e2:(dF p (fT b) (an v i)).1=0
  ·rw[ak ⟨e,e2⟩,ak ⟨e,GV.1 e2⟩]
  ·rw[ag (λh=>e2 h.2),ag (λh=>e2 (GV.2 h.2))]
 ·rw[ag (λh=>e h.1),ag (λh=>e h.1)]
noncomputable def oP (v:Wd)(i:Nat):List Ml:=((List.range v.ps.length).filter (·≠i)).map λj=>(i,j,aR (dL (an v i).k j))
theorem acK {k:Ks}(hc:k.cl=false)(hn:k.now<39):bo k=((bF k).map λi=>(k.me,i,aR (dL k i)),{ k with now:=k.now+1 }):=by
 rw[bo,ag (by rw[hc];decide)];simp only;have:(bF { k with now:=k.now+1 }).find? (λi=>decide (jk { k with now:=k.now+1 } i))=none:=by
  rw[List.find?_eq_none];intro i _;rw[decide_eq_true_eq,jk];show ¬ (_+40≤k.now+1);omega
 rw[this];rfl
theorem Oa:∀ {l net:List Ml},net.length+l.length≤300→ew net l=net++l
 | [],net,_=>by rw[append_nil];rfl
 | m::l,net,h=>by
  rw[eL]at h;show ew (oJ net m) l=_;rw[oJ,ak (by omega),Oa (by rw[aL,jj];omega),du];rfl
theorem Lv.tick (h:Lv p cf T v)(hT:T i<39)(hi:i<v.ps.length)(hf:v.net.length+v.ps.length≤300)(b n:Int):Lv p cf (λj=>if j=i then T j+1 else T j) (cv p ⟨2,i,b,n⟩ v)∧(cv p ⟨2,i,b,n⟩ v).net=v.net++oP v i∧(cv p ⟨2,i,b,n⟩ v).ps.length=v.ps.length ∧
   (∀ x y,bq (cv p ⟨2,i,b,n⟩ v) x y=bq v x y)∧(∀ m∈oP v i,pP m=bq v i i)∧(bw p ⟨2,i,b,n⟩ v).1=0:=by
 obtain⟨c,hv⟩:=h.ok;obtain⟨G,ju⟩:=h.ka;obtain⟨ej,wX,bZ,hn,_⟩:=hv.qG hi;have ho:=h.op i hi;have fV:=acK ho.1 (by omega);have gL:(bo (an v i).k).1=oP v i:=by rw[fV,oP,bF,hn,ej]
 have l6:(oP v i).length≤v.ps.length:=by
  rw[oP,a8];exact fA (length_filter_le _ _) (by rw[length_range];exact bd _)
 have aS:bw p ⟨2,i,b,n⟩ v=(0,{ v with ps:=v.ps.set i ⟨(bo (an v i).k).2,(an v i).g⟩,net:=ew v.net (bo (an v i).k).1 }):=by
  rw[bw,ag (by show ¬ ((2:Int)<1∨(8:Int)<2);omega),ag (by show ¬ ((3:Int)≤2∧(2:Int)≤6);omega),wT rfl rfl hi]
 obtain⟨h1,h2⟩:=ju.tick hv hi rfl;have rl:Lv p cf (λj=>if j=i then T j+1 else T j) { v with ps:=v.ps.set i ⟨(bo (an v i).k).2,(an v i).g⟩,net:=ew v.net (bo (an v i).k).1 }:=⟨⟨_,hv.tick hi⟩,⟨G,h1⟩,λj hj=>by
  have k8:j<v.ps.length:=by have:j<(v.ps.set i _).length:=hj;rwa [bu]at this
  rw[qE hi];split
  ·rename_i e;subst e;show (bo (an v i).k).2.cl=false∧(bo (an v i).k).2.now≤_∧(bo (an v i).k).2.ev=[];rw[fV];exact⟨ho.1,by show (an v i).k.now+1≤if i=i then _ else _;rw[ak rfl];omega,ho.2.2⟩
  ·have:=h.op j k8;exact⟨this.1,by split <;> omega,this.2.2⟩,h.ev⟩
 have eC:cv p ⟨2,i,b,n⟩ v={ v with ps:=v.ps.set i ⟨(bo (an v i).k).2,(an v i).g⟩,net:=ew v.net (bo (an v i).k).1 }:=by
  rw[cv,ag (by show ¬ (2:Int)=7;omega),aS,rl.still]
 rw[eC];refine⟨rl,?_,bu,λx y=>h2 x y,λm hm=>?_,by rw[aS]⟩
 ·show ew v.net (bo (an v i).k).1=_;rw[gL,Oa (by omega)]
 ·rw[← gL]at hm;obtain⟨q,_,hq⟩:=ju.NQ hv hi rfl hm;exact hq
theorem acL (hj:j<v.ps.length)(bB:j≠i):∃ m∈oP v i,m.1=i∧m.2.1=j :=
 ⟨(i,j,aR (dL (an v i).k j)),cV.2 ⟨j,List.mem_filter.2 ⟨mem_range.2 hj,by simpa using bB⟩,rfl⟩,rfl,rfl⟩
theorem acM:(oP v i).length≤v.ps.length:=by
 rw[oP,a8];exact fA (length_filter_le _ _) (by rw[length_range];exact bd _)
theorem Lv.acN (h:Lv p cf T v)(vK:m∈v.net)(xK:∀ m∈net,m∈v.net)(hl:net.length≤v.net.length):Lv p cf T { v with ps:=v.ps.set m.2.1 (dG p m.2.2 (an v m.2.1)).2,net:=net }∧(dG p m.2.2 (an v m.2.1)).1=0 ∧
   (∀ x y,bq { v with ps:=v.ps.set m.2.1 (dG p m.2.2 (an v m.2.1)).2,net:=net } x y=if x=m.2.1∧y=m.1 then max (bq v x y) (pP m) else bq v x y)∧m.1<v.ps.length∧m.2.1<v.ps.length∧m.1≠m.2.1:=by
 obtain⟨c,hv⟩:=h.ok;obtain⟨G,ju⟩:=h.ka;obtain⟨q,hq⟩:=ju.net m vK;obtain⟨h1,h2⟩:=ju.recv hv vK xK;have hi:=hq.lt.2;obtain⟨ej,wX,bZ,hn,_⟩:=hv.qG hi;obtain⟨_,h0,mr,hk⟩:=(ju.pl _ hi).yo hq.ka (h.op _ hi).1 (by rw[hq.to,ej]) (by rw[hq.fr,hn];have:=hq.lt.1;omega) (by rw[hq.id,bZ]) hq.kind;rw[← hq.bs]at h0 hk;have oa:=hv.net.1;refine⟨⟨⟨_,hv.recv hi m.2.2 (net:=net) (by omega) λm hm=>hv.net.2 m (xK m hm)⟩,⟨G,h1⟩,λj hj=>?_,h.ev⟩,h0,λx y=>?_,hq.lt.1,hi,λe=>hq.ka.may.2.2.1 (by rw[hq.fr,hq.to,e])⟩
 ·have k8:j<v.ps.length:=by have:j<(v.ps.set m.2.1 _).length:=hj;rwa [bu]at this
  rw[qE hi];split
  ·rename_i e;subst e;rw[hk];exact h.op _ hi
  ·exact h.op j k8
 ·rw[h2];by_cases e:x=m.2.1∧y=m.1
  ·rw[ak ⟨e,(h.op _ hi).1⟩,ak e]
  ·rw[ag (λh=>e h.1),ag e]
theorem GW (p:Pr){r:List Ml}(hm:v.net=m::r)(a b:Int):bw p ⟨3,a,b,0⟩ v=((dG p m.2.2 (an v m.2.1)).1,{ v with ps:=v.ps.set m.2.1 (dG p m.2.2 (an v m.2.1)).2,net:=r }):=by
 rw[bw,ag (by show ¬ ((3:Int)<1∨(8:Int)<3);omega),ak (by show (3:Int)≤3∧(3:Int)≤6;omega),BH (j:=0) (m:=m) (by show (3:Int)≠4;omega) (by show (3:Int)≠6;omega) rfl (by rw[hm];rfl)];show (_,Wd.mk _ (if (3:Int)=5 then v.net else v.net.eraseIdx 0) _)=_;rw[ag (by omega),hm];rfl
theorem Lv.send (h:Lv p cf T v){r:List Ml}(hm:v.net=m::r)(a b:Int):Lv p cf T (cv p ⟨3,a,b,0⟩ v)∧(cv p ⟨3,a,b,0⟩ v).net=r∧(cv p ⟨3,a,b,0⟩ v).ps.length=v.ps.length ∧
   (∀ x y,bq (cv p ⟨3,a,b,0⟩ v) x y=if x=m.2.1∧y=m.1 then max (bq v x y) (pP m) else bq v x y)∧(bw p ⟨3,a,b,0⟩ v).1=0∧m.1<v.ps.length∧m.2.1<v.ps.length∧m.1≠m.2.1:=by
 obtain⟨h1,h2,h3,h4⟩:=h.acN (m:=m) (net:=r) (by rw[hm];exact mem_cons_self) (λm' oL=>by rw[hm];exact gJ _ oL) (by rw[hm,eL];omega);have eC:cv p ⟨3,a,b,0⟩ v={ v with ps:=v.ps.set m.2.1 (dG p m.2.2 (an v m.2.1)).2,net:=r }:=by
  rw[cv,ag (by show ¬ (3:Int)=7;omega),GW p hm,h1.still]
 rw[eC];exact⟨h1,rfl,bu,h3,by rw[GW p hm];exact h2,h4⟩
noncomputable def oQ (p:Pr):Nat→Wd→Wd
 | 0,v=>v
 | k+1,v=>oQ p k (cv p ⟨3,0,0,0⟩ v)
theorem Lv.B1:∀ {l:List Ml} {v:Wd},Lv p cf T v→v.net=l→Lv p cf T (oQ p l.length v)∧(oQ p l.length v).net=[]∧(oQ p l.length v).ps.length=v.ps.length ∧
   (∀ x y,bq v x y≤bq (oQ p l.length v) x y)∧(∀ x,x<v.ps.length→bq (oQ p l.length v) x x=bq v x x)∧(∀ m∈l,pP m≤bq (oQ p l.length v) m.2.1 m.1)∧∀ x y,(∀ m∈l,m.2.1=x→m.1=y→False)→bq (oQ p l.length v) x y=bq v x y
 | [],v,h,hm=>⟨h,hm,rfl,λ_ _=>bd _,λ_ _=>rfl,λm hm=>(by cases hm),λ_ _ _=>rfl⟩
 | m::l,v,h,hm=>by
  obtain⟨h1,h2,h3,h4,_,_,_,bB⟩:=h.send hm 0 0;obtain⟨g1,jy,nq,nr,qm,BZ,acO⟩:=Lv.B1 h1 h2;rw[eL];show Lv p cf T (oQ p l.length _)∧_;have acP:∀ x y,bq v x y≤bq (cv p ⟨3,0,0,0⟩ v) x y:=λx y=>by rw[h4];split <;> omega
  refine⟨g1,jy,nq.trans h3,λx y=>fA (acP x y) (nr x y),λx hx=>?_,λm' oL=>?_,λx y bQ=>?_⟩
  ·have:=qm x (by rw[h3];exact hx);refine this.trans ?_;rw[h4,ag];exact λe=>bB (e.2.symm.trans e.1)
  ·rcases List.mem_cons.1 oL with rfl | oL
   ·refine fA ?_ (nr _ _);rw[h4,ak ⟨rfl,rfl⟩];omega
   ·exact BZ m' oL
  ·refine (acO x y λm' oL=>bQ m' (gJ _ oL)).trans ?_;rw[h4,ag (λe=>bQ m mem_cons_self e.1.symm e.2.symm)]
end
end
section
section
variable {W w:World}{L:List SP}{c c' m i:Nat}{ad av:Option Addr}{ev:List (Nat×Nat×Nat)}{e:j5}{M:jo}{p:Pr}{s:Pl}{cf:Cf}
theorem acQ (I:U W w (Sl 135 1 ad ev.length c (ev.map cA)::L))(hn:ev.length≤1000000000)(ho:∀ e∈ev,s0 e):Calls prog 55 #[.slice ad ev.length c] w λr w'=>∃ av c',r=.returned (.slice av ev.length c')∧U W w' (Sl 102 3 av ev.length c' (rows bT ev)::L):=by
 refine EN func55 ntmps55 rfl rfl λa E=>?_;refine RN 7 E I λa E=>?_;replace I:=I.bN 102 3 none;refine aO (λμ a w=>∃ (i:Nat) (my:Option Addr) (co:Nat),(μ=ev.length-i∧i≤ev.length)∧Fr a 20 [(0,.slice ad ev.length c),(3,.slice my i co),(4,.int .i64 i)]∧U W w (Sl 102 3 my i co (rows bT (ev.take i))::Sl 135 1 ad ev.length c (ev.map cA)::L)) (ev.length) (⟨0,none,0,⟨rfl,by omega⟩,E.ab [0,3,4],(show U W w (Sl 102 3 none 0 0 (rows bT (ev.take 0))::_) from I).sub⟩) ?_;clear E I;rintro μ a w ⟨i,my,co,⟨rfl,hi⟩,E,I⟩;refine IF 6 E I (λaj a E=>?_) λaj a E=>?_
 ·
  have aH:i<ev.length:=by omega
  obtain⟨bi,oi,rfl,pn⟩:=(I.pick (Sl 135 1 ad ev.length c (ev.map cA))).bU ad (by omega);have fb:=pn i (cA ev[i]) (by rw[bm,aD aH];rfl);have Ob:=ho _ (getElem_mem aH);generalize yJ:ev[i]=x at fb Ob;have lM:Rd w bi (oi+i) [cA x]:=by
   intro k v hk;cases k with
   | zero=>simp at hk;subst hk;exact fb
   | succ k=>simp at hk
  refine RN 5 E I λa E=>?_;refine SS E (bR E underlying135 rfl Ty.t135 (lM)) λa E=>?_;refine CL 0 E I (YK I Ob) λa w E I=>?_;refine RN 0 E I λa E=>?_;refine cn E rfl I underlying70 Ty.t102 rfl rfl rfl rfl (by decide) (by decide) λie a w E I ho=>?_;clear ho;refine RN 0 E I λa E=>?_;refine cK E rfl I underlying70 Ty.t102 rfl rfl I.ai rfl (λv hv=>E7 x v (by simpa using hv)) (by decide) (by decide) (by omega) λF3 F4 a w E I=>?_;rw[show rows bT (ev.take i)++_=rows bT (ev.take (i+1)) from by rw[← List.take_append_getElem aH,kh,yJ];rfl]at I;refine RN 4 E I λa E=>?_;exact⟨ev.length-(i+1),by omega,i+1,F3,F4,⟨rfl,by omega⟩,E.ab [0,3,4],I.sub⟩
 refine RT 3 E I ?_;obtain rfl:i=ev.length:=by omega
 rw[take_length]at I;exact⟨my,co,rfl,I.sub⟩
theorem acR (I:U W w (Sl 102 3 ad ev.length c (rows bT ev)::Sl 102 3 av ev.length c' (rows bT ev)::L))(hn:ev.length≤1000000000):Calls prog 54 #[.slice ad ev.length c,.slice av ev.length c'] w λr w'=>r=.returned (.bool true)∧U W w' (Sl 102 3 ad ev.length c (rows bT ev)::Sl 102 3 av ev.length c' (rows bT ev)::L):=by
 refine EN func54 ntmps54 rfl rfl λa E=>?_;refine RN 9 E I λa E=>?_;rw[bn (by omega)]at E;refine RN 4 E I λa E=>?_;refine aO (λμ a w=>∃ (i:Nat),(μ=ev.length-i∧i≤ev.length)∧Fr a 27 [(0,.slice ad ev.length c),(1,.slice av ev.length c'),(5,.int .i64 i)]∧U W w (Sl 102 3 ad ev.length c (rows bT ev)::Sl 102 3 av ev.length c' (rows bT ev)::L)) (ev.length) (⟨0,⟨rfl,by omega⟩,E.ab [0,1,5],I⟩) ?_;clear E I;rintro μ a w ⟨i,⟨rfl,hi⟩,E,I⟩;refine IF 6 E I (λao a E=>?_) λao a E=>?_
 ·
  have aH:i<ev.length:=by omega
  refine RN 2 E I λa E=>?_;obtain⟨mn,ox,rfl,fD⟩:=I.drew.bU ad (by omega);obtain⟨GX,GY,rfl,oH⟩:=I.drew.tail.bU av (by omega);replace fD:=jl AR fD (aD aH);replace oH:=jl AR oH (aD aH);generalize ev[i]=x at fD oH;refine qT 0 (λw'=>Rd w' mn (ox+i*3) (bT x)∧Rd w' GX (GY+i*3) (bT x)) [7] [0,1,2,4,5,6,3003,1007,1008,9] E I λa E=>?_;replace I:=I.drew;generalize w.drew=w at I fD oH ⊢;have hC:Rd w mn (ox+i*3) (bT x)∧Rd w GX (GY+i*3) (bT x):=⟨fD,oH⟩;have hH:=Hd.any (λw'=>Rd w' mn (ox+i*3) (bT x)∧Rd w' GX (GY+i*3) (bT x));refine RH 6 E I hH hC λa E=>?_;refine QH E (λw hc=>bR E underlying102 rfl Ty.t102 (hc.1)) hC λa E=>?_;refine RH 0 E I hH hC λa E=>?_;refine SS E (bR E underlying102 rfl Ty.t102 (hC.2)) λa E=>?_;refine RH 0 E I hH hC λa E=>?_;refine CL 0 E I (aa7 I) λa w E I=>?_;refine RN 1 E I λa E=>?_;replace E:=E.aM 26;refine RN 4 E I λa E=>?_;exact⟨ev.length-(i+1),by omega,i+1,⟨rfl,by omega⟩,E.ab [0,1,5],I⟩
 refine RT 2 E I ?_;exact⟨rfl,I⟩
theorem acS (I:U W w (fg W M p cf i s::L)) :
   Calls prog 56 #[pt M.mb,.agg (bS cf).toArray] w λe w'=>e=.returned (.bool true)∧U W w' (fg W M p cf i s::L):=by
 replace I:=fg.open I;obtain⟨m,⟨rfl,hI,hc⟩,I⟩:=I;exact (abZ I hI hc).mono λe w' ⟨h1,h2⟩=>⟨h1,fg.close h2 hI (bd _) rfl hc⟩
end
end
section
def y2 (W:World)(p:Pr)(ad:Option Addr)(c:Nat):Prop:=(rows dN p.ops).length=p.ops.length*4∧p.ops.length≤c∧(0<p.ops.length→∃ b off,ad=some ⟨b,off,none⟩∧b<W.heap.size∧Rd W b off (rows dN p.ops))
def B2 (W:World)(mF:List fS)(cf:Cf)(tb:List UInt8):Prop:=∀ r∈mF,r.gs=⟨cf.bf,cf.order,tb⟩∧aT W r.adT tb.length tb
section
variable {W w:World}{L:List SP}{n c cP cT i:Nat}{ad adP adT:Option Addr}{p:Pr}{tb:List UInt8}{cf:Cf}{gw:Bool}
theorem y2.ro (h:y2 W p ad c)(I:U W w L):U W w (aA W p ad c::L):=I.UT h.1 h.2.1 h.2.2
theorem Rd.lt {b off:Nat}{v:Value}{vs:List Value}(h:Rd w b off (v::vs)):b<w.heap.size:=by
 have h1:=h 0 v rfl;rcases Nat.lt_or_ge b w.heap.size with h2 | h2
 ·exact h2
 ·rw[World.cell?]at h1;simp[h2]at h1
theorem U.roW (I:U W w (aA W p ad c::L)):y2 w p ad c:=by
 obtain⟨h1,h2⟩:=I.ro ad;refine⟨h1,h2,λh0=>?_⟩;obtain⟨b,off,rfl,hr⟩:=I.q6 ad h0;refine⟨b,off,rfl,?_,hr⟩;cases hl:rows dN p.ops with
 | nil=>rw[hl]at h1;simp at h1;omega
 | cons v vs=>rw[hl]at hr;exact hr.lt
theorem Oc (I:U W w L):∀ n:Nat,U W w (ah eT (List.replicate n (none,0,[]))::L)
 | 0=>U.iK I
 | n+1=>U.vu (f:=eT) (x:=(none,0,[])) ((Oc I n).bN 102 3 none)
set_option maxHeartbeats 1000000 in
theorem acT (fU:nf (dy cf 0) p tb)(I:U W w L)(y3:y2 W p adP cP)(hn:tb.length=n)(a6:di p)(aG:p.title.size≤1000000000)(dU:p.ops.length≤1000000000)(eG:tb.length≤1099511627776)(hT:∀ w',U W w' []→aT w' adT tb.length tb) :
   Calls prog 30 #[.agg (bS cf).toArray,.agg (bO p adP cP).toArray,.slice adT n cT,.bool gw] w λr w'=>∃ (B:js) (D:nK),r=.returned (pt D.wb)∧(D.mb=B.mb∧u4 B.fp cf tb gw cf.n.toNat∧B2 W D.mF cf tb)∧U W w' (aN W B p 0 (fW p cf cf.n.toNat)::bE W D p (fW p cf cf.n.toNat)::L):=by
 have pf:=fU.1.1.1;unfold fv at pf;obtain⟨N,hN⟩:∃ N:Nat,(dy cf 0).n=N:=⟨(dy cf 0).n.toNat,by omega⟩;replace hN:cf.n=N:=hN;have hN2:2≤N∧N≤8:=by
  have h1:(dy cf 0).n=cf.n:=rfl;omega
 have hTW:aT W adT tb.length tb:=hT W (U.start W);rw[show cf.n.toNat=N from by omega];refine EN func30 ntmps30 rfl rfl λa E=>?_;refine BX 1 E I λb4 a w E I=>?_;change U W w (aa b4 28 (bS cf)::_) at I;refine BX 0 E I λb5 a w E I=>?_;change U W w (aa b5 45 (bO p adP cP)::_) at I;refine ST 3 E I (λa w E I=>?_);refine RN 0 E I λa E=>?_;change U W w (aa b4 28 (bS (dy cf 0))::_) at I;refine RN 5 E I λa E=>?_;replace I:=y3.ro I;refine bh 0 E I (NT (cf:=dy cf 0) fU I hn aG dU eG (λw' dd=>hT _ dd.nil)) λB a w E ⟨hB,I⟩=>?_;refine RN 5 E I λa E=>?_;rw[show (dy cf 0).n.toNat=N from by show cf.n.toNat=N;omega]at I hB;replace I:U W w (aN W B p 0 (fW p cf N)::aA W p adP cP::_):=I;replace I:=I.sub (M:=aN W B p 0 (fW p cf N)::aa b4 28 (bS (dy cf 0))::aa b5 45 (bO p adP cP)::L);refine RN 5 E I λa E=>?_;replace E:=E.aM 24;refine RN 3 E I λa E=>?_;replace E:=E.aM 27;refine RN 5 E I λa E=>?_;rw[show (dy cf 0).n=(N:Int) from hN]at E;refine qO E rfl I underlying38 Ty.t70 rfl (by omega) (by omega) λtp a w E I ho=>?_;clear ho;rw[Bk _ rfl]at I;refine BX 1 E I λjz a w E I=>?_;refine RN 1 E I λa E=>?_;replace I:=U.iK (f:=da W p) (I.bN 34 1 none);refine RN 3 E I λa E=>?_;refine aO (λμ a w=>∃ (i:Nat) (adL:Option Addr) (cL:Nat) (rs:List (fS×Pl)) (me:Int),(μ=N-i∧(i≤N∧rs.length=i)∧rs.map (·.2)=(List.range i).map (λi=>eu p (dy cf i))∧B2 W (rs.map (·.1)) cf tb)∧Fr a 56 [(2,.slice adT n cT),(4,pt b4),(5,pt b5),(11,pt jz),(12,.int .i64 i)]∧U W w (aa jz 40 [pt B.mb,.slice adL i cL,.slice none 0 0,.slice (some ⟨tp,0,none⟩) N N]::Sl 34 1 adL i cL (rs.map dz)::ah (da W p) rs::aa tp 70 (List.replicate N (.slice none 0 0))::aa b4 28 (bS { cf with me:=me })::aa b5 45 (bO p adP cP)::aN W B p 0 (fW p cf N)::L)) (N) (⟨0,none,0,[],0,⟨rfl,⟨by omega,rfl⟩,rfl,λr h=>by cases h⟩,E.ab [2,4,5,11,12],(show U W w (ah (da W p) []::Sl 34 1 none 0 0 (([]:List (fS×Pl)).map dz)::aa jz 40 _::aa tp 70 _::aN W B p 0 (fW p cf N)::aa b4 28 (bS { cf with me:=0 })::_) from I).sub⟩) ?_;clear E I;rintro μ a w ⟨i,adL,cL,rs,me,⟨rfl,⟨hi,gk⟩,eW,j0⟩,E,I⟩;refine RN 5 E I λa E=>?_;rw[hN]at E;refine IF 1 E I (λao a E=>?_) λao a E=>?_
 ·
  have aH:i<N:=by omega
  have GP:=NR (i:=i) fU (by show (i:Int)<(dy cf 0).n;rw[show (dy cf 0).n=(N:Int) from hN];omega);refine ST 4 E I (λa w E I=>?_);refine RN 0 E I λa E=>?_;replace I:U W w (aa b4 28 (bS (dy cf i))::_):=I;refine aX 0 (λw0 w'=>Rd w' jz 0 [pt B.mb,.slice adL i cL,.slice none 0 0,.slice (some ⟨tp,0,none⟩) N N]∧Rd w' b4 0 (bS (dy cf i))∧Rd w' b5 0 (bO p adP cP)) [5,6,8,9] [0,1,2,3,7,3004,3005,1006,1008,1009,1010,11,12,1013] E I λa w E I hH=>?_;have hC:=hH.at w ⟨I.ai (b:=jz),I.ai (b:=b4),I.ai (b:=b5)⟩;refine RH 5 E I hH hC λa E=>?_;refine QH E (λw hc=>ae E (hc.1 1 _ rfl)) hC λa E=>?_;refine QH E (λw hc=>bR E underlying28 rfl Ty.t28 (hc.2.1)) hC λa E=>?_;refine RH 0 E I hH hC λa E=>?_;refine SS E (bR E underlying45 rfl Ty.t45 (hC.2.2)) λa E=>?_;replace I:=y3.ro I;refine RH 0 E I hH hC λa E=>?_;refine bh 0 E I (abL (cf:=dy cf i) GP.1 I hn a6 aG) λr a w E ⟨hr,I⟩=>?_;replace hC:=hH.at w ⟨I.ai (b:=jz),I.ai (b:=b4),I.ai (b:=b5)⟩;refine RH 0 E I hH hC λa E=>?_;refine cn E rfl I underlying36 Ty.t34 rfl rfl rfl rfl (by decide) (by decide) λQR a w E I ho=>?_;clear ho;replace hC:=hH.at w ⟨I.ai (b:=jz),I.ai (b:=b4),I.ai (b:=b5)⟩;refine RH 0 E I hH hC λa E=>?_;refine cK E rfl I underlying36 Ty.t34 rfl rfl I.ai rfl (by simp[Value.oneCell']) (by decide) (by decide) (by omega) λrq rr a w E I=>?_;rw[show List.map dz rs++_=(rs++[((r:fS),eu p (dy cf i))]).map dz from by rw[cW];rfl]at I;refine ST 2 E I (λa w E I=>?_);refine RN 3 E I λa E=>?_;have kv:U W w (da W p (r,eu p (dy cf i))::_):=(I.pick (ah (da W p) rs)).pick (bY W r p (eu p (dy cf i)));have hA:=U.jL (f:=da W p) (x:=(r,eu p (dy cf i))) kv;refine⟨N-(i+1),by omega,i+1,rq,rr,rs++[(r,eu p (dy cf i))],i,⟨rfl,⟨by omega,by rw[aL,gk];rfl⟩,?_,?_⟩,E.ab [2,4,5,11,12],?_⟩
  ·rw[cW,eW,range_succ,cW];rfl
  ·intro x hx;rw[cW]at hx;rcases eN.1 hx with hx | hx
   ·exact j0 x hx
   ·rw[mem_singleton.1 hx,hr.2];exact⟨hr.1,hTW⟩
  ·rw[show ({ cf with me:=(i:Int) }:Cf)=dy cf i from rfl];exact hA.sub
 obtain rfl:i=N:=by omega
 refine RT 3 E I ?_;have h1:=I.jI tp;rw[show List.replicate i (Value.slice none 0 0)=[]++(List.replicate i ((none,0,[]):j9)).map bx++[] from by rw[nil_append,append_nil,map_replicate];rfl]at h1;have h2:=Oc (U.iJ (n:=i) (c:=i) (sz:=1) h1 (by rw[a8,kl,Nat.mul_one]) (bd _) (by simp)) i;simp only[length_nil]at h2;have h3:=ch.nil (e:=60) h2;refine⟨B,⟨jz,B.mb,rs.map (·.1)⟩,rfl,⟨rfl,hB,j0⟩,?_⟩;have h4:U W w (bE W ⟨jz,B.mb,rs.map (·.1)⟩ p (fW p cf i)::aN W B p 0 (fW p cf i)::L):=by
  refine bE.close (adP:=adL) (cP:=cL) (adN:=none) (cN:=0) (adE:=some ⟨tp,0,none⟩) (cE:=i) (xs:=rs) (es:=List.replicate i (none,0,[])) ?_ rfl eW (by rw[map_replicate];rfl);rw[gk,kl];exact h3.sub (M:=aa jz 40 [pt B.mb,.slice adL i cL,.slice none 0 0,.slice (some ⟨tp,0,none⟩) i i]::Sl 34 1 adL i cL (rs.map dz)::ah (da W p) rs::ch 60 none 0 0 []::Sl 70 1 (some ⟨tp,0,none⟩) i i ((List.replicate i ((none,0,[]):j9)).map bx)::ah eT (List.replicate i (none,0,[]))::aN W B p 0 (fW p cf i)::L)
 exact h4.sub
end
end
end Go.Proofs.YteoldcfapaiobaaGreat
