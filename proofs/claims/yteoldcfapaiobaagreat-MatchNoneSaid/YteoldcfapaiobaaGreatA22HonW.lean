/- A match of players of whom none lies, plainly: the document's R3. -/
import Derived.Test.YteoldcfapaiobaaGreatA21MatM
import Derived.Test.YteoldcfapaiobaaGreatA20MulN
import Derived.Test.YteoldcfapaiobaaGreatA18MulA
namespace Go.Proofs.YteoldcfapaiobaaGreat
open Go.RowKit
set_option linter.unusedVariables false
set_option linter.unusedSimpArgs false
set_option maxRecDepth 10000
set_option synthInstance.maxSize 4000
set_option synthInstance.maxHeartbeats 400000
section
def knW (v:Wd)(i j:Nat):Nat:=((plW v i).k.ls.getD j []).length
def hsW (v:Wd)(i j:Nat):Nat:=(peK (plW v i).k j).has
noncomputable def valM (m:Ml):Nat:=match decO m.2.2 with
 | some q=>if q.kind=1 then q.first.toNat+q.press.length else 0
 | none=>0
structure MlOk (p:Pr)(cf:Cf)(K:Int→Prop)(G:List (List UInt8))(v:Wd)(m:Ml)(q:Pk):Prop where
 hon:HonPk p G q
 kind:K q.kind
 fr:q.from'=m.1
 to:q.to=m.2.1
 bs:m.2.2=encO q
 lt:m.1<v.ps.length∧m.2.1<v.ps.length
 id:q.id=cf.id
 seg:q.kind=1→q.ack.toNat≤knW v m.1 m.2.1∧q.first.toNat≤knW v m.2.1 m.1∧q.first.toNat+q.press.length≤q.ack.toNat+cf.window.toNat
structure HonG (p:Pr)(cf:Cf)(K:Int→Prop)(G:List (List UInt8))(v:Wd):Prop where
 pl:∀ i,i<v.ps.length→Hon p G (plW v i)
 ac:∀ i j,i<v.ps.length→j<v.ps.length→i≠j→hsW v i j≤knW v j i∧knW v i j≤hsW v i j+cf.window.toNat
 hd:∀ i,i<v.ps.length→knW v i i≤frontK (plW v i).k+cf.window.toNat
 net:∀ m∈v.net,∃ q,MlOk p cf K G v m q
 evs:∀ l∈v.ev,∀ e∈l,e.1≠3
 evk:∀ i,i<v.ps.length→∀ e∈(plW v i).k.ev,e.1≠3
section
variable {p:Pr}{cf:Cf}{K:Int→Prop}{G G':List (List UInt8)}{v u:Wd}{c i j x y:Nat}{s':Pl}{net:List Ml}{ev:List (List Evt)}{m:Ml}{q:Pk}{t:Sp4}{b:UInt8}
theorem WdOk.cfk (h:WdOk p cf c v)(hi:i<v.ps.length):(plW v i).k.me=i∧(plW v i).k.window=cf.window.toNat∧(plW v i).k.id=cf.id∧(plW v i).k.n=v.ps.length∧(plW v i).k.delay=cf.delay.toNat:=by
 have h1:=(h.pl i hi).2.1
 have h2:(ksCf (plW v i).k).me=(i:Int):=by rw[h1]
 have h3:(ksCf (plW v i).k).window=cf.window:=by rw[h1]
 have h4:(ksCf (plW v i).k).id=cf.id:=by rw[h1]
 have h5:(ksCf (plW v i).k).delay=cf.delay:=by rw[h1]
 simp only[ksCf]at h2 h3 h4 h5
 exact⟨by omega,by omega,h4,h.kn hi,by omega⟩
theorem WdOk.win (h:WdOk p cf c v):1≤cf.window.toNat∧cf.window.toNat≤16:=by
 have h1:=h.may.2.1.2.1
 unfold inI at h1
 omega
theorem knW_set (hi:i<v.ps.length):knW ⟨v.ps.set i s',net,ev⟩ x y=if i=x then (s'.k.ls.getD y []).length else knW v x y:=by
 rw[knW,plW_set hi];split <;> rfl
theorem hsW_set (hi:i<v.ps.length):hsW ⟨v.ps.set i s',net,ev⟩ x y=if i=x then (peK s'.k y).has else hsW v x y:=by
 rw[hsW,plW_set hi];split <;> rfl
theorem setSelf (hi:i<v.ps.length):v.ps.set i (plW v i)=v.ps:=by
 rw[plW,List.getD_eq_getElem?_getD,List.getElem?_eq_getElem hi]
 exact List.set_getElem_self _
theorem lenSet {l:List (List UInt8)}{a:List UInt8}(hi:i<l.length):((l.set i a).getD j []).length=if i=j then a.length else (l.getD j []).length:=by
 rw[List.getD_eq_getElem?_getD,List.getElem?_set]
 split
 · rename_i h;subst h;rfl
 · rw[List.getD_eq_getElem?_getD]
theorem putLn_max {l a:List UInt8}{f:Nat}(h1:f≤l.length)(h2:f+a.length≤1000)(h3:l.length≤1000):(putLn l f a).length=max l.length (f+a.length):=by
 rw[putLn,if_neg (by omega),List.length_append,List.length_take,List.length_drop];omega
theorem hearP_has (now head:Nat)(q:Pk)(z:Pe):(hearP now head q z).has=if z.has<q.ack.toNat∧q.ack.toNat≤head then q.ack.toNat else z.has:=by
 unfold hearP;simp only;split <;> rfl
theorem HonG.kn_le (h:HonG p cf K G v)(hv:WdOk p cf c v)(hi:i<v.ps.length)(hj:j<v.ps.length):knW v i j≤knW v j j∧(G.getD j []).length=knW v j j:=by
 have h1:=(h.pl j hj).own
 rw[(hv.cfk hj).1]at h1
 obtain⟨t,ht⟩:=(h.pl i hi).ext.2 j (by rw[(hv.pl i hi).1.wc.ls,(hv.cfk hi).2.2.2.1];exact hj)
 have h2:(G.getD j []).length=knW v j j:=by rw[← h1];rfl
 refine⟨?_,h2⟩
 rw[← h2,ht,List.length_append,knW];omega
theorem HonG.glen (h:HonG p cf K G v)(hv:WdOk p cf c v):G.length=v.ps.length∧G≠[]:=by
 have h0:=hv.len
 have h1:=h.pl 0 (by omega)
 exact⟨by rw[h1.lens,hv.kn (by omega)],h1.gne⟩
theorem MlOk.more (h:MlOk p cf K G v m q)(hE:Ext G G')(h0:G≠[])(hG:G.length=v.ps.length)(hl:u.ps.length=v.ps.length)(hk:∀ a b,knW v a b≤knW u a b):MlOk p cf K G' u m q:=by
 refine⟨h.hon.ext hE h0 (by have:=h.lt.1;have:=h.fr;omega),h.kind,h.fr,h.to,h.bs,by rw[hl];exact h.lt,h.id,λh1=>?_⟩
 obtain⟨a1,a2,a3⟩:=h.seg h1
 exact⟨Nat.le_trans a1 (hk _ _),Nat.le_trans a2 (hk _ _),a3⟩
theorem MlOk.dec (h:MlOk p cf K G v m q):decO m.2.2=some q:=by rw[h.bs];exact decO_enc h.hon.may h.hon.sum
theorem MlOk.val (h:MlOk p cf K G v m q):valM m=if q.kind=1 then q.first.toNat+q.press.length else 0:=by rw[valM,h.dec]
theorem HonG.put (h:HonG p cf K G v)(hv:WdOk p cf c v)(hi:i<v.ps.length)(hH:Hon p G' s')(hE:Ext G G')(hO:∀ j,j≠i→G'.getD j []=G.getD j [])(hk:∀ j,knW v i j≤(s'.k.ls.getD j []).length)
   (hac:∀ j,j<v.ps.length→j≠i→(peK s'.k j).has≤knW v j i∧(s'.k.ls.getD j []).length≤(peK s'.k j).has+cf.window.toNat) (hhd:(s'.k.ls.getD i []).length≤frontK s'.k+cf.window.toNat)
   (hek:∀ e∈s'.k.ev,e.1≠3) (hnet:∀ m∈net,m∈v.net∨∃ q,MlOk p cf K G' ⟨v.ps.set i s',net,ev⟩ m q) (hev:∀ l∈ev,∀ e∈l,e.1≠3):HonG p cf K G' ⟨v.ps.set i s',net,ev⟩:=by
 have hg:=h.glen hv
 have hl:(⟨v.ps.set i s',net,ev⟩:Wd).ps.length=v.ps.length:=List.length_set
 have hm:∀ a b,knW v a b≤knW ⟨v.ps.set i s',net,ev⟩ a b:=λa b=>by
   rw[knW_set hi]
   split
   · rename_i e;subst e;exact hk b
   · exact Nat.le_refl _
 refine⟨λj hj=>?_,λa b ha hb hab=>?_,λj hj=>?_,λm hm1=>?_,hev,λj hj=>?_⟩
 · rw[hl]at hj
   rw[plW_set hi]
   split
   · exact hH
   · rename_i e
     exact (h.pl j hj).more hE (by rw[(hv.cfk hj).1];exact hO j (λe2=>e e2.symm))
 · rw[hl]at ha hb
   rw[knW_set hi,knW_set hi,hsW_set hi]
   by_cases h1:i=a
   · subst h1
     rw[if_pos rfl,if_neg hab,if_pos rfl]
     exact hac b hb (Ne.symm hab)
   · rw[if_neg h1,if_neg h1]
     have h3:=h.ac a b ha hb hab
     by_cases h2:i=b
     · subst h2
       rw[if_pos rfl]
       exact⟨Nat.le_trans h3.1 (hk a),h3.2⟩
     · rw[if_neg h2];exact h3
 · rw[hl]at hj
   rw[knW_set hi,plW_set hi]
   split
   · rename_i e;subst e;exact hhd
   · exact h.hd j hj
 · rcases hnet m hm1 with h1 | h1
   · obtain⟨q,hq⟩:=h.net m h1
     exact⟨q,hq.more hE hg.2 hg.1 hl hm⟩
   · exact h1
 · rw[hl]at hj
   rw[plW_set hi]
   split
   · exact hek
   · exact h.evk j hj
theorem HonG.press (h:HonG p cf K G v)(hv:WdOk p cf c v)(hi:i<v.ps.length)(b:UInt8):(∃ G',HonG p cf K G' { v with ps:=v.ps.set i (pressP p b (plW v i)).2 }) ∧
   ∀ x y,knW { v with ps:=v.ps.set i (pressP p b (plW v i)).2 } x y=knW v x y+if (x=i∧y=i)∧(pressP p b (plW v i)).1=0 then 1 else 0:=by
 obtain⟨hme,hwin,hid,hn,_⟩:=hv.cfk hi
 by_cases h0:(pressP p b (plW v i)).1=0
 · obtain⟨hH,mr,hk⟩:=(h.pl i hi).press h0
   obtain⟨g1,g2,g3,g4⟩:=press_ls (k:=(plW v i).k) (b:=b) h0
   rw[hme]at hH hk
   have hil:i<(plW v i).k.ls.length:=by rw[(hv.pl i hi).1.wc.ls,hn];exact hi
   have hls:(pressP p b (plW v i)).2.k.ls=(plW v i).k.ls.set i ((plW v i).k.ls.getD i []++[b]):=by rw[hk]
   have hps:∀ j,peK (pressP p b (plW v i)).2.k j=peK (plW v i).k j:=λj=>by rw[peK,hk];rfl
   have hln:∀ j,((pressP p b (plW v i)).2.k.ls.getD j []).length=knW v i j+if i=j then 1 else 0:=λj=>by
     rw[hls,lenSet hil]
     split
     · rename_i e;subst e;rw[List.length_append];rfl
     · rfl
   have hfr:frontK (plW v i).k≤frontK (pressP p b (plW v i)).2.k:=by
     rw[frontK,frontK,hls]
     exact Ext.set.front (hv.pl i hi).1.wc.lne
   have hhd:headK (plW v i).k=knW v i i:=by rw[headK,hme];rfl
   refine⟨⟨_,h.put hv hi hH Ext.set (λj hj=>?_) (λj=>?_) (λj hj hji=>?_) ?_ ?_ (λm hm=>.inl hm) h.evs⟩,λx y=>?_⟩
   · rw[List.getD_eq_getElem?_getD,List.getElem?_set_ne (Ne.symm hj),← List.getD_eq_getElem?_getD]
   · rw[hln];omega
   · rw[hln,hps,if_neg (Ne.symm hji),Nat.add_zero]
     exact h.ac i j hi hj (Ne.symm hji)
   · rw[hln,if_pos rfl];omega
   · rw[hk];exact h.evk i hi
   · rw[knW_set hi]
     by_cases e:i=x
     · subst e
       rw[if_pos rfl,hln]
       by_cases e2:i=y
       · rw[if_pos e2,if_pos ⟨⟨rfl,e2.symm⟩,h0⟩]
       · rw[if_neg e2,if_neg (λh=>e2 h.1.2.symm)]
     · rw[if_neg e,if_neg (λh=>e h.1.1.symm),Nat.add_zero]
 · rw[press_stay (hv.pl i hi).1 h0,setSelf hi]
   exact⟨⟨G,h⟩,λx y=>by rw[if_neg (λh=>h0 h.2)];rfl⟩
theorem HonG.net_sub (h:HonG p cf K G v)(hn:∀ m∈net,m∈v.net):HonG p cf K G { v with net:=net } :=
 ⟨h.pl,h.ac,h.hd,λm hm=>(h.net m (hn m hm)).imp λq hq=>⟨hq.hon,hq.kind,hq.fr,hq.to,hq.bs,hq.lt,hq.id,hq.seg⟩,h.evs,h.evk⟩
theorem HonG.recv (h:HonG p cf K G v)(hv:WdOk p cf c v)(hm:m∈v.net)(hn:∀ m∈net,m∈v.net):HonG p cf K G { v with ps:=v.ps.set m.2.1 (recvP p m.2.2 (plW v m.2.1)).2,net:=net } ∧
   ∀ x y,knW { v with ps:=v.ps.set m.2.1 (recvP p m.2.2 (plW v m.2.1)).2,net:=net } x y=if (x=m.2.1∧y=m.1)∧(plW v m.2.1).k.cl=false then max (knW v x y) (valM m) else knW v x y:=by
 obtain⟨q,hq⟩:=h.net m hm
 obtain⟨hfl,hi⟩:=hq.lt
 obtain⟨hme,hwin,hid,hnn,_⟩:=hv.cfk hi
 have hf0:q.from'.toNat=m.1:=by have:=hq.fr;omega
 have hft:m.1≠m.2.1:=λe=>hq.hon.may.2.2.1 (by rw[hq.fr,hq.to,e])
 rw[hq.bs]
 generalize hs:plW v m.2.1=s at *
 have hS:=h.pl _ hi
 have hW:=hv.pl _ hi
 rw[hs]at hS hW
 cases hc:s.k.cl with
 | true =>
   have h0:(recvP p (encO q) s).1≠0:=by
     show (recvK (encO q) s.k).1≠0
     rw[recvK,if_pos hc]
     show (6:Int)≠0
     decide
   rw[recv_stay hW.1 h0,← hs,setSelf hi]
   exact⟨h.net_sub hn,λx y=>by rw[if_neg (λh=>by have:=h.2;cases this)];rfl⟩
 | false =>
   have hip:m.1<s.k.ps.length:=by rw[hW.1.wc.ps,hnn];exact hfl
   have hil:m.1<s.k.ls.length:=by rw[hW.1.wc.ls,hnn];exact hfl
   have hac:=h.ac _ _ hi hfl (Ne.symm hft)
   have hb1:=h.kn_le hv hfl hi
   have hb2:=h.kn_le hv hi hfl
   have hl1:=(hv.pl _ hfl).1.wc.lnt (i:=m.1) (by rw[hv.kn hfl];exact hfl)
   have hl2:=hW.1.wc.lnt (i:=m.1) (by rw[hnn];exact hfl)
   have hhk:headK s.k=knW v m.2.1 m.2.1:=by rw[headK,hme,knW,hs]
   rcases hq.hon.may.2.2.2.2 with ⟨h1,_⟩ | ⟨h1,_⟩
   · obtain⟨hH,h0,mr,hk⟩:=hS.hear hq.hon hc (by rw[hq.to,hme]) (by rw[hq.fr,hnn];omega) (by rw[hq.id,hid]) h1
     obtain⟨s1,s2,s3⟩:=hq.seg h1
     obtain⟨g1,g2⟩:=hq.hon.seg h1
     rw[hf0]at hk g1
     have hkm:knW v m.2.1 m.1=(s.k.ls.getD m.1 []).length:=by rw[knW,hs]
     have hpl:=putLn_max (l:=s.k.ls.getD m.1 []) (a:=q.press) (f:=q.first.toNat) (by rw[← hkm];exact s2) (by rw[hb2.2]at g1;rw[knW]at g1;omega) hl2
     have hls:(recvP p (encO q) s).2.k.ls=s.k.ls.set m.1 (putLn (s.k.ls.getD m.1 []) q.first.toNat q.press):=by rw[hk]
     have hln:∀ j,((recvP p (encO q) s).2.k.ls.getD j []).length=if m.1=j then max (knW v m.2.1 m.1) (q.first.toNat+q.press.length) else knW v m.2.1 j:=λj=>by
       rw[hls,lenSet hil,hpl,knW,knW,hs]
     have hps:∀ j,peK (recvP p (encO q) s).2.k j=if j=m.1 then hearP s.k.now (headK s.k) q (peK s.k m.1) else peK s.k j:=λj=>by
       rw[peK,hk];exact peK_set hip
     have hfr:frontK s.k≤frontK (recvP p (encO q) s).2.k:=by
       have h5:=recv_ext (encO q) s.k
       obtain⟨t5,h6⟩:=putLn_ext (s.k.ls.getD m.1 []) q.first.toNat q.press
       rw[frontK,frontK,hls,h6]
       exact Ext.set.front hW.1.wc.lne
     refine⟨h.put hv hi hH (Ext.refl _) (λ_ _=>rfl) (λj=>?_) (λj hj hji=>?_) ?_ ?_ (λm hm=>.inl (hn m hm)) h.evs,λx y=>?_⟩
     · rw[hln];split
       · rename_i e;subst e;omega
       · exact Nat.le_refl _
     · rw[hln,hps]
       have hhj:=h.ac _ _ hi hj (Ne.symm hji)
       by_cases e:j=m.1
       · subst e
         rw[if_pos rfl,if_pos rfl,hearP_has]
         rw[hsW,hs]at hhj
         rw[knW]at hb1
         simp only[knW] at *
         split <;> omega
       · rw[if_neg (Ne.symm e),if_neg e]
         rw[hsW,hs]at hhj
         exact hhj
     · rw[hln,if_neg hft]
       have:=h.hd _ hi
       rw[hs]at this
       omega
     · rw[hk]
       have:=h.evk _ hi
       rw[hs]at this
       exact this
     · rw[knW_set hi,hln,hq.val,if_pos h1]
       by_cases e:m.2.1=x
       · subst e
         rw[if_pos rfl]
         by_cases e2:m.1=y
         · subst e2;rw[if_pos rfl,if_pos ⟨⟨rfl,rfl⟩,rfl⟩]
         · rw[if_neg e2,if_neg (λh=>e2 h.1.2.symm)]
       · rw[if_neg e,if_neg (λh=>e h.1.1.symm)]
   · obtain⟨hH,h0,hk⟩:=hS.bye hq.hon hc (by rw[hq.to,hme]) (by rw[hq.fr,hnn];omega) (by rw[hq.id,hid]) h1
     rw[hf0]at hk
     have hls:(recvP p (encO q) s).2.k.ls=s.k.ls:=by rw[hk]
     have hln:∀ j,((recvP p (encO q) s).2.k.ls.getD j []).length=knW v m.2.1 j:=λj=>by rw[hls,knW,hs]
     have hps:∀ j,(peK (recvP p (encO q) s).2.k j).has=(peK s.k j).has:=λj=>by
       rw[peK,hk]
       show ((s.k.ps.set _ _).getD j (pe0 0)).has=_
       rw[peK_set hip]
       split
       · rename_i e;subst e;rfl
       · rfl
     refine⟨h.put hv hi hH (Ext.refl _) (λ_ _=>rfl) (λj=>?_) (λj hj hji=>?_) ?_ ?_ (λm hm=>.inl (hn m hm)) h.evs,λx y=>?_⟩
     · rw[hln];exact Nat.le_refl _
     · have hhj:=h.ac _ _ hi hj (Ne.symm hji)
       rw[hsW,hs]at hhj
       rw[hln,hps];exact hhj
     · have:=h.hd _ hi
       rw[hs]at this
       rw[hln,frontK,hls];exact this
     · rw[hk]
       intro e he
       rcases List.mem_append.1 he with he | he
       · have:=h.evk _ hi
         rw[hs]at this
         exact this e he
       · rw[List.mem_singleton.1 he];show (1:Nat)≠3;decide
     · have hval:valM m=0:=by rw[hq.val,if_neg (by omega)]
       rw[knW_set hi,hln,hval,Nat.max_zero]
       by_cases e:m.2.1=x
       · subst e;rw[if_pos rfl];split <;> rfl
       · rw[if_neg e,if_neg (λh=>e h.1.1.symm)]
theorem tick_mem {k:Ks}(h:m∈(tickK k).1):∃ j,j<k.n∧j≠k.me∧m=(k.me,j,encO (mailPk k j)):=by
 unfold tickK at h
 split at h
 · cases h
 · simp only at h
   split at h
   · cases h
   · obtain⟨j,hj,rfl⟩:=List.mem_map.1 h
     obtain⟨h1,h2⟩:=othersK_mem.1 hj
     exact⟨j,h1,h2,rfl⟩
theorem HonG.same (h:HonG p cf K G v)(hv:WdOk p cf c v)(hi:i<v.ps.length)(hH:Hon p G s')(hls:s'.k.ls=(plW v i).k.ls)(hps:s'.k.ps=(plW v i).k.ps)(hek:∀ e∈s'.k.ev,e.1≠3)
   (hnet:∀ m∈net,m∈v.net∨∃ q,MlOk p cf K G v m q) (hev:∀ l∈ev,∀ e∈l,e.1≠3):HonG p cf K G ⟨v.ps.set i s',net,ev⟩∧∀ x y,knW ⟨v.ps.set i s',net,ev⟩ x y=knW v x y:=by
 have hkn:∀ x y,knW ⟨v.ps.set i s',net,ev⟩ x y=knW v x y:=λx y=>by
   rw[knW_set hi]
   split
   · rename_i e;subst e;rw[hls];rfl
   · rfl
 have hg:=h.glen hv
 refine⟨h.put hv hi hH (Ext.refl _) (λ_ _=>rfl) (λj=>by rw[hls];exact Nat.le_refl _) (λj hj hji=>?_) ?_ hek (λm hm=>(hnet m hm).imp_right λ⟨q,hq⟩=>⟨q,hq.more (Ext.refl _) hg.2 hg.1 List.length_set λa b=>by rw[hkn];exact Nat.le_refl _⟩) hev,hkn⟩
 · rw[hls,peK,hps];exact h.ac i j hi hj (Ne.symm hji)
 · rw[frontK,hls];exact h.hd i hi
theorem HonG.mailOk (h:HonG p cf K G v)(hv:WdOk p cf c v)(hi:i<v.ps.length)(hK:K 1)(hm:m∈(tickK (plW v i).k).1):∃ q,MlOk p cf K G v m q∧valM m=knW v i i:=by
 obtain⟨hme,hwin,hid,hn,_⟩:=hv.cfk hi
 obtain⟨j,hj,hne,rfl⟩:=tick_mem hm
 rw[hn]at hj
 rw[hme]at hne
 have hac:=h.ac i j hi hj (Ne.symm hne)
 have hb:=h.kn_le hv hj hi
 have hhd:=h.hd i hi
 have hfl:frontK (plW v i).k≤knW v i j:=frontL_le (ln_mem (by rw[(hv.pl i hi).1.wc.ls,hn];exact hj))
 have hhk:headK (plW v i).k=knW v i i:=by rw[headK,hme];rfl
 have hw:=hv.win
 have hon:=(h.pl i hi).mail (i:=j) (by rw[hn];exact hj) (by rw[hme];exact hne) (by rw[hhk];rw[hsW]at hac;omega)
 have hln:(mailPk (plW v i).k j).first.toNat+(mailPk (plW v i).k j).press.length=knW v i i:=by
   show (((peK (plW v i).k j).has:Nat):Int).toNat+((((plW v i).k.ls.getD (plW v i).k.me []).drop (peK (plW v i).k j).has).take 32).length=_
   rw[hsW]at hac
   rw[List.length_take,List.length_drop,hme,Int.toNat_natCast]
   show _+min 32 (knW v i i-_)=_
   omega
 have hq:MlOk p cf K G v ((plW v i).k.me,j,encO (mailPk (plW v i).k j)) (mailPk (plW v i).k j):=by
   refine⟨hon,hK,rfl,rfl,rfl,⟨by rw[hme];exact hi,hj⟩,hid,λ_=>⟨?_,?_,?_⟩⟩
   · show ((((plW v i).k.ls.getD j []).length:Nat):Int).toNat≤knW v (plW v i).k.me j
     rw[hme,Int.toNat_natCast];exact Nat.le_refl _
   · show (((peK (plW v i).k j).has:Nat):Int).toNat≤knW v j (plW v i).k.me
     rw[hme,Int.toNat_natCast];exact hac.1
   · rw[hln]
     show _≤((((plW v i).k.ls.getD j []).length:Nat):Int).toNat+_
     rw[Int.toNat_natCast]
     show _≤knW v i j+_
     omega
 exact⟨_,hq,by rw[hq.val,if_pos (show (mailPk (plW v i).k j).kind=1 from rfl),hln]⟩
theorem tick_parts (k:Ks):(tickK k).2.ls=k.ls∧(tickK k).2.ps=k.ps∧∀ e∈(tickK k).2.ev,e∈k.ev∨e.1=2:=by
 rcases tickK_k k with h1 | ⟨_,h1 | ⟨i,_,h1⟩⟩ <;> rw[h1]
 · exact⟨rfl,rfl,λe he=>.inl he⟩
 · exact⟨rfl,rfl,λe he=>.inl he⟩
 · refine⟨rfl,rfl,λe he=>?_⟩
   rcases List.mem_append.1 he with he | he
   · exact .inl he
   · rw[List.mem_singleton.1 he];exact .inr rfl
theorem HonG.tick (h:HonG p cf K G v)(hv:WdOk p cf c v)(hi:i<v.ps.length)(hK:K 1):HonG p cf K G { v with ps:=v.ps.set i ⟨(tickK (plW v i).k).2,(plW v i).g⟩,net:=sendsW v.net (tickK (plW v i).k).1 } ∧
   ∀ x y,knW { v with ps:=v.ps.set i ⟨(tickK (plW v i).k).2,(plW v i).g⟩,net:=sendsW v.net (tickK (plW v i).k).1 } x y=knW v x y:=by
 obtain⟨h1,h2,h3⟩:=tick_parts (plW v i).k
 refine h.same hv hi (h.pl i hi).tick h1 h2 (λe he=>?_) (λm hm=>(sendsW_mem hm).imp_right λhm=>(h.mailOk hv hi hK hm).imp λq hq=>hq.1) h.evs
 rcases h3 e he with h4 | h4
 · exact h.evk i hi e h4
 · omega
theorem newP_k (p:Pr){cf:Cf}(h:mayCf cf):∃ mr,(newP p cf).k={ newK cf with mr:=mr }:=by
 refine playP_calm (G:=(newK cf).ls) (newP_ok (p:=p) h) (Ext.refl _) λi hi=>?_
 have hpe:peK (newK cf) i=pe0 cf.delay.toNat∨peK (newK cf) i=pe0 0:=by
   rw[peK,List.getD_eq_getElem?_getD]
   show ((List.replicate cf.n.toNat (pe0 cf.delay.toNat))[i]?).getD (pe0 0)=_∨((List.replicate cf.n.toNat (pe0 cf.delay.toNat))[i]?).getD (pe0 0)=_
   rw[List.getElem?_replicate]
   split
   · exact .inl rfl
   · exact .inr rfl
 have h2:(peK (newK cf) i).frame=0:=by rcases hpe with e | e <;> rw[e] <;> rfl
 show wordOk p _ (peK (newK cf) i).frame _
 rw[h2]
 exact⟨Nat.zero_le _,λh=>absurd h (by omega)⟩
end
end
section
def PbZ.isMu:PbZ→Bool
 | .mu _=>true
 | .pl _=>false
def meC (cf:Cf)(i:Nat):Cf:={ cf with me:=i }
def newW (p:Pr)(cf:Cf)(n:Nat):Wd:=⟨(List.range n).map λi=>newP p (meC cf i),[],List.replicate n []⟩
def plsOk (pls:List PbX)(cf:Cf)(tb:List UInt8)(ah:Bool)(n:Nat):Prop:=pls.map (·.cf)=(List.range n).map (meC cf)∧∀ x∈pls,x.z.gs=⟨cf.guess,cf.order,tb⟩∧x.z.isMu=ah
theorem mayCf_me {cf:Cf}{i:Nat}(h:mayCf (meC cf 0))(hi:(i:Int)<cf.n):mayCf (meC cf i):=by
 obtain⟨⟨h1,h2,h3⟩,h4⟩:=h
 refine⟨⟨h1,?_,h3⟩,h4⟩
 show inI (i:Int) 0 (cf.n-1)
 unfold inI
 omega
theorem mayAll_me {cf:Cf}{p:Pr}{tb:List UInt8}{i:Nat}(h:mayAll (meC cf 0) p tb)(hi:(i:Int)<cf.n):mayAll (meC cf i) p tb:=⟨mayCf_me h.1 hi,h.2⟩
section
variable {W w:World}{L:List SP}{n c cP cT i:Nat}{ad adP adT:Option Addr}{p:Pr}{tb:List UInt8}{cf:Cf}{ah:Bool}
theorem plain_newYes (hma:mayAll cf p tb)(hs:St W w (RoP W p adP cP::L))(hn:tb.length=n)(hsz:p.title.size≤1000000000)(hol:p.ops.length≤1000000000)(htl:tb.length≤1099511627776)(hT:∀ w',St W w' (RoP W p adP cP::L)→RdB w' adT tb.length tb) :
   Calls Tryz.prog 60 #[.agg (cfC cf).toArray,.agg (prV p adP cP).toArray,.slice adT n cT] w λr w'=>∃ B:PlB,r=.returned (.tuple #[pt B.pb,.int .i64 0])∧B.gs=⟨cf.guess,cf.order,tb⟩∧St W w' (PlainS W B p (newP p cf)::RoP W p adP cP::L) :=
 (plain_newX hs hn hsz hol htl hT).mono λr w' h=>h.elim (λh=>h.2) λh=>absurd hma h.1
theorem plain_newNo (hma:¬ mayAll cf p tb)(hs:St W w (RoP W p adP cP::L))(hn:tb.length=n)(hsz:p.title.size≤1000000000)(hol:p.ops.length≤1000000000)(htl:tb.length≤1099511627776)(hT:∀ w',St W w' (RoP W p adP cP::L)→RdB w' adT tb.length tb) :
   Calls Tryz.prog 60 #[.agg (cfC cf).toArray,.agg (prV p adP cP).toArray,.slice adT n cT] w λr w'=>r=.returned (.tuple #[.pointer none,.int .i64 1])∧St W w' (RoP W p adP cP::L) :=
 (plain_newX hs hn hsz hol htl hT).mono λr w' h=>h.elim (λh=>absurd h.1 hma) λh=>h.2
theorem mt_new1 (hma:mayAll cf p tb)(hs:St W w (RoP W p adP cP::L))(hn:tb.length=n)(hsz:p.title.size≤1000000000)(hol:p.ops.length≤1000000000)(htl:tb.length≤1099511627776)(hT:∀ w',St W w' (RoP W p adP cP::L)→RdB w' adT tb.length tb) :
   Calls Tryz.prog 43 #[.agg (cfC cf).toArray,.agg (prV p adP cP).toArray,.slice adT n cT,.bool ah] w λr w'=>∃ z:PbZ,r=.returned (.tuple #[.iface z.t (.pointer (some z.ad)),.int .i64 0])∧(z.gs=⟨cf.guess,cf.order,tb⟩∧z.isMu=ah)∧St W w' (PbX.J W p ⟨cf,z⟩ 0 (newP p cf)::RoP W p adP cP::L):=by
 refine EN Tryz.func43 Tryz.ntmps43 rfl rfl λa ha=>?_
 refine BX 1 ha hs λb4 a w ha hs=>?_
 change St W w (blk b4 28 (cfC cf)::_) at hs
 refine BX 0 ha hs λb5 a w ha hs=>?_
 change St W w (blk b5 45 (prV p adP cP)::_) at hs
 refine IF 5 ha hs (λhc0 a ha=>?_) λhc0 a ha=>?_
 ·
  refine CL1 4 ha hs (mu_newY hma (hs.pick (RoP W p adP cP)) hn hsz hol htl (λw' hw'=>hT _ hw'.sub)) λM a w ha ⟨hg,hs⟩=>?_
  refine RT 11 ha hs ?_
  exact⟨.mu M,rfl,⟨hg,by rw[show ah=true from by simpa using hc0];rfl⟩,(show St W w (PbX.J W p ⟨cf,.mu M⟩ 0 (newP p cf)::_) from hs).sub⟩
 refine CL1 4 ha hs (plain_newYes hma (hs.pick (RoP W p adP cP)) hn hsz hol htl (λw' hw'=>hT _ hw'.sub)) λB a w ha ⟨hg,hs⟩=>?_
 refine RT 11 ha hs ?_
 exact⟨.pl B,rfl,⟨hg,by rw[show ah=false from by simpa using hc0];rfl⟩,(show St W w (PbX.J W p ⟨cf,.pl B⟩ 0 (newP p cf)::_) from hs).sub⟩
theorem mt_new1N (hma:¬ mayAll cf p tb)(hs:St W w (RoP W p adP cP::L))(hn:tb.length=n)(hsz:p.title.size≤1000000000)(hol:p.ops.length≤1000000000)(htl:tb.length≤1099511627776)(hT:∀ w',St W w' (RoP W p adP cP::L)→RdB w' adT tb.length tb) :
   Calls Tryz.prog 43 #[.agg (cfC cf).toArray,.agg (prV p adP cP).toArray,.slice adT n cT,.bool ah] w λr w'=>∃ t:TypeId,r=.returned (.tuple #[.iface t (.pointer none),.int .i64 1])∧St W w' (RoP W p adP cP::L):=by
 refine EN Tryz.func43 Tryz.ntmps43 rfl rfl λa ha=>?_
 refine BX 1 ha hs λb4 a w ha hs=>?_
 change St W w (blk b4 28 (cfC cf)::_) at hs
 refine BX 0 ha hs λb5 a w ha hs=>?_
 change St W w (blk b5 45 (prV p adP cP)::_) at hs
 refine IF 5 ha hs (λhc0 a ha=>?_) λhc0 a ha=>?_
 ·
  refine CL 4 ha hs (mu_newN hma (hs.pick (RoP W p adP cP)) hn hsz hol htl (λw' hw'=>hT _ hw'.sub)) λa w ha hs=>?_
  refine RT 11 ha hs ?_
  exact⟨_,rfl,hs.sub⟩
 refine CL 4 ha hs (plain_newNo hma (hs.pick (RoP W p adP cP)) hn hsz hol htl (λw' hw'=>hT _ hw'.sub)) λa w ha hs=>?_
 refine RT 11 ha hs ?_
 exact⟨_,rfl,hs.sub⟩
theorem evo0 (hs:St W w L):∀ n:Nat,St W w (All evo (List.replicate n (none,0,[]))::L)
 | 0=>St.allNil hs
 | n+1=>St.allIn (f:=evo) (x:=(none,0,[])) ((evo0 hs n).sl0 135 1 none)
theorem mt_new (hma:mayAll (meC cf 0) p tb)(hs:St W w (RoP W p adP cP::L))(hn:tb.length=n)(hsz:p.title.size≤1000000000)(hol:p.ops.length≤1000000000)(htl:tb.length≤1099511627776)(hT:∀ w',St W w' (RoP W p adP cP::L)→RdB w' adT tb.length tb) :
   Calls Tryz.prog 24 #[.agg (cfC cf).toArray,.agg (prV p adP cP).toArray,.slice adT n cT,.bool ah] w λr w'=>∃ B:MatB,r=.returned (.tuple #[pt B.mb,.int .i64 0])∧plsOk B.pls cf tb ah cf.n.toNat∧St W w' (MatS W B p 0 (newW p cf cf.n.toNat)::RoP W p adP cP::L):=by
 have hcn:=hma.1.1.1
 unfold inI at hcn
 obtain⟨N,hN⟩:∃ N:Nat,(meC cf 0).n=N:=⟨(meC cf 0).n.toNat,by omega⟩
 replace hN:cf.n=N:=hN
 have hN2:2≤N∧N≤8:=by
   have h1:(meC cf 0).n=cf.n:=rfl
   omega
 rw[show cf.n.toNat=N from by omega]
 refine EN Tryz.func24 Tryz.ntmps24 rfl rfl λa ha=>?_
 refine BX 1 ha hs λb4 a w ha hs=>?_
 change St W w (blk b4 28 (cfC cf)::_) at hs
 refine BX 0 ha hs λb5 a w ha hs=>?_
 change St W w (blk b5 45 (prV p adP cP)::_) at hs
 refine CL1 3 ha hs (nt_new_spec hs) λq a w ha hs=>?_
 refine BX 1 ha hs λb16 a w ha hs=>?_
 refine RN 1 ha hs λa ha=>?_
 replace hs:=St.allNil (f:=plX W p 0) (hs.sl0 81 1 none)
 refine RN 7 ha hs λa ha=>?_
 rw[hN,show min (max (N:Int) 1) 8=(N:Int) from by omega]at ha
 refine wp_loop_ghost (λμ a w=>∃ (i:Nat) (adL:Option Addr) (cL:Nat) (xs:List (PbX×Pl)) (me:Int),(μ=N-i∧(i≤N∧xs.length=i)∧xs.map (·.2)=(List.range i).map (λi=>newP p (meC cf i))∧plsOk (xs.map (·.1)) cf tb ah i)∧Fr a 58 [(2,.slice adT n cT),(3,.bool ah),(4,pt b4),(5,pt b5),(10,pt b16),(20,.int .i64 N),(21,.int .i64 i)]∧St W w (blk b16 107 [.slice adL i cL,pt q,.slice none 0 0]::Sl 81 1 adL i cL (xs.map plv)::All (plX W p 0) xs::NetQ q []::blk b4 28 (cfC { cf with me:=me })::blk b5 45 (prV p adP cP)::RoP W p adP cP::L)) (N) (⟨0,none,0,[],cf.me,⟨rfl,⟨by omega,rfl⟩,rfl,rfl,λx h=>by cases h⟩,ha.keep [2,3,4,5,10,20,21],(show St W w (All (plX W p 0) []::Sl 81 1 none 0 0 (([]:List (PbX×Pl)).map plv)::_) from hs).sub⟩) ?_
 clear ha hs
 rintro μ a w ⟨i,adL,cL,xs,me,⟨rfl,⟨hi,hxl⟩,hx2,hx3⟩,ha,hs⟩
 refine IF 3 ha hs (λhc0 a ha=>?_) λhc0 a ha=>?_
 ·
  have hil:i<N:=by omega
  have hma2:=mayAll_me (i:=i) hma (by omega)
  refine ST 7 ha hs (λa w ha hs=>?_)
  refine RN 0 ha hs λa ha=>?_
  change St W w (blk b4 28 (cfC (meC cf i))::_) at hs
  refine CL1 5 ha hs (mt_new1 hma2 (hs.pick (RoP W p adP cP)) hn hsz hol htl (λw' hw'=>hT _ hw'.sub)) λz a w ha ⟨hz,hs⟩=>?_
  refine RN 9 ha hs λa ha=>?_
  replace ha:=ha.isF 35
  refine RN 7 ha hs λa ha=>?_
  refine st_buildSlice ha rfl hs Tryz.underlying104 Ty.t81 rfl rfl rfl rfl (by decide) (by decide) λb43 a w ha hs ho=>?_
  clear ho
  replace hs:=hs.pick (Sl 81 1 adL i cL (xs.map plv))
  refine RN 0 ha hs λa ha=>?_
  refine st_append ha rfl hs Tryz.underlying104 Ty.t81 rfl rfl hs.rdAll rfl (by simp[Value.oneCell']) (by decide) (by decide) (by omega) λad44 c44 a w ha hs=>?_
  rw[show List.map plv xs++_=(xs++[((⟨meC cf i,z⟩:PbX),newP p (meC cf i))]).map plv from by rw[List.map_append];rfl]at hs
  refine ST 2 ha hs (λa w ha hs=>?_)
  refine RN 2 ha hs λa ha=>?_
  have hJ:=(hs.pick (All (plX W p 0) xs)).pick (PbX.J W p ⟨meC cf i,z⟩ 0 (newP p (meC cf i)))
  have hA:=St.allPush (f:=plX W p 0) (x:=(⟨meC cf i,z⟩,newP p (meC cf i))) hJ
  refine⟨N-(i+1),by omega,i+1,ad44,c44,xs++[(⟨meC cf i,z⟩,newP p (meC cf i))],i,⟨rfl,⟨by omega,by rw[List.length_append,hxl];rfl⟩,?_,?_⟩,ha.keep [2,3,4,5,10,20,21],?_⟩
  · rw[List.map_append,hx2,List.range_succ,List.map_append];rfl
  · refine⟨?_,λx hx=>?_⟩
    · rw[List.map_append,List.map_append,List.range_succ,List.map_append,hx3.1];rfl
    · rw[List.map_append]at hx
      rcases List.mem_append.1 hx with hx | hx
      · exact hx3.2 x hx
      · rw[List.mem_singleton.1 hx];exact hz
  · rw[show ({ cf with me:=(i:Int) }:Cf)=meC cf i from rfl]
    exact hA.sub
 obtain rfl:i=N:=by omega
 refine RN 7 ha hs λa ha=>?_
 refine st_makeSlice ha rfl hs Tryz.underlying105 Ty.t90 rfl (by omega) (by omega) λb54 a w ha hs ho=>?_
 clear ho
 rw[made1 _ rfl]at hs
 refine ST 2 ha hs (λa w ha hs=>?_)
 refine RT 4 ha hs ?_
 refine⟨⟨b16,q,xs.map (·.1)⟩,rfl,hx3,?_⟩
 have h1:=hs.bring b54
 rw[show List.replicate i (Value.slice none 0 0)=[]++(List.replicate i ((none,0,[]):Evx)).map evs++[] from by rw[List.nil_append,List.append_nil,List.map_replicate];rfl]at h1
 have h2:=evo0 (St.slShut (n:=i) (c:=i) (sz:=1) h1 (by rw[List.length_map,List.length_replicate,Nat.mul_one]) (Nat.le_refl _) (by simp)) i
 refine MatS.close2 (adL:=adL) (cL:=cL) (adE:=some ⟨b54,0,none⟩) (cE:=i) (xs:=xs) (es:=List.replicate i (none,0,[])) ?_ rfl hx2 (by rw[List.map_replicate];rfl)
 rw[hxl,List.length_replicate]
 simp only[List.length_nil]at h2
 show St W w (blk b16 107 [.slice adL i cL,pt q,.slice (some ⟨b54,0,none⟩) i i]::Sl 81 1 adL i cL (xs.map plv)::All (plX W p 0) xs::NetQ q []::Sl 90 1 (some ⟨b54,0,none⟩) i i ((List.replicate i ((none,0,[]):Evx)).map evs)::All evo (List.replicate i (none,0,[]))::RoP W p adP cP::L)
 exact h2.sub
set_option maxHeartbeats 1000000 in
theorem mt_newN (hma:¬ mayAll (meC cf 0) p tb)(hs:St W w (RoP W p adP cP::L))(hn:tb.length=n)(hsz:p.title.size≤1000000000)(hol:p.ops.length≤1000000000)(htl:tb.length≤1099511627776)(hT:∀ w',St W w' (RoP W p adP cP::L)→RdB w' adT tb.length tb) :
   Calls Tryz.prog 24 #[.agg (cfC cf).toArray,.agg (prV p adP cP).toArray,.slice adT n cT,.bool ah] w λr w'=>r=.returned (.tuple #[.pointer none,.int .i64 1])∧St W w' (RoP W p adP cP::L):=by
 refine EN Tryz.func24 Tryz.ntmps24 rfl rfl λa ha=>?_
 refine BX 1 ha hs λb4 a w ha hs=>?_
 change St W w (blk b4 28 (cfC cf)::_) at hs
 refine BX 0 ha hs λb5 a w ha hs=>?_
 change St W w (blk b5 45 (prV p adP cP)::_) at hs
 refine CL1 3 ha hs (nt_new_spec hs) λq a w ha hs=>?_
 refine BX 1 ha hs λb16 a w ha hs=>?_
 refine RN 8 ha hs λa ha=>?_
 obtain⟨M,hM,hM1⟩:∃ M:Nat,min (max cf.n 1) 8=(M:Int)∧1≤M:=⟨(min (max cf.n 1) 8).toNat,by omega,by omega⟩
 rw[hM]at ha
 refine wp_loop_ghost (λμ a w=>(μ=0∧True)∧Fr a 58 [(2,.slice adT n cT),(3,.bool ah),(4,pt b4),(5,pt b5),(10,pt b16),(20,.int .i64 M),(21,.int .i64 0)]∧St W w (blk b4 28 (cfC cf)::blk b5 45 (prV p adP cP)::RoP W p adP cP::L)) (0) (⟨⟨rfl,trivial⟩,ha.keep [2,3,4,5,10,20,21],hs.sub⟩) ?_
 clear ha hs
 rintro μ a w ⟨⟨rfl,_⟩,ha,hs⟩
 refine IF 3 ha hs (λhc0 a ha=>?_) λhc0 a ha=>?_
 ·
  skip
  refine ST 7 ha hs (λa w ha hs=>?_)
  refine RN 0 ha hs λa ha=>?_
  change St W w (blk b4 28 (cfC (meC cf 0))::_) at hs
  refine CL1 5 ha hs (mt_new1N hma (hs.pick (RoP W p adP cP)) hn hsz hol htl (λw' hw'=>hT _ hw'.sub)) λtt a w ha hs=>?_
  refine RN 9 ha hs λa ha=>?_
  replace ha:=ha.isT 35
  refine RT 5 ha hs ?_
  exact⟨rfl,hs.sub⟩
 omega
end
end
section
structure DocB where
 wb:Nat
 mb:Nat
 rgs:List RgB
end
section
section
variable {W w:World}{L:List SP}{c i:Nat}{p:Pr}{v:Wd}{B:MatB}
theorem mt_events_in (hs:St W w (MatS W B p c v::L))(hi:i<v.ps.length)(hel:v.ev.length=v.ps.length)(hl:(v.ev.getD i []).length≤1000000000) :
   Calls Tryz.prog 34 #[pt B.mb,.int .i64 i] w λe w'=>∃ ad c',e=.returned (.slice ad (v.ev.getD i []).length c')∧St W w' (Sl 135 1 ad (v.ev.getD i []).length c' ((v.ev.getD i []).map evV)::MatS W B p c v::L):=by
 replace hs:=MatS.open2 hs
 obtain⟨adL,cL,adE,cE,xs,es,⟨h1,h2,h3⟩,hs⟩:=hs
 have hxl:xs.length=v.ps.length:=by rw[← h2,List.length_map]
 have hesl:es.length=v.ps.length:=by rw[← hel,← h3,List.length_map]
 obtain⟨ea,ec,l,hee⟩:∃ ea ec l,es[i]?=some (ea,ec,l):=⟨_,_,_,List.getElem?_eq_getElem (by omega)⟩
 obtain⟨hei,hee2⟩:=List.getElem?_eq_some_iff.1 hee
 have hgl:v.ev.getD i []=l:=by rw[← h3,List.getD_eq_getElem?_getD,List.getElem?_map,hee];rfl
 rw[hgl]at hl ⊢
 refine EN Tryz.func34 Tryz.ntmps34 rfl rfl λa ha=>?_
 refine CL 6 ha hs (mt_player_in ((hs.pick (Sl 81 1 adL xs.length cL (xs.map plv))).pick (blk B.mb 107 [.slice adL xs.length cL,pt B.q,.slice adE es.length cE])) (by omega)) λa w ha hs=>?_
 refine RN 1 ha hs λa ha=>?_
 replace ha:=ha.isF 8
 refine RN 2 ha hs λa ha=>?_
 obtain⟨bE,oE,rfl,hrl⟩:=(hs.pick (Sl 90 1 adE es.length cE (es.map evs))).slRd adE (by omega)
 have hre:=hrl i (.slice ea l.length ec) (by rw[List.getElem?_map,hee];rfl)
 refine RN 6 ha hs λa ha=>?_
 refine SS ha (ld1 ha (hre)) λa ha=>?_
 replace hs:=(hs.pick (All evo es)).allOut hei
 rw[hee2]at hs
 change St W w (Sl 135 1 ea l.length ec (l.map evV)::_) at hs
 refine CL2 0 ha hs (evt_clone hs hl) λad2 c2 a w ha hs=>?_
 refine RT 1 ha hs ?_
 refine⟨ad2,c2,rfl,?_⟩
 have h4:=(hs.pick (All evo (es.eraseIdx i))).pick (Sl 135 1 ea l.length ec (l.map evV))
 have h5:St W w (All evo es::_):=St.allBack (f:=evo) hei (by rw[hee2];exact h4)
 have h6:St W w (MatS W B p c v::Sl 135 1 ad2 l.length c2 (l.map evV)::L):=MatS.close2 (adL:=adL) (cL:=cL) (adE:=some ⟨bE,oE,none⟩) (cE:=cE) (xs:=xs) (es:=es) h5.sub h1 h2 h3
 exact h6.sub
end
end
section
def calmW (v:Wd):Prop:=∀ i,i<v.ps.length→(plW v i).k.ev=[]
theorem drain1_calm {v:Wd}{i:Nat}(hi:i<v.ps.length)(hl:v.ev.length=v.ps.length)(h:(plW v i).k.ev=[]):drain1 i v=v:=by
 have h1:(⟨{ (plW v i).k with ev:=[] },(plW v i).g⟩:Pl)=v.ps[i]:=by
   rw[show ({ (plW v i).k with ev:=[] }:Ks)=(plW v i).k from by rw[← h]]
   show plW v i=_
   rw[plW,List.getD_eq_getElem?_getD,List.getElem?_eq_getElem hi];rfl
 have h2:v.ev.getD i []++(plW v i).k.ev=v.ev[i]'(by omega):=by
   rw[h,List.append_nil,List.getD_eq_getElem?_getD,List.getElem?_eq_getElem (by omega)];rfl
 rw[drain1,h1,h2,List.set_getElem_self,List.set_getElem_self]
theorem drainN_calm {v:Wd}(hl:v.ev.length=v.ps.length)(h:calmW v):∀ i,i≤v.ps.length→drainN v i=v
 | 0,_=>rfl
 | i+1,hi=>by
   show drain1 i (drainN v i)=v
   rw[drainN_calm hl h i (by omega)]
   exact drain1_calm (by omega) hl (h i (by omega))
theorem drainW_calm {v:Wd}(hl:v.ev.length=v.ps.length)(h:calmW v):drainW v=v:=drainN_calm hl h _ (Nat.le_refl _)
theorem stepW_work {p:Pr}{t:Sp4}{v:Wd}(h:t.fn=7):(stepW p t v).2=v:=by
 rw[stepW,if_neg (by omega),if_neg (by omega),oneW]
 split
 · rfl
 · rw[if_neg (by omega),if_neg (by omega),if_neg (by omega)]
end
section
section
variable {p:Pr}{cf:Cf}{K:Int→Prop}{G G':List (List UInt8)}{v:Wd}{c i j x y:Nat}{n:Nat}{T:Nat→Nat}{net:List Ml}{ev:List (List Evt)}{m:Ml}{q:Pk}{b:UInt8}
theorem plW_new (hi:i<n):plW (newW p cf n) i=newP p (meC cf i):=by
 rw[plW,newW,List.getD_eq_getElem?_getD,List.getElem?_map,List.getElem?_range hi];rfl
theorem newW_len:(newW p cf n).ps.length=n:=by rw[newW,List.length_map,List.length_range]
theorem mayCf_meI (h:mayCf cf)(hi:i<cf.n.toNat):mayCf (meC cf i):=by
 obtain⟨⟨h1,h2,h3⟩,h4⟩:=h
 refine⟨⟨h1,?_,h3⟩,h4⟩
 show inI (i:Int) 0 (cf.n-1)
 unfold inI at h1 ⊢
 omega
theorem newW_ok (h:mayCf cf):WdOk p cf 0 (newW p cf cf.n.toNat):=by
 refine⟨h,newW_len,?_,λi hi=>?_,⟨Nat.zero_le _,λm hm=>by cases hm⟩,λe he=>?_⟩
 · rw[newW_len];exact List.length_replicate
 · rw[newW_len]at hi
   rw[plW_new hi]
   have h1:=mayCf_meI h hi
   obtain⟨mr,h2⟩:=newP_k p h1
   refine⟨WF'.new h1,?_,by rw[h2];exact Nat.le_refl _⟩
   rw[h2]
   exact (WC.new h1).2.2
 · have h1:=List.eq_of_mem_replicate (show e∈List.replicate _ [] from he)
   subst h1
   exact⟨Nat.zero_le _,λx hx=>by cases hx⟩
theorem newW_calm (h:mayCf cf):calmW (newW p cf cf.n.toNat):=λi hi=>by
 rw[newW_len]at hi
 rw[plW_new hi]
 obtain⟨mr,h2⟩:=newP_k p (mayCf_meI h hi)
 rw[h2];rfl
theorem knW_new (h:mayCf cf)(hi:i<cf.n.toNat)(hj:j<cf.n.toNat):knW (newW p cf cf.n.toNat) i j=cf.delay.toNat:=by
 rw[knW,plW_new hi]
 obtain⟨mr,h2⟩:=newP_k p (mayCf_meI h hi)
 rw[h2]
 show ((List.replicate cf.n.toNat (List.replicate cf.delay.toNat (0:UInt8))).getD j []).length=_
 rw[List.getD_eq_getElem?_getD,List.getElem?_replicate,if_pos hj]
 exact List.length_replicate
theorem newK_pe (h:mayCf cf)(hi:i<cf.n.toNat)(hj:j<cf.n.toNat):peK (newP p (meC cf i)).k j=pe0 cf.delay.toNat:=by
 obtain⟨mr,h2⟩:=newP_k p (mayCf_meI h hi)
 rw[h2,peK,List.getD_eq_getElem?_getD]
 show ((List.replicate cf.n.toNat (pe0 cf.delay.toNat))[j]?).getD _=_
 rw[List.getElem?_replicate,if_pos hj];rfl
theorem HonG.new (h:mayCf cf):HonG p cf K (List.replicate cf.n.toNat (List.replicate cf.delay.toNat 0)) (newW p cf cf.n.toNat):=by
 have hl:=newW_len (p:=p) (cf:=cf) (n:=cf.n.toNat)
 refine⟨λi hi=>?_,λa b ha hb hab=>?_,λi hi=>?_,λm hm=>(by cases hm),λl hl e he=>?_,λi hi=>?_⟩
 · rw[hl]at hi
   rw[plW_new hi]
   have h1:=mayCf_meI h hi
   obtain⟨mr,h2⟩:=newP_k p h1
   refine⟨WF'.new h1,by rw[h2];exact Ext.refl _,by rw[h2];rfl,λj hj=>?_⟩
   have hj':j<cf.n.toNat:=by
     rw[h2]at hj
     have:j<(List.replicate cf.n.toNat (pe0 cf.delay.toNat)).length:=hj
     rwa [List.length_replicate]at this
   rw[newK_pe h hi hj']
   exact⟨rfl,Nat.zero_le _,λh=>absurd h (by show ¬ 0<0;omega)⟩
 · rw[hl]at ha hb
   rw[knW_new h hb ha,knW_new h ha hb,hsW,plW_new ha,newK_pe h ha hb]
   exact⟨Nat.le_refl _,Nat.le_add_right _ _⟩
 · rw[hl]at hi
   rw[knW_new h hi hi]
   have h1:cf.delay.toNat≤frontK (plW (newW p cf cf.n.toNat) i).k:=by
     rw[plW_new hi]
     obtain⟨mr,h2⟩:=newP_k p (mayCf_meI h hi)
     rw[h2]
     have hc:=(WC.new (mayCf_meI h hi)).1
     refine frontL_ge hc.lne λl hl=>?_
     have:=List.eq_of_mem_replicate (show l∈List.replicate cf.n.toNat (List.replicate cf.delay.toNat (0:UInt8)) from hl)
     rw[this,List.length_replicate];exact Nat.le_refl _
   omega
 · have h1:=List.eq_of_mem_replicate (show l∈List.replicate _ [] from hl)
   subst h1;cases he
 · rw[newW_calm h i hi] ;intro e he;cases he
structure Lv (p:Pr)(cf:Cf)(T:Nat→Nat)(v:Wd):Prop where
 ok:∃ c,WdOk p cf c v
 hon:∃ G,HonG p cf (·=1) G v
 op:∀ i,i<v.ps.length→(plW v i).k.cl=false∧(plW v i).k.now≤T i∧(plW v i).k.ev=[]
 ev:∀ l∈v.ev,l=[]
theorem Lv.calm (h:Lv p cf T v):calmW v:=λi hi=>(h.op i hi).2.2
theorem Lv.still (h:Lv p cf T v):drainW v=v:=by
 obtain⟨c,hv⟩:=h.ok
 exact drainW_calm hv.ev h.calm
theorem Lv.new (h:mayCf cf):Lv p cf (λ_=>0) (newW p cf cf.n.toNat):=⟨⟨0,newW_ok h⟩,⟨_,HonG.new h⟩,λi hi=>by
 rw[newW_len]at hi
 rw[plW_new hi]
 obtain⟨mr,h2⟩:=newP_k p (mayCf_meI h hi)
 rw[h2];exact⟨rfl,Nat.le_refl _,rfl⟩,λl hl=>List.eq_of_mem_replicate (show l∈List.replicate _ [] from hl)⟩
theorem Lv.frontLe (h:Lv p cf T v)(hi:i<v.ps.length)(hj:j<v.ps.length):frontK (plW v i).k≤knW v i j:=by
 obtain⟨c,hv⟩:=h.ok
 exact frontL_le (ln_mem (by rw[(hv.pl i hi).1.wc.ls,hv.kn hi];exact hj))
theorem Lv.frontGe (h:Lv p cf T v)(hi:i<v.ps.length)(hx:∀ j,j<v.ps.length→x≤knW v i j):x≤frontK (plW v i).k:=by
 obtain⟨c,hv⟩:=h.ok
 refine frontL_ge (hv.pl i hi).1.wc.lne λl hl=>?_
 obtain⟨j,hj,rfl⟩:=List.getElem_of_mem hl
 rw[(hv.pl i hi).1.wc.ls,hv.kn hi]at hj
 have:=hx j hj
 rw[knW,List.getD_eq_getElem?_getD,List.getElem?_eq_getElem (by rw[(hv.pl i hi).1.wc.ls,hv.kn hi];exact hj)]at this
 exact this
theorem Lv.front {h:Nat}(hL:Lv p cf T v)(hi:i<v.ps.length)(hx:∀ j,j<v.ps.length→h≤knW v i j)(hy:j<v.ps.length)(he:knW v i j=h):frontK (plW v i).k=h :=
 Nat.le_antisymm (he ▸ hL.frontLe hi hy) (hL.frontGe hi hx)
theorem Lv.head (h:Lv p cf T v)(hi:i<v.ps.length):headK (plW v i).k=knW v i i:=by
 obtain⟨c,hv⟩:=h.ok
 rw[headK,(hv.cfk hi).1];rfl
theorem Lv.press (h:Lv p cf T v)(hi:i<v.ps.length)(b n:Int):Lv p cf T (goW p ⟨1,i,b,n⟩ v)∧(goW p ⟨1,i,b,n⟩ v).net=v.net∧(goW p ⟨1,i,b,n⟩ v).ps.length=v.ps.length ∧
   (∀ x y,knW (goW p ⟨1,i,b,n⟩ v) x y=knW v x y+if (x=i∧y=i)∧knW v i i<1000∧knW v i i<cf.window.toNat+frontK (plW v i).k then 1 else 0) ∧
   (knW v i i<1000∧knW v i i<cf.window.toNat+frontK (plW v i).k→(stepW p ⟨1,i,b,n⟩ v).1=0):=by
 obtain⟨c,hv⟩:=h.ok
 obtain⟨G,hG⟩:=h.hon
 obtain⟨hme,hwin,hid,hn,_⟩:=hv.cfk hi
 have hst:stepW p ⟨1,i,b,n⟩ v=((pressP p (bOf b) (plW v i)).1,{ v with ps:=v.ps.set i (pressP p (bOf b) (plW v i)).2 }):=by
   rw[stepW,if_neg (by show ¬ ((1:Int)<1∨(8:Int)<1);omega),if_neg (by show ¬ ((3:Int)≤1∧(1:Int)≤6);omega),oneW_press rfl rfl hi]
 obtain⟨⟨G',h1⟩,h2⟩:=hG.press hv hi (bOf b)
 have hv1:=hv.press hi (bOf b)
 have hkeep:(pressP p (bOf b) (plW v i)).2.k.cl=(plW v i).k.cl∧(pressP p (bOf b) (plW v i)).2.k.now=(plW v i).k.now∧(pressP p (bOf b) (plW v i)).2.k.ev=(plW v i).k.ev:=by
   by_cases h0:(pressP p (bOf b) (plW v i)).1=0
   · obtain⟨_,mr,hk⟩:=(hG.pl i hi).press h0
     rw[hk];exact⟨rfl,rfl,rfl⟩
   · rw[press_stay (hv.pl i hi).1 h0];exact⟨rfl,rfl,rfl⟩
 have hL:Lv p cf T { v with ps:=v.ps.set i (pressP p (bOf b) (plW v i)).2 }:=⟨⟨_,hv1⟩,⟨G',h1⟩,λj hj=>by
   have hj':j<v.ps.length:=by have:j<(v.ps.set i _).length:=hj;rwa [List.length_set]at this
   rw[plW_set hi]
   split
   · rename_i e;subst e;rw[hkeep.1,hkeep.2.1,hkeep.2.2];exact h.op _ hi
   · exact h.op j hj',h.ev⟩
 have hgo:goW p ⟨1,i,b,n⟩ v={ v with ps:=v.ps.set i (pressP p (bOf b) (plW v i)).2 }:=by
   rw[goW,if_neg (by show ¬ (1:Int)=7;omega),hst,hL.still]
 have hco:(pressP p (bOf b) (plW v i)).1=0↔knW v i i<1000∧knW v i i<cf.window.toNat+frontK (plW v i).k:=by
   have hd:=h.head hi
   show (pressK (bOf b) (plW v i).k).1=0↔_
   rw[pressK,if_neg (by rw[(h.op i hi).1];decide),← hd,← hwin]
   split
   · exact⟨λh=>absurd h (by intro e;cases e),λh=>by omega⟩
   · split
     · exact⟨λh=>absurd h (by intro e;cases e),λh=>by omega⟩
     · exact⟨λ_=>by omega,λ_=>rfl⟩
 rw[hgo]
 refine⟨hL,rfl,List.length_set,λx y=>?_,λh=>by rw[hst];exact hco.2 h⟩
 rw[h2]
 by_cases e:x=i∧y=i
 · by_cases e2:(pressP p (bOf b) (plW v i)).1=0
   · rw[if_pos ⟨e,e2⟩,if_pos ⟨e,hco.1 e2⟩]
   · rw[if_neg (λh=>e2 h.2),if_neg (λh=>e2 (hco.2 h.2))]
 · rw[if_neg (λh=>e h.1),if_neg (λh=>e h.1)]
noncomputable def tickM (v:Wd)(i:Nat):List Ml:=((List.range v.ps.length).filter (·≠i)).map λj=>(i,j,encO (mailPk (plW v i).k j))
theorem tick_on {k:Ks}(hc:k.cl=false)(hn:k.now<39):tickK k=((othersK k).map λi=>(k.me,i,encO (mailPk k i)),{ k with now:=k.now+1 }):=by
 rw[tickK,if_neg (by rw[hc];decide)]
 simp only
 have:(othersK { k with now:=k.now+1 }).find? (λi=>decide (lateP { k with now:=k.now+1 } i))=none:=by
   rw[List.find?_eq_none]
   intro i _
   rw[decide_eq_true_eq,lateP]
   show ¬ (_+40≤k.now+1)
   omega
 rw[this];rfl
theorem sendsW_fit:∀ {l net:List Ml},net.length+l.length≤300→sendsW net l=net++l
 | [],net,_=>by rw[List.append_nil];rfl
 | m::l,net,h=>by
   rw[List.length_cons]at h
   show sendsW (sendW net m) l=_
   rw[sendW,if_pos (by omega),sendsW_fit (by rw[List.length_append,List.length_singleton];omega),List.append_assoc];rfl
theorem Lv.tick (h:Lv p cf T v)(hT:T i<39)(hi:i<v.ps.length)(hf:v.net.length+v.ps.length≤300)(b n:Int):Lv p cf (λj=>if j=i then T j+1 else T j) (goW p ⟨2,i,b,n⟩ v)∧(goW p ⟨2,i,b,n⟩ v).net=v.net++tickM v i∧(goW p ⟨2,i,b,n⟩ v).ps.length=v.ps.length ∧
   (∀ x y,knW (goW p ⟨2,i,b,n⟩ v) x y=knW v x y)∧(∀ m∈tickM v i,valM m=knW v i i)∧(stepW p ⟨2,i,b,n⟩ v).1=0:=by
 obtain⟨c,hv⟩:=h.ok
 obtain⟨G,hG⟩:=h.hon
 obtain⟨hme,hwin,hid,hn,_⟩:=hv.cfk hi
 have ho:=h.op i hi
 have hti:=tick_on ho.1 (by omega)
 have hm1:(tickK (plW v i).k).1=tickM v i:=by rw[hti,tickM,othersK,hn,hme]
 have hml:(tickM v i).length≤v.ps.length:=by
   rw[tickM,List.length_map]
   exact Nat.le_trans (List.length_filter_le _ _) (by rw[List.length_range];exact Nat.le_refl _)
 have hst:stepW p ⟨2,i,b,n⟩ v=(0,{ v with ps:=v.ps.set i ⟨(tickK (plW v i).k).2,(plW v i).g⟩,net:=sendsW v.net (tickK (plW v i).k).1 }):=by
   rw[stepW,if_neg (by show ¬ ((2:Int)<1∨(8:Int)<2);omega),if_neg (by show ¬ ((3:Int)≤2∧(2:Int)≤6);omega),oneW_tick rfl rfl hi]
 obtain⟨h1,h2⟩:=hG.tick hv hi rfl
 have hL:Lv p cf (λj=>if j=i then T j+1 else T j) { v with ps:=v.ps.set i ⟨(tickK (plW v i).k).2,(plW v i).g⟩,net:=sendsW v.net (tickK (plW v i).k).1 }:=⟨⟨_,hv.tick hi⟩,⟨G,h1⟩,λj hj=>by
   have hj':j<v.ps.length:=by have:j<(v.ps.set i _).length:=hj;rwa [List.length_set]at this
   rw[plW_set hi]
   split
   · rename_i e;subst e
     show (tickK (plW v i).k).2.cl=false∧(tickK (plW v i).k).2.now≤_∧(tickK (plW v i).k).2.ev=[]
     rw[hti]
     exact⟨ho.1,by show (plW v i).k.now+1≤if i=i then _ else _;rw[if_pos rfl];omega,ho.2.2⟩
   · have:=h.op j hj';exact⟨this.1,by split <;> omega,this.2.2⟩,h.ev⟩
 have hgo:goW p ⟨2,i,b,n⟩ v={ v with ps:=v.ps.set i ⟨(tickK (plW v i).k).2,(plW v i).g⟩,net:=sendsW v.net (tickK (plW v i).k).1 }:=by
   rw[goW,if_neg (by show ¬ (2:Int)=7;omega),hst,hL.still]
 rw[hgo]
 refine⟨hL,?_,List.length_set,λx y=>h2 x y,λm hm=>?_,by rw[hst]⟩
 · show sendsW v.net (tickK (plW v i).k).1=_
   rw[hm1,sendsW_fit (by omega)]
 · rw[← hm1]at hm
   obtain⟨q,_,hq⟩:=hG.mailOk hv hi rfl hm
   exact hq
theorem Lv.come (h:Lv p cf T v)(hmm:m∈v.net)(hsub:∀ m∈net,m∈v.net)(hl:net.length≤v.net.length):Lv p cf T { v with ps:=v.ps.set m.2.1 (recvP p m.2.2 (plW v m.2.1)).2,net:=net }∧(recvP p m.2.2 (plW v m.2.1)).1=0 ∧
   (∀ x y,knW { v with ps:=v.ps.set m.2.1 (recvP p m.2.2 (plW v m.2.1)).2,net:=net } x y=if x=m.2.1∧y=m.1 then max (knW v x y) (valM m) else knW v x y)∧m.1<v.ps.length∧m.2.1<v.ps.length∧m.1≠m.2.1:=by
 obtain⟨c,hv⟩:=h.ok
 obtain⟨G,hG⟩:=h.hon
 obtain⟨q,hq⟩:=hG.net m hmm
 obtain⟨h1,h2⟩:=hG.recv hv hmm hsub
 have hi:=hq.lt.2
 obtain⟨hme,hwin,hid,hn,_⟩:=hv.cfk hi
 obtain⟨_,h0,mr,hk⟩:=(hG.pl _ hi).hear hq.hon (h.op _ hi).1 (by rw[hq.to,hme]) (by rw[hq.fr,hn];have:=hq.lt.1;omega) (by rw[hq.id,hid]) hq.kind
 rw[← hq.bs]at h0 hk
 have hnl:=hv.net.1
 refine⟨⟨⟨_,hv.recv hi m.2.2 (net:=net) (by omega) λm hm=>hv.net.2 m (hsub m hm)⟩,⟨G,h1⟩,λj hj=>?_,h.ev⟩,h0,λx y=>?_,hq.lt.1,hi,λe=>hq.hon.may.2.2.1 (by rw[hq.fr,hq.to,e])⟩
 · have hj':j<v.ps.length:=by have:j<(v.ps.set m.2.1 _).length:=hj;rwa [List.length_set]at this
   rw[plW_set hi]
   split
   · rename_i e;subst e;rw[hk];exact h.op _ hi
   · exact h.op j hj'
 · rw[h2]
   by_cases e:x=m.2.1∧y=m.1
   · rw[if_pos ⟨e,(h.op _ hi).1⟩,if_pos e]
   · rw[if_neg (λh=>e h.1),if_neg e]
theorem go_send (p:Pr){r:List Ml}(hm:v.net=m::r)(a b:Int):stepW p ⟨3,a,b,0⟩ v=((recvP p m.2.2 (plW v m.2.1)).1,{ v with ps:=v.ps.set m.2.1 (recvP p m.2.2 (plW v m.2.1)).2,net:=r }):=by
 rw[stepW,if_neg (by show ¬ ((3:Int)<1∨(8:Int)<3);omega),if_pos (by show (3:Int)≤3∧(3:Int)≤6;omega),mailW_recv (j:=0) (m:=m) (by show (3:Int)≠4;omega) (by show (3:Int)≠6;omega) rfl (by rw[hm];rfl)]
 show (_,Wd.mk _ (if (3:Int)=5 then v.net else v.net.eraseIdx 0) _)=_
 rw[if_neg (by omega),hm];rfl
theorem Lv.send (h:Lv p cf T v){r:List Ml}(hm:v.net=m::r)(a b:Int):Lv p cf T (goW p ⟨3,a,b,0⟩ v)∧(goW p ⟨3,a,b,0⟩ v).net=r∧(goW p ⟨3,a,b,0⟩ v).ps.length=v.ps.length ∧
   (∀ x y,knW (goW p ⟨3,a,b,0⟩ v) x y=if x=m.2.1∧y=m.1 then max (knW v x y) (valM m) else knW v x y)∧(stepW p ⟨3,a,b,0⟩ v).1=0∧m.1<v.ps.length∧m.2.1<v.ps.length∧m.1≠m.2.1:=by
 obtain⟨h1,h2,h3,h4⟩:=h.come (m:=m) (net:=r) (by rw[hm];exact List.mem_cons_self) (λm' hm'=>by rw[hm];exact List.mem_cons_of_mem _ hm') (by rw[hm,List.length_cons];omega)
 have hgo:goW p ⟨3,a,b,0⟩ v={ v with ps:=v.ps.set m.2.1 (recvP p m.2.2 (plW v m.2.1)).2,net:=r }:=by
   rw[goW,if_neg (by show ¬ (3:Int)=7;omega),go_send p hm,h1.still]
 rw[hgo]
 exact⟨h1,rfl,List.length_set,h3,by rw[go_send p hm];exact h2,h4⟩
end
end
section
abbrev RgZ:=(RgB×Pl)×(RcA×List BBx)
end
section
section
variable {W w:World}{L:List SP}{c i:Nat}{p:Pr}{B:MatB}
instance PbZ.isNil (z:PbZ):IsNil z.mul (!z.isMu):=⟨by
 cases z with
 | mu M=>exact .inr ⟨⟨_,rfl⟩,rfl⟩
 | pl B=>exact .inl ⟨rfl,rfl⟩⟩
theorem plBack {xs:List (PbX×Pl)}{x:PbX}{s:Pl}(hs:St W w (x.J W p c s::All (plX W p c) (xs.eraseIdx i)::L))(hx:xs[i]?=some (x,s)):St W w (All (plX W p c) xs::L):=by
 obtain⟨hi,h1⟩:=List.getElem?_eq_some_iff.1 hx
 refine St.allBack hi ?_
 rw[h1]
 exact hs
end
end
section
section
variable {W w:World}{L:List SP}{c i:Nat}{p:Pr}{v:Wd}{B:MatB}{t:Sp4}{cf:Cf}
def cfB:Cf:=⟨2,0,0,0,4,1,0,2,1,5⟩
theorem mt_go (hs:St W w (MatS W B p c v::L))(hB:B.Ok p (c+10))(hv:WdOk p cf c v)(hc9:9*c+100≤1000000000)(hf:t.fn≠7) :
   Calls Tryz.prog 29 #[pt B.mb,.agg (sp4C t).toArray] w λe w'=>e=.returned (.int .i64 (stepW p t v).1)∧St W w' (MatS W B p (c+10) (goW p t v)::L) :=
 (mt_step hs hB hv hc9).mono λe w' ⟨z,h1,h2,_,hs⟩=>⟨by rw[h1,h2 hf],by rw[goW,if_neg hf];exact hs⟩
theorem goOut (hf:t.fn<1∨8<t.fn):stepW p t v=(1,v):=by rw[stepW,if_pos hf]
set_option maxHeartbeats 2000000 in
theorem begun27 (hs:St W w L):Calls Tryz.prog 26 #[] w λe w'=>e=.returned (.bool true)∧St W w' L:=by
 have hm0:mayCf cfB:=by decide
 have hma:mayAll (meC cfB 0) sumP []:=⟨hm0,sumP_ok,by decide⟩
 refine EN Tryz.func26 Tryz.ntmps26 rfl rfl λa ha=>?_
 refine CL1 4 ha hs (prog22 hs) λadP a w ha hs=>?_
 refine CL1 0 ha hs (mt_new (cf:=cfB) (tb:=[]) (adT:=none) (cT:=0) hma hs rfl (by decide) (by decide) (by decide) (λw' h=>RdB.nil)) λB a w ha ⟨hP,hs⟩=>?_
 refine RN 5 ha hs λa ha=>?_
 have hgs:∀ x∈B.pls,mayGs x.z.gs:=λx hx=>by rw[(hP.2 x hx).1];decide
 have L0:Lv sumP cfB (λ_=>0) (newW sumP cfB cfB.n.toNat):=Lv.new hm0
 have n0:(newW sumP cfB cfB.n.toNat).ps.length=2:=newW_len
 have e0:(newW sumP cfB cfB.n.toNat).net=[]:=rfl
 have k0:∀ x y,x<2→y<2→knW (newW sumP cfB cfB.n.toNat) x y=0:=λx y hx hy=>knW_new hm0 hx hy
 have o0:=newW_ok (p:=sumP) hm0
 generalize newW sumP cfB cfB.n.toNat=v0 at hs L0 n0 e0 k0 o0
 have hw4:cfB.window.toNat=4:=rfl
 obtain⟨L1,e1,n1,k1,z1⟩:=L0.press (i:=0) (by omega) 5 0
 have k00:=k0 0 0 (by omega) (by omega)
 replace z1:=z1 (by omega)
 have o1:=o0.go (s:=⟨1,(0:Nat),5,0⟩)
 obtain⟨L2,e2,n2,k2,z2⟩:=L1.press (i:=1) (by omega) 6 0
 have k11:=k0 1 1 (by omega) (by omega)
 have k11':=k1 1 1
 rw[if_neg (by omega)]at k11'
 replace z2:=z2 (by omega)
 have o2:=o1.go (s:=⟨1,(1:Nat),6,0⟩)
 obtain⟨L3,e3,n3,k3,m3,z3⟩:=L2.tick (i:=0) (by decide) (by omega) (by rw[e2,e1,e0,n2,n1,n0];decide) 0 0
 have o3:=o2.go (s:=⟨2,(0:Nat),0,0⟩)
 have t3:tickM (goW sumP ⟨1,(1:Nat),6,0⟩ (goW sumP ⟨1,(0:Nat),5,0⟩ v0)) 0=[(0,1,encO (mailPk (plW (goW sumP ⟨1,(1:Nat),6,0⟩ (goW sumP ⟨1,(0:Nat),5,0⟩ v0)) 0).k 1))]:=by
   rw[tickM,n2,n1,n0];rfl
 rw[e2,e1,e0,t3]at e3
 obtain⟨L4,e4,n4,k4,z4,_⟩:=L3.send e3 0 0
 have o4:=o3.go (s:=⟨3,0,0,0⟩)
 have h5:valM (0,1,encO (mailPk (plW (goW sumP ⟨1,(1:Nat),6,0⟩ (goW sumP ⟨1,(0:Nat),5,0⟩ v0)) 0).k 1))=1:=by
   rw[m3 _ (by rw[t3];exact List.mem_cons_self),k2 0 0,if_neg (by omega),k1 0 0,if_pos (by omega),k00]
 have f4:frontK (plW (goW sumP ⟨3,0,0,0⟩ (goW sumP ⟨2,(0:Nat),0,0⟩ (goW sumP ⟨1,(1:Nat),6,0⟩ (goW sumP ⟨1,(0:Nat),5,0⟩ v0)))) 1).k=1:=by
   have q0:=k4 1 0
   rw[if_pos ⟨rfl,rfl⟩,k3,k2,if_neg (by omega),k1,if_neg (by omega),k0 1 0 (by omega) (by omega),h5]at q0
   have q1:=k4 1 1
   rw[if_neg (by show ¬ ((1:Nat)=1∧(1:Nat)=0);omega),k3,k2,if_pos (by omega),k11']at q1
   refine L4.front (j:=0) (by omega) (λj hj=>?_) (by omega) (by rw[q0];rfl)
   have:j=0∨j=1:=by omega
   rcases this with rfl | rfl
   · rw[q0];decide
   · rw[q1];omega
 clear k0 k1 k2 k3 k4 t3 h5 m3
 refine RN 2 ha hs λa ha=>?_
 obtain⟨adL,cL,adE,cE,xs,es,⟨hx1,hx2,hx3⟩,hs⟩:=MatS.open2 hs
 have hxl:xs.length=2:=by rw[← n0,← hx2,List.length_map]
 have hmu:xs[1].1.z.isMu=true:=(hP.2 _ (by rw[← hx1];exact List.mem_map.2 ⟨xs[1],List.getElem_mem _,rfl⟩)).2
 refine RN 3 ha hs λa ha=>?_
 replace ha:=ha.isF 17
 refine RN 4 ha hs λa ha=>?_
 replace ha:=ha.isF 21
 refine CL 1 ha hs (mt_player_in (i:=0) ((hs.pick (Sl 81 1 adL xs.length cL (xs.map plv))).pick (blk B.mb 107 [.slice adL xs.length cL,pt B.q,.slice adE es.length cE])) (by omega)) λa w ha hs=>?_
 refine RN 3 ha hs λa ha=>?_
 replace ha:=ha.isF 26
 refine CL 1 ha hs (mt_multi_in (i:=1) ((hs.pick (Sl 81 1 adL xs.length cL (xs.map plv))).pick (blk B.mb 107 [.slice adL xs.length cL,pt B.q,.slice adE es.length cE])) (by omega)) λa w ha hs=>?_
 refine RN 1 ha hs λa ha=>?_
 rw[hmu,Bool.not_true]at ha
 refine RN 2 ha hs λa ha=>?_
 replace ha:=ha.isF 31
 refine CL 1 ha hs (mt_net (hs.pick (blk B.mb 107 [.slice adL xs.length cL,pt B.q,.slice adE es.length cE]))) λa w ha hs=>?_
 refine RN 2 ha hs λa ha=>?_
 replace ha:=ha.isF 35
 refine RN 2 ha hs λa ha=>?_
 replace hs:=MatS.close2 (hs.sub (M:=blk B.mb 107 [.slice adL xs.length cL,pt B.q,.slice adE es.length cE]::Sl 81 1 adL xs.length cL (xs.map plv)::All (plX W sumP 0) xs::NetQ B.q (v0.net.map nCast)::Sl 90 1 adE es.length cE (es.map evs)::All evo es::L)) hx1 hx2 hx3
 refine CL 2 ha hs (mt_go (t:=⟨1,(0:Nat),5,0⟩) hs ⟨sumP_ok,by decide,hgs,by decide⟩ o0 (by decide) (by decide)) λa w ha hs=>?_
 rw[z1]at ha
 refine CL 4 ha hs (mt_go (t:=⟨1,(1:Nat),6,0⟩) hs ⟨sumP_ok,by decide,hgs,by decide⟩ (o1.more (by decide)) (by decide) (by decide)) λa w ha hs=>?_
 rw[z2]at ha
 refine CL 4 ha hs (mt_go (t:=⟨2,(0:Nat),0,0⟩) hs ⟨sumP_ok,by decide,hgs,by decide⟩ (o2.more (by decide)) (by decide) (by decide)) λa w ha hs=>?_
 rw[z3]at ha
 refine CL 4 ha hs (mt_go (t:=⟨3,0,0,0⟩) hs ⟨sumP_ok,by decide,hgs,by decide⟩ (o3.more (by decide)) (by decide) (by decide)) λa w ha hs=>?_
 rw[z4]at ha
 have n5:=n4.trans (n3.trans (n2.trans (n1.trans n0)))
 clear o0 o1 o2 o3 L0 L1 L2 L3 z1 z2 z3 z4 e1 e2 e3 n0 n1 n2 n3 n4
 generalize goW sumP ⟨3,0,0,0⟩ (goW sumP ⟨2,(0:Nat),0,0⟩ (goW sumP ⟨1,(1:Nat),6,0⟩ (goW sumP ⟨1,(0:Nat),5,0⟩ v0)))=v at hs o4 L4 f4 e4 n5
 refine RN 2 ha hs λa ha=>?_
 obtain⟨adL,cL,adE,cE,xs,es,⟨hx1,hx2,hx3⟩,hs⟩:=MatS.open2 hs
 have hxl:xs.length=2:=by rw[← n5,← hx2,List.length_map]
 obtain⟨x,hx,hxB⟩:∃ x,xs[1]?=some (x,plW v 1)∧B.pls[1]?=some x:=xsAt hx1 hx2 (by omega)
 obtain⟨_,hxe⟩:=List.getElem?_eq_some_iff.1 hx
 have hM:=x.play (W:=W) (p:=sumP) sumP_ok (by decide) (hgs x (List.mem_of_getElem? hxB))
 have hw:=(o4.pl 1 (by omega)).1
 refine CL 1 ha hs (mt_player_in (i:=1) ((hs.pick (Sl 81 1 adL xs.length cL (xs.map plv))).pick (blk B.mb 107 [.slice adL xs.length cL,pt B.q,.slice adE es.length cE])) (by omega)) λa w ha hs=>?_
 rw[show plv xs[1]=.iface x.z.t (.pointer (some x.z.ad)) from by rw[hxe]]at ha
 replace hs:=xsOut (hs.pick (All (plX W sumP 40) xs)) hx
 refine RN 0 ha hs λa ha=>?_
 refine st_callI ha rfl hM.mC hM.cC rfl (hM.conf _ _ 40 (plW v 1) (by decide) hw (hs.pick (x.J W sumP 40 (plW v 1)))) (by rfl) ?_
 clear ha hs
 rintro e w ⟨ad1,c1,rfl,hs⟩
 refine⟨_,rfl,λa ha=>?_⟩
 refine RN 5 ha hs λa ha=>?_
 rw[show (confP (plW v 1)).2=1 from f4]at ha
 replace hs:=plBack ((hs.pick (All (plX W sumP 40) (xs.eraseIdx 1))).pick (x.J W sumP 40 (plW v 1))) hx
 replace hs:=MatS.close2 (hs.sub (M:=blk B.mb 107 [.slice adL xs.length cL,pt B.q,.slice adE es.length cE]::Sl 81 1 adL xs.length cL (xs.map plv)::All (plX W sumP 40) xs::NetQ B.q (v.net.map nCast)::Sl 90 1 adE es.length cE (es.map evs)::All evo es::L)) hx1 hx2 hx3
 refine RN 4 ha hs λa ha=>?_
 replace ha:=ha.isT 56
 refine RN 4 ha hs λa ha=>?_
 replace ha:=ha.isT 60
 refine RN 4 ha hs λa ha=>?_
 replace ha:=ha.isT 64
 refine RN 4 ha hs λa ha=>?_
 replace ha:=ha.isT 68
 refine RN 4 ha hs λa ha=>?_
 replace ha:=ha.isT 72
 refine RN 1 ha hs λa ha=>?_
 obtain⟨adL,cL,adE,cE,xs,es,⟨hx1,hx2,hx3⟩,hs⟩:=MatS.open2 hs
 refine CL 0 ha hs (mt_net (hs.pick (blk B.mb 107 [.slice adL xs.length cL,pt B.q,.slice adE es.length cE]))) λa w ha hs=>?_
 refine CL 0 ha hs (nt_len_net (hs.pick (NetQ B.q (v.net.map nCast)))) λa w ha hs=>?_
 rw[List.length_map,e4]at ha
 replace hs:=MatS.close2 (hs.sub (M:=blk B.mb 107 [.slice adL xs.length cL,pt B.q,.slice adE es.length cE]::Sl 81 1 adL xs.length cL (xs.map plv)::All (plX W sumP 40) xs::NetQ B.q (v.net.map nCast)::Sl 90 1 adE es.length cE (es.map evs)::All evo es::L)) hx1 hx2 hx3
 refine RN 3 ha hs λa ha=>?_
 replace ha:=ha.isT 78
 refine CL 2 ha hs (mt_go (t:=⟨0,0,0,0⟩) hs ⟨sumP_ok,by decide,hgs,by decide⟩ (o4.more (by decide)) (by decide) (by decide)) λa w ha hs=>?_
 rw[goOut (.inl (by decide))]at ha
 rw[goW,if_neg (by decide),goOut (.inl (by decide)),L4.still]at hs
 refine RN 3 ha hs λa ha=>?_
 replace ha:=ha.isT 84
 refine CL2 1 ha hs (mt_events_in (i:=0) hs (by omega) o4.ev (by rw[L4.ev _ (getD_mem (d:=[]) (by rw[o4.ev];omega))];decide)) λad2 c2 a w ha hs=>?_
 rw[L4.ev _ (getD_mem (d:=[]) (by rw[o4.ev];omega))]at ha
 refine RT 4 ha hs ?_
 exact⟨rfl,hs.sub⟩
end
end
section
section
variable {c:Nat}{p:Pr}{v:Wd}{cf:Cf}
structure Wc (p:Pr)(cf:Cf)(c:Nat)(v:Wd):Prop where
 ok:WdOk p cf c v
 calm:calmW v
theorem Wc.new (h:mayCf cf):Wc p cf 0 (newW p cf cf.n.toNat):=⟨newW_ok h,newW_calm h⟩
end
end
section
def cf1:Cf:=⟨1,0,0,0,0,0,0,0,0,0⟩
def cfN:Cf:=⟨2,9,0,0,4,1,0,0,0,3⟩
set_option maxHeartbeats 2000000 in
theorem matchNone_walk (W:World):Calls Tryz.prog 6 #[] W λe w'=>e=.returned (.bool true)∧Below W.heap.size W w':=by
 have hs:=St.start W
 have hm0:mayCf (meC cfN 0):=by decide
 have hma:mayAll (meC cfN 0) sumP []:=⟨hm0,sumP_ok,by decide⟩
 have hmn:¬ mayAll (meC cf1 0) sumP []:=λh=>absurd h.1 (by decide)
 refine EN Tryz.func6 Tryz.ntmps6 rfl rfl λa ha=>?_
 refine CL1 4 ha hs (prog22 hs) λadP a w ha hs=>?_
 refine CL 0 ha hs (mt_newN (cf:=cf1) (tb:=[]) (adT:=none) (cT:=0) hmn hs rfl (by decide) (by decide) (by decide) (λw' h=>RdB.nil)) λa w ha hs=>?_
 refine RN 5 ha hs λa ha=>?_
 replace hs:=hs.tail
 refine CL1 2 ha hs (prog22 hs) λadQ a w ha hs=>?_
 refine CL1 0 ha hs (mt_new (cf:=cfN) (tb:=[]) (adT:=none) (cT:=0) hma hs rfl (by decide) (by decide) (by decide) (λw' h=>RdB.nil)) λB a w ha ⟨hP,hs⟩=>?_
 refine RN 5 ha hs λa ha=>?_
 have hgs:∀ x∈B.pls,mayGs x.z.gs:=λx hx=>by rw[(hP.2 x hx).1];decide
 have hl2:(newW sumP cfN cfN.n.toNat).ps.length=2:=newW_len
 have hc:Wc sumP (meC cfN 0) 0 (newW sumP cfN cfN.n.toNat):=Wc.new (p:=sumP) hm0
 have he0:(newW sumP cfN cfN.n.toNat).net=[]:=rfl
 generalize newW sumP cfN cfN.n.toNat=v at hs hc hl2 he0
 have hst7:(stepW sumP ⟨7,0,0,0⟩ v).2=v:=stepW_work rfl
 have hst1:stepW sumP ⟨1,7,0,0⟩ v=(7,v):=by
   rw[stepW,if_neg (by decide),if_neg (by decide),oneW,if_pos (.inr (by rw[hl2];decide))]
 have hst3:stepW sumP ⟨3,0,0,0⟩ v=(3,v):=by
   rw[stepW,if_neg (by decide),if_pos (by decide),mailW,if_pos (.inr (by rw[he0];decide))]
 have hdr:drainW v=v:=drainW_calm hc.ok.ev hc.calm
 refine CL 1 ha hs (begun27 hs) λa w ha hs=>?_
 refine RN 1 ha hs λa ha=>?_
 replace ha:=ha.isT 18
 refine RN 4 ha hs λa ha=>?_
 replace ha:=ha.isT 22
 refine RN 4 ha hs λa ha=>?_
 replace ha:=ha.isT 26
 refine RN 4 ha hs λa ha=>?_
 replace ha:=ha.isT 30
 refine RN 1 ha hs λa ha=>?_
 obtain⟨adL,cL,adE,cE,xs,es,⟨hx1,hx2,hx3⟩,hs⟩:=MatS.open2 hs
 have hxl:xs.length=2:=by rw[← hl2,← hx2,List.length_map]
 have hmu:xs[0].1.z.isMu=false:=(hP.2 _ (by rw[← hx1];exact List.mem_map.2 ⟨xs[0],List.getElem_mem _,rfl⟩)).2
 refine CL 0 ha hs (mt_multi_in (i:=0) ((hs.pick (Sl 81 1 adL xs.length cL (xs.map plv))).pick (blk B.mb 107 [.slice adL xs.length cL,pt B.q,.slice adE es.length cE])) (by omega)) λa w ha hs=>?_
 refine RN 1 ha hs λa ha=>?_
 rw[hmu,Bool.not_false]at ha
 refine RN 2 ha hs λa ha=>?_
 replace ha:=ha.isT 35
 refine CL 1 ha hs (mt_player_out (y:=5) (hs.pick (blk B.mb 107 [.slice adL xs.length cL,pt B.q,.slice adE es.length cE])) (by omega)) λa w ha hs=>?_
 replace hs:=MatS.close2 (hs.sub (M:=blk B.mb 107 [.slice adL xs.length cL,pt B.q,.slice adE es.length cE]::Sl 81 1 adL xs.length cL (xs.map plv)::All (plX W sumP 0) xs::NetQ B.q (v.net.map nCast)::Sl 90 1 adE es.length cE (es.map evs)::All evo es::[])) hx1 hx2 hx3
 refine RN 0 ha hs λa ha=>?_
 refine SK (st_set ha (wgT ha rfl (s:=35)) (ex_eqnilN ha Tryz.underlying81) rfl ?_);clear ha a;intro a ha
 refine RN 2 ha hs λa ha=>?_
 replace ha:=ha.isT 40
 refine CL1 2 ha hs (mt_step (t:=⟨7,0,0,0⟩) hs ⟨sumP_ok,by decide,hgs,by decide⟩ hc.ok (by decide)) λz a w ha ⟨_,hz,hs⟩=>?_
 rw[hst7,hdr]at hs
 have hz7:z=7:=by
   rcases hz rfl with h7 | ⟨_,_,_,_,x,M,h4,h5⟩
   · exact h7
   · have:=(hP.2 x (List.mem_of_getElem? h4)).2
     rw[h5]at this
     cases this
 rw[hz7]at ha
 refine RN 3 ha hs λa ha=>?_
 replace ha:=ha.isT 46
 refine CL 2 ha hs (mt_go (t:=⟨1,7,0,0⟩) hs ⟨sumP_ok,by decide,hgs,by decide⟩ (hc.ok.more (by decide)) (by decide) (by decide)) λa w ha hs=>?_
 rw[hst1]at ha
 rw[goW,if_neg (by decide),hst1,hdr]at hs
 refine RN 3 ha hs λa ha=>?_
 replace ha:=ha.isT 52
 refine CL 2 ha hs (mt_go (t:=⟨3,0,0,0⟩) hs ⟨sumP_ok,by decide,hgs,by decide⟩ (hc.ok.more (by decide)) (by decide) (by decide)) λa w ha hs=>?_
 rw[hst3]at ha
 refine RT 3 ha hs ?_
 exact⟨rfl,hs.below⟩
end
end Go.Proofs.YteoldcfapaiobaaGreat
