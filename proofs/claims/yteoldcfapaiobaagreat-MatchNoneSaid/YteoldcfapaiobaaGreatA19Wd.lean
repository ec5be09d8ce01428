/- A match, plainly. -/
import Derived.Test.YteoldcfapaiobaaGreatA18MulA
import Derived.Test.YteoldcfapaiobaaGreatA14Core
namespace Go.Proofs.YteoldcfapaiobaaGreat
open Go.RowKit
set_option linter.unusedVariables false
set_option linter.unusedSimpArgs false
set_option maxRecDepth 10000
set_option synthInstance.maxSize 4000
set_option synthInstance.maxHeartbeats 400000
section
structure Wd where
 ps:List Pl
 net:List Ml
 ev:List (List Evt)
structure Sp4 where
 fn:Int
 a:Int
 b:Int
 n:Int
def pl0:Pl:=⟨newK ⟨0,0,0,0,0,0,0,0,0,0⟩,zeroG⟩
def plW (v:Wd)(i:Nat):Pl:=v.ps.getD i pl0
def bOf (b:Int):UInt8:=UInt8.ofNat (b%256).toNat
theorem bOf_int (b:Int):((bOf b).toNat:Int)=b%256:=by
 have h1:=Int.emod_nonneg b (show (256:Int)≠0 by decide)
 have h2:=Int.emod_lt_of_pos b (show (0:Int)<256 by decide)
 rw[bOf,UInt8.toNat_ofNat',Nat.mod_eq_of_lt (by omega)]
 omega
def sendW (net:List Ml)(m:Ml):List Ml:=if net.length<300 then net++[m] else net
def sendsW (net l:List Ml):List Ml:=l.foldl sendW net
theorem sendsW_take (net:List Ml){l:List Ml}{i:Nat}(h:i<l.length):sendsW net (l.take (i+1))=sendW (sendsW net (l.take i)) l[i]:=by
 rw[sendsW,← List.take_append_getElem h,List.foldl_append];rfl
theorem sendsW_mem:∀ {l net:List Ml} {m:Ml},m∈sendsW net l→m∈net∨m∈l
 | [],net,m,h=>.inl h
 | x::l,net,m,h=>by
   rcases sendsW_mem (l:=l) (net:=sendW net x) h with h | h
   · rw[sendW]at h
     split at h
     · rcases List.mem_append.1 h with h | h
       · exact .inl h
       · exact .inr (by rw[List.mem_singleton.1 h];exact List.mem_cons_self)
     · exact .inl h
   · exact .inr (List.mem_cons_of_mem _ h)
theorem sendsW_len:∀ {l net:List Ml},net.length≤300→(sendsW net l).length≤300
 | [],net,h=>h
 | x::l,net,h=>sendsW_len (l:=l) (net:=sendW net x) (by
   rw[sendW]
   split
   · rw[List.length_append,List.length_singleton];omega
   · exact h)
noncomputable def mailW (p:Pr)(s:Sp4)(v:Wd):Int×Wd :=
 if s.n<0∨(v.net.length:Int)≤s.n then (3,v) else
 if s.fn=6 then (if s.a<0∨((v.net.getD s.n.toNat (0,0,[])).2.2.length:Int)≤s.a then (3,v) else
   (0,{ v with net:=v.net.set s.n.toNat ((v.net.getD s.n.toNat (0,0,[])).1,(v.net.getD s.n.toNat (0,0,[])).2.1,(v.net.getD s.n.toNat (0,0,[])).2.2.set s.a.toNat ((v.net.getD s.n.toNat (0,0,[])).2.2.getD s.a.toNat 0 ^^^ bOf s.b)) }))
 else if s.fn=4 then (0,{ v with net:=v.net.eraseIdx s.n.toNat })
 else ((recvP p (v.net.getD s.n.toNat (0,0,[])).2.2 (plW v (v.net.getD s.n.toNat (0,0,[])).2.1)).1,
   { v with ps:=v.ps.set (v.net.getD s.n.toNat (0,0,[])).2.1 (recvP p (v.net.getD s.n.toNat (0,0,[])).2.2 (plW v (v.net.getD s.n.toNat (0,0,[])).2.1)).2,net:=if s.fn=5 then v.net else v.net.eraseIdx s.n.toNat })
def oneW (p:Pr)(s:Sp4)(v:Wd):Int×Wd :=
 if s.a<0∨(v.ps.length:Int)≤s.a then (7,v) else
 if s.fn=1 then ((pressP p (bOf s.b) (plW v s.a.toNat)).1,{ v with ps:=v.ps.set s.a.toNat (pressP p (bOf s.b) (plW v s.a.toNat)).2 })
 else if s.fn=2 then (0,{ v with ps:=v.ps.set s.a.toNat ⟨(tickK (plW v s.a.toNat).k).2,(plW v s.a.toNat).g⟩,net:=sendsW v.net (tickK (plW v s.a.toNat).k).1 })
 else if s.fn=8 then (0,{ v with ps:=v.ps.set s.a.toNat ⟨(quitK (plW v s.a.toNat).k).2,(plW v s.a.toNat).g⟩,net:=sendsW v.net (quitK (plW v s.a.toNat).k).1 })
 else (0,v)
noncomputable def stepW (p:Pr)(s:Sp4)(v:Wd):Int×Wd:=if s.fn<1∨8<s.fn then (1,v) else if 3≤s.fn∧s.fn≤6 then mailW p s v else oneW p s v
def drain1 (i:Nat)(v:Wd):Wd:={ v with ps:=v.ps.set i ⟨{ (plW v i).k with ev:=[] },(plW v i).g⟩,ev:=v.ev.set i (v.ev.getD i []++(plW v i).k.ev) }
def drainN (v:Wd):Nat→Wd
 | 0=>v
 | i+1=>drain1 i (drainN v i)
def drainW (v:Wd):Wd:=drainN v v.ps.length
noncomputable def goW (p:Pr)(s:Sp4)(v:Wd):Wd:=if s.fn=7 then v else drainW (stepW p s v).2
structure WdOk (p:Pr)(cf:Cf)(c:Nat)(v:Wd):Prop where
 may:mayCf cf
 n:v.ps.length=cf.n.toNat
 ev:v.ev.length=v.ps.length
 pl:∀ i,i<v.ps.length→WF' p (plW v i)∧ksCf (plW v i).k={ cf with me:=i }∧(plW v i).k.now≤c
 net:v.net.length≤300∧∀ m∈v.net,m.2.1<v.ps.length∧m.2.2.length≤1000
 evl:∀ e∈v.ev,e.length≤9*c∧∀ x∈e,evOk x
section
variable {p:Pr}{cf:Cf}{c i j:Nat}{v:Wd}{s:Sp4}{q:Pl}
theorem plW_set (h:i<v.ps.length)(net:List Ml)(ev:List (List Evt)):plW ⟨v.ps.set i q,net,ev⟩ j=if i=j then q else plW v j:=by
 rw[plW,plW,List.getD_eq_getElem?_getD,List.getD_eq_getElem?_getD]
 show ((v.ps.set i q)[j]?).getD pl0=_
 rw[List.getElem?_set]
 split
 · rfl
 · rfl
theorem WdOk.len (h:WdOk p cf c v):2≤v.ps.length∧v.ps.length≤8:=by
 have h1:=h.n
 have h2:=h.may.1.1
 unfold inI at h2
 omega
theorem WdOk.put (h:WdOk p cf c v)(hi:i<v.ps.length)(hw:WF' p q)(hc:ksCf q.k=ksCf (plW v i).k)(hn:q.k.now≤c+1){net:List Ml}(hl:net.length≤300)(hm:∀ m∈net,m.2.1<v.ps.length∧m.2.2.length≤1000) :
   WdOk p cf (c+1) { v with ps:=v.ps.set i q,net:=net }:=by
 refine⟨h.may,by show (v.ps.set i q).length=_;rw[List.length_set];exact h.n,by show v.ev.length=(v.ps.set i q).length;rw[List.length_set];exact h.ev,λj hj=>?_,⟨hl,?_⟩,λe he=>⟨by have:=(h.evl e he).1;omega,(h.evl e he).2⟩⟩
 · have hj':j<v.ps.length:=by have:j<(v.ps.set i q).length:=hj;rwa [List.length_set]at this
   rw[plW_set (v:=v) hi]
   split
   · rename_i e;subst e
     exact⟨hw,hc.trans (h.pl _ hi).2.1,hn⟩
   · exact⟨(h.pl j hj').1,(h.pl j hj').2.1,by have:=(h.pl j hj').2.2;omega⟩
 · intro m hmm
   show m.2.1<(v.ps.set i q).length∧_
   rw[List.length_set];exact hm m hmm
theorem WdOk.more (h:WdOk p cf c v){d:Nat}(hd:c≤d):WdOk p cf d v :=
 ⟨h.may,h.n,h.ev,λi hi=>⟨(h.pl i hi).1,(h.pl i hi).2.1,Nat.le_trans (h.pl i hi).2.2 hd⟩,h.net,λe he=>⟨by have:=(h.evl e he).1;omega,(h.evl e he).2⟩⟩
theorem tick_mails {k:Ks}(h:WC k):∀ m∈(tickK k).1,m.2.1<k.n∧m.2.2.length≤1000:=by
 intro m hm
 unfold tickK at hm
 split at hm
 · cases hm
 · simp only at hm
   split at hm
   · cases hm
   · obtain⟨i,hi,rfl⟩:=List.mem_map.1 hm
     have h1:=(List.mem_filter.1 hi).1
     rw[List.mem_range]at h1
     exact⟨h1,Nat.le_trans (encO_len _) (by decide)⟩
theorem quit_mails {k:Ks}(h:WC k):∀ m∈(quitK k).1,m.2.1<k.n∧m.2.2.length≤1000:=by
 intro m hm
 unfold quitK at hm
 split at hm
 · cases hm
 · obtain⟨i,hi,rfl⟩:=List.mem_map.1 hm
   have h1:=(List.mem_filter.1 hi).1
   rw[List.mem_range]at h1
   exact⟨h1,Nat.le_trans (encO_len _) (by decide)⟩
theorem WdOk.kn (h:WdOk p cf c v)(hi:i<v.ps.length):(plW v i).k.n=v.ps.length:=by
 have h1:=(h.pl i hi).2.1
 have h2:(ksCf (plW v i).k).n=cf.n:=by rw[h1]
 have h3:((plW v i).k.n:Int)=cf.n:=h2
 have:=h.n
 have h4:=h.may.1.1
 unfold inI at h4
 omega
theorem WdOk.sends (h:WdOk p cf c v){l:List Ml}(hl:∀ m∈l,m.2.1<v.ps.length∧m.2.2.length≤1000):(sendsW v.net l).length≤300∧∀ m∈sendsW v.net l,m.2.1<v.ps.length∧m.2.2.length≤1000 :=
 ⟨sendsW_len h.net.1,λm hm=>(sendsW_mem hm).elim (h.net.2 m) (hl m)⟩
theorem WdOk.press (h:WdOk p cf c v)(hi:i<v.ps.length)(b:UInt8):WdOk p cf (c+1) { v with ps:=v.ps.set i (pressP p b (plW v i)).2 } :=
 h.put hi (Nxt.press (h.pl i hi).1 b).wf (Nxt.press (h.pl i hi).1 b).cf (by have:=(h.pl i hi).2.2;rw[press_now p b (h.pl i hi).1];omega) h.net.1 h.net.2
theorem WdOk.recv (h:WdOk p cf c v)(hi:i<v.ps.length)(bs:List UInt8){net:List Ml}(hl:net.length≤300)(hm:∀ m∈net,m.2.1<v.ps.length∧m.2.2.length≤1000):WdOk p cf (c+1) { v with ps:=v.ps.set i (recvP p bs (plW v i)).2,net:=net } :=
 h.put hi (Nxt.recv (h.pl i hi).1 bs).wf (Nxt.recv (h.pl i hi).1 bs).cf (by have:=(h.pl i hi).2.2;rw[recv_now p bs (h.pl i hi).1];omega) hl hm
theorem WdOk.tick (h:WdOk p cf c v)(hi:i<v.ps.length):WdOk p cf (c+1) { v with ps:=v.ps.set i ⟨(tickK (plW v i).k).2,(plW v i).g⟩,net:=sendsW v.net (tickK (plW v i).k).1 }:=by
 have h1:=h.sends (l:=(tickK (plW v i).k).1) λm hm=>by have:=tick_mails (h.pl i hi).1.wc m hm;rwa [h.kn hi]at this
 exact h.put hi (h.pl i hi).1.tick (tick_cf _) (by have:=(h.pl i hi).2.2;have:=tick_now (plW v i).k;show (tickK (plW v i).k).2.now≤_;omega) h1.1 h1.2
theorem WdOk.quit (h:WdOk p cf c v)(hi:i<v.ps.length):WdOk p cf (c+1) { v with ps:=v.ps.set i ⟨(quitK (plW v i).k).2,(plW v i).g⟩,net:=sendsW v.net (quitK (plW v i).k).1 }:=by
 have h1:=h.sends (l:=(quitK (plW v i).k).1) λm hm=>by have:=quit_mails (h.pl i hi).1.wc m hm;rwa [h.kn hi]at this
 exact h.put hi (h.pl i hi).1.quit (quit_cf _) (by have:=(h.pl i hi).2.2;have:=quit_now (plW v i).k;show (quitK (plW v i).k).2.now≤_;omega) h1.1 h1.2
theorem WdOk.one (h:WdOk p cf c v):WdOk p cf (c+1) (oneW p s v).2:=by
 unfold oneW
 split
 · exact h.more (Nat.le_succ _)
 · have hi:s.a.toNat<v.ps.length:=by omega
   split
   · exact h.press hi _
   · split
     · exact h.tick hi
     · split
       · exact h.quit hi
       · exact h.more (Nat.le_succ _)
theorem WdOk.netAt (h:WdOk p cf c v){j:Nat}(hj:j<v.net.length):(v.net.getD j (0,0,[])).2.1<v.ps.length∧(v.net.getD j (0,0,[])).2.2.length≤1000:=by
 rw[List.getD_eq_getElem?_getD,List.getElem?_eq_getElem hj]
 exact h.net.2 _ (List.getElem_mem hj)
theorem WdOk.erase (h:WdOk p cf c v)(j:Nat):(v.net.eraseIdx j).length≤300∧∀ m∈v.net.eraseIdx j,m.2.1<v.ps.length∧m.2.2.length≤1000 :=
 ⟨Nat.le_trans (List.length_eraseIdx_le _ _) h.net.1,λm hm=>h.net.2 m (List.mem_of_mem_eraseIdx hm)⟩
theorem WdOk.netIs (h:WdOk p cf c v){net:List Ml}(hl:net.length≤300)(hm:∀ m∈net,m.2.1<v.ps.length∧m.2.2.length≤1000):WdOk p cf (c+1) { v with net:=net } :=
 { h.more (Nat.le_succ c) with net:=⟨hl,hm⟩ }
theorem WdOk.mail (h:WdOk p cf c v):WdOk p cf (c+1) (mailW p s v).2:=by
 unfold mailW
 split
 · exact h.more (Nat.le_succ _)
 · rename_i hr
   have hj:s.n.toNat<v.net.length:=by omega
   have hx:=h.netAt hj
   split
   · split
     · exact h.more (Nat.le_succ _)
     · refine h.netIs (by rw[List.length_set];exact h.net.1) λm hm=>?_
       rcases List.mem_or_eq_of_mem_set hm with h1 | rfl
       · exact h.net.2 m h1
       · exact⟨hx.1,by show (List.set _ _ _).length≤_;rw[List.length_set];exact hx.2⟩
   · split
     · exact h.netIs (h.erase _).1 (h.erase _).2
     · refine h.recv hx.1 _ ?_ ?_ <;> split
       · exact h.net.1
       · exact (h.erase _).1
       · exact h.net.2
       · exact (h.erase _).2
theorem WdOk.step (h:WdOk p cf c v):WdOk p cf (c+1) (stepW p s v).2:=by
 unfold stepW
 split
 · exact h.more (Nat.le_succ _)
 · split
   · exact h.mail
   · exact h.one
theorem drainN_ps (v:Wd):∀ i,(drainN v i).ps.length=v.ps.length∧(drainN v i).net=v.net∧(drainN v i).ev.length=v.ev.length
 | 0=>⟨rfl,rfl,rfl⟩
 | i+1=>by
   obtain⟨h1,h2,h3⟩:=drainN_ps v i
   exact⟨by show (List.set _ _ _).length=_;rw[List.length_set,h1],h2,by show (List.set _ _ _).length=_;rw[List.length_set,h3]⟩
theorem drainN_pl (v:Wd):∀ {i j:Nat},i≤v.ps.length→plW (drainN v i) j=if j<i then ⟨{ (plW v j).k with ev:=[] },(plW v j).g⟩ else plW v j
 | 0,j,_=>by rw[if_neg (Nat.not_lt_zero _)];rfl
 | i+1,j,h=>by
   have h1:=drainN_pl v (i:=i) (j:=i) (by omega)
   rw[if_neg (Nat.lt_irrefl _)]at h1
   show plW ⟨(drainN v i).ps.set i _,_,_⟩ j=_
   rw[plW_set (v:=drainN v i) (by rw[(drainN_ps v i).1];omega),h1,drainN_pl v (i:=i) (j:=j) (by omega)]
   by_cases h2:i=j
   · subst h2;rw[if_pos rfl,if_pos (by omega)]
   · rw[if_neg h2]
     by_cases h3:j<i
     · rw[if_pos h3,if_pos (by omega)]
     · rw[if_neg h3,if_neg (by omega)]
theorem drainN_ev (v:Wd)(hl:v.ev.length=v.ps.length):∀ {i j:Nat},i≤v.ps.length→(drainN v i).ev.getD j []=if j<i then v.ev.getD j []++(plW v j).k.ev else v.ev.getD j []
 | 0,j,_=>by rw[if_neg (Nat.not_lt_zero _)];rfl
 | i+1,j,h=>by
   have h1:=drainN_pl v (i:=i) (j:=i) (by omega)
   rw[if_neg (Nat.lt_irrefl _)]at h1
   have h4:=drainN_ev v hl (i:=i) (j:=i) (by omega)
   rw[if_neg (Nat.lt_irrefl _)]at h4
   show ((drainN v i).ev.set i ((drainN v i).ev.getD i []++(plW (drainN v i) i).k.ev)).getD j []=_
   rw[h1,h4,List.getD_eq_getElem?_getD,List.getElem?_set]
   by_cases h2:i=j
   · subst h2;rw[if_pos rfl,if_pos (by rw[(drainN_ps v i).2.2,hl];omega),if_pos (by omega)];rfl
   · rw[if_neg h2,← List.getD_eq_getElem?_getD,drainN_ev v hl (i:=i) (j:=j) (by omega)]
     by_cases h3:j<i
     · rw[if_pos h3,if_pos (by omega)]
     · rw[if_neg h3,if_neg (by omega)]
theorem getD_of_mem {α:Type}{l:List α}{x d:α}(h:x∈l):∃ i,i<l.length∧l.getD i d=x:=by
 obtain⟨i,hi,rfl⟩:=List.getElem_of_mem h
 exact⟨i,hi,by rw[List.getD_eq_getElem?_getD,List.getElem?_eq_getElem hi];rfl⟩
theorem getD_mem {α:Type}{l:List α}{d:α}{i:Nat}(h:i<l.length):l.getD i d∈l:=by
 rw[List.getD_eq_getElem?_getD,List.getElem?_eq_getElem h];exact List.getElem_mem _
theorem WdOk.drainN (h:WdOk p cf c v){i:Nat}(hi:i≤v.ps.length):WdOk p cf (c+1) (drainN v i):=by
 obtain⟨h1,h2,h3⟩:=drainN_ps v i
 refine⟨h.may,by rw[h1];exact h.n,by rw[h1,h3];exact h.ev,λj hj=>?_,by rw[h1,h2];exact h.net,λe he=>?_⟩
 · rw[h1]at hj
   obtain⟨a1,a2,a3⟩:=h.pl j hj
   rw[drainN_pl v hi]
   split
   · exact⟨a1.told,a2,by show (plW v j).k.now≤_;omega⟩
   · exact⟨a1,a2,by omega⟩
 · obtain⟨j,hj,rfl⟩:=getD_of_mem (d:=[]) he
   rw[h3]at hj
   rw[drainN_ev v h.ev hi]
   have h4:=h.evl _ (getD_mem (d:=[]) hj)
   have h5:=(h.pl j (by rw[← h.ev];exact hj)).1.wc
   split
   · refine⟨by have:=h5.evl;rw[List.length_append];omega,λx hx=>?_⟩
     rcases List.mem_append.1 hx with hx | hx
     · exact h4.2 x hx
     · exact h5.evs x hx
   · exact⟨by omega,h4.2⟩
theorem WdOk.drain (h:WdOk p cf c v):WdOk p cf (c+1) (drainW v):=h.drainN (Nat.le_refl _)
theorem WdOk.go (h:WdOk p cf c v):WdOk p cf (c+2) (goW p s v):=by
 unfold goW
 split
 · exact h.more (by omega)
 · exact h.step.drain
end
end
section
structure NMl where
 frm:Int
 to:Int
 ad:Option Addr
 c:Nat
 bs:List UInt8
abbrev NMl.cells (m:NMl):List Value:=[.int .i64 m.frm,.int .i64 m.to,.slice m.ad m.bs.length m.c]
def nmlc (ms:List NMl):List Value:=ms.flatMap NMl.cells
def NMl.own (m:NMl):SP:=Sl 5 1 m.ad m.bs.length m.c (bc m.bs)
def Bys (ms:List NMl):SP:=λh=>sepL (ms.map NMl.own) h
theorem nt_mlc_app (l m:List NMl):nmlc (l++m)=nmlc l++nmlc m:=by simp[nmlc]
theorem nt_mlc_drop (l:List NMl)(i:Nat):(nmlc l).drop (i*3)=nmlc (l.drop i):=by
 induction i generalizing l with
 | zero=>simp
 | succ i ih =>
   cases l with
   | nil=>simp[nmlc]
   | cons x l =>
     rw[show (i+1)*3=i*3+3 from by omega]
     simp only[nmlc,List.flatMap_cons,List.drop_succ_cons,NMl.cells] at *
     rw[← ih l];simp
theorem nt_mlc_take (l:List NMl)(i:Nat):(nmlc l).take (i*3)=nmlc (l.take i):=by
 induction i generalizing l with
 | zero=>simp[nmlc]
 | succ i ih =>
   cases l with
   | nil=>simp[nmlc]
   | cons x l =>
     rw[show (i+1)*3=i*3+3 from by omega]
     simp only[nmlc,List.flatMap_cons,List.take_succ_cons,NMl.cells] at *
     rw[← ih l];simp
theorem nt_mlc_at (l:List NMl)(i:Nat)(h:i<l.length):((nmlc l).drop (i*3)).take 3=l[i].cells:=by
 rw[nt_mlc_drop,List.drop_eq_getElem_cons h];simp only[nmlc,List.flatMap_cons,NMl.cells,List.cons_append,List.nil_append,List.take_succ_cons,List.take_zero]
theorem Bys.nil {W w:World}{L:List SP}(hs:St W w L):St W w (Bys []::L) :=
 ⟨hs.below,let ⟨h,p,q⟩:=hs.sat;⟨h,p,λ_=>none,h,λ_=>.inl rfl,λ_ _ e=>(by cases e),Hp.Sub.refl _,trivial,q⟩⟩
theorem Bys.out {W w:World}{L:List SP}{a b:List NMl}{m:NMl}(hs:St W w (Bys (a++m::b)::L)):St W w (m.own::Bys (a++b)::L):=by
 have h1:=hs.open (M:=(a++m::b).map NMl.own) (λ_ x=>x)
 have h2:((a++m::b).map NMl.own++L).Perm (m.own::((a++b).map NMl.own++L)):=by
   rw[← List.cons_append,← List.map_cons]
   exact ((List.perm_middle (a:=m) (l₁:=a) (l₂:=b)).map NMl.own).append_right L
 have h3:=h1.perm h2
 have h4:=h3.perm (List.perm_append_comm (l₁:=[m.own]) (l₂:=(a++b).map NMl.own++L))
 have h5:St W w ((a++b).map NMl.own++(L++[m.own])):=by simpa using h4
 have h6:=St.shut (A:=Bys (a++b)) h5 (λ_ x=>x)
 exact h6.perm (List.Perm.trans (List.perm_append_comm (l₁:=Bys (a++b)::L) (l₂:=[m.own])) (List.Perm.refl _))
theorem Bys.into {W w:World}{L:List SP}{a b:List NMl}{m:NMl}(hs:St W w (m.own::Bys (a++b)::L)):St W w (Bys (a++m::b)::L):=by
 have h1:St W w (Bys (a++b)::([m.own]++L)):=hs.perm (List.Perm.swap _ _ _)
 have h2:=h1.open (M:=(a++b).map NMl.own) (λ_ x=>x)
 refine St.shut (M:=(a++m::b).map NMl.own) (h2.perm ?_) (λ_ x=>x)
 have h3:((a++b).map NMl.own++([m.own]++L)).Perm (m.own::((a++b).map NMl.own++L)):=by
   have:=List.perm_middle (a:=m.own) (l₁:=(a++b).map NMl.own) (l₂:=L)
   simpa using this
 refine h3.trans ?_
 rw[← List.cons_append,← List.map_cons]
 exact (((List.perm_middle (a:=m) (l₁:=a) (l₂:=b)).map NMl.own).symm).append_right L
theorem Bys.rd {W w:World}{L R:List SP}{xs:List NMl}(hs:St W w L)[k:Pick L (Bys xs) R](i:Nat)(h:i<xs.length):RdB w xs[i].ad xs[i].bs.length xs[i].bs:=by
 have h1:=hs.pick (Bys xs)
 rw[show xs=xs.take i++xs[i]::xs.drop (i+1) from by rw[← List.drop_eq_getElem_cons h,List.take_append_drop]]at h1
 have h2:=Bys.out h1
 refine⟨rfl,λe=>?_,λx hx hp=>?_⟩
 · rcases Nat.eq_zero_or_pos xs[i].bs.length with h0 | h0
   · exact h0
   · obtain⟨b,off,e2,_⟩:=St.slRd (L:=xs[i].own::_) (e:=5) (sz:=1) (n:=xs[i].bs.length) (c:=xs[i].c) (cs:=bc xs[i].bs) (k:=⟨List.Perm.refl _⟩) h2 xs[i].ad h0
     rw[e]at e2;cases e2
 · obtain⟨b,off,e2,hr⟩:=St.slRd (L:=xs[i].own::_) (e:=5) (sz:=1) (n:=xs[i].bs.length) (c:=xs[i].c) (cs:=bc xs[i].bs) (k:=⟨List.Perm.refl _⟩) h2 xs[i].ad hp
   exact⟨b,off,by rw[hx]at e2;cases e2;rfl,hr⟩
abbrev NMm:=Int×Int×List UInt8
def NMl.m (x:NMl):NMm:=(x.frm,x.to,x.bs)
def NetQ (q:Nat)(ms:List NMm):SP:=λh=>∃ i:(Option Addr×Nat)×List NMl,(i.2.map NMl.m=ms∧ms.length≤300∧∀ x∈i.2,x.bs.length≤1000) ∧
 sepL [blk q 110 [.slice i.1.1 i.2.length i.1.2],Sl 124 3 i.1.1 i.2.length i.1.2 (nmlc i.2),Bys i.2] h
theorem NetQ.open {W w:World}{L:List SP}{q:Nat}{ms:List NMm}(hs:St W w (NetQ q ms::L)) :
   ∃ ad c xs,ms=xs.map NMl.m∧(xs.length≤300∧∀ x∈xs,x.bs.length≤1000)∧St W w (blk q 110 [.slice ad xs.length c]::Sl 124 3 ad xs.length c (nmlc xs)::Bys xs::L):=by
 obtain⟨i,⟨h1,h2,h3⟩,h⟩:=hs.exi (B:=λi:(Option Addr×Nat)×List NMl=>sepL [blk q 110 [.slice i.1.1 i.2.length i.1.2],Sl 124 3 i.1.1 i.2.length i.1.2 (nmlc i.2),Bys i.2]) (λ_ h=>h)
 exact⟨i.1.1,i.1.2,i.2,h1.symm,⟨by rw[← h1]at h2;simpa using h2,h3⟩,h.open (λ_ x=>x)⟩
theorem NetQ.shut {W w:World}{L R R2 R3:List SP}{q n c:Nat}{ad:Option Addr}{cs:List Value}{xs:List NMl}{ms:List NMm}(hs:St W w L)[k:Blk L q 110 [.slice ad n c] R][k2:PickSl R ad n c 124 3 cs R2][k3:Pick R2 (Bys xs) R3]
   (hn:n=xs.length) (hc:cs=nmlc xs) (hm:ms=xs.map NMl.m) (h3:xs.length≤300) (h4:∀ x∈xs,x.bs.length≤1000):St W w (NetQ q ms::R3):=by
 subst hn;subst hc;subst hm
 have h1:=(hs.perm k.perm).perm (List.Perm.cons _ (k2.perm.trans (List.Perm.cons _ k3.perm)))
 exact St.shut (M:=[_,_,_]) h1 λ_ x=>⟨((ad,c),xs),⟨rfl,by simpa using h3,h4⟩,x⟩
theorem nmlRd {w:World}{b off:Nat}{xs:List NMl}(h:Rd w b off (nmlc xs))(k:Nat)(hk:k<xs.length) :
   Rd w b (off+k*3) xs[k].cells∧w.cell? ⟨b,off+k*3,none⟩=some (.int .i64 xs[k].frm)∧w.cell? ⟨b,off+k*3+1,none⟩=some (.int .i64 xs[k].to)∧w.cell? ⟨b,off+k*3+2,none⟩=some (.slice xs[k].ad xs[k].bs.length xs[k].c):=by
 have hr:=h.part (k*3) 3
 rw[nt_mlc_at xs k hk]at hr
 exact⟨hr,hr 0 _ rfl,hr 1 _ rfl,hr 2 _ rfl⟩
theorem nt_clone_nil {W w:World}{L:List SP}{c:Nat}(hs:St W w L) :
   Calls Tryz.prog 95 #[.slice none 0 c] w λe w'=>e=.returned (.slice none 0 0)∧St W w' L:=by
 refine EN Tryz.func95 Tryz.ntmps95 rfl rfl λa ha=>?_
 refine RN 6 ha hs λa ha=>?_
 replace ha:=ha.isT 4
 refine RT 3 ha hs ?_
 exact⟨rfl,hs⟩
theorem nt_clone_empty {W w:World}{L:List SP}{x:Addr}{c:Nat}(hs:St W w L) :
   Calls Tryz.prog 95 #[.slice (some x) 0 c] w λe w'=>∃ ad',e=.returned (.slice ad' 0 0)∧St W w' (Sl 5 1 ad' 0 0 []::L):=by
 refine EN Tryz.func95 Tryz.ntmps95 rfl rfl λa ha=>?_
 refine RN 6 ha hs λa ha=>?_
 replace ha:=ha.isF 4
 refine RN 2 ha hs λa ha=>?_
 refine st_buildSlice0 ha rfl hs Tryz.underlying22 Ty.t5 rfl λb5 a w ha hs ho=>?_
 clear ho
 refine RN 1 ha hs λa ha=>?_
 refine st_append0 ha rfl Tryz.underlying22 Ty.t5 rfl (Nat.le_refl _) λa ha=>?_
 refine RT 1 ha hs ?_
 exact⟨_,rfl,hs⟩
theorem nt_clone_some {W w:World}{L:List SP}{b off c:Nat}{bs:List UInt8}(hs:St W w L)(hr:Rd w b off (bc bs))(h0:0<bs.length)(hl:bs.length≤140737488355328) :
   Calls Tryz.prog 95 #[.slice (some ⟨b,off,none⟩) bs.length c] w λe w'=>∃ ad' c',e=.returned (.slice ad' bs.length c')∧St W w' (Sl 5 1 ad' bs.length c' (bc bs)::L):=by
 refine EN Tryz.func95 Tryz.ntmps95 rfl rfl λa ha=>?_
 refine RN 6 ha hs λa ha=>?_
 replace ha:=ha.isF 4
 refine RN 2 ha hs λa ha=>?_
 refine st_buildSlice0 ha rfl hs Tryz.underlying22 Ty.t5 rfl λb5 a w ha hs ho=>?_
 replace hr:=ho.rd hr
 clear ho
 refine RN 1 ha hs λa ha=>?_
 refine st_append ha rfl hs Tryz.underlying22 Ty.t5 rfl rfl hr (by rw[bc_len,Nat.mul_one]) (bc_one bs) h0 (by decide) (by omega) λad7 c7 a w ha hs=>?_
 refine RT 1 ha hs ?_
 rw[Nat.zero_add] at *
 exact⟨_,_,rfl,hs⟩
theorem nt_clone_spec {W w:World}{L:List SP}{ad:Option Addr}{n c:Nat}{bs:List UInt8}(hs:St W w L)(hr:RdB w ad n bs)(hl:n≤140737488355328) :
   Calls Tryz.prog 95 #[.slice ad n c] w λe w'=>∃ ad' c',e=.returned (.slice ad' n c')∧St W w' (Sl 5 1 ad' n c' (bc bs)::L):=by
 obtain⟨rfl,h2,h3⟩:=hr
 cases ad with
 | none =>
   have h0:=h2 rfl
   obtain rfl:=List.eq_nil_of_length_eq_zero h0
   exact (nt_clone_nil hs).mono λe w' ⟨h,hs⟩=>⟨none,0,h,hs.sl0 _ _ _⟩
 | some x =>
   rcases Nat.eq_zero_or_pos bs.length with h0 | h0
   · obtain rfl:=List.eq_nil_of_length_eq_zero h0
     exact (nt_clone_empty hs).mono λe w' ⟨ad',h,hs⟩=>⟨ad',0,h,hs⟩
   · obtain⟨b,off,rfl,hr⟩:=h3 x rfl h0
     exact nt_clone_some hs hr h0 hl
theorem nt_own_spec {W w:World}{L:List SP}{ad:Option Addr}{n c:Nat}{f t:Int}{bs:List UInt8}(hs:St W w L)(hr:∀ w',St W w' L→RdB w' ad n bs)(hl:n≤140737488355328) :
   Calls Tryz.prog 76 #[.agg #[.int .i64 f,.int .i64 t,.slice ad n c]] w λe w'=>∃ ad' c',e=.returned (.agg #[.int .i64 f,.int .i64 t,.slice ad' n c'])∧St W w' (Sl 5 1 ad' n c' (bc bs)::L):=by
 refine EN Tryz.func76 Tryz.ntmps76 rfl rfl λa ha=>?_
 refine BX 1 ha hs λb1 a w ha hs=>?_
 refine AL 0 ha hs λb2 a w ha hs=>?_
 refine CL2 3 ha hs (nt_clone_spec hs (hr _ hs.sub) hl) λad' c' a w ha hs=>?_
 refine ST 1 ha hs (λa w ha hs=>?_)
 refine SA 2 ha hs λa w ha hs=>?_
 refine RT 0 ha hs ?_
 exact⟨_,_,rfl,hs.sub⟩
theorem nt_len_some {W w:World}{L R:List SP}{q e:Nat}{s:Option Addr}{n c:Nat}(hs:St W w L) [Blk L q e [.slice s n c] R] :
   Calls Tryz.prog 23 #[pt q] w λe w'=>e=.returned (.int .i64 n)∧St W w' L:=by
 refine EN Tryz.func23 Tryz.ntmps23 rfl rfl λa ha=>?_
 refine RN 6 ha hs λa ha=>?_
 replace ha:=ha.isF 4
 refine RT 8 ha hs ?_
 exact⟨rfl,hs⟩
theorem nt_len_net {W w:World}{L:List SP}{q:Nat}{ms:List NMm}(hs:St W w (NetQ q ms::L)) :
   Calls Tryz.prog 23 #[pt q] w λe w'=>e=.returned (.int .i64 ms.length)∧St W w' (NetQ q ms::L):=by
 obtain⟨ad,c,xs,rfl,hx,hs⟩:=NetQ.open hs
 refine (nt_len_some (q:=q) hs).mono λe w' ⟨h,hs⟩=>⟨by rw[h];simp,NetQ.shut (q:=q) (ad:=ad) (xs:=xs) hs rfl rfl rfl hx.1 hx.2⟩
theorem nt_has_some {W w:World}{L R:List SP}{q e:Nat}{s:Option Addr}{n c:Nat}{i:Int}(hs:St W w L) [Blk L q e [.slice s n c] R] :
   Calls Tryz.prog 75 #[pt q,.int .i64 i] w λe w'=>e=.returned (.bool (decide (0≤i)&&decide (i<n)))∧St W w' L:=by
 refine EN Tryz.func75 Tryz.ntmps75 rfl rfl λa ha=>?_
 refine BY 6 ha hs (λhg2 a ha=>?_) λhg2 a ha=>?_
 ·
  refine CL 2 ha hs (nt_len_some (q:=q) hs) λa w ha hs=>?_
  refine RT 3 ha hs ?_
  exact⟨by rw[decide_eq_true (p:=0≤i) (by omega),Bool.true_and],hs⟩
 refine RT 6 ha hs ?_
 exact⟨by rw[decide_eq_false (p:=0≤i) (by omega),Bool.false_and],hs⟩
theorem nt_new_spec {W w:World}{L:List SP}(hs:St W w L) :
   Calls Tryz.prog 42 #[] w λe w'=>∃ q,e=.returned (pt q)∧St W w' (NetQ q []::L):=by
 refine EN Tryz.func42 Tryz.ntmps42 rfl rfl λa ha=>?_
 refine BX 4 ha hs λb2 a w ha hs=>?_
 refine RT 1 ha hs ?_
 exact⟨_,rfl,by
   have h1:=(Bys.nil (hs.sl0 124 3 none))
   exact (NetQ.shut (q:=b2) (xs:=[]) (ms:=[]) h1 rfl rfl rfl (by simp) (by simp)).sub⟩
theorem nt_splice_mid {p q r vs:List Value}{o:Nat}(ho:o=p.length)(h:q.length=vs.length):splice (p++q++r) o vs=p++vs++r:=by
 subst ho
 have e1:(p++q++r).take p.length=p:=by rw[List.append_assoc,List.take_left]
 have e2:(p++q++r).drop (p.length+vs.length)=r:=by rw[← h,show p.length+q.length=(p++q).length from by simp,List.drop_left]
 rw[splice,e1,e2]
theorem nt_del_cells {pre cs post:List Value}{n i:Nat}(hl:cs.length=n*3)(hi:i<n) :
   ∃ v,v.length=3∧splice (pre++cs++post) (pre.length+i*3) (cs.drop ((i+1)*3))=(pre++(cs.take (i*3)++cs.drop ((i+1)*3)))++v++post:=by
 refine⟨(cs.drop (i*3)).drop ((n-1-i)*3),by rw[List.length_drop,List.length_drop];omega,?_⟩
 have e0:cs=cs.take (i*3)++((cs.drop (i*3)).take ((n-1-i)*3)++(cs.drop (i*3)).drop ((n-1-i)*3)):=by rw[List.take_append_drop,List.take_append_drop]
 have e:pre++cs++post=(pre++cs.take (i*3))++(cs.drop (i*3)).take ((n-1-i)*3)++((cs.drop (i*3)).drop ((n-1-i)*3)++post):=by
   conv=>lhs;rw[e0]
   simp only[List.append_assoc]
 rw[e,nt_splice_mid (by rw[List.length_append,List.length_take];omega) (by rw[List.length_take,List.length_drop,List.length_drop];omega)]
 simp only[List.append_assoc]
theorem nt_delete_spec {W w:World}{L:List SP}{ad:Option Addr}{c n i:Nat}{cs:List Value}(hs:St W w (Sl 124 3 ad n c cs::L))(hi:i<n)(hn:n≤140737488355328)(hone:∀ v∈cs,v.oneCell'=true) :
   Calls Tryz.prog 103 #[.slice ad n c,.int .i64 i,.int .i64 ((i+1:Nat):Int)] w λe w'=>e=.returned (.slice ad (n-1) c)∧St W w' (Sl 124 3 ad (n-1) c (cs.take (i*3)++cs.drop ((i+1)*3))::L):=by
 have hc0:=(hs.sl ad)
 obtain⟨b,pre,post,⟨h1,h2,rfl,h4⟩,hs0⟩:=hs.slOpen (by omega)
 replace hs:=hs0
 clear hs0
 have hnews:∃ o2,cutAd (some ⟨b,pre.length,none⟩) (i+1) c 3=some ⟨b,o2,none⟩∧∀ w,St W w (blk b 124 (pre++cs++post)::L)→Rd w b o2 (cs.drop ((i+1)*3)):=by
   by_cases hci:c=i+1
   · refine⟨pre.length,by simp[cutAd,hci],λw _=>?_⟩
     rw[List.drop_of_length_le (by omega)]
     intro j v hj;simp at hj
   · refine⟨pre.length+(i+1)*3,cutAd_some hci,λw hs=>?_⟩
     intro j v hj
     have hlt:=(List.getElem?_eq_some_iff.1 hj).1
     rw[List.length_drop]at hlt
     rw[hs.cell,List.append_assoc,List.getElem?_append_right (by omega),show pre.length+(i+1)*3+j-pre.length=(i+1)*3+j from by omega,List.getElem?_append_left (by omega)]
     rw[List.getElem?_drop]at hj
     exact hj
 obtain⟨o2,hcut,hnews⟩:=hnews
 refine EN Tryz.func103 Tryz.ntmps103 rfl rfl λa ha=>?_
 refine RN 8 ha hs λa ha=>?_
 refine SS ha (ex_sliceLHM ha Tryz.underlying108 Ty.t124 (by omega) (by omega) (by omega)) λa ha=>?_
 refine RN 5 ha hs λa ha=>?_
 rw[show decide ((i:Int)=((i+1:Nat):Int))=false from decide_eq_false (by omega)]at ha
 replace ha:=ha.isF 16
 refine DWO 6 [] [0,1,2,3,4,5,1006,7] ha hs λa w ha hs hH hC=>?_
 refine RH 6 ha hs hH hC λa ha=>?_
 rw[hcut,cutAd_some (by omega:c≠0)]at ha
 refine st_appendIn ha rfl hs Tryz.underlying108 Ty.t124 rfl (hnews _ hs) (by simp;omega) (λv hv=>hone v (List.mem_of_mem_drop hv)) (by omega) (by simp;omega) λa w ha hs=>?_
 obtain⟨v,hv,hsp⟩:=nt_del_cells (pre:=pre) (post:=post) (n:=n) (i:=i) h1 hi
 rw[show pre.length+0*3+(i-0)*3=pre.length+i*3 from by omega,hsp]at hs
 rw[show i-0+(n-(i+1))=n-1 from by omega,show pre.length+0*3=pre.length from by omega]at ha
 have hP:(pre++(cs.take (i*3)++cs.drop ((i+1)*3))).length=pre.length+(n-1)*3:=by
   simp only[List.length_append,List.length_take,List.length_drop];omega
 refine RN 1 ha hs λa ha=>?_
 refine RN 6 ha hs λa ha=>?_
 rw[cutAd_some (by omega)]at ha
 have hle:pre.length+(n-1)*3+(n-(n-1))*3≤(pre++(cs.take (i*3)++cs.drop ((i+1)*3))++v++post).length:=by
   rw[List.length_append,List.length_append,hP,hv];omega
 refine st_clear ha rfl hs Tryz.underlying108 Ty.t124 rfl rfl hle λa w ha hs=>?_
 refine RT 3 ha hs ?_
 refine⟨rfl,?_⟩
 generalize hz:(Builtin.zeroCells (Value.cells (.agg #[.int .i64 0,.int .i64 0,.slice none 0 0])) (n-(n-1))).toList=zs at hs
 have hzl:zs.length=(n-(n-1))*3:=by rw[← hz];exact zero_size 0 (by':=0) rfl _
 rw[nt_splice_mid hP.symm (by rw[hv,hzl];omega)]at hs
 rw[List.append_assoc _ zs post]at hs
 exact St.slShut hs (by rw[List.length_append]at hP;omega) (by omega) (by rw[List.length_append,hzl];omega)
def nt_maySend (ms:List NMm)(n:Nat):Bool:=decide (ms.length<300)&&decide (n≤1000)
theorem nt_send_spec {W w:World}{L:List SP}{q:Nat}{ms:List NMm}{ad:Option Addr}{n c:Nat}{f t:Int}{bs:List UInt8}(hs:St W w (NetQ q ms::L))(hr:∀ w',St W w' L→RdB w' ad n bs) :
   Calls Tryz.prog 100 #[pt q,.agg #[.int .i64 f,.int .i64 t,.slice ad n c]] w λe w'=>e=.returned (.bool (nt_maySend ms n))∧St W w' (NetQ q (if nt_maySend ms n then ms++[(f,t,bs)] else ms)::L):=by
 have hbl:=(hr _ hs.tail).1
 subst hbl
 obtain⟨ad1,c1,xs,rfl,hx,hs⟩:=NetQ.open hs
 refine EN Tryz.func100 Tryz.ntmps100 rfl rfl λa ha=>?_
 refine BX 1 ha hs λb3 a w ha hs=>?_
 refine RN 6 ha hs λa ha=>?_
 replace ha:=ha.isF 7
 refine BY 8 ha hs (λhg10 a ha=>?_) λhg10 a ha=>?_
 ·
  have hm:nt_maySend (xs.map NMl.m) bs.length=false:=by simp only[nt_maySend,List.length_map,Bool.and_eq_false_iff,decide_eq_false_iff_not];left;omega
  refine RT 8 ha hs ?_
  exact⟨by rw[hm],by rw[hm,if_neg (by decide)];exact (NetQ.shut (q:=q) (ad:=ad1) (xs:=xs) hs rfl rfl rfl hx.1 hx.2).sub⟩
 refine IF 5 ha hs (λhc0 a ha=>?_) λhc0 a ha=>?_
 ·
  have hm:nt_maySend (xs.map NMl.m) bs.length=false:=by simp only[nt_maySend,List.length_map,Bool.and_eq_false_iff,decide_eq_false_iff_not];right;omega
  refine RT 2 ha hs ?_
  exact⟨by rw[hm],by rw[hm,if_neg (by decide)];exact (NetQ.shut (q:=q) (ad:=ad1) (xs:=xs) hs rfl rfl rfl hx.1 hx.2).sub⟩
 have hm:nt_maySend (xs.map NMl.m) bs.length=true:=by simp only[nt_maySend,List.length_map,Bool.and_eq_true,decide_eq_true_eq];omega
 refine DWC 1 (λw0 w'=>w'.cell? ⟨q,0,none⟩=some (.slice ad1 xs.length c1)) [5,6,7] [0,1,2,3,3004,1005,1006,1007,1008,9,10,1011] ha hs λa w ha hs hH=>?_
 have hC:=hH.at w (hs.rd1 rfl)
 refine RH 4 ha hs hH hC λa ha=>?_
 refine QH ha (λw hc=>ld1 ha (hc)) hC λa ha=>?_
 refine RH 1 ha hs hH hC λa ha=>?_
 refine CL2 0 ha hs (nt_own_spec hs (λw' h=>hr w' h.sub) (by omega)) λad' c' a w ha hs=>?_
 replace hC:=hH.at w (hs.rd1 rfl)
 refine RH 0 ha hs hH hC λa ha=>?_
 refine st_buildSlice ha rfl hs Tryz.underlying108 Ty.t124 rfl rfl rfl rfl (by decide) (by decide) λb28 a w ha hs ho=>?_
 clear ho
 replace hC:=hH.at w (hs.rd1 rfl)
 refine RH 0 ha hs hH hC λa ha=>?_
 refine st_append ha rfl hs Tryz.underlying108 Ty.t124 rfl rfl hs.rdAll rfl (by simp[Value.oneCell']) (by decide) (by decide) (by omega) λad29 c29 a w ha hs=>?_
 refine ST 2 ha hs (λa w ha hs=>?_)
 refine RT 2 ha hs ?_
 refine⟨by rw[hm],?_⟩
 rw[hm,if_pos rfl]
 have h3:=(hs.pick (Bys xs)).pick (Sl 5 1 ad' bs.length c' (bc bs))
 have h4:=Bys.into (a:=xs) (b:=[]) (m:=⟨f,t,ad',c',bs⟩) (by rw[List.append_nil];exact h3)
 refine (NetQ.shut (q:=q) (xs:=xs++[⟨f,t,ad',c',bs⟩]) (ms:=xs.map NMl.m++[(f,t,bs)]) h4 (by simp) (by rw[nt_mlc_app];rfl) (by simp[NMl.m]) (by simp;omega) ?_).sub
 intro x hx2
 rcases List.mem_append.1 hx2 with h | h
 · exact hx.2 x h
 · obtain rfl:=List.mem_singleton.1 h
   exact Int.ofNat_le.1 hc0
theorem nt_look_out {W w:World}{L:List SP}{q:Nat}{ms:List NMm}{i:Int}(hs:St W w (NetQ q ms::L))(hi:(decide (0≤i)&&decide (i<ms.length))=false) :
   Calls Tryz.prog 52 #[pt q,.int .i64 i] w λe w'=>e=.returned (.tuple #[.agg #[.int .i64 0,.int .i64 0,.slice none 0 0],.bool false])∧St W w' (NetQ q ms::L):=by
 obtain⟨ad1,c1,xs,rfl,hx,hs⟩:=NetQ.open hs
 rw[List.length_map]at hi
 refine EN Tryz.func52 Tryz.ntmps52 rfl rfl λa ha=>?_
 refine AL 1 ha hs λb4 a w ha hs=>?_
 refine CL 5 ha hs (nt_has_some (q:=q) hs) λa w ha hs=>?_
 rw[hi]at ha
 refine RN 1 ha hs λa ha=>?_
 replace ha:=ha.isT 9
 refine SA 3 ha hs λa w ha hs=>?_
 refine RT 1 ha hs ?_
 exact⟨rfl,(NetQ.shut (q:=q) (ad:=ad1) (xs:=xs) hs rfl rfl rfl hx.1 hx.2).sub⟩
theorem nt_dlt {i n:Nat}(h:i<n):(decide (0≤(i:Int))&&decide ((i:Int)<(n:Int)))=true:=by
 simp;omega
theorem nt_look_in {W w:World}{L:List SP}{q:Nat}{ms:List NMm}{i:Nat}(hs:St W w (NetQ q ms::L))(hi:i<ms.length) :
   Calls Tryz.prog 52 #[pt q,.int .i64 i] w λe w'=>∃ ad c,e=.returned (.tuple #[.agg #[.int .i64 ms[i].1,.int .i64 ms[i].2.1,.slice ad ms[i].2.2.length c],.bool true])∧St W w' (Sl 5 1 ad ms[i].2.2.length c (bc ms[i].2.2)::NetQ q ms::L):=by
 obtain⟨ad1,c1,xs,rfl,hx,hs⟩:=NetQ.open hs
 have hi2:i<xs.length:=by simpa using hi
 simp only[List.getElem_map,NMl.m]
 refine EN Tryz.func52 Tryz.ntmps52 rfl rfl λa ha=>?_
 refine AL 1 ha hs λb4 a w ha hs=>?_
 refine CL 5 ha hs (nt_has_some (q:=q) hs) λa w ha hs=>?_
 rw[nt_dlt hi2]at ha
 refine RN 1 ha hs λa ha=>?_
 replace ha:=ha.isF 9
 refine RN 2 ha hs λa ha=>?_
 obtain⟨b',off',rfl,hrd⟩:=hs.slRd ad1 (by omega)
 have hm1:=nmlRd hrd i hi2
 refine RN 6 ha hs λa ha=>?_
 refine SS ha (ex_loadN ha Tryz.underlying124 rfl Ty.t124 (hm1.1)) λa ha=>?_
 refine CL2 0 ha hs (nt_own_spec hs (λw' h=>Bys.rd h i hi2) (by have:=hx.2 xs[i] (List.getElem_mem hi2);omega)) λad' c' a w ha hs=>?_
 refine SA 0 ha hs λa w ha hs=>?_
 refine RT 1 ha hs ?_
 exact⟨_,_,rfl,(NetQ.shut (q:=q) (ad:=some ⟨b',off',none⟩) (xs:=xs) hs rfl rfl rfl hx.1 hx.2).sub⟩
theorem nt_mlc_one (xs:List NMl):∀ v∈nmlc xs,v.oneCell'=true:=by
 intro v hv
 simp only[nmlc,List.mem_flatMap,NMl.cells]at hv
 obtain⟨x,_,hx⟩:=hv
 simp at hx
 rcases hx with rfl | rfl | rfl <;> rfl
theorem nt_drop_in {W w:World}{L:List SP}{q:Nat}{ms:List NMm}{i:Nat}(hs:St W w (NetQ q ms::L))(hi:i<ms.length) :
   Calls Tryz.prog 63 #[pt q,.int .i64 i] w λe w'=>e=.returned (.bool true)∧St W w' (NetQ q (ms.eraseIdx i)::L):=by
 obtain⟨ad1,c1,xs,rfl,hx,hs⟩:=NetQ.open hs
 have hi2:i<xs.length:=by simpa using hi
 refine EN Tryz.func63 Tryz.ntmps63 rfl rfl λa ha=>?_
 refine CL 6 ha hs (nt_has_some (q:=q) hs) λa w ha hs=>?_
 rw[nt_dlt hi2]at ha
 refine RN 1 ha hs λa ha=>?_
 replace ha:=ha.isF 8
 refine CL 10 ha hs (nt_delete_spec (hs.pick (Sl 124 3 ad1 xs.length c1 (nmlc xs))) hi2 (by omega) (nt_mlc_one xs)) λa w ha hs=>?_
 refine ST 2 ha hs (λa w ha hs=>?_)
 refine RT 2 ha hs ?_
 refine⟨rfl,?_⟩
 have h1:=hs.pick (Bys xs)
 have h0:xs=xs.take i++xs[i]::xs.drop (i+1):=by rw[← List.drop_eq_getElem_cons hi2,List.take_append_drop]
 have h2:=h1
 rw[show Bys xs=Bys (xs.take i++xs[i]::xs.drop (i+1)) from by rw[← h0]]at h2
 have h3:=(Bys.out h2).tail
 rw[nt_mlc_drop,nt_mlc_take,← nt_mlc_app,← List.eraseIdx_eq_take_drop_succ]at h3
 exact (NetQ.shut (q:=q) (ad:=ad1) (xs:=xs.eraseIdx i) (ms:=(xs.map NMl.m).eraseIdx i) h3 (by rw[List.length_eraseIdx];simp[hi2]) rfl (by simp only[List.eraseIdx_eq_take_drop_succ,List.map_append,List.map_take,List.map_drop]) (by rw[List.length_eraseIdx];simp[hi2];omega) (λx h=>hx.2 x (List.mem_of_mem_eraseIdx h))).sub
theorem nt_bc_set (bs:List UInt8)(i:Nat)(x:UInt8):(bc bs).set i (.int .u8 (x.toNat:Int))=bc (bs.set i x):=by
 simp[bc,List.map_set]
theorem nt_set_mid {p q r:List Value}{i:Nat}{v:Value}(h:i<q.length):(p++q++r).set (p.length+i) v=p++q.set i v++r:=by
 rw[List.append_assoc,List.set_append_right _ _ (by omega),show p.length+i-p.length=i from by omega,List.set_append_left _ _ h,List.append_assoc]
theorem nt_spoil_in {W w:World}{L:List SP}{q:Nat}{ms:List NMm}{i:Nat}{at':Int}{x:UInt8}(hs:St W w (NetQ q ms::L))(hi:i<ms.length) :
   Calls Tryz.prog 64 #[pt q,.int .i64 i,.int .i64 at',.int .u8 (x.toNat:Int)] w λe w' =>
     e=.returned (.bool (decide (0≤at')&&decide (at'<ms[i].2.2.length)))∧St W w' (NetQ q (if decide (0≤at')&&decide (at'<ms[i].2.2.length) then ms.set i (ms[i].1,ms[i].2.1,ms[i].2.2.set at'.toNat (ms[i].2.2.getD at'.toNat 0 ^^^ x)) else ms)::L):=by
 obtain⟨ad1,c1,xs,rfl,hx,hs⟩:=NetQ.open hs
 have hi2:i<xs.length:=by simpa using hi
 simp only[List.getElem_map,NMl.m]
 obtain⟨b',off',rfl,hrd⟩:=hs.slRd ad1 (by omega)
 clear hrd
 refine EN Tryz.func64 Tryz.ntmps64 rfl rfl λa ha=>?_
 refine CL 6 ha hs (nt_has_some (q:=q) hs) λa w ha hs=>?_
 rw[nt_dlt hi2]at ha
 refine RN 2 ha hs λa ha=>?_
 replace ha:=ha.isF 13
 refine BY 4 ha hs (λhg8 a ha=>?_) λhg8 a ha=>?_
 ·
  have hm:(decide (0≤at')&&decide (at'<xs[i].bs.length))=false:=by rw[decide_eq_false (by omega),Bool.false_and]
  refine RN 4 ha hs λa ha=>?_
  have hm1:=nmlRd (hs.slRdAt b' off' (by omega)) i hi2
  refine RT 11 ha hs ?_
  exact⟨by rw[hm],by rw[hm,if_neg (by decide)];exact (NetQ.shut (q:=q) (ad:=some ⟨b',off',none⟩) (xs:=xs) hs rfl rfl rfl hx.1 hx.2).sub⟩
 refine RN 4 ha hs λa ha=>?_
 have hm1:=nmlRd (hs.slRdAt b' off' (by omega)) i hi2
 refine RN 4 ha hs λa ha=>?_
 refine st_set ha (wgT ha rfl (s:=17)) (ld1 ha (hm1.2.2.2)) rfl λa ha=>?_
 refine IF 3 ha hs (λhc0 a ha=>?_) λhc0 a ha=>?_
 ·
  have hm:(decide (0≤at')&&decide (at'<xs[i].bs.length))=false:=by rw[decide_eq_false (p:=at'<xs[i].bs.length) (by omega),Bool.and_false]
  refine RT 2 ha hs ?_
  exact⟨by rw[hm],by rw[hm,if_neg (by decide)];exact (NetQ.shut (q:=q) (ad:=some ⟨b',off',none⟩) (xs:=xs) hs rfl rfl rfl hx.1 hx.2).sub⟩
 have hm:(decide (0≤at')&&decide (at'<xs[i].bs.length))=true:=by simp;omega
 obtain⟨A,rfl⟩:∃ A:Nat,at'=A:=⟨at'.toNat,by omega⟩
 have hA:A<xs[i].bs.length:=by omega
 rw[hm,if_pos rfl,Int.toNat_natCast]
 have h1:=hs.pick (Bys xs)
 have h0:xs=xs.take i++xs[i]::xs.drop (i+1):=by rw[← List.drop_eq_getElem_cons hi2,List.take_append_drop]
 rw[show Bys xs=Bys (xs.take i++xs[i]::xs.drop (i+1)) from by rw[← h0]]at h1
 replace hs:=Bys.out h1
 clear h1
 obtain⟨xa,hxa⟩:∃ xa,xs[i].ad=xa:=⟨_,rfl⟩
 have h2:=hs
 rw[show xs[i].own=Sl 5 1 xa xs[i].bs.length xs[i].c (bc xs[i].bs) from by rw[← hxa];rfl]at h2
 have hcl:=(h2.sl xa).2
 obtain⟨bb,pre,post,⟨h3,h4,h5,h6⟩,hs0⟩:=h2.slOpen (by omega)
 rw[h5]at hxa
 replace hs:=hs0
 clear hs0 h2
 rw[hxa]at hm1
 have hb:(pre++bc xs[i].bs++post)[pre.length+A]?=some (.int .u8 (xs[i].bs[A].toNat:Int)):=by
   rw[List.append_assoc,List.getElem?_append_right (by omega),show pre.length+A-pre.length=A from by omega,List.getElem?_append_left (by rw[bc_len];exact hA)]
   simp[bc,hA]
 refine RN 8 ha hs λa ha=>?_
 refine SS ha (ld1 ha (hm1.2.2.2)) λa ha=>?_
 refine RN 2 ha hs λa ha=>?_
 refine SS ha (ld1 ha (hs.rd1 hb)) λa ha=>?_
 refine ST 3 ha hs (λa w ha hs=>?_) (hlt:=(by simp only[List.length_append,bc_len];omega))
 refine RT 2 ha hs ?_
 refine⟨rfl,?_⟩
 rw[nt_set_mid (by rw[bc_len];exact hA),nt_bc_set]at hs
 have h7:=St.slShut (n:=xs[i].bs.length) (c:=xs[i].c) (sz:=1) (hs.bring bb) (by rw[bc_len,List.length_set,Nat.mul_one]) h4 h6
 obtain⟨m',hm'⟩:∃ m':NMl,m'=⟨xs[i].frm,xs[i].to,xs[i].ad,xs[i].c,xs[i].bs.set A (xs[i].bs[A] ^^^ x)⟩:=⟨_,rfl⟩
 have how:m'.own=Sl 5 1 (some ⟨bb,pre.length,none⟩) xs[i].bs.length xs[i].c (bc (xs[i].bs.set A (xs[i].bs[A] ^^^ x))):=by
   rw[hm',NMl.own]
   simp only[List.length_set,hxa]
 rw[← how]at h7
 have h8:=Bys.into (a:=xs.take i) (b:=xs.drop (i+1)) (m:=m') ((h7.pick (Bys (xs.take i++xs.drop (i+1)))).pick m'.own)
 have hse:xs.set i m'=xs.take i++m'::xs.drop (i+1):=by rw[List.set_eq_take_append_cons_drop,if_pos hi2]
 rw[← hse]at h8
 refine (NetQ.shut (q:=q) (ad:=some ⟨b',off',none⟩) (xs:=xs.set i m') (ms:=(xs.map NMl.m).set i (xs[i].frm,xs[i].to,xs[i].bs.set A (xs[i].bs.getD A 0 ^^^ x))) h8 (by rw[List.length_set]) ?_ ?_ (by rw[List.length_set];exact hx.1) ?_).sub
 · rw[hse]
   conv=>lhs;rw[h0]
   rw[nt_mlc_app,nt_mlc_app]
   congr 1
   simp only[nmlc,List.flatMap_cons]
   congr 1
   rw[hm',NMl.cells,NMl.cells]
   simp only[List.length_set]
 · rw[List.map_set,hm',NMl.m,List.getD_eq_getElem?_getD,List.getElem?_eq_getElem hA,Option.getD_some]
 · intro y hy
   rcases List.mem_or_eq_of_mem_set hy with h | h
   · exact hx.2 y h
   · rw[h,hm'];simp only[List.length_set];exact hx.2 _ (List.getElem_mem hi2)
end
section
theorem best_is {l:List Br}{frm:Int}{P:List (List UInt8)}(b:Br)(h:0<(l.foldl (bestStep frm P) b).done)(hb:b.done=0) :
   l.foldl (bestStep frm P) b∈l∧(l.foldl (bestStep frm P) b).done≤P.length∧alikeP ((l.foldl (bestStep frm P) b).press.take (l.foldl (bestStep frm P) b).done) P=true:=by
 have key:∀ (l:List Br) (b:Br),(l.foldl (bestStep frm P) b=b)∨(l.foldl (bestStep frm P) b∈l∧(l.foldl (bestStep frm P) b).done≤P.length∧alikeP ((l.foldl (bestStep frm P) b).press.take (l.foldl (bestStep frm P) b).done) P=true):=by
   intro l
   induction l with
   | nil=>intro b;exact .inl rfl
   | cons y l ih =>
     intro b
     rw[List.foldl_cons]
     rcases ih (bestStep frm P b y) with h | ⟨h1,h2,h3⟩
     · rw[h]
       unfold bestStep
       split
       · rename_i hc
         exact .inr ⟨List.mem_cons_self ..,hc.2.2.1,hc.2.2.2⟩
       · exact .inl rfl
     · exact .inr ⟨List.mem_cons_of_mem _ h1,h2,h3⟩
 rcases key l b with h1 | h1
 · rw[h1,hb]at h;omega
 · exact h1
theorem alike_take {u P:List (List UInt8)}(hl:u.length≤P.length)(h:alikeP u P=true):u=P.take u.length:=by
 have h1:=alikeP_iff.1 h
 rw[Nat.min_eq_left hl,List.take_length]at h1
 exact h1
theorem foldI_app (p:Pr):∀ (a b:List (List UInt8)) (fr:Int) (g:Nat→Int),foldI p fr g (a++b)=foldI p (fr+(a.length:Nat)) (foldI p fr g a) b
 | [],b,fr,g=>by simp[foldI]
 | x::a,b,fr,g=>by
   rw[List.cons_append,foldI,foldI_app p a b,foldI,List.length_cons]
   congr 1;omega
theorem RdX.drop {w:World}{ad:Option Addr}{zs:List BBx}{d c:Nat}(h:RdX w ad zs)(hc:zs.length≤c):RdX w (cutAd ad d c 1) (zs.drop d):=by
 refine⟨λh0=>?_,λx hx=>h.2 x (List.mem_of_mem_drop hx)⟩
 rw[List.length_drop]at h0
 obtain⟨b,o,rfl,hr⟩:=h.1 (by omega)
 refine⟨b,o+d*1,cutAd_some (by omega),λj v hj=>?_⟩
 rw[List.map_drop,List.getElem?_drop]at hj
 have:=hr _ v hj
 rw[Nat.mul_one,Nat.add_assoc];exact this
theorem muC_pr {w:World}{b nk base front:Nat}{p:Pr}{M:MuB}(h:Rd w b 0 (muC p M nk base front)):Rd w b 1 (prV p M.adO M.cO):=h.part 1 2
theorem foldI_cut {p:Pr}{f:Nat}{g:Nat→Int}{P:List (List UInt8)}{d:Nat}(hd:d≤P.length):foldI p ((f+d:Nat):Int) (foldI p (f:Int) g (P.take d)) (P.drop d)=foldI p (f:Int) g P:=by
 have h1:=foldI_app p (P.take d) (P.drop d) (f:Int) g
 rw[List.take_append_drop,List.length_take,Nat.min_eq_left hd]at h1
 rw[h1];rfl
section
variable {W w:World}{L:List SP}{n c i N tq sq r base front:Nat}{ad:Option Addr}{M:MuB}{B:PlB}{p:Pr}{s:Pl}{m:Mu}{A:Sn}{T:Tr}{t:Nat→Nat}{px:Pic}
set_option maxHeartbeats 1000000 in
theorem mu_display (hs:St W w (MuS W M p m::L))(h:MI p M N m)(hpr:prOk p)(hsz:p.title.size≤1000000000):Calls Tryz.prog 265 #[pt M.mb] w λr w'=>∃ ad c,r=.returned (.tuple #[.slice ad 128 c,.int .i64 (dispG p M.B.gs m.s).2])∧St W w' (Sl 5 1 ad 128 c (bc (dispG p M.B.gs m.s).1)::MuS W M p m::L):=by
 have hw:=h.wf
 have hne:=hw.wc.lne
 have hl8:m.s.k.ls.length≤8:=by rw[hw.wc.ls];exact hw.wc.n.2
 have hhd:=hw.wc.headt
 have hft:frontL m.s.k.ls≤headK m.s.k:=hw.wc.frontt
 have hgs:=h.gs
 have hfr:=h.front
 obtain⟨t,hI⟩:=h.inv
 obtain⟨i,px,hpx,hpid⟩:=hI.pic (List.mem_cons_self ..)
 have hpg:=(hI.base px (List.mem_of_getElem? hpx) hpid).1
 have hwt:=Tree.wt ((MuS.open hs).tree M.tq)
 clear h
 obtain⟨s,A,T,J,ks,base,front⟩:=m
 simp only at hw hne hl8 hhd hft hfr hI hpx hpid hpg hwt
 subst hfr
 refine EN Tryz.func265 Tryz.ntmps265 rfl rfl λa ha=>?_
 refine CL 5 ha hs (mu_core hs) λa w ha hs=>?_
 replace hs:=PlainS.open ((MuS.open hs).pick (PlainS W M.B p s))
 dsimp only at hs
 refine CL 0 ha hs (core_head (hs.pick (CoreS M.B.core s.k)) hw.wc) λa w ha hs=>?_
 refine RN 1 ha hs λa ha=>?_
 replace hs:=PlainS.fold hs M.B p s
 refine DWC 2 (λw0 w'=>Rd w' M.mb 0 (muC p M ks.length base (frontK s.k))) [8,9,10] [0,1,2,3,4,5,7,3006,1008,1009,1010,11,12,13,14,15,16,17,1018,19,20] ha hs λa w ha hs hH=>?_
 have hC:=hH.at w (hs.rdAll (b:=M.mb))
 refine RH 3 ha hs hH hC λa ha=>?_
 replace ha:=ha.isF 15
 refine RH 4 ha hs hH hC λa ha=>?_
 refine QH ha (λw hc=>ld1 ha (hc 8 _ rfl)) hC λa ha=>?_
 replace hs:=MuS.fold hs M p ⟨s,A,T,J,ks,base,frontK s.k⟩
 refine RH 0 ha hs hH hC λa ha=>?_
 refine CL 0 ha hs (mu_core hs) λa w ha hs=>?_
 replace hC:=hH.at w ((MuS.open hs).rdAll (b:=M.mb))
 replace hs:=PlainS.open ((MuS.open hs).pick (PlainS W M.B p s))
 dsimp only at hs
 refine RH 0 ha hs hH hC λa ha=>?_
 refine CL 0 ha hs (core_queue (hs.pick (CoreS M.B.core s.k))) λa w ha hs=>?_
 replace hC:=hH.at w (hs.rdAll (b:=M.mb))
 obtain⟨D,hs,hD⟩:=CoreS.qu hs
 refine RH 0 ha hs hH hC λa ha=>?_
 refine CL 0 ha hs (queue_front hs hne hl8) λa w ha hs=>?_
 replace hC:=hH.at w (hs.rdAll (b:=M.mb))
 refine RH 1 ha hs hH hC λa ha=>?_
 rw[show decide (((frontK s.k:Nat):Int)≠((frontL s.k.ls:Nat):Int))=false from dne]at ha
 refine RH 2 ha hs hH hC λa ha=>?_
 replace ha:=ha.isF 26
 refine RH 4 ha hs hH hC λa ha=>?_
 refine st_set ha (wgT ha rfl (s:=26)) (ld1 ha (hC 8 _ rfl)) rfl λa ha=>?_
 refine RH 2 ha hs hH hC λa ha=>?_
 replace hs:=MuS.fold (PlainS.fold (hD _ _ hs) M.B p s) M p ⟨s,A,T,J,ks,base,frontK s.k⟩
 refine IF 0 ha hs (λhc0 a ha=>?_) λhc0 a ha=>?_
 ·
  refine CL 2 ha hs (mu_plain hs) λa w ha hs=>?_
  replace hs:=MuS.open hs
  dsimp only at hs
  refine CL2 0 ha hs (plain_display (hs.pick (PlainS W M.B p s)) hw hpr hsz hgs) λad c a w ha hs=>?_
  refine RT 4 ha hs ?_
  exact⟨ad,c,rfl,(MuS.fold hs M p ⟨s,A,T,J,ks,base,frontK s.k⟩).sub⟩
 have hhf:frontK s.k<headK s.k:=by omega
 refine RN 1 ha hs λa ha=>?_
 replace hs:=MuS.open hs
 dsimp only at hs
 refine DWC 0 (λw0 w'=>Rd w' M.mb 0 (muC p M ks.length base (frontK s.k))) [1,2] [0,3,4,5,8,3006,1001,1002,1007,1009,10] ha hs λa w ha hs hH=>?_
 have hC:=hH.at w (hs.rdAll (b:=M.mb))
 refine RH 5 ha hs hH hC λa ha=>?_
 refine QH ha (λw hc=>ld1 ha (hc 0 _ rfl)) hC λa ha=>?_
 replace hs:=MuS.fold hs M p ⟨s,A,T,J,ks,base,frontK s.k⟩
 refine RH 0 ha hs hH hC λa ha=>?_
 refine CL 0 ha hs (mu_core hs) λa w ha hs=>?_
 replace hC:=hH.at w ((MuS.open hs).rdAll (b:=M.mb))
 replace hs:=PlainS.open ((MuS.open hs).pick (PlainS W M.B p s))
 dsimp only at hs
 refine RH 0 ha hs hH hC λa ha=>?_
 refine CL 0 ha hs (core_queue (hs.pick (CoreS M.B.core s.k))) λa w ha hs=>?_
 replace hC:=hH.at w (hs.rdAll (b:=M.mb))
 replace hs:=PlainS.fold hs M.B p s
 refine RH 0 ha hs hH hC λa ha=>?_
 refine CL 0 ha hs (plain_by (hs.pick (PlainS W M.B p s))) λa w ha hs=>?_
 replace hs:=PlainS.open (hs.pick (PlainS W M.B p s))
 obtain⟨D,hs,hD⟩:=CoreS.qu (hs.pick (CoreS M.B.core s.k))
 refine CL3 0 ha hs (guess_ahead (r:=0) (to:=headK s.k) (.inl rfl) (by decide) hs hgs hne hl8 hw.wc.ln hhd (λw' hw'=>(hw'.pick (Sl 5 1 M.B.adT M.B.gs.table.length M.B.cT (bc M.B.gs.table))).rdB M.B.adT _ rfl rfl)) λadh ch X a w ha ⟨⟨hFX,hX⟩,hs⟩=>?_
 have hXf:=hX rfl
 subst hXf
 rw[aheadX_full]at hs
 replace hs:=hs.sub (M:=Qu M.B.core.qb M.B.core.lbs s.k.ls::D::OwnBB adh (headK s.k-frontL s.k.ls) ch (aheadL M.B.gs s.k.ls (headK s.k))::blk M.B.pb 192 (plC p M.B s.g)::RoP W p M.B.adO M.B.cO::Sl 5 1 M.B.adT M.B.gs.table.length M.B.cT (bc M.B.gs.table)::blk M.mb 177 (muC p M ks.length base (frontK s.k))::RoP W p M.adO M.cO::Sl 179 1 M.adw ks.length M.cw (ptrs ks)::All (ownK p M.adO M.cO M.tq M.jq M.sq) ks::Tree M.tq M.sq T::Store M.sq M.r A::Jobs M.jq J::L)
 replace hs:=MuS.fold (PlainS.fold (hD _ _ hs) M.B p s) M p ⟨s,A,T,J,ks,base,frontK s.k⟩
 have hall:(aheadL M.B.gs s.k.ls (headK s.k)).length=headK s.k-frontL s.k.ls:=aheadL_len _ _ _
 have hal1:∀ b∈aheadL M.B.gs s.k.ls (headK s.k),b.length≤1099511627776:=λb hb=>by
   rw[aheadL,List.mem_map]at hb
   obtain⟨i,_,rfl⟩:=hb
   rw[jointL_len,fullL,List.length_map];omega
 have hdg:dispG p M.B.gs s=(gameB (foldI p (frontK s.k) s.g (aheadL M.B.gs s.k.ls (headK s.k))),headK s.k):=by rw[dispG,if_neg (by omega)]
 clear hX hFX
 generalize aheadL M.B.gs s.k.ls (headK s.k)=P at hs hall hal1 hdg
 rw[← hall]at ha hs
 rw[hdg]
 have hPc:=(OwnBB.le (hs.pick (OwnBB adh P.length ch P))).2
 refine RN 1 ha hs λa ha=>?_
 refine RN 1 ha hs λa ha=>?_
 replace hs:=MuS.open hs
 dsimp only at hs
 refine RN 5 ha hs λa ha=>?_
 replace hs:=MuS.fold hs M p ⟨s,A,T,J,ks,base,frontK s.k⟩
 refine CL 0 ha hs (mu_picture hs hpx hpid) λa w ha hs=>?_
 refine AL 0 ha hs λb6 a w ha hs=>?_
 change St W w (blk b6 183 (ints .i32 32 (λ_=>0))::_) at hs
 refine SA 0 ha hs λa w ha hs=>?_
 refine RN 1 ha hs λa ha=>?_
 refine wp_seq_cut (M:=λa w=>∃ (d:Nat) (g1:Nat→Int),(d≤P.length∧foldI p ((frontK s.k+d:Nat):Int) g1 (P.drop d)=foldI p (frontK s.k:Int) s.g P∧gOk g1)∧Fr a 92 [(0,pt M.mb),(4,.int .i64 (headK s.k)),(5,.slice adh P.length ch),(6,pt b6),(7,.int .i64 d)]∧St W w (blk b6 183 (ints .i32 32 g1)::OwnBB adh P.length ch P::MuS W M p ⟨s,A,T,J,ks,base,frontK s.k⟩::L)) ?_ ?_
 ·
  refine wp_seq_cut (M:=λa w=>∃ (b8:Nat) (adb:Option Addr) (cb:Nat),Fr a 92 [(0,pt M.mb),(4,.int .i64 (headK s.k)),(5,.slice adh P.length ch),(6,pt b6),(7,.int .i64 0),(8,pt b8),(9,.bool (decide (0<(T.best (frontK s.k:Int) P).done)))]∧St W w (blk b8 238 (brC (T.best (frontK s.k:Int) P) adb cb)::blk b6 183 (ints .i32 32 s.g)::OwnBB adh P.length ch P::MuS W M p ⟨s,A,T,J,ks,base,frontK s.k⟩::L)) ?_ ?_
  ·
   refine RN 0 ha hs λa ha=>?_
   rw[hpg]at hs
   replace hs:=MuS.open (hs.pick (MuS W M p ⟨s,A,T,J,ks,base,frontK s.k⟩))
   dsimp only at hs
   refine DWC 0 (λw0 w'=>Rd w' M.mb 0 (muC p M ks.length base (frontK s.k))) [7,13] [0,1,2,4,5,6,8,3003,3007,2009,10,11,12,1013,1014,15] ha hs λa w ha hs hH=>?_
   have hC:=hH.at w (hs.rdAll (b:=M.mb))
   refine RH 7 ha hs hH hC λa ha=>?_
   refine QH ha (λw hc=>ld1 ha (hc 4 _ rfl)) hC λa ha=>?_
   refine QH ha (λw hc=>ld1 ha (hc 8 _ rfl)) hC λa ha=>?_
   refine RH 0 ha hs hH hC λa ha=>?_
   refine DN [(9,[10,11,12,1013,1014,15]),(13,[1009,10,11,12,1014,15])] (by kernel_rfl) rfl ⟨⟨_,rfl,?_⟩,⟨_,rfl,?_⟩,trivial⟩
   ·
    refine RH 0 ha hs hH hC λa ha=>?_
    refine CL2 0 ha hs (tree_best (p:=P) (hs.tree M.tq) (λw' h=>OwnBB.rd (h.pick (OwnBB adh P.length ch P))) hPc ⟨by omega,hal1⟩) λadb cb a w ha hs=>?_
    refine RN 3 ha hs λa ha=>?_
    refine st_alloc ha rfl hs Ty.t238 rfl λb8 a w ha hs ho=>?_
    clear ho
    replace hC:=hH.at w (hs.rdAll (b:=M.mb))
    refine RH 0 ha hs hH hC λa ha=>?_
    refine SA 0 ha hs λa w ha hs=>?_
    refine RN 1 ha hs λa ha=>?_
    exact⟨_,adb,cb,ha.keep [0,4,5,6,7,8,9],(MuS.fold hs M p ⟨s,A,T,J,ks,base,frontK s.k⟩).sub⟩
   refine RH 0 ha hs hH hC λa ha=>?_
   refine st_alloc ha rfl hs Ty.t238 rfl λb8 a w ha hs ho=>?_
   clear ho
   replace hC:=hH.at w (hs.rdAll (b:=M.mb))
   refine RH 0 ha hs hH hC λa ha=>?_
   refine CL2 0 ha hs (tree_best (p:=P) (hs.tree M.tq) (λw' h=>OwnBB.rd (h.pick (OwnBB adh P.length ch P))) hPc ⟨by omega,hal1⟩) λadb cb a w ha hs=>?_
   refine SA 3 ha hs λa w ha hs=>?_
   refine RN 1 ha hs λa ha=>?_
   exact⟨_,adb,cb,ha.keep [0,4,5,6,7,8,9],(MuS.fold hs M p ⟨s,A,T,J,ks,base,frontK s.k⟩).sub⟩
  clear ha;(try clear hs)
  rintro a w ⟨b8,adb,cb,ha,hs⟩
  refine IF 2 ha hs (λhc1 a ha=>?_) λhc1 a ha=>?_
  ·
   obtain⟨hbm,hbl,hba⟩:=best_is (l:=T.l) (frm:=(frontK s.k:Int)) (P:=P) br0 (by simpa [Tr.best] using hc1) rfl
   change T.best (frontK s.k:Int) P∈T.l at hbm
   obtain⟨j,pb,hpb,hpbid⟩:=hI.ofBr hbm
   have hpbg:=(hI.brs _ hbm).2 pb (List.mem_of_getElem? hpb) hpbid
   have hpbo:=(hI.pics pb (List.mem_of_getElem? hpb)).2
   refine DWC 0 (λw0 w'=>Rd w' b8 0 (brC (T.best (frontK s.k:Int) P) adb cb)) [3,5,6] [0,1,4,3002,3005,1003,1006,7] ha hs λa w ha hs hH=>?_
   have hC:=hH.at w (hs.rdAll (b:=b8))
   refine RH 3 ha hs hH hC λa ha=>?_
   refine QH ha (λw hc=>ld1 ha (hc 4 _ rfl)) hC λa ha=>?_
   refine QH ha (λw hc=>ld1 ha (hc 3 _ rfl)) hC λa ha=>?_
   refine RH 0 ha hs hH hC λa ha=>?_
   refine CL 0 ha hs (mu_picture (hs.pick (MuS W M p ⟨s,A,T,J,ks,base,frontK s.k⟩)) hpb hpbid) λa w ha hs=>?_
   replace hC:=hH.at w (hs.rdAll (b:=b8))
   refine RH 0 ha hs hH hC λa ha=>?_
   refine SA 0 ha hs λa w ha hs=>?_
   replace hC:=hH.at w (hs.rdAll (b:=b8))
   refine RH 1 ha hs hH hC λa ha=>?_
   change (T.best (frontK s.k:Int) P).done≤P.length at hbl
   change alikeP ((T.best (frontK s.k:Int) P).press.take (T.best (frontK s.k:Int) P).done) P=true at hba
   have hok:=(hwt.ok _ hbm).2.1
   generalize T.best (frontK s.k:Int) P=bb at *
   have e1:bb.press.take bb.done=P.take bb.done:=by
     have:=alike_take (u:=bb.press.take bb.done) (P:=P) (by rw[List.length_take];omega) hba
     rwa [List.length_take,Nat.min_eq_left hok]at this
   exact⟨bb.done,pb.g,⟨hbl,by rw[hpbg,e1];exact foldI_cut hbl,hpbo⟩,ha.keep [0,4,5,6,7],hs.sub⟩
  refine RN 0 ha hs λa ha=>?_
  exact⟨0,s.g,⟨Nat.zero_le _,rfl,hw.gok hpr⟩,ha.keep [0,4,5,6,7],hs.sub⟩
 clear ha;(try clear hs)
 rintro a w ⟨d,g1,⟨hdl,hdf,hdg1⟩,ha,hs⟩
 refine RN 1 ha hs λa ha=>?_
 replace hs:=MuS.open (hs.pick (MuS W M p ⟨s,A,T,J,ks,base,frontK s.k⟩))
 dsimp only at hs
 obtain⟨zs,hz1,hz2,hs⟩:=OwnBB.open (hs.pick (OwnBB adh P.length ch P))
 have hzl:zs.length=P.length:=by rw[← hz1,List.length_map]
 refine DWC 0 (λw0 w'=>Rd w' M.mb 0 (muC p M ks.length base (frontK s.k))∧Rd w' b6 0 (ints .i32 32 g1)) [4,8,10] [0,1,2,5,6,7,9,11,12,13,16,3003,3004,1008,1010,1014,1015,17,18] ha hs λa w ha hs hH=>?_
 have hC:=hH.at w ⟨hs.rdAll (b:=M.mb),hs.rdAll (b:=b6)⟩
 refine RH 10 ha hs hH hC λa ha=>?_
 rw[show P.length-d=(P.drop d).length from (List.length_drop ..).symm]at ha
 refine RH 1 ha hs hH hC λa ha=>?_
 refine QH ha (λw hc=>ex_loadN ha Tryz.underlying45 rfl Ty.t45 (muC_pr hc.1)) hC λa ha=>?_
 refine QH ha (λw hc=>ex_loadN ha Tryz.underlying183 rfl Ty.t183 (hc.2)) hC λa ha=>?_
 refine RH 0 ha hs hH hC λa ha=>?_
 refine SS ha (ld1 ha (hC.1 8 _ rfl)) λa ha=>?_
 refine RH 1 ha hs hH hC λa ha=>?_
 rw[show ((frontK s.k:Nat):Int)+(d:Int)=((frontK s.k+d:Nat):Int) from rfl]at ha
 refine CL 0 ha hs (fold_from (P:=P.drop d) (zs:=zs.drop d) (fr:=((frontK s.k+d:Nat):Int)) (hs.pick (RoP W p M.adO M.cO)) hpr hsz hdg1 ⟨by rw[List.length_drop];omega,λb hb=>hal1 b (List.mem_of_mem_drop hb)⟩ ⟨by omega,by have:frontK s.k≤1000:=Nat.le_trans hft hhd;omega⟩ (by rw[List.map_drop,hz1]) (λw' h=>(St.rdX (h.sub (M:=Sl 22 1 adh P.length ch (zs.map bbv)::All bbo zs::[]))).drop (by omega))) λa w ha hs=>?_
 refine CL2 0 ha hs (state_encode hs) λad2 c2 a w ha hs=>?_
 refine RN 2 ha hs λa ha=>?_
 refine RT 0 ha hs ?_
 rw[hdf]at hs
 exact⟨ad2,c2,rfl,(MuS.fold hs M p ⟨s,A,T,J,ks,base,frontK s.k⟩).sub⟩
end
end
end Go.Proofs.YteoldcfapaiobaaGreat
