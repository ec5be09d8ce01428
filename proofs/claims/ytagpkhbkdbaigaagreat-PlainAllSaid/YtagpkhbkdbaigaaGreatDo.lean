/- quintainlaw22.Do, Shows; quintainlaw21.Packet: over any player that answers as a plain one. -/
import Derived.Test.YtagpkhbkdbaigaaGreatRefG
import Derived.Test.YtagpkhbkdbaigaaGreatMails
namespace Go.Proofs.YtagpkhbkdbaigaaGreat
open Go.RowKit
set_option linter.unusedVariables false
set_option linter.unusedSimpArgs false
set_option maxRecDepth 10000
set_option synthInstance.maxSize 4000
set_option synthInstance.maxHeartbeats 400000
theorem tick_len {k : Ks} (h : WC k) : (tickK k).1.length≤1000:=by
 have hn:=h.n
 have hl : ∀ k : Ks,(othersK k).length≤k.n:=fun k=>by
   rw [othersK]; exact Nat.le_trans (List.length_filter_le _ _) (by rw [List.length_range]; exact Nat.le_refl _)
 unfold tickK
 split
 · simp
 · simp only
   split
   · simp
   · rw [List.length_map]
     have:=hl { k with now:=k.now+1 }
     have h2 : ({ k with now:=k.now+1 } : Ks).n=k.n:=rfl
     omega
theorem quit_len {k : Ks} (h : WC k) : (quitK k).1.length≤1000:=by
 have hn:=h.n
 unfold quitK
 split
 · simp
 · rw [List.length_map,othersK]
   have h2:=List.length_filter_le (fun i=>decide (i≠k.me)) (List.range k.n)
   rw [List.length_range] at h2
   show ((List.range k.n).filter (·≠k.me)).length≤1000
   omega
theorem press_now (p : Pr) (x : UInt8) {s : Pl} (h : WF' p s) : (pressP p x s).2.k.now=s.k.now:=by
 have he:=press_ext x s.k
 have h1:=(playP_same (h.toWP.more (h.wc.press x) (h.held.press x) he.1 he.2)).2.2.2.2.2.1
 rw [pressP,h1]
 show (pressK x s.k).2.now=_
 by_cases h0 : (pressK x s.k).1=0
 · obtain ⟨_,_,_,h4⟩:=press_ls h0
   rw [h4]
 · rw [press_no h0]
theorem hear_now (k : Ks) (q : Pk) : (hearK k q).now=k.now:=by
 unfold hearK
 split
 · rfl
 · obtain ⟨ps,ev,h9,_⟩:=holdK_eq { k with ls:=k.ls.set q.from'.toNat (putLn (k.ls.getD q.from'.toNat []) q.first.toNat q.press),ps:=k.ps.set q.from'.toNat (hearP k.now (headK k) q (peK k q.from'.toNat)) }
   rw [h9]
theorem recv_now (p : Pr) (bs : List UInt8) {s : Pl} (h : WF' p s) : (recvP p bs s).2.k.now=s.k.now:=by
 have he:=recv_ext bs s.k
 have h1:=(playP_same (h.toWP.more (h.wc.recv bs).1 ((h.wc.recv bs).2 h.held) he.1 he.2)).2.2.2.2.2.1
 rw [recvP,h1]
 show (recvK bs s.k).2.now=_
 by_cases h0 : (recvK bs s.k).1=0
 · obtain ⟨q,_,_,_,_,_,h6⟩:=recv_ok h0
   rw [h6,hear_now]
 · rw [recv_no h0]
theorem tick_now (k : Ks) : (tickK k).2.now≤k.now+1:=by
 rcases tickK_k k with h1 | ⟨hc,h1 | ⟨i,hi,h1⟩⟩ <;> rw [h1]
 · exact Nat.le_succ _
 · exact Nat.le_refl _
 · exact Nat.le_refl _
theorem quit_now (k : Ks) : (quitK k).2.now=k.now:=by
 unfold quitK
 split <;> rfl
structure PlayS (W : World) (t : TypeId) (ad : Addr) (fP fR fT fQ fE fC fD fX : FuncId) (p : Pr) (gs : Gs) (J : Nat→Pl→SP) : Prop where
 mP : MethodT Tryz.prog t "Press" fP
 cP : callable Tryz.prog fP=true
 mR : MethodT Tryz.prog t "Receive" fR
 cR : callable Tryz.prog fR=true
 mT : MethodT Tryz.prog t "Tick" fT
 cT : callable Tryz.prog fT=true
 mQ : MethodT Tryz.prog t "Quit" fQ
 cQ : callable Tryz.prog fQ=true
 mE : MethodT Tryz.prog t "Events" fE
 cE : callable Tryz.prog fE=true
 mC : MethodT Tryz.prog t "Confirmed" fC
 cC : callable Tryz.prog fC=true
 mD : MethodT Tryz.prog t "Display" fD
 cD : callable Tryz.prog fD=true
 mX : MethodT Tryz.prog t "Closed" fX
 cX : callable Tryz.prog fX=true
 press : ∀ (w : World) (L : List SP) (i : Nat) (s : Pl) (x : UInt8),i≤1000000→WF' p s→St W w (J i s::L)→Calls Tryz.prog fP (List.toArray [.pointer (some ad),.int .u8 (x.toNat : Nat)]) w fun r w'=>r=.returned (.int .i64 (pressP p x s).1)∧St W w' (J (i+1) (pressP p x s).2::L)
 recv : ∀ (w : World) (L : List SP) (i : Nat) (s : Pl) (bs : List UInt8) (a : Option Addr) (c : Nat),i≤1000000→WF' p s→bs.length≤65536→bs.length≤c→(∀ w',St W w' L→RdB w' a bs.length bs)→St W w (J i s::L)→Calls Tryz.prog fR (List.toArray [.pointer (some ad),.slice a bs.length c]) w fun r w'=>r=.returned (.int .i64 (recvP p bs s).1)∧St W w' (J (i+1) (recvP p bs s).2::L)
 tick : ∀ (w : World) (L : List SP) (i : Nat) (s : Pl),i≤1000000→WF' p s→s.k.now≤1000000→St W w (J i s::L)→Calls Tryz.prog fT (List.toArray [.pointer (some ad)]) w fun r w'=>∃ a c,r=.returned (.slice a (tickK s.k).1.length c)∧St W w' (OwnMl 172 a (tickK s.k).1.length c (tickK s.k).1::J (i+1) ⟨(tickK s.k).2,s.g⟩::L)
 quit : ∀ (w : World) (L : List SP) (i : Nat) (s : Pl),i≤1000000→WF' p s→St W w (J i s::L)→Calls Tryz.prog fQ (List.toArray [.pointer (some ad)]) w fun r w'=>∃ a c,r=.returned (.slice a (quitK s.k).1.length c)∧St W w' (OwnMl 172 a (quitK s.k).1.length c (quitK s.k).1::J (i+1) ⟨(quitK s.k).2,s.g⟩::L)
 events : ∀ (w : World) (L : List SP) (i : Nat) (s : Pl),i≤1000000→WF' p s→St W w (J i s::L)→Calls Tryz.prog fE (List.toArray [.pointer (some ad)]) w fun r w'=>∃ a c,r=.returned (.slice a s.k.ev.length c)∧St W w' (Sl 184 1 a s.k.ev.length c (s.k.ev.map evV)::J (i+1) ⟨{ s.k with ev:=[] },s.g⟩::L)
 conf : ∀ (w : World) (L : List SP) (i : Nat) (s : Pl),i≤1000000→WF' p s→St W w (J i s::L)→Calls Tryz.prog fC (List.toArray [.pointer (some ad)]) w fun r w'=>∃ a c,r=.returned (.tuple #[.slice a 128 c,.int .i64 (confP s).2])∧St W w' (Sl 5 1 a 128 c (bc (confP s).1)::J i s::L)
 disp : ∀ (w : World) (L : List SP) (i : Nat) (s : Pl),i≤1000000→WF' p s→St W w (J i s::L)→Calls Tryz.prog fD (List.toArray [.pointer (some ad)]) w fun r w'=>∃ a c,r=.returned (.tuple #[.slice a 128 c,.int .i64 (dispG p gs s).2])∧St W w' (Sl 5 1 a 128 c (bc (dispG p gs s).1)::J i s::L)
 closed : ∀ (w : World) (L : List SP) (i : Nat) (s : Pl),i≤1000000→WF' p s→St W w (J i s::L)→Calls Tryz.prog fX (List.toArray [.pointer (some ad)]) w fun r w'=>r=.returned (.bool s.k.cl)∧St W w' (J i s::L)
def opL (k : Int) (aB : Option Addr) (n cB : Nat) (pk : Pk) (aK : Option Addr) (cK : Nat) (b : Bool) (z : Int) : List Value:=[.int .i64 k,.slice aB n cB]++pkC pk aK cK++[.bool b,.int .u32 z]
section
variable {W w : World} {L L' R : List SP} {n c i cB cK : Nat} {aB aK : Option Addr} {t : TypeId} {ad : Addr} {fP fR fT fQ fE fC fD fX : FuncId} {p : Pr} {gs : Gs} {J : Nat→Pl→SP} {B : RgB} {s : Pl} {pk : Pk} {bs : List UInt8} {kd z : Int} {b : Bool}
theorem shows_spec (M : PlayS W t ad fP fR fT fQ fE fC fD fX p gs J) (hi : i≤1000000) (hs : St W w (J i s::RefG W B p s::L)) (hw : WF' p s) (hpr : prOk p) (hsz : p.title.size≤1000000000) (hgs : mayGs B.gs) (hbg : B.gs=gs) (hT : RdB W B.adT B.gs.table.length B.gs.table) :
   Calls Tryz.prog 34 #[.iface t (.pointer (some ad)),.pointer (some ⟨B.pb,0,none⟩)] w fun e w'=>e=.returned (.bool true)∧St W w' (J i s::RefG W B p s::L):=by
 subst hbg
 refine calls_enter Tryz.func34 rfl Tryz.ntmps34 (Nat.le_of_ble_eq_true rfl) ?_
 intro a ha
 replace ha : Fr a 67 [(0,_),(1,_)]:=ha
 refine WS<|WR ?_
 refine S1 ha fun a ha=>?_
 refine LN<|TN<|WS<|WR ?_
 refine S1 ha fun a ha=>?_
 refine SK (st_callI ha rfl M.mC M.cC rfl (M.conf _ _ i s hi hw hs) (by rfl) ?_); clear ha hs
 rintro e w ⟨a1,c1,rfl,hs⟩
 refine ⟨_,rfl,?_⟩
 intro a ha
 iterate 5 (refine S1 ha fun a ha=>?_)
 refine LN<|TN<|WS<|WR ?_
 refine S1 ha fun a ha=>?_
 refine SK (st_call ha rfl Ty.c79 rfl (refP_conf (hs.pick (RefG W B p s)) hw) ?_); clear ha hs
 rintro e w ⟨a2,c2,rfl,hs⟩
 refine ⟨_,rfl,?_⟩
 intro a ha
 iterate 5 (refine S1 ha fun a ha=>?_)
 refine LN<|TN<|WS<|WR ?_
 refine S1 ha fun a ha=>?_
 refine SK (st_callI ha rfl M.mD M.cD rfl (M.disp _ _ i s hi hw (hs.pick (J i s))) (by rfl) ?_); clear ha hs
 rintro e w ⟨a3,c3,rfl,hs⟩
 refine ⟨_,rfl,?_⟩
 intro a ha
 iterate 5 (refine S1 ha fun a ha=>?_)
 refine LN<|TN<|WS<|WR ?_
 refine S1 ha fun a ha=>?_
 refine SK (st_call ha rfl Ty.c80 rfl (refP_disp (hs.pick (RefG W B p s)) hw hpr hsz hgs hT) ?_); clear ha hs
 rintro e w ⟨a4,c4,rfl,hs⟩
 refine ⟨_,rfl,?_⟩
 intro a ha
 iterate 5 (refine S1 ha fun a ha=>?_)
 refine LN ?_
 have hcl : (confP s).1.length=128:=gameB_len _
 have hdl : (dispG p B.gs s).1.length=128:=by
   rw [dispG]; split
   · exact gameB_len _
   · exact gameB_len _
 replace hs:=hs.sub (M:=Sl 5 1 a4 128 c4 (bc (dispG p B.gs s).1)::Sl 5 1 a3 128 c3 (bc (dispG p B.gs s).1)::Sl 5 1 a2 128 c2 (bc (confP s).1)::Sl 5 1 a1 128 c1 (bc (confP s).1)::RefG W B p s::J i s::L)
 obtain ⟨A,hs⟩ : ∃ A,St W w (Sl 5 1 a4 128 c4 (bc (dispG p B.gs s).1)::Sl 5 1 a3 128 c3 (bc (dispG p B.gs s).1)::Sl 5 1 a2 128 c2 (bc (confP s).1)::Sl 5 1 a1 128 c1 (bc (confP s).1)::blk B.core.cb 127 (rcC s.k B.core A)::RLn B.core.lb B.core.lo B.core.cL s.k.ls::blk B.core.hb 3 (heC s.k.ps)::blk B.core.ab 3 (haC s.k.ps)::blk B.core.wb 210 (rows wdC s.k.ps)::blk B.core.xb 4 (apC s.k.ps)::Sl 38 1 A.adM s.k.mr.length A.cM (mrC s.k.mr)::Sl 144 3 A.adE s.k.ev.length A.cE (rows rawC s.k.ev)::blk B.pb 115 (rgC p B s.g)::RoP W p B.adO B.cO::J i s::L):=by
   obtain ⟨A,h⟩:=RefS.open ((RefG.open (hs.pick (RefG W B p s))).pick (RefS B.core s.k))
   exact ⟨A,h.sub⟩
 refine TN<|WS ?_
 refine DW (m:=35) (fun w'=>((RdB w' a1 128 (confP s).1∧RdB w' a2 128 (confP s).1)∧RdB w' a3 128 (dispG p B.gs s).1∧RdB w' a4 128 (dispG p B.gs s).1)∧Rd w' B.pb 0 (rgC p B s.g)∧Rd w' B.core.cb 0 (rcC s.k B.core A)) [7,19,24] [0,1,2,3,4,6,5,7,8,9,10,11,12,13,14,15,16,18,17,19,20,21,22,23,25,26,27,28,29,30,31,24,32,33,34] Ty.mixed (pk_then pk_body) (fun hpk=>?_)
 replace hs:=hs.drew
 generalize w.drew=w at hs hpk ⊢
 have hC : ((RdB w a1 128 (confP s).1∧RdB w a2 128 (confP s).1)∧RdB w a3 128 (dispG p B.gs s).1∧RdB w a4 128 (dispG p B.gs s).1)∧Rd w B.pb 0 (rgC p B s.g)∧Rd w B.core.cb 0 (rcC s.k B.core A):=⟨⟨⟨hs.rdB a1 _ rfl hcl,hs.rdB a2 _ rfl hcl⟩,hs.rdB a3 _ rfl hdl,hs.rdB a4 _ rfl hdl⟩,hs.rdAll (b:=B.pb),hs.rdAll (b:=B.core.cb)⟩
 iterate 4 (refine DP hpk ha rfl fun a ha=>?_)
 rw [decide_eq_true (by omega)] at ha
 iterate 2 (refine DPg (s:=36) hpk ha rfl fun a ha=>?_)
 refine DH hpk ha rfl (wgT ha rfl (s:=36)) (fun w hc=>ex_toString ha Tryz.underlying22 Tryz.underlying5 Tryz.underlying9 (hc.1.1.1)) hC fun a ha=>?_
 refine D1 rfl (st_set ha (wgT ha rfl (s:=36)) (ex_toString ha Tryz.underlying22 Tryz.underlying5 Tryz.underlying9 (hC.1.1.2)) rfl fun a ha=>?_)
 replace hC : (fun w'=>((RdB w' a1 128 (confP s).1∧RdB w' a2 128 (confP s).1)∧RdB w' a3 128 (dispG p B.gs s).1∧RdB w' a4 128 (dispG p B.gs s).1)∧Rd w' B.pb 0 (rgC p B s.g)∧Rd w' B.core.cb 0 (rcC s.k B.core A)) w:=hC
 refine ⟨fun _=>hC,?_⟩
 refine DQ hpk ha rfl (wgT ha rfl (s:=36)) (fun w=>ex_eqlS ha) fun a ha=>?_
 rw [str_beq,beq_self_eq_true] at ha
 refine DT hpk ha rfl fun a ha=>?_
 refine DP hpk ha rfl fun a ha=>?_
 iterate 3 (refine DPg (s:=43) hpk ha rfl fun a ha=>?_)
 refine DT hpk ha rfl fun a ha=>?_
 refine DP hpk ha rfl fun a ha=>?_
 rw [decide_eq_true (by omega)] at ha
 iterate 2 (refine DPg (s:=48) hpk ha rfl fun a ha=>?_)
 refine DH hpk ha rfl (wgT ha rfl (s:=48)) (fun w hc=>ex_toString ha Tryz.underlying22 Tryz.underlying5 Tryz.underlying9 (hc.1.2.1)) hC fun a ha=>?_
 refine D1 rfl (st_set ha (wgT ha rfl (s:=48)) (ex_toString ha Tryz.underlying22 Tryz.underlying5 Tryz.underlying9 (hC.1.2.2)) rfl fun a ha=>?_)
 replace hC : (fun w'=>((RdB w' a1 128 (confP s).1∧RdB w' a2 128 (confP s).1)∧RdB w' a3 128 (dispG p B.gs s).1∧RdB w' a4 128 (dispG p B.gs s).1)∧Rd w' B.pb 0 (rgC p B s.g)∧Rd w' B.core.cb 0 (rcC s.k B.core A)) w:=hC
 refine ⟨fun _=>hC,?_⟩
 refine DQ hpk ha rfl (wgT ha rfl (s:=48)) (fun w=>ex_eqlS ha) fun a ha=>?_
 rw [str_beq,beq_self_eq_true] at ha
 refine DT hpk ha rfl fun a ha=>?_
 refine DP hpk ha rfl fun a ha=>?_
 iterate 4 (refine DPg (s:=55) hpk ha rfl fun a ha=>?_)
 refine DH hpk ha rfl (wgT ha rfl (s:=55)) (fun w hc=>ex_load1 ha Tryz.underlying112 rfl (hc.2.1 0 _ rfl)) hC fun a ha=>?_
 iterate 2 (refine DPg (s:=55) hpk ha rfl fun a ha=>?_)
 refine DH hpk ha rfl (wgT ha rfl (s:=55)) (fun w hc=>ex_load1 ha Tryz.underlying4 rfl (hc.2.2 18 _ rfl)) hC fun a ha=>?_
 refine D1 rfl (st_callI ha (wgT ha rfl (s:=55)) M.mX M.cX rfl (M.closed _ _ i s hi hw (hs.pick (J i s))) (by rfl) ?_); clear ha hs
 rintro e w ⟨rfl,hs⟩
 refine ⟨_,rfl,?_⟩
 intro a ha
 replace hC : (fun w'=>((RdB w' a1 128 (confP s).1∧RdB w' a2 128 (confP s).1)∧RdB w' a3 128 (dispG p B.gs s).1∧RdB w' a4 128 (dispG p B.gs s).1)∧Rd w' B.pb 0 (rgC p B s.g)∧Rd w' B.core.cb 0 (rcC s.k B.core A)) w:=⟨⟨⟨hs.rdB a1 _ rfl hcl,hs.rdB a2 _ rfl hcl⟩,hs.rdB a3 _ rfl hdl,hs.rdB a4 _ rfl hdl⟩,hs.rdAll (b:=B.pb),hs.rdAll (b:=B.core.cb)⟩
 refine ⟨fun _=>hC,?_⟩
 refine DQ hpk ha rfl (wgT ha rfl (s:=55)) (fun w=>ex_eqlB ha Tryz.underlying4) fun a ha=>?_
 refine DT hpk ha rfl fun a ha=>?_
 replace ha:=ha.del 4
 refine DP hpk ha rfl fun a ha=>?_
 refine DD<|TN<|wp_ret ?_
 refine ret1 ha rfl ?_
 refine ⟨by simp,?_⟩
 exact (RefG.fold (RefS.fold hs B.core s.k A) B p s).sub (M:=J i s::RefG W B p s::L)
theorem rcC_cf {w : World} {b : Nat} {k : Ks} {C : RcB} {A : RcA} (h : Rd w b 0 (rcC k C A)) : Rd w b 0 (cfC (ksCf k)):=h.part 0 10
theorem packet21_spec {cf : Cf} (hs : St W w L) (hps : pk.sum < 4294967296) (hrK : RdB W aK pk.press.length pk.press) (hcK : pk.press.length≤cK) :
   Calls Tryz.prog 73 #[.agg (cfC cf).toArray,.agg (opL kd aB n cB pk aK cK b z).toArray] w fun e w'=>∃ (q : Pk) (aq : Option Addr) (cq : Nat),e=.returned (.agg (pkC q aq cq).toArray)∧q.sum < 4294967296∧RdB W aq q.press.length q.press∧St W w' L:=by
 refine calls_enter Tryz.func73 rfl Tryz.ntmps73 (Nat.le_of_ble_eq_true rfl) ?_
 intro a ha
 replace ha : Fr a 21 [(0,_),(1,_)]:=ha
 refine WS<|WR ?_
 refine SK (st_box ha rfl hs rfl fun b2 a w ha hs ho=>?_)
 clear ho
 change St W w (blk b2 30 (cfC cf)::_) at hs
 refine SK (st_box ha rfl hs rfl fun b3 a w ha hs ho=>?_)
 clear ho
 change St W w (blk b3 74 (opL kd aB n cB pk aK cK b z)::_) at hs
 refine SK (st_alloc ha rfl hs Ty.t40 rfl fun b4 a w ha hs ho=>?_)
 clear ho
 change St W w (blk b4 40 (pkC pk0 none 0)::_) at hs
 refine LN<|TN<|WS<|WR ?_
 refine S1 ha fun a ha=>?_
 refine SK (st_set ha rfl (ex_loadN ha Tryz.underlying40 rfl Ty.t40 ((show Rd w b3 2 (pkC pk aK cK) from (hs.rdAll (b:=b3)).part 2 9))) rfl fun a ha=>?_)
 refine SK (st_alloc ha rfl hs Ty.t40 rfl fun b5 a w ha hs ho=>?_)
 clear ho
 refine SK (st_storeAll ha rfl hs Ty.t40 (pkC_one pk aK cK) (by rfl) fun a w ha hs=>?_)
 refine LN<|TN<|WS<|WR ?_
 refine S1 ha fun a ha=>?_
 refine SL ha (hs.rd1 (b:=b5) rfl) fun a ha=>?_
 refine SK (st_call ha rfl Ty.c11 rfl (shortN (K:=33) hs hrK hcK) ?_); clear ha hs
 rintro e w ⟨aq,cq,rfl,hrq,hcq,hs⟩
 refine ⟨_,rfl,?_⟩
 intro a ha
 refine S1 ha fun a ha=>?_
 refine SK (st_store ha rfl hs Ty.t22 rfl (by simp [pkC]) fun a w ha hs=>?_)
 change St W w (blk b5 40 (pkC { pk with press:=pk.press.take 33 } aq cq)::_) at hs
 refine LN<|TN ?_
 refine wp_seq_cut (M:=fun a w=>∃ q : Pk,(q.sum=pk.sum∧q.press=pk.press.take 33)∧Fr a 21 [(4,.pointer (some ⟨b4,0,none⟩)),(5,.pointer (some ⟨b5,0,none⟩))]∧St W w (blk b5 40 (pkC q aq cq)::blk b4 40 (pkC pk0 none 0)::L)) ?_ ?_
 ·
  refine WS<|WR ?_
  refine S1 ha fun a ha=>?_
  refine SL ha (hs.rd1 (b:=b3) rfl) fun a ha=>?_
  refine LN<|TN ?_
  refine WI ha (fun hc0=>?_) (fun hc0=>?_)
  ·
   refine DW (m:=8) (fun w'=>Rd w' b2 0 (cfC cf)) [3,5] [0,2,1,4,3,5,6,7] Ty.mixed (pk_then pk_body) (fun hpk=>?_)
   replace hs:=hs.drew
   generalize w.drew=w at hs hpk ⊢
   have hC : Rd w b2 0 (cfC cf):=hs.rdAll (b:=b2)
   iterate 2 (refine DP hpk ha rfl fun a ha=>?_)
   refine DL hpk ha rfl (fun w hc=>hc 1 _ rfl) hC fun a ha=>?_
   refine DP hpk ha rfl fun a ha=>?_
   refine DL hpk ha rfl (fun w hc=>hc 2 _ rfl) hC fun a ha=>?_
   refine D1 rfl (st_store ha rfl hs Ty.t3 rfl (by simp [pkC]) fun a w ha hs=>?_)
   replace hC : (fun w'=>Rd w' b2 0 (cfC cf)) w:=hs.rdAll (b:=b2)
   refine ⟨fun _=>hC,?_⟩
   refine DP hpk ha rfl fun a ha=>?_
   refine D1 rfl (st_store ha rfl hs Ty.t2 rfl (by simp [pkC]) fun a w ha hs=>?_)
   refine ⟨fun h=>absurd h (by decide),?_⟩
   refine DD<|TN ?_
   exact ⟨{ pk with press:=pk.press.take 33,to:=cf.me,id:=cf.id },⟨rfl,rfl⟩,ha.keep [4,5],(show St W w (blk b5 40 (pkC { pk with press:=pk.press.take 33,to:=cf.me,id:=cf.id } aq cq)::_) from hs).sub⟩
  ·
   refine WK<|TN ?_
   exact ⟨{ pk with press:=pk.press.take 33 },⟨rfl,rfl⟩,ha.keep [4,5],hs.sub⟩
 ·
  clear ha; (try clear hs)
  intro a w hcut
  obtain ⟨q,⟨hq1,hq2⟩,ha,hs⟩:=hcut
  refine WS<|WR ?_
  refine SK (st_set ha rfl (ex_loadN ha Tryz.underlying40 rfl Ty.t40 (hs.rdAll (b:=b5))) rfl fun a ha=>?_)
  refine SK (st_storeAll ha rfl hs Ty.t40 (pkC_one q aq cq) (by rfl) fun a w ha hs=>?_)
  refine LN<|TN<|wp_ret ?_
  refine retC1 ha rfl (run_loadN Tryz.underlying40 rfl Ty.t40 (hs.rdAll)) ?_
  exact ⟨q,aq,cq,rfl,by rw [hq1]; exact hps,by rw [hq2]; exact hrq,hs.sub⟩
set_option maxHeartbeats 4000000 in
theorem do_spec (M : PlayS W t ad fP fR fT fQ fE fC fD fX p gs J) (hi : i≤1000000) (hs : St W w (J i s::RefG W B p s::L)) (hw : WF' p s) (hpr : prOk p) (hsz : p.title.size≤1000000000) (hnw : s.k.now≤1000000)
   (hrB : RdB W aB n bs) (hnB : n≤cB) (hps : pk.sum < 4294967296) (hrK : RdB W aK pk.press.length pk.press) (hcK : pk.press.length≤cK) :
   Calls Tryz.prog 33 #[.iface t (.pointer (some ad)),.pointer (some ⟨B.pb,0,none⟩),.agg (opL kd aB n cB pk aK cK b z).toArray] w fun e w'=>e=.returned (.bool true)∧∃ s',WF' p s'∧s'.k.now≤s.k.now+1∧St W w' (J (i+1) s'::RefG W B p s'::L):=by
 have hbl:=hrB.1
 have hevl:=hw.wc.evl
 refine calls_enter Tryz.func33 rfl Tryz.ntmps33 (Nat.le_of_ble_eq_true rfl) ?_
 intro a ha
 replace ha : Fr a 91 [(0,_),(1,_),(2,_)]:=ha
 refine WS<|WR ?_
 refine SK (st_box ha rfl hs rfl fun b5 a w ha hs ho=>?_)
 clear ho
 change St W w (blk b5 74 (opL kd aB n cB pk aK cK b z)::_) at hs
 refine S1 ha fun a ha=>?_
 refine LN<|TN<|WS<|WS<|WR ?_
 refine S1 ha fun a ha=>?_
 refine SL ha (hs.rd1 (b:=b5) rfl) fun a ha=>?_
 refine LN<|TN<|wp_block<|WS<|WR ?_
 iterate 2 (refine S1 ha fun a ha=>?_)
 refine LN<|TN ?_
 refine WI ha (fun hc0=>?_) (fun hc0=>?_)
 ·
  refine WS<|WR ?_
  refine S1 ha fun a ha=>?_
  refine LN<|TN ?_
  refine wp_seq_cut (M:=fun a w=>∃ x : UInt8,Fr a 91 [(0,.iface t (.pointer (some ad))),(1,.pointer (some ⟨B.pb,0,none⟩)),(7,.int .u8 (x.toNat : Nat))]∧St W w (J i s::RefG W B p s::L)) ?_ ?_
  ·
   refine WS<|WR ?_
   refine S1 ha fun a ha=>?_
   refine SL ha (hs.rd1 (b:=b5) rfl) fun a ha=>?_
   iterate 2 (refine S1 ha fun a ha=>?_)
   refine LN<|TN ?_
   refine WI ha (fun hc1=>?_) (fun hc1=>?_)
   ·
    have h0 : 0 < bs.length:=by omega
    obtain ⟨bb,oo,rfl,hrb⟩:=(hrB.old hs).get (by omega)
    refine WR ?_
    refine S1 ha fun a ha=>?_
    refine SL ha (hs.rd1 (b:=b5) rfl) fun a ha=>?_
    refine SK (st_set ha rfl (ex_indexAddr ha Tryz.underlying22 Ty.t5 (by omega)) rfl fun a ha=>?_)
    rw [Nat.zero_mul] at ha
    refine SL ha (hrb 0 _ (bc_at h0)) fun a ha=>?_
    refine S1d ha fun a ha=>?_
    refine LN<|TN ?_
    exact ⟨bs[0],ha.keep [0,1,7],hs.sub⟩
   ·
    refine WK<|TN ?_
    exact ⟨0,ha.keep [0,1,7],hs.sub⟩
  ·
   clear ha; (try clear hs)
   intro a w hcut
   obtain ⟨x,ha,hs⟩:=hcut
   refine WS<|WR ?_
   iterate 2 (refine S1 ha fun a ha=>?_)
   refine SK (st_callI ha rfl M.mP M.cP rfl (M.press _ _ i s x hi hw (hs.pick (J i s))) (by rfl) ?_); clear ha hs
   rintro e w ⟨rfl,hs⟩
   refine ⟨_,rfl,?_⟩
   intro a ha
   iterate 2 (refine S1 ha fun a ha=>?_)
   refine SK (st_call ha rfl Ty.c69 rfl (refP_press (x:=x) (hs.pick (RefG W B p s)) hw hpr hsz) ?_); clear ha hs
   rintro e w ⟨rfl,hs⟩
   refine ⟨_,rfl,?_⟩
   intro a ha
   iterate 2 (refine S1 ha fun a ha=>?_)
   refine LN<|TN<|wp_ret<|BR<|TR ?_
   refine ret1 ha rfl ?_
   exact ⟨by simp,(pressP p x s).2,hw.press x,by rw [press_now p x hw]; omega,hs.sub⟩
 ·
  refine WS<|WR ?_
  iterate 2 (refine S1 ha fun a ha=>?_)
  refine LN<|TN ?_
  refine WI ha (fun hc2=>?_) (fun hc2=>?_)
  ·
   refine WS ?_
   replace hs:=RefG.open (hs.pick (RefG W B p s))
   refine DW (m:=10) (fun w'=>Rd w' B.pb 0 (rgC p B s.g)) [1,2] [0,3,4,5,6,1,2,7,8,9] Ty.mixed (pk_then (pk_blk (pk_then pk_body))) (fun hpk=>?_)
   replace hs:=hs.drew
   generalize w.drew=w at hs hpk ⊢
   have hC : Rd w B.pb 0 (rgC p B s.g):=hs.rdAll (b:=B.pb)
   iterate 4 (refine DP hpk ha rfl fun a ha=>?_)
   refine DL hpk ha rfl (fun w hc=>hc 0 _ rfl) hC fun a ha=>?_
   refine D1 rfl (st_callI ha rfl M.mT M.cT rfl (M.tick _ _ i s hi hw hnw (hs.pick (J i s))) (by rfl) ?_); clear ha hs
   rintro e w ⟨am,cm,rfl,hs⟩
   refine ⟨_,rfl,?_⟩
   intro a ha
   replace hC : (fun w'=>Rd w' B.pb 0 (rgC p B s.g)) w:=hs.rdAll (b:=B.pb)
   refine ⟨fun _=>hC,?_⟩
   refine D1 rfl (st_call ha rfl Ty.c71 rfl (mails_spec hs (tick_len hw.wc)) ?_); clear ha hs
   rintro e w ⟨an,cn,rfl,hs⟩
   refine ⟨_,rfl,?_⟩
   intro a ha
   replace hC : (fun w'=>Rd w' B.pb 0 (rgC p B s.g)) w:=hs.rdAll (b:=B.pb)
   refine ⟨fun _=>hC,?_⟩
   refine D1 rfl (st_call ha rfl Ty.c72 rfl (ref_tick (hs.pick (RefS B.core s.k)) hw.wc hnw) ?_); clear ha hs
   rintro e w ⟨ar,cr,rfl,hs⟩
   refine ⟨_,rfl,?_⟩
   intro a ha
   refine ⟨fun h=>absurd h (by decide),?_⟩
   refine D1 rfl (st_call ha rfl Ty.c70 rfl (eqMails_spec ((hs.pick (OwnMl 176 ar (tickK s.k).1.length cr (tickK s.k).1)).pick (OwnMl 176 an (tickK s.k).1.length cn (tickK s.k).1)) (tick_len hw.wc)) ?_); clear ha hs
   rintro e w ⟨rfl,hs⟩
   refine ⟨_,rfl,?_⟩
   intro a ha
   refine ⟨fun h=>absurd h (by decide),?_⟩
   replace ha:=ha.del 6
   refine DP hpk ha rfl fun a ha=>?_
   refine DD<|TN<|wp_ret<|BR<|TR ?_
   refine ret1 ha rfl ?_
   exact ⟨rfl,⟨(tickK s.k).2,s.g⟩,hw.tick,tick_now _,(RefG.fold hs B p ⟨(tickK s.k).2,s.g⟩).sub⟩
  ·
   refine WS<|WR ?_
   iterate 2 (refine S1 ha fun a ha=>?_)
   refine LN<|TN ?_
   refine WI ha (fun hc3=>?_) (fun hc3=>?_)
   ·
    refine WS ?_
    obtain ⟨A,hs⟩:=RefS.open ((RefG.open (hs.pick (RefG W B p s))).pick (RefS B.core s.k))
    refine DW (m:=11) (fun w'=>Rd w' B.pb 0 (rgC p B s.g)∧Rd w' B.core.cb 0 (rcC s.k B.core A)) [7] [0,1,2,3,4,5,6,7,8,9,10] Ty.mixed (pk_then (pk_blk (pk_then pk_body))) (fun hpk=>?_)
    replace hs:=hs.drew
    generalize w.drew=w at hs hpk ⊢
    have hC : Rd w B.pb 0 (rgC p B s.g)∧Rd w B.core.cb 0 (rcC s.k B.core A):=⟨hs.rdAll (b:=B.pb),hs.rdAll (b:=B.core.cb)⟩
    iterate 3 (refine DP hpk ha rfl fun a ha=>?_)
    refine DL hpk ha rfl (fun w hc=>hc.1 0 _ rfl) hC fun a ha=>?_
    iterate 2 (refine DP hpk ha rfl fun a ha=>?_)
    refine DH hpk ha rfl rfl (fun w hc=>ex_loadN ha Tryz.underlying30 rfl Ty.t30 (rcC_cf hc.2)) hC fun a ha=>?_
    refine D1 rfl (st_set ha rfl (ex_loadN ha Tryz.underlying74 rfl Ty.t74 (hs.rdAll (b:=b5))) rfl fun a ha=>?_)
    replace hC : (fun w'=>Rd w' B.pb 0 (rgC p B s.g)∧Rd w' B.core.cb 0 (rcC s.k B.core A)) w:=hC
    refine ⟨fun _=>hC,?_⟩
    refine D1 rfl (st_call ha rfl Ty.c73 rfl (packet21_spec (cf:=ksCf s.k) hs hps hrK hcK) ?_); clear ha hs
    rintro e w ⟨q,aq,cq,rfl,hqs,hrq,hs⟩
    refine ⟨_,rfl,?_⟩
    intro a ha
    refine ⟨fun h=>absurd h (by decide),?_⟩
    refine D1 rfl (st_call ha rfl Ty.c16 rfl (refPacket_spec (p:=q) hs hqs (fun w' hw'=>hrq.old hw')) ?_); clear ha hs
    rintro e w ⟨adE,cE,rfl,hs⟩
    refine ⟨_,rfl,?_⟩
    intro a ha
    refine ⟨fun h=>absurd h (by decide),?_⟩
    refine DP hpk ha rfl fun a ha=>?_
    refine DD ?_
    replace hs:=RefG.fold (RefS.fold hs B.core s.k A) B p s
    refine TN<|WS<|WR ?_
    iterate 2 (refine S1 ha fun a ha=>?_)
    refine SK (st_callI ha rfl M.mR M.cR rfl (M.recv _ _ i s (encO q) adE cE hi hw (Nat.le_trans (encO_len _) (by decide)) (hs.sl adE).2 (fun w' hw'=>(hw'.pick (Sl 5 1 adE (encO q).length cE (bc (encO q)))).rdB adE _ rfl rfl) (hs.pick (J i s))) (by rfl) ?_); clear ha hs
    rintro e w ⟨rfl,hs⟩
    refine ⟨_,rfl,?_⟩
    intro a ha
    iterate 2 (refine S1 ha fun a ha=>?_)
    refine SK (st_call ha rfl Ty.c74 rfl (refP_receive (bs:=encO q) (hs.pick (RefG W B p s)) hw hpr hsz (Nat.le_trans (encO_len _) (by decide)) (hs.sl adE).2 (fun w' hw'=>(hw'.pick (Sl 5 1 adE (encO q).length cE (bc (encO q)))).rdB adE _ rfl rfl)) ?_); clear ha hs
    rintro e w ⟨rfl,hs⟩
    refine ⟨_,rfl,?_⟩
    intro a ha
    refine S1 ha fun a ha=>?_
    refine S1d ha fun a ha=>?_
    refine LN<|TN<|wp_ret<|BR<|TR ?_
    refine ret1 ha rfl ?_
    exact ⟨by simp,(recvP p (encO q) s).2,hw.recv _,by rw [recv_now p _ hw]; omega,hs.sub⟩
   ·
    refine WS<|WR ?_
    iterate 2 (refine S1 ha fun a ha=>?_)
    refine LN<|TN ?_
    refine WI ha (fun hc4=>?_) (fun hc4=>?_)
    ·
     refine WS<|WR ?_
     refine S1 ha fun a ha=>?_
     refine SL ha (hs.rd1 (b:=b5) rfl) fun a ha=>?_
     refine SK (st_call ha rfl Ty.c11 rfl (shortN (K:=60) hs hrB hnB) ?_); clear ha hs
     rintro e w ⟨aS,cS,rfl,hrS,hcS,hs⟩
     refine ⟨_,rfl,?_⟩
     intro a ha
     refine S1 ha fun a ha=>?_
     refine LN ?_
     have hSl : (bs.take 60).length≤60:=by rw [List.length_take]; omega
     generalize bs.take 60=S at ha hrS hcS hSl
     refine TN<|WS<|WR ?_
     iterate 2 (refine S1 ha fun a ha=>?_)
     refine SK (st_callI ha rfl M.mR M.cR rfl (M.recv _ _ i s S aS cS hi hw (by omega) hcS (fun w' hw'=>hrS.old hw') (hs.pick (J i s))) (by rfl) ?_); clear ha hs
     rintro e w ⟨rfl,hs⟩
     refine ⟨_,rfl,?_⟩
     intro a ha
     iterate 2 (refine S1 ha fun a ha=>?_)
     refine SK (st_call ha rfl Ty.c74 rfl (refP_receive (bs:=S) (hs.pick (RefG W B p s)) hw hpr hsz (by omega) hcS (fun w' hw'=>hrS.old hw')) ?_); clear ha hs
     rintro e w ⟨rfl,hs⟩
     refine ⟨_,rfl,?_⟩
     intro a ha
     refine S1 ha fun a ha=>?_
     refine S1d ha fun a ha=>?_
     refine LN<|TN<|wp_ret<|BR<|TR ?_
     refine ret1 ha rfl ?_
     exact ⟨by simp,(recvP p S s).2,hw.recv _,by rw [recv_now p _ hw]; omega,hs.sub⟩
    ·
     refine WS<|WR ?_
     iterate 2 (refine S1 ha fun a ha=>?_)
     refine LN<|TN ?_
     refine WI ha (fun hc5=>?_) (fun hc5=>?_)
     ·
      refine WS ?_
      replace hs:=RefG.open (hs.pick (RefG W B p s))
      refine DW (m:=10) (fun w'=>Rd w' B.pb 0 (rgC p B s.g)) [1,2] [0,3,4,5,6,1,2,7,8,9] Ty.mixed (pk_then (pk_blk (pk_then pk_body))) (fun hpk=>?_)
      replace hs:=hs.drew
      generalize w.drew=w at hs hpk ⊢
      have hC : Rd w B.pb 0 (rgC p B s.g):=hs.rdAll (b:=B.pb)
      iterate 4 (refine DP hpk ha rfl fun a ha=>?_)
      refine DL hpk ha rfl (fun w hc=>hc 0 _ rfl) hC fun a ha=>?_
      refine D1 rfl (st_callI ha rfl M.mQ M.cQ rfl (M.quit _ _ i s hi hw (hs.pick (J i s))) (by rfl) ?_); clear ha hs
      rintro e w ⟨am,cm,rfl,hs⟩
      refine ⟨_,rfl,?_⟩
      intro a ha
      replace hC : (fun w'=>Rd w' B.pb 0 (rgC p B s.g)) w:=hs.rdAll (b:=B.pb)
      refine ⟨fun _=>hC,?_⟩
      refine D1 rfl (st_call ha rfl Ty.c71 rfl (mails_spec hs (quit_len hw.wc)) ?_); clear ha hs
      rintro e w ⟨an,cn,rfl,hs⟩
      refine ⟨_,rfl,?_⟩
      intro a ha
      replace hC : (fun w'=>Rd w' B.pb 0 (rgC p B s.g)) w:=hs.rdAll (b:=B.pb)
      refine ⟨fun _=>hC,?_⟩
      refine D1 rfl (st_call ha rfl Ty.c75 rfl (ref_quit (hs.pick (RefS B.core s.k)) hw.wc) ?_); clear ha hs
      rintro e w ⟨ar,cr,rfl,hs⟩
      refine ⟨_,rfl,?_⟩
      intro a ha
      refine ⟨fun h=>absurd h (by decide),?_⟩
      refine D1 rfl (st_call ha rfl Ty.c70 rfl (eqMails_spec ((hs.pick (OwnMl 176 ar (quitK s.k).1.length cr (quitK s.k).1)).pick (OwnMl 176 an (quitK s.k).1.length cn (quitK s.k).1)) (quit_len hw.wc)) ?_); clear ha hs
      rintro e w ⟨rfl,hs⟩
      refine ⟨_,rfl,?_⟩
      intro a ha
      refine ⟨fun h=>absurd h (by decide),?_⟩
      replace ha:=ha.del 6
      refine DP hpk ha rfl fun a ha=>?_
      refine DD<|TN<|wp_ret<|BR<|TR ?_
      refine ret1 ha rfl ?_
      exact ⟨rfl,⟨(quitK s.k).2,s.g⟩,hw.quit,by rw [show (⟨(quitK s.k).2,s.g⟩ : Pl).k.now=s.k.now from quit_now _]; omega,(RefG.fold hs B p ⟨(quitK s.k).2,s.g⟩).sub⟩
     ·
      refine WK<|BN<|TN<|WS ?_
      replace hs:=RefG.open (hs.pick (RefG W B p s))
      refine DW (m:=10) (fun w'=>Rd w' B.pb 0 (rgC p B s.g)) [1,2] [0,3,4,5,6,1,2,7,8,9] Ty.mixed (pk_then pk_body) (fun hpk=>?_)
      replace hs:=hs.drew
      generalize w.drew=w at hs hpk ⊢
      have hC : Rd w B.pb 0 (rgC p B s.g):=hs.rdAll (b:=B.pb)
      iterate 4 (refine DP hpk ha rfl fun a ha=>?_)
      refine DL hpk ha rfl (fun w hc=>hc 0 _ rfl) hC fun a ha=>?_
      refine D1 rfl (st_callI ha rfl M.mE M.cE rfl (M.events _ _ i s hi hw (hs.pick (J i s))) (by rfl) ?_); clear ha hs
      rintro e w ⟨am,cm,rfl,hs⟩
      refine ⟨_,rfl,?_⟩
      intro a ha
      replace hC : (fun w'=>Rd w' B.pb 0 (rgC p B s.g)) w:=hs.rdAll (b:=B.pb)
      refine ⟨fun _=>hC,?_⟩
      refine D1 rfl (st_call ha rfl Ty.c77 rfl (raws_spec hs (by omega) hw.wc.evs) ?_); clear ha hs
      rintro e w ⟨an,cn,rfl,hs⟩
      refine ⟨_,rfl,?_⟩
      intro a ha
      replace hC : (fun w'=>Rd w' B.pb 0 (rgC p B s.g)) w:=hs.rdAll (b:=B.pb)
      refine ⟨fun _=>hC,?_⟩
      refine D1 rfl (st_call ha rfl Ty.c78 rfl (ref_told (hs.pick (RefS B.core s.k))) ?_); clear ha hs
      rintro e w ⟨ar,cr,rfl,hs⟩
      refine ⟨_,rfl,?_⟩
      intro a ha
      refine ⟨fun h=>absurd h (by decide),?_⟩
      refine D1 rfl (st_call ha rfl Ty.c76 rfl (eqRaws_spec ((hs.pick (Sl 144 3 ar s.k.ev.length cr (rows rawC s.k.ev))).pick (Sl 144 3 an s.k.ev.length cn (rows rawC s.k.ev))) (by omega)) ?_); clear ha hs
      rintro e w ⟨rfl,hs⟩
      refine ⟨_,rfl,?_⟩
      intro a ha
      refine ⟨fun h=>absurd h (by decide),?_⟩
      replace ha:=ha.del 6
      refine DP hpk ha rfl fun a ha=>?_
      refine DD<|TN<|wp_ret ?_
      refine ret1 ha rfl ?_
      exact ⟨rfl,⟨{ s.k with ev:=[] },s.g⟩,hw.told,Nat.le_succ _,(RefG.fold hs B p ⟨{ s.k with ev:=[] },s.g⟩).sub⟩
end
end Go.Proofs.YtagpkhbkdbaigaaGreat
