/- A plain player in memory: plain.New, mark, Press, Receive, Tick, Quit, Events, Closed, Core, Confirmed, Display. -/
import Derived.Test.YtagpkhbkdbaigaaGreatCore
import Derived.Test.YtagpkhbkdbaigaaGreatFold
import Derived.Test.YtagpkhbkdbaigaaGreatGuess
import Derived.Test.YtagpkhbkdbaigaaGreatEnc
namespace Go.Proofs.YtagpkhbkdbaigaaGreat
open Go.RowKit
set_option linter.unusedVariables false
set_option linter.unusedSimpArgs false
set_option maxRecDepth 10000
set_option synthInstance.maxSize 4000
set_option synthInstance.maxHeartbeats 400000
structure PlB where
 pb : Nat
 core : CoB
 adO : Option Addr
 cO : Nat
 adT : Option Addr
 cT : Nat
 gs : Gs
def plC (p : Pr) (B : PlB) (g : Nat→Int) : List Value:=[.pointer (some ⟨B.core.cb,0,none⟩),.string p.title,.slice B.adO p.ops.length B.cO,.int .i64 B.gs.kind,.int .i64 B.gs.order,.slice B.adT B.gs.table.length B.cT]++ints .i32 32 g
theorem plC_pr {w : World} {b : Nat} {p : Pr} {B : PlB} {g : Nat→Int} (h : Rd w b 0 (plC p B g)) : Rd w b 1 (prV p B.adO B.cO):=h.part 1 2
theorem plC_by {w : World} {b : Nat} {p : Pr} {B : PlB} {g : Nat→Int} (h : Rd w b 0 (plC p B g)) : Rd w b 3 (gsC B.gs B.adT B.cT):=h.part 3 3
theorem plC_st {w : World} {b : Nat} {p : Pr} {B : PlB} {g : Nat→Int} (h : Rd w b 0 (plC p B g)) : Rd w b 6 (ints .i32 32 g):=by
 have h1:=h.part 6 32
 rwa [show ((plC p B g).drop 6).take 32=ints .i32 32 g from by
   show (ints .i32 32 g).take 32=_
   exact List.take_of_length_le (by rw [ints_len]; exact Nat.le_refl _)] at h1
theorem plC_len (p : Pr) (B : PlB) (g : Nat→Int) : (plC p B g).length=38:=by rw [plC,List.length_append,ints_len]; rfl
theorem plC_set (p : Pr) (B : PlB) (g g' : Nat→Int) : splice (plC p B g) 6 (ints .i32 32 g')=plC p B g':=by
 rw [splice,ints_len,List.drop_eq_nil_of_le (by rw [plC_len]; exact Nat.le_refl _),List.append_nil,plC,plC]
 congr 1
def PlainS (W : World) (B : PlB) (p : Pr) (s : Pl) : SP:=fun h=>sepL [blk B.pb 85 (plC p B s.g),CoreS B.core s.k,RoP W p B.adO B.cO,Sl 5 1 B.adT B.gs.table.length B.cT (bc B.gs.table)] h
def dispG (p : Pr) (gs : Gs) (s : Pl) : List UInt8 × Nat:=if headK s.k≤frontK s.k then confP s else (gameB (foldI p (frontK s.k) s.g (aheadL gs s.k.ls (headK s.k))),headK s.k)
section
variable {W w : World} {L L' R : List SP} {n c m i cP : Nat} {ad adP : Option Addr} {B : PlB} {x : UInt8} {p : Pr} {s : Pl} {bs tb : List UInt8} {cf : Cf}
theorem PlainS.open (hs : St W w (PlainS W B p s::L)) : St W w (blk B.pb 85 (plC p B s.g)::CoreS B.core s.k::RoP W p B.adO B.cO::Sl 5 1 B.adT B.gs.table.length B.cT (bc B.gs.table)::L) :=
 hs.open (M:=[_,_,_,_]) fun _ h=>h
theorem PlainS.close (hs : St W w (blk B.pb 85 (plC p B s.g)::CoreS B.core s.k::RoP W p B.adO B.cO::Sl 5 1 B.adT B.gs.table.length B.cT (bc B.gs.table)::L)) : St W w (PlainS W B p s::L) :=
 St.shut (M:=[_,_,_,_]) hs fun _ h=>h
theorem PlainS.fold (hs : St W w L) (B : PlB) (p : Pr) (s : Pl) [kk : Arr L [blk B.pb 85 (plC p B s.g),CoreS B.core s.k,RoP W p B.adO B.cO,Sl 5 1 B.adT B.gs.table.length B.cT (bc B.gs.table)] R] : St W w (PlainS W B p s::R):=PlainS.close (hs.perm kk.perm)
theorem plain_core (hs : St W w (PlainS W B p s::L)) : Calls Tryz.prog 25 #[.pointer (some ⟨B.pb,0,none⟩)] w fun r w'=>r=.returned (.pointer (some ⟨B.core.cb,0,none⟩))∧St W w' (PlainS W B p s::L):=by
 replace hs:=PlainS.open hs
 refine calls_enter Tryz.func25 rfl Tryz.ntmps25 (Nat.le_of_ble_eq_true rfl) ?_
 intro a ha
 replace ha : Fr a 9 [(0,_)]:=ha
 refine WS<|WR ?_
 refine S1 ha fun a ha=>?_
 refine LN<|TN<|WS<|WS<|WR ?_
 iterate 2 (refine S1 ha fun a ha=>?_)
 refine LN<|TN<|WFa ha<|WK<|TN<|WS<|WR ?_
 iterate 3 (refine S1 ha fun a ha=>?_)
 refine SL ha (hs.rd1 rfl) fun a ha=>?_
 refine S1d ha fun a ha=>?_
 refine LN<|TN<|wp_ret ?_
 refine ret1 ha rfl ?_
 exact ⟨rfl,PlainS.close hs⟩
theorem plain_mark (hs : St W w (PlainS W B p s::L)) (hw : WP p s) (hpr : prOk p) (hsz : p.title.size≤1000000000) : Calls Tryz.prog 39 #[.pointer (some ⟨B.pb,0,none⟩)] w fun r w'=>r=.returned (.tuple #[])∧St W w' (PlainS W B p (playP p s)::L):=by
 refine calls_enter Tryz.func39 rfl Tryz.ntmps39 (Nat.le_of_ble_eq_true rfl) ?_
 intro a ha
 replace ha : Fr a 56 [(0,_)]:=ha
 refine wp_block ?_
 refine wp_loop_ghost (fun μ a w=>∃ (i : Nat),(μ=frontK s.k - s.k.mr.length - i∧i≤frontK s.k - s.k.mr.length)∧Fr a 56 [(0,.pointer (some ⟨B.pb,0,none⟩))]∧St W w (PlainS W B p (playN p i s)::L)) (frontK s.k - s.k.mr.length) ?_ ?_
 · exact ⟨0,⟨rfl,by omega⟩,ha.keep [0],hs⟩
 ·
  clear ha hs
  rintro μ a w ⟨i,⟨rfl,hi⟩,ha,hs⟩
  obtain ⟨hwi,hls,hml⟩:=hw.play i hi
  have hnx : playN p (i+1) s=play1 p (playN p i s):=playN_succ p i s
  have hlow:=hw.low
  have hfe : frontK (playN p i s).k=frontK s.k:=by rw [frontK,hls]; rfl
  generalize hsi : playN p i s=si at hs hwi hls hml hnx hfe
  replace hs:=PlainS.open hs
  have hne:=hwi.wc.lne
  have hl8 : si.k.ls.length≤8:=by rw [hwi.wc.ls]; exact hwi.wc.n.2
  have hfr1 : frontK si.k≤1000:=Nat.le_trans hwi.wc.frontt hwi.wc.headt
  refine WS<|WS ?_
  refine DW (m:=12) (fun w'=>w'.cell? ⟨B.pb,0,none⟩=some (.pointer (some ⟨B.core.cb,0,none⟩))) [4,8] [0,1,2,5,6,7,3,8,4,9,10,11] Ty.mixed (pk_then (pk_then (pk_then (pk_blk pk_body)))) (fun hpk=>?_)
  replace hs:=hs.drew
  generalize w.drew=w at hs hpk ⊢
  have hC : w.cell? ⟨B.pb,0,none⟩=some (.pointer (some ⟨B.core.cb,0,none⟩)):=hs.rd1 (b:=B.pb) rfl
  iterate 6 (refine DP hpk ha rfl fun a ha=>?_)
  iterate 2 (refine DL hpk ha rfl (fun w hc=>hc) hC fun a ha=>?_)
  refine D1 rfl (st_call ha rfl Ty.c27 rfl (core_marks (hs.pick (CoreS B.core si.k))) ?_); clear ha hs
  rintro e w ⟨rfl,hs⟩
  refine ⟨_,rfl,?_⟩
  intro a ha
  replace hC : (fun w'=>w'.cell? ⟨B.pb,0,none⟩=some (.pointer (some ⟨B.core.cb,0,none⟩))) w:=hs.rd1 (b:=B.pb) rfl
  refine ⟨fun _=>hC,?_⟩
  refine D1 rfl (st_call ha rfl Ty.c48 rfl (core_queue (hs.pick (CoreS B.core si.k))) ?_); clear ha hs
  rintro e w ⟨rfl,hs⟩
  refine ⟨_,rfl,?_⟩
  intro a ha
  refine ⟨fun h=>absurd h (by decide),?_⟩
  obtain ⟨D,hs,hD⟩:=CoreS.qu hs
  refine D1 rfl (st_call ha rfl Ty.c49 rfl (queue_front hs hne hl8) ?_); clear ha hs
  rintro e w ⟨rfl,hs⟩
  refine ⟨_,rfl,?_⟩
  intro a ha
  refine ⟨fun h=>absurd h (by decide),?_⟩
  refine DP hpk ha rfl fun a ha=>?_
  refine DD ?_
  replace hs:=hD _ _ hs
  replace hs:=hs.sub (M:=blk B.pb 85 (plC p B si.g)::CoreS B.core si.k::RoP W p B.adO B.cO::Sl 5 1 B.adT B.gs.table.length B.cT (bc B.gs.table)::L)
  refine TN ?_
  refine WI ha (fun hc0=>?_) (fun hc0=>?_)
  ·
   have hmf : si.k.mr.length < frontL si.k.ls:=by omega
   have hmf2 : si.k.mr.length < frontK si.k:=hmf
   refine WK<|TN<|wp_block<|WS<|WR ?_
   iterate 3 (refine S1 ha fun a ha=>?_)
   refine SL ha (hs.rd1 (b:=B.pb) rfl) fun a ha=>?_
   refine SK (st_call ha rfl Ty.c27 rfl (core_marks (hs.pick (CoreS B.core si.k))) ?_); clear ha hs
   rintro e w ⟨rfl,hs⟩
   refine ⟨_,rfl,?_⟩
   intro a ha
   refine S1 ha fun a ha=>?_
   refine LN<|TN<|WS<|WR ?_
   iterate 3 (refine S1 ha fun a ha=>?_)
   refine SL ha (hs.rd1 (b:=B.pb) rfl) fun a ha=>?_
   refine SK (st_call ha rfl Ty.c48 rfl (core_queue (hs.pick (CoreS B.core si.k))) ?_); clear ha hs
   rintro e w ⟨rfl,hs⟩
   refine ⟨_,rfl,?_⟩
   intro a ha
   refine S1 ha fun a ha=>?_
   obtain ⟨D,hs,hD⟩:=CoreS.qu hs
   refine SK (st_call ha rfl Ty.c84 rfl (queue_joint hs hne hmf hl8) ?_); clear ha hs
   rintro e w ⟨adj,cj,rfl,hs⟩
   refine ⟨_,rfl,?_⟩
   intro a ha
   iterate 5 (refine S1 ha fun a ha=>?_)
   refine LN ?_
   replace hs:=hD _ _ (hs.sub (M:=Qu B.core.qb B.core.lbs si.k.ls::D::Sl 5 1 adj (jointL si.k.ls si.k.mr.length).length cj (bc (jointL si.k.ls si.k.mr.length))::blk B.pb 85 (plC p B si.g)::RoP W p B.adO B.cO::Sl 5 1 B.adT B.gs.table.length B.cT (bc B.gs.table)::L))
   have hjl:=jointL_len si.k.ls si.k.mr.length
   refine TN<|WS ?_
   refine DW (m:=15) (fun w'=>Rd w' B.pb 0 (plC p B si.g)) [8] [0,1,2,3,5,6,7,9,10,4,8,11,12,13,14] Ty.mixed (pk_then (pk_blk (pk_then (pk_blk pk_body)))) (fun hpk=>?_)
   replace hs:=hs.drew
   generalize w.drew=w at hs hpk ⊢
   have hC : Rd w B.pb 0 (plC p B si.g):=hs.rdAll (b:=B.pb)
   iterate 9 (refine DP hpk ha rfl fun a ha=>?_)
   refine DH hpk ha rfl rfl (fun w hc=>ex_loadN ha Tryz.underlying33 rfl Ty.t33 (plC_pr hc)) hC fun a ha=>?_
   refine D1 rfl (st_set ha rfl (ex_loadN ha Tryz.underlying83 rfl Ty.t83 (plC_st hC)) rfl fun a ha=>?_)
   replace hC : (fun w'=>Rd w' B.pb 0 (plC p B si.g)) w:=hC
   refine ⟨fun _=>hC,?_⟩
   refine D1 rfl (st_call ha rfl Ty.c85 rfl (vm_step (b:=jointL si.k.ls si.k.mr.length) (fr:=si.k.mr.length) (hs.pick (RoP W p B.adO B.cO)) hpr hsz (hwi.gok hpr) (by omega) (fun w' hw=>(hw.pick (Sl 5 1 adj (jointL si.k.ls si.k.mr.length).length cj (bc (jointL si.k.ls si.k.mr.length)))).rdB adj _ rfl rfl)) ?_); clear ha hs
   rintro e w ⟨rfl,hs⟩
   refine ⟨_,rfl,?_⟩
   intro a ha
   refine ⟨fun h=>absurd h (by decide),?_⟩
   iterate 2 (refine DP hpk ha rfl fun a ha=>?_)
   refine D1 rfl (st_storeN ha rfl hs Ty.t83 ints_one (by rw [ints_len,plC_len]; decide) fun a w ha hs=>?_)
   refine ⟨fun h=>absurd h (by decide),?_⟩
   rw [plC_set] at hs
   refine DD<|TN ?_
   refine DW (m:=10) (fun w'=>Rd w' B.pb 0 (plC p B (frameI p si.k.mr.length (jointL si.k.ls si.k.mr.length) si.g))) [7,8] [0,1,2,4,5,6,3,7,8,9] Ty.mixed (pk_blk (pk_then (pk_blk pk_body))) (fun hpk=>?_)
   replace hs:=hs.drew
   generalize w.drew=w at hs hpk ⊢
   have hC : Rd w B.pb 0 (plC p B (frameI p si.k.mr.length (jointL si.k.ls si.k.mr.length) si.g)):=hs.rdAll (b:=B.pb)
   iterate 6 (refine DP hpk ha rfl fun a ha=>?_)
   refine DL hpk ha rfl (fun w hc=>hc 0 _ rfl) hC fun a ha=>?_
   refine D1 rfl (st_set ha rfl (ex_loadN ha Tryz.underlying83 rfl Ty.t83 (plC_st hC)) rfl fun a ha=>?_)
   replace hC : (fun w'=>Rd w' B.pb 0 (plC p B (frameI p si.k.mr.length (jointL si.k.ls si.k.mr.length) si.g))) w:=hC
   refine ⟨fun _=>hC,?_⟩
   refine D1 rfl (st_call ha rfl Ty.c87 rfl (state_sum hs) ?_); clear ha hs
   rintro e w ⟨rfl,hs⟩
   refine ⟨_,rfl,?_⟩
   intro a ha
   replace hC : (fun w'=>Rd w' B.pb 0 (plC p B (frameI p si.k.mr.length (jointL si.k.ls si.k.mr.length) si.g))) w:=hs.rdAll (b:=B.pb)
   refine ⟨fun _=>hC,?_⟩
   refine D1 rfl (st_call ha rfl Ty.c86 rfl (core_mark (hs.pick (CoreS B.core si.k)) hwi.wc (by omega) (crcSum_lt _)) ?_); clear ha hs
   rintro e w ⟨rfl,hs⟩
   refine ⟨_,rfl,?_⟩
   intro a ha
   refine ⟨fun h=>absurd h (by decide),?_⟩
   refine DD<|BN<|TN ?_
   exact ⟨frontK s.k - s.k.mr.length - (i+1),by omega,i+1,⟨rfl,by omega⟩,ha.keep [0],by
     rw [hnx]
     show St W w (PlainS W B p ⟨markK si.k (crcSum (gameB (frameI p si.k.mr.length (jointL si.k.ls si.k.mr.length) si.g))),frameI p si.k.mr.length (jointL si.k.ls si.k.mr.length) si.g⟩::L)
     exact (PlainS.fold hs B p ⟨markK si.k (crcSum (gameB (frameI p si.k.mr.length (jointL si.k.ls si.k.mr.length) si.g))),frameI p si.k.mr.length (jointL si.k.ls si.k.mr.length) si.g⟩).sub⟩
  ·
   refine wp_exit<|TE<|TE<|blk_e ?_
   refine end0 ha rfl ?_
   obtain rfl : i=frontK s.k - s.k.mr.length:=by
     have : frontL si.k.ls=frontK si.k:=rfl
     omega
   refine ⟨rfl,?_⟩
   rw [playP,hsi]
   exact PlainS.close hs
theorem plain_press (hs : St W w (PlainS W B p s::L)) (hw : WF' p s) (hpr : prOk p) (hsz : p.title.size≤1000000000) : Calls Tryz.prog 14 #[.pointer (some ⟨B.pb,0,none⟩),.int .u8 (x.toNat : Nat)] w fun r w'=>r=.returned (.int .i64 (pressP p x s).1)∧St W w' (PlainS W B p (pressP p x s).2::L):=by
 have h1:=press_ext x s.k
 have hwp:=hw.toWP.more (hw.wc.press x) (hw.held.press x) h1.1 h1.2
 refine calls_enter Tryz.func14 rfl Tryz.ntmps14 (Nat.le_of_ble_eq_true rfl) ?_
 intro a ha
 replace ha : Fr a 15 [(0,_),(1,_)]:=ha
 refine WS<|WR ?_
 refine S1 ha fun a ha=>?_
 refine LN<|TN<|WS<|WR ?_
 refine S1 ha fun a ha=>?_
 refine SK (st_call ha rfl Ty.c25 rfl (plain_core hs) ?_); clear ha hs
 rintro e w ⟨rfl,hs⟩
 refine ⟨_,rfl,?_⟩
 intro a ha
 refine S1 ha fun a ha=>?_
 replace hs:=PlainS.open hs
 refine SK (st_call ha rfl Ty.c40 rfl (core_press (x:=x) (hs.pick (CoreS B.core s.k)) hw.wc) ?_); clear ha hs
 rintro e w ⟨rfl,hs⟩
 refine ⟨_,rfl,?_⟩
 intro a ha
 replace hs:=(PlainS.fold hs B p ⟨(pressK x s.k).2,s.g⟩)
 refine S1 ha fun a ha=>?_
 refine LN<|TN ?_
 refine wp_seq_cut (M:=fun a w=>Fr a 15 [(5,.int .i64 (pressP p x s).1)]∧St W w (PlainS W B p (pressP p x s).2::L)) ?_ ?_
 ·
  refine WS<|WR ?_
  iterate 2 (refine S1 ha fun a ha=>?_)
  refine LN<|TN ?_
  refine WI ha (fun hc0=>?_) (fun hc0=>?_)
  ·
   refine WR ?_
   refine S1 ha fun a ha=>?_
   refine SK (st_call ha rfl Ty.c39 rfl (plain_mark hs hwp hpr hsz) ?_); clear ha hs
   rintro e w ⟨rfl,hs⟩
   refine ⟨_,rfl,?_⟩
   intro a ha
   refine LN<|TN ?_
   exact ⟨ha.keep [5],hs⟩
  ·
   refine WK<|TN ?_
   have he : (pressP p x s).2=⟨(pressK x s.k).2,s.g⟩:=by
     show playP p _=_
     rw [press_no hc0]; exact hw.playP
   rw [he]; exact ⟨ha.keep [5],hs⟩
 ·
  clear ha; (try clear hs)
  intro a w hcut
  obtain ⟨ha,hs⟩:=hcut
  refine WS<|WR ?_
  iterate 2 (refine S1 ha fun a ha=>?_)
  refine LN<|TN<|wp_ret ?_
  refine ret1 ha rfl ?_
  exact ⟨rfl,hs⟩
theorem plain_receive (hs : St W w (PlainS W B p s::L)) (hw : WF' p s) (hpr : prOk p) (hsz : p.title.size≤1000000000) (hb : bs.length≤65536) (hc : bs.length≤c) (hp : ∀ w',St W w' L→RdB w' ad bs.length bs) :
   Calls Tryz.prog 15 #[.pointer (some ⟨B.pb,0,none⟩),.slice ad bs.length c] w fun r w'=>r=.returned (.int .i64 (recvP p bs s).1)∧St W w' (PlainS W B p (recvP p bs s).2::L):=by
 have h1:=recv_ext bs s.k
 have hwp:=hw.toWP.more (hw.wc.recv bs).1 ((hw.wc.recv bs).2 hw.held) h1.1 h1.2
 refine calls_enter Tryz.func15 rfl Tryz.ntmps15 (Nat.le_of_ble_eq_true rfl) ?_
 intro a ha
 replace ha : Fr a 15 [(0,_),(1,_)]:=ha
 refine WS<|WR ?_
 refine S1 ha fun a ha=>?_
 refine LN<|TN<|WS<|WR ?_
 refine S1 ha fun a ha=>?_
 refine SK (st_call ha rfl Ty.c25 rfl (plain_core hs) ?_); clear ha hs
 rintro e w ⟨rfl,hs⟩
 refine ⟨_,rfl,?_⟩
 intro a ha
 refine S1 ha fun a ha=>?_
 replace hs:=PlainS.open hs
 refine SK (st_call ha rfl Ty.c41 rfl (core_receive (bs:=bs) (ad:=ad) (c:=c) (hs.pick (CoreS B.core s.k)) hw.wc hb hc (fun w' hw'=>hp w' hw'.tail.tail.tail)) ?_); clear ha hs
 rintro e w ⟨rfl,hs⟩
 refine ⟨_,rfl,?_⟩
 intro a ha
 replace hs:=(PlainS.fold hs B p ⟨(recvK bs s.k).2,s.g⟩)
 refine S1 ha fun a ha=>?_
 refine LN<|TN ?_
 refine wp_seq_cut (M:=fun a w=>Fr a 15 [(5,.int .i64 (recvP p bs s).1)]∧St W w (PlainS W B p (recvP p bs s).2::L)) ?_ ?_
 ·
  refine WS<|WR ?_
  iterate 2 (refine S1 ha fun a ha=>?_)
  refine LN<|TN ?_
  refine WI ha (fun hc0=>?_) (fun hc0=>?_)
  ·
   refine WR ?_
   refine S1 ha fun a ha=>?_
   refine SK (st_call ha rfl Ty.c39 rfl (plain_mark hs hwp hpr hsz) ?_); clear ha hs
   rintro e w ⟨rfl,hs⟩
   refine ⟨_,rfl,?_⟩
   intro a ha
   refine LN<|TN ?_
   exact ⟨ha.keep [5],hs⟩
  ·
   refine WK<|TN ?_
   have he : (recvP p bs s).2=⟨(recvK bs s.k).2,s.g⟩:=by
     show playP p _=_
     rw [recv_no hc0]; exact hw.playP
   rw [he]; exact ⟨ha.keep [5],hs⟩
 ·
  clear ha; (try clear hs)
  intro a w hcut
  obtain ⟨ha,hs⟩:=hcut
  refine WS<|WR ?_
  iterate 2 (refine S1 ha fun a ha=>?_)
  refine LN<|TN<|wp_ret ?_
  refine ret1 ha rfl ?_
  exact ⟨rfl,hs⟩
theorem plain_tick (hs : St W w (PlainS W B p s::L)) (hw : WF' p s) (hnw : s.k.now≤1000000) : Calls Tryz.prog 28 #[.pointer (some ⟨B.pb,0,none⟩)] w fun r w'=>∃ ad c,r=.returned (.slice ad (tickK s.k).1.length c)∧St W w' (OwnMl 172 ad (tickK s.k).1.length c (tickK s.k).1::PlainS W B p ⟨(tickK s.k).2,s.g⟩::L):=by
 refine calls_enter Tryz.func28 rfl Tryz.ntmps28 (Nat.le_of_ble_eq_true rfl) ?_
 intro a ha
 replace ha : Fr a 6 [(0,_)]:=ha
 refine WS<|WR ?_
 refine S1 ha fun a ha=>?_
 refine LN<|TN<|WS<|WR ?_
 refine S1 ha fun a ha=>?_
 refine SK (st_call ha rfl Ty.c25 rfl (plain_core hs) ?_); clear ha hs
 rintro e w ⟨rfl,hs⟩
 refine ⟨_,rfl,?_⟩
 intro a ha
 replace hs:=PlainS.open hs
 refine SK (st_call ha rfl Ty.c63 rfl (core_tick (hs.pick (CoreS B.core s.k)) hw.wc hnw) ?_); clear ha hs
 rintro e w ⟨ad,c,rfl,hs⟩
 refine ⟨_,rfl,?_⟩
 intro a ha
 refine S1d ha fun a ha=>?_
 refine LN<|TN<|wp_ret ?_
 refine ret1 ha rfl ?_
 exact ⟨ad,c,rfl,(PlainS.fold hs B p ⟨(tickK s.k).2,s.g⟩).sub⟩
theorem plain_quit (hs : St W w (PlainS W B p s::L)) (hw : WF' p s) : Calls Tryz.prog 29 #[.pointer (some ⟨B.pb,0,none⟩)] w fun r w'=>∃ ad c,r=.returned (.slice ad (quitK s.k).1.length c)∧St W w' (OwnMl 172 ad (quitK s.k).1.length c (quitK s.k).1::PlainS W B p ⟨(quitK s.k).2,s.g⟩::L):=by
 refine calls_enter Tryz.func29 rfl Tryz.ntmps29 (Nat.le_of_ble_eq_true rfl) ?_
 intro a ha
 replace ha : Fr a 6 [(0,_)]:=ha
 refine WS<|WR ?_
 refine S1 ha fun a ha=>?_
 refine LN<|TN<|WS<|WR ?_
 refine S1 ha fun a ha=>?_
 refine SK (st_call ha rfl Ty.c25 rfl (plain_core hs) ?_); clear ha hs
 rintro e w ⟨rfl,hs⟩
 refine ⟨_,rfl,?_⟩
 intro a ha
 replace hs:=PlainS.open hs
 refine SK (st_call ha rfl Ty.c64 rfl (core_quit (hs.pick (CoreS B.core s.k)) hw.wc) ?_); clear ha hs
 rintro e w ⟨ad,c,rfl,hs⟩
 refine ⟨_,rfl,?_⟩
 intro a ha
 refine S1d ha fun a ha=>?_
 refine LN<|TN<|wp_ret ?_
 refine ret1 ha rfl ?_
 exact ⟨ad,c,rfl,(PlainS.fold hs B p ⟨(quitK s.k).2,s.g⟩).sub⟩
theorem plain_events (hs : St W w (PlainS W B p s::L)) : Calls Tryz.prog 30 #[.pointer (some ⟨B.pb,0,none⟩)] w fun r w'=>∃ ad c,r=.returned (.slice ad s.k.ev.length c)∧St W w' (Sl 184 1 ad s.k.ev.length c (s.k.ev.map evV)::PlainS W B p ⟨{ s.k with ev:=[] },s.g⟩::L):=by
 refine calls_enter Tryz.func30 rfl Tryz.ntmps30 (Nat.le_of_ble_eq_true rfl) ?_
 intro a ha
 replace ha : Fr a 6 [(0,_)]:=ha
 refine WS<|WR ?_
 refine S1 ha fun a ha=>?_
 refine LN<|TN<|WS<|WR ?_
 refine S1 ha fun a ha=>?_
 refine SK (st_call ha rfl Ty.c25 rfl (plain_core hs) ?_); clear ha hs
 rintro e w ⟨rfl,hs⟩
 refine ⟨_,rfl,?_⟩
 intro a ha
 replace hs:=PlainS.open hs
 refine SK (st_call ha rfl Ty.c65 rfl (core_events (hs.pick (CoreS B.core s.k))) ?_); clear ha hs
 rintro e w ⟨ad,c,rfl,hs⟩
 refine ⟨_,rfl,?_⟩
 intro a ha
 refine S1d ha fun a ha=>?_
 refine LN<|TN<|wp_ret ?_
 refine ret1 ha rfl ?_
 exact ⟨ad,c,rfl,(PlainS.fold hs B p ⟨{ s.k with ev:=[] },s.g⟩).sub⟩
theorem plain_closed (hs : St W w (PlainS W B p s::L)) : Calls Tryz.prog 31 #[.pointer (some ⟨B.pb,0,none⟩)] w fun r w'=>r=.returned (.bool s.k.cl)∧St W w' (PlainS W B p s::L):=by
 refine calls_enter Tryz.func31 rfl Tryz.ntmps31 (Nat.le_of_ble_eq_true rfl) ?_
 intro a ha
 replace ha : Fr a 6 [(0,_)]:=ha
 refine WS<|WR ?_
 refine S1 ha fun a ha=>?_
 refine LN<|TN<|WS<|WR ?_
 refine S1 ha fun a ha=>?_
 refine SK (st_call ha rfl Ty.c25 rfl (plain_core hs) ?_); clear ha hs
 rintro e w ⟨rfl,hs⟩
 refine ⟨_,rfl,?_⟩
 intro a ha
 replace hs:=PlainS.open hs
 refine SK (st_call ha rfl Ty.c66 rfl (core_closed (hs.pick (CoreS B.core s.k))) ?_); clear ha hs
 rintro e w ⟨rfl,hs⟩
 refine ⟨_,rfl,?_⟩
 intro a ha
 refine S1d ha fun a ha=>?_
 refine LN<|TN<|wp_ret ?_
 refine ret1 ha rfl ?_
 exact ⟨rfl,(PlainS.fold hs B p s).sub⟩
theorem plain_confirmed (hs : St W w (PlainS W B p s::L)) (hw : WF' p s) : Calls Tryz.prog 17 #[.pointer (some ⟨B.pb,0,none⟩)] w fun r w'=>∃ ad c,r=.returned (.tuple #[.slice ad 128 c,.int .i64 (confP s).2])∧St W w' (Sl 5 1 ad 128 c (bc (confP s).1)::PlainS W B p s::L):=by
 replace hs:=PlainS.open hs
 have hne:=hw.wc.lne
 have hl8 : s.k.ls.length≤8:=by rw [hw.wc.ls]; exact hw.wc.n.2
 refine calls_enter Tryz.func17 rfl Tryz.ntmps17 (Nat.le_of_ble_eq_true rfl) ?_
 intro a ha
 replace ha : Fr a 17 [(0,_)]:=ha
 refine WS<|WR ?_
 iterate 2 (refine S1 ha fun a ha=>?_)
 refine LN<|TN<|WS<|WS<|WR ?_
 iterate 2 (refine S1 ha fun a ha=>?_)
 refine LN<|TN<|WFa ha<|WK<|TN<|WS ?_
 refine DW (m:=13) (fun w'=>Rd w' B.pb 0 (plC p B s.g)) [4,8] [0,1,2,5,6,7,3,8,4,9,10,11,12] Ty.mixed (pk_then pk_body) (fun hpk=>?_)
 replace hs:=hs.drew
 generalize w.drew=w at hs hpk ⊢
 have hC : Rd w B.pb 0 (plC p B s.g):=hs.rdAll (b:=B.pb)
 iterate 6 (refine DP hpk ha rfl fun a ha=>?_)
 refine DH hpk ha rfl rfl (fun w hc=>ex_loadN ha Tryz.underlying83 rfl Ty.t83 (plC_st hc)) hC fun a ha=>?_
 refine DL hpk ha rfl (fun w hc=>hc 0 _ rfl) hC fun a ha=>?_
 refine D1 rfl (st_call ha rfl Ty.c47 rfl (state_encode hs) ?_); clear ha hs
 rintro e w ⟨ad,c,rfl,hs⟩
 refine ⟨_,rfl,?_⟩
 intro a ha
 replace hC : (fun w'=>Rd w' B.pb 0 (plC p B s.g)) w:=hs.rdAll (b:=B.pb)
 refine ⟨fun _=>hC,?_⟩
 refine D1 rfl (st_call ha rfl Ty.c48 rfl (core_queue (hs.pick (CoreS B.core s.k))) ?_); clear ha hs
 rintro e w ⟨rfl,hs⟩
 refine ⟨_,rfl,?_⟩
 intro a ha
 refine ⟨fun h=>absurd h (by decide),?_⟩
 obtain ⟨D,hs,hD⟩:=CoreS.qu hs
 refine D1 rfl (st_call ha rfl Ty.c49 rfl (queue_front hs hne hl8) ?_); clear ha hs
 rintro e w ⟨rfl,hs⟩
 refine ⟨_,rfl,?_⟩
 intro a ha
 refine ⟨fun h=>absurd h (by decide),?_⟩
 replace ha:=ha.del 2
 refine DP hpk ha rfl fun a ha=>?_
 replace ha:=ha.del 3
 refine DP hpk ha rfl fun a ha=>?_
 refine DD ?_
 replace hs:=hD _ _ hs
 refine TN<|wp_ret ?_
 refine ret2 ha rfl ?_
 exact ⟨ad,c,rfl,(PlainS.fold hs B p s).sub (M:=Sl 5 1 ad 128 c (bc (gameB s.g))::PlainS W B p s::L)⟩
theorem plain_display (hs : St W w (PlainS W B p s::L)) (hw : WF' p s) (hpr : prOk p) (hsz : p.title.size≤1000000000) (hgs : mayGs B.gs) : Calls Tryz.prog 23 #[.pointer (some ⟨B.pb,0,none⟩)] w fun r w'=>∃ ad c,r=.returned (.tuple #[.slice ad 128 c,.int .i64 (dispG p B.gs s).2])∧St W w' (Sl 5 1 ad 128 c (bc (dispG p B.gs s).1)::PlainS W B p s::L):=by
 have hne:=hw.wc.lne
 have hl8 : s.k.ls.length≤8:=by rw [hw.wc.ls]; exact hw.wc.n.2
 have hhd:=hw.wc.headt
 have hfr : frontL s.k.ls≤headK s.k:=hw.wc.frontt
 refine calls_enter Tryz.func23 rfl Tryz.ntmps23 (Nat.le_of_ble_eq_true rfl) ?_
 intro a ha
 replace ha : Fr a 55 [(0,_)]:=ha
 refine WS<|WR ?_
 iterate 2 (refine S1 ha fun a ha=>?_)
 refine LN<|TN<|WS<|WR ?_
 refine S1 ha fun a ha=>?_
 refine SK (st_call ha rfl Ty.c25 rfl (plain_core hs) ?_); clear ha hs
 rintro e w ⟨rfl,hs⟩
 refine ⟨_,rfl,?_⟩
 intro a ha
 replace hs:=PlainS.open hs
 refine SK (st_call ha rfl Ty.c48 rfl (core_queue (hs.pick (CoreS B.core s.k))) ?_); clear ha hs
 rintro e w ⟨rfl,hs⟩
 refine ⟨_,rfl,?_⟩
 intro a ha
 obtain ⟨D,hs,hD⟩:=CoreS.qu hs
 refine SK (st_call ha rfl Ty.c49 rfl (queue_front hs hne hl8) ?_); clear ha hs
 rintro e w ⟨rfl,hs⟩
 refine ⟨_,rfl,?_⟩
 intro a ha
 refine S1 ha fun a ha=>?_
 refine LN ?_
 replace hs:=(PlainS.fold (hD _ _ hs) B p s)
 refine TN<|WS<|WS<|WR ?_
 iterate 3 (refine S1 ha fun a ha=>?_)
 iterate 3 (refine S1g (s:=11) ha fun a ha=>?_)
 replace hs:=PlainS.open hs
 refine SLg (s:=11) ha (hs.rd1 (b:=B.pb) rfl) fun a ha=>?_
 refine SK (st_call ha (wgT ha rfl (s:=11)) Ty.c26 rfl (core_head (hs.pick (CoreS B.core s.k)) hw.wc) ?_); clear ha hs
 rintro e w ⟨rfl,hs⟩
 refine ⟨_,rfl,?_⟩
 intro a ha
 replace hs:=(PlainS.fold hs B p s)
 iterate 2 (refine S1g (s:=11) ha fun a ha=>?_)
 refine PF ha fun a ha=>?_
 refine LN<|TN ?_
 refine WI ha (fun hc0=>?_) (fun hc0=>?_)
 ·
  refine WS<|WR ?_
  refine S1 ha fun a ha=>?_
  refine SK (st_call ha rfl Ty.c17 rfl (plain_confirmed hs hw) ?_); clear ha hs
  rintro e w ⟨ad,c,rfl,hs⟩
  refine ⟨_,rfl,?_⟩
  intro a ha
  iterate 2 (refine S1 ha fun a ha=>?_)
  iterate 2 (refine S1d ha fun a ha=>?_)
  refine LN<|TN<|wp_ret<|TR ?_
  refine ret2 ha rfl ?_
  refine ⟨ad,c,?_,?_⟩
  · rw [dispG,if_pos (by rw [frontK]; omega)]
  · rw [dispG,if_pos (by rw [frontK]; omega)]; exact hs
 ·
  refine WK<|TN<|WS ?_
  replace hs:=PlainS.open hs
  refine DW (m:=33) (fun w'=>Rd w' B.pb 0 (plC p B s.g)) [7,12,13,17,21,22,23,24,25,29] [0,1,2,4,5,6,8,9,10,11,14,15,16,18,19,20,26,27,28,3,7,12,17,21,29,13,22,23,24,25,30,31,32] Ty.mixed (pk_then pk_body) (fun hpk=>?_)
  replace hs:=hs.drew
  generalize w.drew=w at hs hpk ⊢
  have hC : Rd w B.pb 0 (plC p B s.g):=hs.rdAll (b:=B.pb)
  iterate 19 (refine DP hpk ha rfl fun a ha=>?_)
  refine DH hpk ha rfl rfl (fun w hc=>ex_loadN ha Tryz.underlying33 rfl Ty.t33 (plC_pr hc)) hC fun a ha=>?_
  refine DH hpk ha rfl rfl (fun w hc=>ex_loadN ha Tryz.underlying83 rfl Ty.t83 (plC_st hc)) hC fun a ha=>?_
  refine DL hpk ha rfl (fun w hc=>hc 0 _ rfl) hC fun a ha=>?_
  refine DH hpk ha rfl rfl (fun w hc=>ex_loadN ha Tryz.underlying78 rfl Ty.t78 (plC_by hc)) hC fun a ha=>?_
  iterate 2 (refine DL hpk ha rfl (fun w hc=>hc 0 _ rfl) hC fun a ha=>?_)
  refine D1 rfl (st_call ha rfl Ty.c48 rfl (core_queue (hs.pick (CoreS B.core s.k))) ?_); clear ha hs
  rintro e w ⟨rfl,hs⟩
  refine ⟨_,rfl,?_⟩
  intro a ha
  replace hC : (fun w'=>Rd w' B.pb 0 (plC p B s.g)) w:=hs.rdAll (b:=B.pb)
  refine ⟨fun _=>hC,?_⟩
  refine D1 rfl (st_call ha rfl Ty.c26 rfl (core_head (hs.pick (CoreS B.core s.k)) hw.wc) ?_); clear ha hs
  rintro e w ⟨rfl,hs⟩
  refine ⟨_,rfl,?_⟩
  intro a ha
  replace hC : (fun w'=>Rd w' B.pb 0 (plC p B s.g)) w:=hs.rdAll (b:=B.pb)
  refine ⟨fun _=>hC,?_⟩
  obtain ⟨D,hs,hD⟩:=CoreS.qu hs
  refine D1 rfl (st_call ha rfl Ty.c56 rfl (guess_ahead (r:=0) (to:=headK s.k) (.inl rfl) (by decide) hs hgs hne hl8 hw.wc.ln hhd (fun w' hw'=>(hw'.pick (Sl 5 1 B.adT B.gs.table.length B.cT (bc B.gs.table))).rdB B.adT _ rfl rfl)) ?_); clear ha hs
  rintro e w ⟨adh,ch,X,rfl,⟨hFX,hX⟩,hs⟩
  refine ⟨_,rfl,?_⟩
  intro a ha
  replace hC : (fun w'=>Rd w' B.pb 0 (plC p B s.g)) w:=hs.rdAll (b:=B.pb)
  refine ⟨fun _=>hC,?_⟩
  have hXf:=hX rfl
  subst hXf
  rw [aheadX_full] at hs
  have hall : (aheadL B.gs s.k.ls (headK s.k)).length=headK s.k - frontL s.k.ls:=aheadL_len _ _ _
  have hal1 : ∀ b∈aheadL B.gs s.k.ls (headK s.k),b.length≤1099511627776:=fun b hb=>by
    rw [aheadL,List.mem_map] at hb
    obtain ⟨i,_,rfl⟩:=hb
    rw [jointL_len,fullL,List.length_map]; omega
  obtain ⟨zs,hz1,hz2,hs⟩:=OwnBB.open hs
  rw [← hall] at ha hs
  refine D1 rfl (st_call ha rfl Ty.c55 rfl (fold_from (P:=aheadL B.gs s.k.ls (headK s.k)) (zs:=zs) (fr:=frontL s.k.ls) (L:=Sl 22 1 adh (aheadL B.gs s.k.ls (headK s.k)).length ch (zs.map bbv)::All bbo zs::Qu B.core.qb B.core.lbs s.k.ls::D::blk B.pb 85 (plC p B s.g)::Sl 5 1 B.adT B.gs.table.length B.cT (bc B.gs.table)::L) (hs.sub (M:=RoP W p B.adO B.cO::Sl 22 1 adh (aheadL B.gs s.k.ls (headK s.k)).length ch (zs.map bbv)::All bbo zs::Qu B.core.qb B.core.lbs s.k.ls::D::blk B.pb 85 (plC p B s.g)::Sl 5 1 B.adT B.gs.table.length B.cT (bc B.gs.table)::L)) hpr hsz (hw.gok hpr) ⟨by omega,hal1⟩ (by omega) hz1 (fun w' hw'=>St.rdX (hw'.sub (M:=Sl 22 1 adh (aheadL B.gs s.k.ls (headK s.k)).length ch (zs.map bbv)::All bbo zs::[])))) ?_); clear ha hs
  rintro e w ⟨rfl,hs⟩
  refine ⟨_,rfl,?_⟩
  intro a ha
  replace hC : (fun w'=>Rd w' B.pb 0 (plC p B s.g)) w:=hs.rdAll (b:=B.pb)
  refine ⟨fun _=>hC,?_⟩
  refine D1 rfl (st_call ha rfl Ty.c47 rfl (state_encode hs) ?_); clear ha hs
  rintro e w ⟨ad2,c2,rfl,hs⟩
  refine ⟨_,rfl,?_⟩
  intro a ha
  replace hC : (fun w'=>Rd w' B.pb 0 (plC p B s.g)) w:=hs.rdAll (b:=B.pb)
  refine ⟨fun _=>hC,?_⟩
  replace hs:=hD _ _ (hs.sub (M:=Qu B.core.qb B.core.lbs s.k.ls::D::Sl 5 1 ad2 128 c2 (bc (gameB (foldI p (frontL s.k.ls) s.g (aheadL B.gs s.k.ls (headK s.k)))))::blk B.pb 85 (plC p B s.g)::RoP W p B.adO B.cO::Sl 5 1 B.adT B.gs.table.length B.cT (bc B.gs.table)::L))
  refine D1 rfl (st_call ha rfl Ty.c26 rfl (core_head hs hw.wc) ?_); clear ha hs
  rintro e w ⟨rfl,hs⟩
  refine ⟨_,rfl,?_⟩
  intro a ha
  refine ⟨fun h=>absurd h (by decide),?_⟩
  replace ha:=ha.del 2
  refine DP hpk ha rfl fun a ha=>?_
  replace ha:=ha.del 3
  refine DP hpk ha rfl fun a ha=>?_
  refine DD<|TN<|wp_ret ?_
  refine ret2 ha rfl ?_
  refine ⟨ad2,c2,?_,?_⟩
  · rw [dispG,if_neg (by rw [frontK]; omega)]
  · rw [dispG,if_neg (by rw [frontK]; omega)]
    exact (PlainS.fold hs B p s).sub (M:=Sl 5 1 ad2 128 c2 (bc (gameB (foldI p (frontL s.k.ls) s.g (aheadL B.gs s.k.ls (headK s.k)))))::PlainS W B p s::L)
end
end Go.Proofs.YtagpkhbkdbaigaaGreat
/- plain.New. -/
namespace Go.Proofs.YtagpkhbkdbaigaaGreat
open Go.RowKit
set_option linter.unusedVariables false
set_option linter.unusedSimpArgs false
set_option maxRecDepth 10000
set_option synthInstance.maxSize 4000
set_option synthInstance.maxHeartbeats 400000
theorem mayCf_nat {cf : Cf} (h : mayCf cf) : ∃ (n me delay window : Nat),cf=⟨n,me,cf.id,delay,window,cf.guess,cf.order,cf.branches,cf.workers,cf.room⟩:=by
 obtain ⟨⟨h1,h2,h3⟩,⟨h4,h5,h6,h7⟩,h8,h9,h10,h11⟩:=h
 simp only [inI] at *
 refine ⟨cf.n.toNat,cf.me.toNat,cf.delay.toNat,cf.window.toNat,?_⟩
 rw [Int.toNat_of_nonneg (by omega),Int.toNat_of_nonneg (by omega),Int.toNat_of_nonneg (by omega),Int.toNat_of_nonneg (by omega)]
section
variable {W w : World} {L L' R : List SP} {c cP cT n me delay window : Nat} {ad adP adT : Option Addr} {p : Pr} {tb : List UInt8} {cf : Cf} {id guess order branches workers room : Int}
theorem plain_new_no1 (hs : St W w (RoP W p adP cP::L)) (h : ¬ mayCf cf) (htl : tb.length≤1099511627776) (hT : ∀ w',St W w' (RoP W p adP cP::L)→RdB w' adT tb.length tb) :
   Calls Tryz.prog 12 #[.agg (cfC cf).toArray,.agg (prV p adP cP).toArray,.slice adT tb.length cT] w fun r w'=>r=.returned (.tuple #[.pointer none,.int .i64 1])∧St W w' (RoP W p adP cP::L):=by
 refine calls_enter Tryz.func12 rfl Tryz.ntmps12 (Nat.le_of_ble_eq_true rfl) ?_
 intro a ha
 replace ha : Fr a 48 [(0,_),(1,_),(2,_)]:=ha
 refine WS<|WR ?_
 refine SK (st_box ha rfl hs rfl fun b3 a w ha hs ho=>?_)
 clear ho
 change St W w (blk b3 30 (cfC cf)::_) at hs
 refine SK (st_box ha rfl hs rfl fun b4 a w ha hs ho=>?_)
 clear ho
 change St W w (blk b4 33 (prV p adP cP)::_) at hs
 iterate 2 (refine S1 ha fun a ha=>?_)
 refine LN<|TN ?_
 refine wp_seq_cut (M:=fun a w=>∃ (b8 : Nat) (ad5 : Option Addr) (c5 : Nat),Fr a 48 [(3,.pointer (some ⟨b3,0,none⟩)),(4,.pointer (some ⟨b4,0,none⟩)),(8,.pointer (some ⟨b8,0,none⟩))]∧St W w (blk b8 78 (gsC ⟨cf.guess,cf.order,tb⟩ ad5 c5)::Sl 5 1 ad5 tb.length c5 (bc tb)::blk b3 30 (cfC cf)::blk b4 33 (prV p adP cP)::RoP W p adP cP::L)) ?_ ?_
 ·
  refine DW (m:=9) (fun w'=>Rd w' b3 0 (cfC cf)) [3,5,7] [0,2,4,1,3,5,6,7,8] Ty.mixed (pk_then pk_body) (fun hpk=>?_)
  replace hs:=hs.drew
  generalize w.drew=w at hs hpk ⊢
  have hC : Rd w b3 0 (cfC cf):=hs.rdAll (b:=b3)
  iterate 3 (refine DP hpk ha rfl fun a ha=>?_)
  refine DL hpk ha rfl (fun w hc=>hc 5 _ rfl) hC fun a ha=>?_
  refine DL hpk ha rfl (fun w hc=>hc 6 _ rfl) hC fun a ha=>?_
  refine D2 (i:=5) (j:=7) [6,7,8] [5,6,8] (by kernel_rfl) rfl rfl ?_ ?_
  ·
   refine st_call ha rfl Ty.c35 rfl (bytes_clone (bs:=tb) hs (fun w' hw=>hT w' hw.sub) htl) ?_; clear ha hs
   rintro e w ⟨ad5,c5,rfl,hs⟩
   refine ⟨_,rfl,?_⟩
   intro a ha
   replace hC : (fun w'=>Rd w' b3 0 (cfC cf)) w:=hs.rdAll (b:=b3)
   refine ⟨fun _=>hC,?_⟩
   refine DQ hpk ha rfl rfl (fun w=>ex_build ha Ty.b78 Ty.t78 rfl) fun a ha=>?_
   refine D1 rfl (st_alloc ha rfl hs Ty.t78 rfl fun b8 a w ha hs ho=>?_)
   (try replace hC:=hC.trans ho); clear ho
   replace hC : (fun w'=>Rd w' b3 0 (cfC cf)) w:=hs.rdAll (b:=b3)
   refine ⟨fun _=>hC,?_⟩
   refine D1 rfl (st_storeAll ha rfl hs Ty.t78 (by simp [Value.oneCell']) (by rfl) fun a w ha hs=>?_)
   refine ⟨fun h=>absurd h (by decide),?_⟩
   refine DD<|TN ?_
   exact ⟨_,ad5,c5,ha.keep [3,4,8],hs.sub (M:=blk b8 78 [.int .i64 cf.guess,.int .i64 cf.order,.slice ad5 tb.length c5]::Sl 5 1 ad5 tb.length c5 (bc tb)::blk b3 30 (cfC cf)::blk b4 33 (prV p adP cP)::RoP W p adP cP::L)⟩
  ·
   refine st_alloc ha rfl hs Ty.t78 rfl fun b8 a w ha hs ho=>?_
   (try replace hC:=hC.trans ho); clear ho
   replace hC : (fun w'=>Rd w' b3 0 (cfC cf)) w:=hs.rdAll (b:=b3)
   refine ⟨fun _=>hC,?_⟩
   refine D1 rfl (st_call ha rfl Ty.c35 rfl (bytes_clone (bs:=tb) hs (fun w' hw=>hT w' hw.sub) htl) ?_); clear ha hs
   rintro e w ⟨ad5,c5,rfl,hs⟩
   refine ⟨_,rfl,?_⟩
   intro a ha
   replace hC : (fun w'=>Rd w' b3 0 (cfC cf)) w:=hs.rdAll (b:=b3)
   refine ⟨fun _=>hC,?_⟩
   refine DQ hpk ha rfl rfl (fun w=>ex_build ha Ty.b78 Ty.t78 rfl) fun a ha=>?_
   refine D1 rfl (st_storeAll ha rfl hs Ty.t78 (by simp [Value.oneCell']) (by rfl) fun a w ha hs=>?_)
   refine ⟨fun h=>absurd h (by decide),?_⟩
   refine DD<|TN ?_
   exact ⟨_,ad5,c5,ha.keep [3,4,8],hs.sub (M:=blk b8 78 [.int .i64 cf.guess,.int .i64 cf.order,.slice ad5 tb.length c5]::Sl 5 1 ad5 tb.length c5 (bc tb)::blk b3 30 (cfC cf)::blk b4 33 (prV p adP cP)::RoP W p adP cP::L)⟩
 ·
  clear ha; (try clear hs)
  intro a w hcut
  obtain ⟨b8,ad5,c5,ha,hs⟩:=hcut
  refine WS<|WR ?_
  refine SK (st_set ha rfl (ex_loadN ha Tryz.underlying30 rfl Ty.t30 (hs.rdAll (b:=b3))) rfl fun a ha=>?_)
  refine SK (st_call ha rfl Ty.c36 rfl (core_new_no hs h) ?_); clear ha hs
  rintro e w ⟨rfl,hs⟩
  refine ⟨_,rfl,?_⟩
  intro a ha
  iterate 5 (refine S1 ha fun a ha=>?_)
  refine LN<|TN<|WS<|WS<|WR ?_
  iterate 2 (refine S1 ha fun a ha=>?_)
  rw [show decide ((1 : Int)≠0)=true from rfl] at ha
  refine S1 ha fun a ha=>?_
  iterate 3 (refine SO (s:=26) ha fun a ha=>?_)
  refine PT ha fun a ha=>?_
  refine S1 ha fun a ha=>?_
  iterate 3 (refine SO (s:=31) ha fun a ha=>?_)
  refine PT ha fun a ha=>?_
  refine LN<|TN<|WTr ha<|WS<|WR ?_
  iterate 2 (refine S1 ha fun a ha=>?_)
  refine LN<|TN<|wp_ret<|TR ?_
  refine ret2 ha rfl ?_
  exact ⟨rfl,hs.sub⟩
theorem plain_new_no2 (hs : St W w (RoP W p adP cP::L)) (hm : mayCf ⟨n,me,id,delay,window,guess,order,branches,workers,room⟩) (h : ¬ (prOk p∧mayGs ⟨guess,order,tb⟩)) (hsz : p.title.size≤1000000000) (hol : p.ops.length≤1000000000) (htl : tb.length≤1099511627776) (hT : ∀ w',St W w' (RoP W p adP cP::L)→RdB w' adT tb.length tb) :
   Calls Tryz.prog 12 #[.agg (cfC ⟨n,me,id,delay,window,guess,order,branches,workers,room⟩).toArray,.agg (prV p adP cP).toArray,.slice adT tb.length cT] w fun r w'=>r=.returned (.tuple #[.pointer none,.int .i64 1])∧St W w' (RoP W p adP cP::L):=by
 obtain ⟨cf,hcf⟩ : ∃ cf : Cf,cf=⟨n,me,id,delay,window,guess,order,branches,workers,room⟩:=⟨_,rfl⟩
 rw [← hcf]
 have hg : cf.guess=guess∧cf.order=order:=by rw [hcf]; exact ⟨rfl,rfl⟩
 refine calls_enter Tryz.func12 rfl Tryz.ntmps12 (Nat.le_of_ble_eq_true rfl) ?_
 intro a ha
 replace ha : Fr a 48 [(0,_),(1,_),(2,_)]:=ha
 refine WS<|WR ?_
 refine SK (st_box ha rfl hs rfl fun b3 a w ha hs ho=>?_)
 clear ho
 change St W w (blk b3 30 (cfC cf)::_) at hs
 refine SK (st_box ha rfl hs rfl fun b4 a w ha hs ho=>?_)
 clear ho
 change St W w (blk b4 33 (prV p adP cP)::_) at hs
 iterate 2 (refine S1 ha fun a ha=>?_)
 refine LN<|TN ?_
 refine wp_seq_cut (M:=fun a w=>∃ (b8 : Nat) (ad5 : Option Addr) (c5 : Nat),Fr a 48 [(3,.pointer (some ⟨b3,0,none⟩)),(4,.pointer (some ⟨b4,0,none⟩)),(8,.pointer (some ⟨b8,0,none⟩))]∧St W w (blk b8 78 (gsC ⟨cf.guess,cf.order,tb⟩ ad5 c5)::Sl 5 1 ad5 tb.length c5 (bc tb)::blk b3 30 (cfC cf)::blk b4 33 (prV p adP cP)::RoP W p adP cP::L)) ?_ ?_
 ·
  refine DW (m:=9) (fun w'=>Rd w' b3 0 (cfC cf)) [3,5,7] [0,2,4,1,3,5,6,7,8] Ty.mixed (pk_then pk_body) (fun hpk=>?_)
  replace hs:=hs.drew
  generalize w.drew=w at hs hpk ⊢
  have hC : Rd w b3 0 (cfC cf):=hs.rdAll (b:=b3)
  iterate 3 (refine DP hpk ha rfl fun a ha=>?_)
  refine DL hpk ha rfl (fun w hc=>hc 5 _ rfl) hC fun a ha=>?_
  refine DL hpk ha rfl (fun w hc=>hc 6 _ rfl) hC fun a ha=>?_
  refine D2 (i:=5) (j:=7) [6,7,8] [5,6,8] (by kernel_rfl) rfl rfl ?_ ?_
  ·
   refine st_call ha rfl Ty.c35 rfl (bytes_clone (bs:=tb) hs (fun w' hw=>hT w' hw.sub) htl) ?_; clear ha hs
   rintro e w ⟨ad5,c5,rfl,hs⟩
   refine ⟨_,rfl,?_⟩
   intro a ha
   replace hC : (fun w'=>Rd w' b3 0 (cfC cf)) w:=hs.rdAll (b:=b3)
   refine ⟨fun _=>hC,?_⟩
   refine DQ hpk ha rfl rfl (fun w=>ex_build ha Ty.b78 Ty.t78 rfl) fun a ha=>?_
   refine D1 rfl (st_alloc ha rfl hs Ty.t78 rfl fun b8 a w ha hs ho=>?_)
   (try replace hC:=hC.trans ho); clear ho
   replace hC : (fun w'=>Rd w' b3 0 (cfC cf)) w:=hs.rdAll (b:=b3)
   refine ⟨fun _=>hC,?_⟩
   refine D1 rfl (st_storeAll ha rfl hs Ty.t78 (by simp [Value.oneCell']) (by rfl) fun a w ha hs=>?_)
   refine ⟨fun h=>absurd h (by decide),?_⟩
   refine DD<|TN ?_
   exact ⟨_,ad5,c5,ha.keep [3,4,8],hs.sub (M:=blk b8 78 [.int .i64 cf.guess,.int .i64 cf.order,.slice ad5 tb.length c5]::Sl 5 1 ad5 tb.length c5 (bc tb)::blk b3 30 (cfC cf)::blk b4 33 (prV p adP cP)::RoP W p adP cP::L)⟩
  ·
   refine st_alloc ha rfl hs Ty.t78 rfl fun b8 a w ha hs ho=>?_
   (try replace hC:=hC.trans ho); clear ho
   replace hC : (fun w'=>Rd w' b3 0 (cfC cf)) w:=hs.rdAll (b:=b3)
   refine ⟨fun _=>hC,?_⟩
   refine D1 rfl (st_call ha rfl Ty.c35 rfl (bytes_clone (bs:=tb) hs (fun w' hw=>hT w' hw.sub) htl) ?_); clear ha hs
   rintro e w ⟨ad5,c5,rfl,hs⟩
   refine ⟨_,rfl,?_⟩
   intro a ha
   replace hC : (fun w'=>Rd w' b3 0 (cfC cf)) w:=hs.rdAll (b:=b3)
   refine ⟨fun _=>hC,?_⟩
   refine DQ hpk ha rfl rfl (fun w=>ex_build ha Ty.b78 Ty.t78 rfl) fun a ha=>?_
   refine D1 rfl (st_storeAll ha rfl hs Ty.t78 (by simp [Value.oneCell']) (by rfl) fun a w ha hs=>?_)
   refine ⟨fun h=>absurd h (by decide),?_⟩
   refine DD<|TN ?_
   exact ⟨_,ad5,c5,ha.keep [3,4,8],hs.sub (M:=blk b8 78 [.int .i64 cf.guess,.int .i64 cf.order,.slice ad5 tb.length c5]::Sl 5 1 ad5 tb.length c5 (bc tb)::blk b3 30 (cfC cf)::blk b4 33 (prV p adP cP)::RoP W p adP cP::L)⟩
 ·
  clear ha; (try clear hs)
  intro a w hcut
  obtain ⟨b8,ad5,c5,ha,hs⟩:=hcut
  refine WS<|WR ?_
  refine SK (st_set ha rfl (ex_loadN ha Tryz.underlying30 rfl Ty.t30 (hs.rdAll (b:=b3))) rfl fun a ha=>?_)
  rw [hcf] at ha
  refine SK (st_call ha rfl Ty.c36 rfl (core_new hs hm) ?_); clear ha hs
  rintro e w ⟨Bc,rfl,hs⟩
  refine ⟨_,rfl,?_⟩
  intro a ha
  iterate 5 (refine S1 ha fun a ha=>?_)
  refine LN<|TN<|WS<|WS<|WR ?_
  iterate 2 (refine S1 ha fun a ha=>?_)
  rw [show decide ((0 : Int)≠0)=false from rfl] at ha
  refine S1 ha fun a ha=>?_
  refine SK (st_set ha (wgT ha rfl (s:=26)) (ex_loadN ha Tryz.underlying33 rfl Ty.t33 (hs.rdAll (b:=b4))) rfl fun a ha=>?_)
  refine SK (st_call ha (wgT ha rfl (s:=26)) Ty.c37 rfl (checkMay_spec (hs.pick (RoP W p adP cP)) hsz hol) ?_); clear ha hs
  rintro e w ⟨rc,rfl,hrc,hs⟩
  refine ⟨_,rfl,?_⟩
  intro a ha
  refine S1g (s:=26) ha fun a ha=>?_
  refine PF ha fun a ha=>?_
  refine S1 ha fun a ha=>?_
  refine ha.by (s:=31) (fun hg7 ha=>?_) (fun hg7 ha=>?_)
  ·
   iterate 3 (refine SO (s:=31) ha fun a ha=>?_)
   refine PT ha fun a ha=>?_
   refine LN<|TN<|WTr ha<|WS<|WR ?_
   iterate 2 (refine S1 ha fun a ha=>?_)
   refine LN<|TN<|wp_ret<|TR ?_
   refine ret2 ha rfl ?_
   exact ⟨rfl,hs.sub⟩
  ·
   refine SK (st_set ha (wgT ha rfl (s:=31)) (ex_loadN ha Tryz.underlying78 rfl Ty.t78 (hs.rdAll (b:=b8))) rfl fun a ha=>?_)
   refine SK (st_call ha (wgT ha rfl (s:=31)) Ty.c38 rfl (pred_may hs) ?_); clear ha hs
   rintro e w ⟨rp,rfl,hrp,hs⟩
   refine ⟨_,rfl,?_⟩
   intro a ha
   refine S1g (s:=31) ha fun a ha=>?_
   refine PF ha fun a ha=>?_
   refine LN<|TN ?_
   refine WI ha (fun hc0=>?_) (fun hc0=>?_)
   ·
    refine WS<|WR ?_
    iterate 2 (refine S1 ha fun a ha=>?_)
    refine LN<|TN<|wp_ret<|TR ?_
    refine ret2 ha rfl ?_
    exact ⟨rfl,hs.sub⟩
   ·
    exact absurd ⟨hrc.1 hg7,by have:=hrp.1 hc0; rw [hg.1,hg.2] at this; exact this⟩ h
theorem plain_new (hs : St W w (RoP W p adP cP::L)) (hm : mayCf ⟨n,me,id,delay,window,guess,order,branches,workers,room⟩) (hpr : prOk p) (hgs : mayGs ⟨guess,order,tb⟩) (hsz : p.title.size≤1000000000) (hol : p.ops.length≤1000000000) (htl : tb.length≤1099511627776) (hT : ∀ w',St W w' (RoP W p adP cP::L)→RdB w' adT tb.length tb) :
   Calls Tryz.prog 12 #[.agg (cfC ⟨n,me,id,delay,window,guess,order,branches,workers,room⟩).toArray,.agg (prV p adP cP).toArray,.slice adT tb.length cT] w fun r w'=>∃ B : PlB,r=.returned (.tuple #[.pointer (some ⟨B.pb,0,none⟩),.int .i64 0])∧B.gs=⟨guess,order,tb⟩ ∧
     St W w' (PlainS W B p (newP p ⟨n,me,id,delay,window,guess,order,branches,workers,room⟩)::RoP W p adP cP::L):=by
 obtain ⟨cf,hcf⟩ : ∃ cf : Cf,cf=⟨n,me,id,delay,window,guess,order,branches,workers,room⟩:=⟨_,rfl⟩
 rw [← hcf]
 have hg : cf.guess=guess∧cf.order=order:=by rw [hcf]; exact ⟨rfl,rfl⟩
 have hopl : 1≤p.ops.length∧p.ops.length≤64:=⟨hpr.1.2.1,hpr.1.2.2.1⟩
 refine calls_enter Tryz.func12 rfl Tryz.ntmps12 (Nat.le_of_ble_eq_true rfl) ?_
 intro a ha
 replace ha : Fr a 48 [(0,_),(1,_),(2,_)]:=ha
 refine WS<|WR ?_
 refine SK (st_box ha rfl hs rfl fun b3 a w ha hs ho=>?_)
 clear ho
 change St W w (blk b3 30 (cfC cf)::_) at hs
 refine SK (st_box ha rfl hs rfl fun b4 a w ha hs ho=>?_)
 clear ho
 change St W w (blk b4 33 (prV p adP cP)::_) at hs
 iterate 2 (refine S1 ha fun a ha=>?_)
 refine LN<|TN ?_
 refine wp_seq_cut (M:=fun a w=>∃ (b8 : Nat) (ad5 : Option Addr) (c5 : Nat),Fr a 48 [(3,.pointer (some ⟨b3,0,none⟩)),(4,.pointer (some ⟨b4,0,none⟩)),(8,.pointer (some ⟨b8,0,none⟩))]∧St W w (blk b8 78 (gsC ⟨cf.guess,cf.order,tb⟩ ad5 c5)::Sl 5 1 ad5 tb.length c5 (bc tb)::blk b3 30 (cfC cf)::blk b4 33 (prV p adP cP)::RoP W p adP cP::L)) ?_ ?_
 ·
  refine DW (m:=9) (fun w'=>Rd w' b3 0 (cfC cf)) [3,5,7] [0,2,4,1,3,5,6,7,8] Ty.mixed (pk_then pk_body) (fun hpk=>?_)
  replace hs:=hs.drew
  generalize w.drew=w at hs hpk ⊢
  have hC : Rd w b3 0 (cfC cf):=hs.rdAll (b:=b3)
  iterate 3 (refine DP hpk ha rfl fun a ha=>?_)
  refine DL hpk ha rfl (fun w hc=>hc 5 _ rfl) hC fun a ha=>?_
  refine DL hpk ha rfl (fun w hc=>hc 6 _ rfl) hC fun a ha=>?_
  refine D2 (i:=5) (j:=7) [6,7,8] [5,6,8] (by kernel_rfl) rfl rfl ?_ ?_
  ·
   refine st_call ha rfl Ty.c35 rfl (bytes_clone (bs:=tb) hs (fun w' hw=>hT w' hw.sub) htl) ?_; clear ha hs
   rintro e w ⟨ad5,c5,rfl,hs⟩
   refine ⟨_,rfl,?_⟩
   intro a ha
   replace hC : (fun w'=>Rd w' b3 0 (cfC cf)) w:=hs.rdAll (b:=b3)
   refine ⟨fun _=>hC,?_⟩
   refine DQ hpk ha rfl rfl (fun w=>ex_build ha Ty.b78 Ty.t78 rfl) fun a ha=>?_
   refine D1 rfl (st_alloc ha rfl hs Ty.t78 rfl fun b8 a w ha hs ho=>?_)
   (try replace hC:=hC.trans ho); clear ho
   replace hC : (fun w'=>Rd w' b3 0 (cfC cf)) w:=hs.rdAll (b:=b3)
   refine ⟨fun _=>hC,?_⟩
   refine D1 rfl (st_storeAll ha rfl hs Ty.t78 (by simp [Value.oneCell']) (by rfl) fun a w ha hs=>?_)
   refine ⟨fun h=>absurd h (by decide),?_⟩
   refine DD<|TN ?_
   exact ⟨_,ad5,c5,ha.keep [3,4,8],hs.sub (M:=blk b8 78 [.int .i64 cf.guess,.int .i64 cf.order,.slice ad5 tb.length c5]::Sl 5 1 ad5 tb.length c5 (bc tb)::blk b3 30 (cfC cf)::blk b4 33 (prV p adP cP)::RoP W p adP cP::L)⟩
  ·
   refine st_alloc ha rfl hs Ty.t78 rfl fun b8 a w ha hs ho=>?_
   (try replace hC:=hC.trans ho); clear ho
   replace hC : (fun w'=>Rd w' b3 0 (cfC cf)) w:=hs.rdAll (b:=b3)
   refine ⟨fun _=>hC,?_⟩
   refine D1 rfl (st_call ha rfl Ty.c35 rfl (bytes_clone (bs:=tb) hs (fun w' hw=>hT w' hw.sub) htl) ?_); clear ha hs
   rintro e w ⟨ad5,c5,rfl,hs⟩
   refine ⟨_,rfl,?_⟩
   intro a ha
   replace hC : (fun w'=>Rd w' b3 0 (cfC cf)) w:=hs.rdAll (b:=b3)
   refine ⟨fun _=>hC,?_⟩
   refine DQ hpk ha rfl rfl (fun w=>ex_build ha Ty.b78 Ty.t78 rfl) fun a ha=>?_
   refine D1 rfl (st_storeAll ha rfl hs Ty.t78 (by simp [Value.oneCell']) (by rfl) fun a w ha hs=>?_)
   refine ⟨fun h=>absurd h (by decide),?_⟩
   refine DD<|TN ?_
   exact ⟨_,ad5,c5,ha.keep [3,4,8],hs.sub (M:=blk b8 78 [.int .i64 cf.guess,.int .i64 cf.order,.slice ad5 tb.length c5]::Sl 5 1 ad5 tb.length c5 (bc tb)::blk b3 30 (cfC cf)::blk b4 33 (prV p adP cP)::RoP W p adP cP::L)⟩
 ·
  clear ha; (try clear hs)
  intro a w hcut
  obtain ⟨b8,ad5,c5,ha,hs⟩:=hcut
  refine WS<|WR ?_
  refine SK (st_set ha rfl (ex_loadN ha Tryz.underlying30 rfl Ty.t30 (hs.rdAll (b:=b3))) rfl fun a ha=>?_)
  rw [hcf] at ha
  refine SK (st_call ha rfl Ty.c36 rfl (core_new hs hm) ?_); clear ha hs
  rintro e w ⟨Bc,rfl,hs⟩
  refine ⟨_,rfl,?_⟩
  intro a ha
  rw [← hcf] at hs
  iterate 5 (refine S1 ha fun a ha=>?_)
  refine LN<|TN<|WS<|WS<|WR ?_
  iterate 2 (refine S1 ha fun a ha=>?_)
  rw [show decide ((0 : Int)≠0)=false from rfl] at ha
  refine S1 ha fun a ha=>?_
  refine SK (st_set ha (wgT ha rfl (s:=26)) (ex_loadN ha Tryz.underlying33 rfl Ty.t33 (hs.rdAll (b:=b4))) rfl fun a ha=>?_)
  refine SK (st_call ha (wgT ha rfl (s:=26)) Ty.c37 rfl (checkMay_spec (hs.pick (RoP W p adP cP)) hsz hol) ?_); clear ha hs
  rintro e w ⟨rc,rfl,hrc,hs⟩
  refine ⟨_,rfl,?_⟩
  intro a ha
  rw [hrc.2 hpr] at ha
  refine S1g (s:=26) ha fun a ha=>?_
  rw [show (!true)=false from rfl] at ha
  refine PF ha fun a ha=>?_
  refine S1 ha fun a ha=>?_
  refine SK (st_set ha (wgT ha rfl (s:=31)) (ex_loadN ha Tryz.underlying78 rfl Ty.t78 (hs.rdAll (b:=b8))) rfl fun a ha=>?_)
  refine SK (st_call ha (wgT ha rfl (s:=31)) Ty.c38 rfl (pred_may hs) ?_); clear ha hs
  rintro e w ⟨rp,rfl,hrp,hs⟩
  refine ⟨_,rfl,?_⟩
  intro a ha
  rw [hrp.2 (by rw [hg.1,hg.2]; exact hgs)] at ha
  refine S1g (s:=31) ha fun a ha=>?_
  refine PF ha fun a ha=>?_
  refine LN<|TN<|WFa ha<|WK<|TN<|WS ?_
  replace hs:=hs.sl0 87 4 none
  rw [prV] at hs
  refine WR ?_
  refine S1 ha fun a ha=>?_
  refine SL ha (hs.rd1 rfl) fun a ha=>?_
  refine SK (st_appendT ha rfl hs Tryz.underlying31 Ty.t87 rfl rfl (by decide) (fun h0=>(hs.pick (RoP W p adP cP)).roRd adP h0) (by rw [rows_len opR_len]) (rows_one opR_one _) (by omega) fun ad38 c38 a w ha hs=>?_)
  rw [List.nil_append,Nat.zero_add] at hs
  rw [Nat.zero_add] at ha
  refine S1 ha fun a ha=>?_
  refine SK (st_store ha rfl hs Ty.t31 rfl (by simp) fun a w ha hs=>?_)
  refine LN ?_
  replace hs : St W w (blk b4 33 [.string p.title,.slice ad38 p.ops.length c38]::Sl 87 4 ad38 p.ops.length c38 (rows opR p.ops)::_):=hs
  refine TN<|WS<|WR ?_
  refine S1 ha fun a ha=>?_
  refine SK (st_set ha rfl (ex_loadN ha Tryz.underlying33 rfl Ty.t33 (hs.rdAll (b:=b4))) rfl fun a ha=>?_)
  refine SK (st_set ha rfl (ex_loadN ha Tryz.underlying78 rfl Ty.t78 (hs.rdAll (b:=b8))) rfl fun a ha=>?_)
  simp only [gsC] at ha
  refine SK (st_set ha rfl (ex_build ha Ty.b85 Ty.t85 rfl) rfl fun a ha=>?_)
  refine SK (st_box ha rfl hs rfl fun b44 a w ha hs ho=>?_)
  clear ho
  refine S1 ha fun a ha=>?_
  refine LN ?_
  replace hs:=(hs.pick (Sl 87 4 ad38 p.ops.length c38 (rows opR p.ops))).roSl
  replace hs : St W w (blk b44 85 (plC p ⟨b44,Bc,ad38,c38,ad5,c5,⟨cf.guess,cf.order,tb⟩⟩ zeroG)::CoreS Bc (newK cf)::RoP W p ad38 c38::Sl 5 1 ad5 tb.length c5 (bc tb)::RoP W p adP cP::L):=by
    have hs2 : St W w (RoP W p ad38 c38::_):=hs
    have hs3:=hs2.bring b44
    exact St.sub (M:=_::CoreS Bc (newK cf)::RoP W p ad38 c38::Sl 5 1 ad5 tb.length c5 (bc tb)::RoP W p adP cP::L) (show St W w (blk b44 85 (plC p ⟨b44,Bc,ad38,c38,ad5,c5,⟨cf.guess,cf.order,tb⟩⟩ zeroG)::_) from hs3)
  replace hs:=PlainS.fold hs ⟨b44,Bc,ad38,c38,ad5,c5,⟨cf.guess,cf.order,tb⟩⟩ p ⟨newK cf,zeroG⟩
  refine TN<|WS<|WR ?_
  refine S1 ha fun a ha=>?_
  refine SK (st_call ha rfl Ty.c39 rfl (plain_mark hs (newP_ok (by rw [hcf]; exact hm)) hpr hsz) ?_); clear ha hs
  rintro e w ⟨rfl,hs⟩
  refine ⟨_,rfl,?_⟩
  intro a ha
  refine LN<|TN<|WS<|WR ?_
  iterate 3 (refine S1 ha fun a ha=>?_)
  refine LN<|TN<|wp_ret ?_
  refine ret2 ha rfl ?_
  exact ⟨⟨b44,Bc,ad38,c38,ad5,c5,⟨cf.guess,cf.order,tb⟩⟩,rfl,by rw [hg.1,hg.2],hs⟩
end
end Go.Proofs.YtagpkhbkdbaigaaGreat
