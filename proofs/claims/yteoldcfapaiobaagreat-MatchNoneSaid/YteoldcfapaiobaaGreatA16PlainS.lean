/- A plain player in memory: plain.New, mark, Press, Receive, Tick, Quit, Events, Closed, Core, Confirmed, Display. -/
import Derived.Test.YteoldcfapaiobaaGreatA14Core
import Derived.Test.YteoldcfapaiobaaGreatA15Fold
import Derived.Test.YteoldcfapaiobaaGreatA12Pkt3
namespace Go.Proofs.YteoldcfapaiobaaGreat
open Go.RowKit
set_option linter.unusedVariables false
set_option linter.unusedSimpArgs false
set_option maxRecDepth 10000
set_option synthInstance.maxSize 4000
set_option synthInstance.maxHeartbeats 400000
section
structure PlB where
 pb:Nat
 core:CoB
 adO:Option Addr
 cO:Nat
 adT:Option Addr
 cT:Nat
 gs:Gs
abbrev plC (p:Pr)(B:PlB)(g:Nat→Int):List Value:=[pt B.core.cb,.string p.title,.slice B.adO p.ops.length B.cO,.int .i64 B.gs.kind,.int .i64 B.gs.order,.slice B.adT B.gs.table.length B.cT]++ints .i32 32 g
theorem plC_pr {w:World}{b:Nat}{p:Pr}{B:PlB}{g:Nat→Int}(h:Rd w b 0 (plC p B g)):Rd w b 1 (prV p B.adO B.cO):=h.part 1 2
theorem plC_by {w:World}{b:Nat}{p:Pr}{B:PlB}{g:Nat→Int}(h:Rd w b 0 (plC p B g)):Rd w b 3 (gsC B.gs B.adT B.cT):=h.part 3 3
theorem plC_st {w:World}{b:Nat}{p:Pr}{B:PlB}{g:Nat→Int}(h:Rd w b 0 (plC p B g)):Rd w b 6 (ints .i32 32 g):=by
 have h1:=h.part 6 32
 rwa [show ((plC p B g).drop 6).take 32=ints .i32 32 g from by
   show (ints .i32 32 g).take 32=_
   exact List.take_of_length_le (by rw[ints_len];exact Nat.le_refl _)]at h1
theorem plC_len (p:Pr)(B:PlB)(g:Nat→Int):(plC p B g).length=38:=by rw[plC,List.length_append,ints_len];rfl
theorem plC_set (p:Pr)(B:PlB)(g g':Nat→Int):splice (plC p B g) 6 (ints .i32 32 g')=plC p B g':=by
 rw[splice,ints_len,List.drop_eq_nil_of_le (by rw[plC_len];exact Nat.le_refl _),List.append_nil,plC,plC]
 congr 1
def PlainS (W:World)(B:PlB)(p:Pr)(s:Pl):SP:=λh=>sepL [blk B.pb 192 (plC p B s.g),CoreS B.core s.k,RoP W p B.adO B.cO,Sl 5 1 B.adT B.gs.table.length B.cT (bc B.gs.table)] h
def dispG (p:Pr)(gs:Gs)(s:Pl):List UInt8×Nat:=if headK s.k≤frontK s.k then confP s else (gameB (foldI p (frontK s.k) s.g (aheadL gs s.k.ls (headK s.k))),headK s.k)
section
variable {W w:World}{L R:List SP}{n c i:Nat}{ad:Option Addr}{B:PlB}{x:UInt8}{p:Pr}{s:Pl}{bs:List UInt8}
theorem PlainS.open (hs:St W w (PlainS W B p s::L)):St W w (blk B.pb 192 (plC p B s.g)::CoreS B.core s.k::RoP W p B.adO B.cO::Sl 5 1 B.adT B.gs.table.length B.cT (bc B.gs.table)::L) :=
 hs.open (M:=[_,_,_,_]) λ_ h=>h
theorem PlainS.close (hs:St W w (blk B.pb 192 (plC p B s.g)::CoreS B.core s.k::RoP W p B.adO B.cO::Sl 5 1 B.adT B.gs.table.length B.cT (bc B.gs.table)::L)):St W w (PlainS W B p s::L) :=
 St.shut (M:=[_,_,_,_]) hs λ_ h=>h
theorem PlainS.fold (hs:St W w L)(B:PlB)(p:Pr)(s:Pl)[kk:Arr L [blk B.pb 192 (plC p B s.g),CoreS B.core s.k,RoP W p B.adO B.cO,Sl 5 1 B.adT B.gs.table.length B.cT (bc B.gs.table)] R]:St W w (PlainS W B p s::R):=PlainS.close (hs.perm kk.perm)
theorem plain_core (hs:St W w (PlainS W B p s::L)):Calls Tryz.prog 178 #[pt B.pb] w λr w'=>r=.returned (pt B.core.cb)∧St W w' (PlainS W B p s::L):=by
 replace hs:=PlainS.open hs
 refine EN Tryz.func178 Tryz.ntmps178 rfl rfl λa ha=>?_
 refine RN 6 ha hs λa ha=>?_
 replace ha:=ha.isF 4
 refine RT 7 ha hs ?_
 exact⟨rfl,PlainS.close hs⟩
theorem plain_mark (hs:St W w (PlainS W B p s::L))(hw:WP p s)(hpr:prOk p)(hsz:p.title.size≤1000000000):Calls Tryz.prog 99 #[pt B.pb] w λr w'=>r=.returned (.tuple #[])∧St W w' (PlainS W B p (playP p s)::L):=by
 refine EN Tryz.func99 Tryz.ntmps99 rfl rfl λa ha=>?_
 refine RN 0 ha hs λa ha=>?_
 refine wp_loop_ghost (λμ a w=>∃ (i:Nat),(μ=frontK s.k-s.k.mr.length-i∧i≤frontK s.k-s.k.mr.length)∧Fr a 56 [(0,pt B.pb)]∧St W w (PlainS W B p (playN p i s)::L)) (frontK s.k-s.k.mr.length) (⟨0,⟨rfl,by omega⟩,ha.keep [0],hs⟩) ?_
 clear ha hs
 rintro μ a w ⟨i,⟨rfl,hi⟩,ha,hs⟩
 obtain⟨hwi,hls,hml⟩:=hw.play i hi
 have hnx:playN p (i+1) s=play1 p (playN p i s):=playN_succ p i s
 have hlow:=hw.low
 have hfe:frontK (playN p i s).k=frontK s.k:=by rw[frontK,hls];rfl
 generalize hsi:playN p i s=si at hs hwi hls hml hnx hfe
 replace hs:=PlainS.open hs
 have hne:=hwi.wc.lne
 have hl8:si.k.ls.length≤8:=by rw[hwi.wc.ls];exact hwi.wc.n.2
 have hfr1:frontK si.k≤1000:=Nat.le_trans hwi.wc.frontt hwi.wc.headt
 refine DWC 2 (λw0 w'=>w'.cell? ⟨B.pb,0,none⟩=some (pt B.core.cb)) [4,8] [0,1,2,5,6,7,3003,3008,1004,1009,1010,11] ha hs λa w ha hs hH=>?_
 have hC:=hH.at w (hs.rd1 (b:=B.pb) rfl)
 refine RH 6 ha hs hH hC λa ha=>?_
 refine QH ha (λw hc=>ld1 ha (hc)) hC λa ha=>?_
 refine QH ha (λw hc=>ld1 ha (hc)) hC λa ha=>?_
 refine RH 0 ha hs hH hC λa ha=>?_
 refine CL 0 ha hs (core_marks (hs.pick (CoreS B.core si.k))) λa w ha hs=>?_
 replace hC:=hH.at w (hs.rd1 (b:=B.pb) rfl)
 refine RH 0 ha hs hH hC λa ha=>?_
 refine CL 0 ha hs (core_queue (hs.pick (CoreS B.core si.k))) λa w ha hs=>?_
 obtain⟨D,hs,hD⟩:=CoreS.qu hs
 refine CL 0 ha hs (queue_front hs hne hl8) λa w ha hs=>?_
 refine RN 1 ha hs λa ha=>?_
 replace hs:=hD _ _ hs
 replace hs:=hs.sub (M:=blk B.pb 192 (plC p B si.g)::CoreS B.core si.k::RoP W p B.adO B.cO::Sl 5 1 B.adT B.gs.table.length B.cT (bc B.gs.table)::L)
 refine IF 0 ha hs (λhc0 a ha=>?_) λhc0 a ha=>?_
 ·
  have hmf:si.k.mr.length<frontL si.k.ls:=by omega
  have hmf2:si.k.mr.length<frontK si.k:=hmf
  refine CL 5 ha hs (core_marks (hs.pick (CoreS B.core si.k))) λa w ha hs=>?_
  refine CL 6 ha hs (core_queue (hs.pick (CoreS B.core si.k))) λa w ha hs=>?_
  refine RN 1 ha hs λa ha=>?_
  obtain⟨D,hs,hD⟩:=CoreS.qu hs
  refine CL2 0 ha hs (queue_joint hs hne hmf hl8) λadj cj a w ha hs=>?_
  refine RN 5 ha hs λa ha=>?_
  replace hs:=hD _ _ (hs.sub (M:=Qu B.core.qb B.core.lbs si.k.ls::D::Sl 5 1 adj (jointL si.k.ls si.k.mr.length).length cj (bc (jointL si.k.ls si.k.mr.length))::blk B.pb 192 (plC p B si.g)::RoP W p B.adO B.cO::Sl 5 1 B.adT B.gs.table.length B.cT (bc B.gs.table)::L))
  have hjl:=jointL_len si.k.ls si.k.mr.length
  refine DWC 1 (λw0 w'=>Rd w' B.pb 0 (plC p B si.g)) [8] [0,1,2,3,5,6,7,9,10,3004,1008,1011,12,13,1014] ha hs λa w ha hs hH=>?_
  have hC:=hH.at w (hs.rdAll (b:=B.pb))
  refine RH 9 ha hs hH hC λa ha=>?_
  refine QH ha (λw hc=>ex_loadN ha Tryz.underlying45 rfl Ty.t45 (plC_pr hc)) hC λa ha=>?_
  refine RH 0 ha hs hH hC λa ha=>?_
  refine SS ha (ex_loadN ha Tryz.underlying183 rfl Ty.t183 (plC_st hC)) λa ha=>?_
  refine RH 0 ha hs hH hC λa ha=>?_
  refine CL 0 ha hs (vm_step (b:=jointL si.k.ls si.k.mr.length) (fr:=si.k.mr.length) (hs.pick (RoP W p B.adO B.cO)) hpr hsz (hwi.gok hpr) (by omega) (λw' hw=>(hw.pick (Sl 5 1 adj (jointL si.k.ls si.k.mr.length).length cj (bc (jointL si.k.ls si.k.mr.length)))).rdB adj _ rfl rfl)) λa w ha hs=>?_
  refine RN 2 ha hs λa ha=>?_
  refine st_storeN ha rfl hs Ty.t183 ints_one (by rw[ints_len,plC_len];decide) λa w ha hs=>?_
  rw[plC_set]at hs
  refine DWC 0 (λw0 w'=>Rd w' B.pb 0 (plC p B (frameI p si.k.mr.length (jointL si.k.ls si.k.mr.length) si.g))) [7,8] [0,1,2,4,5,6,3003,1007,1008,1009] ha hs λa w ha hs hH=>?_
  have hC:=hH.at w (hs.rdAll (b:=B.pb))
  refine RH 6 ha hs hH hC λa ha=>?_
  refine QH ha (λw hc=>ld1 ha (hc 0 _ rfl)) hC λa ha=>?_
  refine RH 0 ha hs hH hC λa ha=>?_
  refine SS ha (ex_loadN ha Tryz.underlying183 rfl Ty.t183 (plC_st hC)) λa ha=>?_
  refine RH 0 ha hs hH hC λa ha=>?_
  refine CL 0 ha hs (state_sum hs) λa w ha hs=>?_
  replace hC:=hH.at w (hs.rdAll (b:=B.pb))
  refine RH 0 ha hs hH hC λa ha=>?_
  refine CL 0 ha hs (core_mark (hs.pick (CoreS B.core si.k)) hwi.wc (by omega) (crcSum_lt _)) λa w ha hs=>?_
  refine RN 0 ha hs λa ha=>?_
  exact⟨frontK s.k-s.k.mr.length-(i+1),by omega,i+1,⟨rfl,by omega⟩,ha.keep [0],by
    rw[hnx]
    show St W w (PlainS W B p ⟨markK si.k (crcSum (gameB (frameI p si.k.mr.length (jointL si.k.ls si.k.mr.length) si.g))),frameI p si.k.mr.length (jointL si.k.ls si.k.mr.length) si.g⟩::L)
    exact (PlainS.fold hs B p ⟨markK si.k (crcSum (gameB (frameI p si.k.mr.length (jointL si.k.ls si.k.mr.length) si.g))),frameI p si.k.mr.length (jointL si.k.ls si.k.mr.length) si.g⟩).sub⟩
 refine RT 0 ha hs ?_
 obtain rfl:i=frontK s.k-s.k.mr.length:=by
   have:frontL si.k.ls=frontK si.k:=rfl
   omega
 refine⟨rfl,?_⟩
 rw[playP,hsi]
 exact PlainS.close hs
theorem plain_press (hs:St W w (PlainS W B p s::L))(hw:WF' p s)(hpr:prOk p)(hsz:p.title.size≤1000000000):Calls Tryz.prog 282 #[pt B.pb,.int .u8 (x.toNat:Nat)] w λr w'=>r=.returned (.int .i64 (pressP p x s).1)∧St W w' (PlainS W B p (pressP p x s).2::L):=by
 have h1:=press_ext x s.k
 have hwp:=hw.toWP.more (hw.wc.press x) (hw.held.press x) h1.1 h1.2
 refine EN Tryz.func282 Tryz.ntmps282 rfl rfl λa ha=>?_
 refine CL 4 ha hs (plain_core hs) λa w ha hs=>?_
 refine RN 1 ha hs λa ha=>?_
 replace hs:=PlainS.open hs
 refine CL 0 ha hs (core_press (x:=x) (hs.pick (CoreS B.core s.k)) hw.wc) λa w ha hs=>?_
 replace hs:=(PlainS.fold hs B p ⟨(pressK x s.k).2,s.g⟩)
 refine RN 1 ha hs λa ha=>?_
 refine wp_seq_cut (M:=λa w=>Fr a 15 [(5,.int .i64 (pressP p x s).1)]∧St W w (PlainS W B p (pressP p x s).2::L)) ?_ ?_
 ·
  refine IF 3 ha hs (λhc0 a ha=>?_) λhc0 a ha=>?_
  ·
   refine CL 1 ha hs (plain_mark hs hwp hpr hsz) λa w ha hs=>?_
   refine RN 0 ha hs λa ha=>?_
   exact⟨ha.keep [5],hs⟩
  refine RN 0 ha hs λa ha=>?_
  have he:(pressP p x s).2=⟨(pressK x s.k).2,s.g⟩:=by
    show playP p _=_
    rw[press_no hc0];exact hw.playP
  rw[he];exact⟨ha.keep [5],hs⟩
 clear ha;(try clear hs)
 rintro a w ⟨ha,hs⟩
 refine RT 3 ha hs ?_
 exact⟨rfl,hs⟩
theorem plain_receive (hs:St W w (PlainS W B p s::L))(hw:WF' p s)(hpr:prOk p)(hsz:p.title.size≤1000000000)(hb:bs.length≤65536)(hc:bs.length≤c)(hp:∀ w',St W w' L→RdB w' ad bs.length bs) :
   Calls Tryz.prog 284 #[pt B.pb,.slice ad bs.length c] w λr w'=>r=.returned (.int .i64 (recvP p bs s).1)∧St W w' (PlainS W B p (recvP p bs s).2::L):=by
 have h1:=recv_ext bs s.k
 have hwp:=hw.toWP.more (hw.wc.recv bs).1 ((hw.wc.recv bs).2 hw.held) h1.1 h1.2
 refine EN Tryz.func284 Tryz.ntmps284 rfl rfl λa ha=>?_
 refine CL 4 ha hs (plain_core hs) λa w ha hs=>?_
 refine RN 1 ha hs λa ha=>?_
 replace hs:=PlainS.open hs
 refine CL 0 ha hs (core_receive (bs:=bs) (ad:=ad) (c:=c) (hs.pick (CoreS B.core s.k)) hw.wc hb hc (λw' hw'=>hp w' hw'.tail.tail.tail)) λa w ha hs=>?_
 replace hs:=(PlainS.fold hs B p ⟨(recvK bs s.k).2,s.g⟩)
 refine RN 1 ha hs λa ha=>?_
 refine wp_seq_cut (M:=λa w=>Fr a 15 [(5,.int .i64 (recvP p bs s).1)]∧St W w (PlainS W B p (recvP p bs s).2::L)) ?_ ?_
 ·
  refine IF 3 ha hs (λhc0 a ha=>?_) λhc0 a ha=>?_
  ·
   refine CL 1 ha hs (plain_mark hs hwp hpr hsz) λa w ha hs=>?_
   refine RN 0 ha hs λa ha=>?_
   exact⟨ha.keep [5],hs⟩
  refine RN 0 ha hs λa ha=>?_
  have he:(recvP p bs s).2=⟨(recvK bs s.k).2,s.g⟩:=by
    show playP p _=_
    rw[recv_no hc0];exact hw.playP
  rw[he];exact⟨ha.keep [5],hs⟩
 clear ha;(try clear hs)
 rintro a w ⟨ha,hs⟩
 refine RT 3 ha hs ?_
 exact⟨rfl,hs⟩
theorem plain_tick (hs:St W w (PlainS W B p s::L))(hw:WF' p s)(hnw:s.k.now≤1000000):Calls Tryz.prog 285 #[pt B.pb] w λr w'=>∃ ad c,r=.returned (.slice ad (tickK s.k).1.length c)∧St W w' (OwnMl 124 ad (tickK s.k).1.length c (tickK s.k).1::PlainS W B p ⟨(tickK s.k).2,s.g⟩::L):=by
 refine EN Tryz.func285 Tryz.ntmps285 rfl rfl λa ha=>?_
 refine CL 4 ha hs (plain_core hs) λa w ha hs=>?_
 replace hs:=PlainS.open hs
 refine CL2 0 ha hs (core_tick (hs.pick (CoreS B.core s.k)) hw.wc hnw) λad c a w ha hs=>?_
 refine RT 1 ha hs ?_
 exact⟨ad,c,rfl,(PlainS.fold hs B p ⟨(tickK s.k).2,s.g⟩).sub⟩
theorem plain_quit (hs:St W w (PlainS W B p s::L))(hw:WF' p s):Calls Tryz.prog 283 #[pt B.pb] w λr w'=>∃ ad c,r=.returned (.slice ad (quitK s.k).1.length c)∧St W w' (OwnMl 124 ad (quitK s.k).1.length c (quitK s.k).1::PlainS W B p ⟨(quitK s.k).2,s.g⟩::L):=by
 refine EN Tryz.func283 Tryz.ntmps283 rfl rfl λa ha=>?_
 refine CL 4 ha hs (plain_core hs) λa w ha hs=>?_
 replace hs:=PlainS.open hs
 refine CL2 0 ha hs (core_quit (hs.pick (CoreS B.core s.k)) hw.wc) λad c a w ha hs=>?_
 refine RT 1 ha hs ?_
 exact⟨ad,c,rfl,(PlainS.fold hs B p ⟨(quitK s.k).2,s.g⟩).sub⟩
theorem plain_events (hs:St W w (PlainS W B p s::L)):Calls Tryz.prog 281 #[pt B.pb] w λr w'=>∃ ad c,r=.returned (.slice ad s.k.ev.length c)∧St W w' (Sl 135 1 ad s.k.ev.length c (s.k.ev.map evV)::PlainS W B p ⟨{ s.k with ev:=[] },s.g⟩::L):=by
 refine EN Tryz.func281 Tryz.ntmps281 rfl rfl λa ha=>?_
 refine CL 4 ha hs (plain_core hs) λa w ha hs=>?_
 replace hs:=PlainS.open hs
 refine CL2 0 ha hs (core_events (hs.pick (CoreS B.core s.k))) λad c a w ha hs=>?_
 refine RT 1 ha hs ?_
 exact⟨ad,c,rfl,(PlainS.fold hs B p ⟨{ s.k with ev:=[] },s.g⟩).sub⟩
theorem plain_closed (hs:St W w (PlainS W B p s::L)):Calls Tryz.prog 141 #[pt B.pb] w λr w'=>r=.returned (.bool s.k.cl)∧St W w' (PlainS W B p s::L):=by
 refine EN Tryz.func141 Tryz.ntmps141 rfl rfl λa ha=>?_
 refine CL 4 ha hs (plain_core hs) λa w ha hs=>?_
 replace hs:=PlainS.open hs
 refine CL 0 ha hs (core_closed (hs.pick (CoreS B.core s.k))) λa w ha hs=>?_
 refine RT 1 ha hs ?_
 exact⟨rfl,(PlainS.fold hs B p s).sub⟩
theorem plain_confirmed (hs:St W w (PlainS W B p s::L))(hw:WF' p s):Calls Tryz.prog 273 #[pt B.pb] w λr w'=>∃ ad c,r=.returned (.tuple #[.slice ad 128 c,.int .i64 (confP s).2])∧St W w' (Sl 5 1 ad 128 c (bc (confP s).1)::PlainS W B p s::L):=by
 replace hs:=PlainS.open hs
 have hne:=hw.wc.lne
 have hl8:s.k.ls.length≤8:=by rw[hw.wc.ls];exact hw.wc.n.2
 refine EN Tryz.func273 Tryz.ntmps273 rfl rfl λa ha=>?_
 refine RN 7 ha hs λa ha=>?_
 replace ha:=ha.isF 5
 refine DWC 2 (λw0 w'=>Rd w' B.pb 0 (plC p B s.g)) [4,8] [0,1,2,5,6,7,3003,3008,1004,1009,1010,11,12] ha hs λa w ha hs hH=>?_
 have hC:=hH.at w (hs.rdAll (b:=B.pb))
 refine RH 6 ha hs hH hC λa ha=>?_
 refine QH ha (λw hc=>ex_loadN ha Tryz.underlying183 rfl Ty.t183 (plC_st hc)) hC λa ha=>?_
 refine QH ha (λw hc=>ld1 ha (hc 0 _ rfl)) hC λa ha=>?_
 refine RH 0 ha hs hH hC λa ha=>?_
 refine CL2 0 ha hs (state_encode hs) λad c a w ha hs=>?_
 replace hC:=hH.at w (hs.rdAll (b:=B.pb))
 refine RH 0 ha hs hH hC λa ha=>?_
 refine CL 0 ha hs (core_queue (hs.pick (CoreS B.core s.k))) λa w ha hs=>?_
 obtain⟨D,hs,hD⟩:=CoreS.qu hs
 refine CL 0 ha hs (queue_front hs hne hl8) λa w ha hs=>?_
 refine RN 2 ha hs λa ha=>?_
 replace hs:=hD _ _ hs
 refine RT 0 ha hs ?_
 exact⟨ad,c,rfl,(PlainS.fold hs B p s).sub (M:=Sl 5 1 ad 128 c (bc (gameB s.g))::PlainS W B p s::L)⟩
theorem plain_display (hs:St W w (PlainS W B p s::L))(hw:WF' p s)(hpr:prOk p)(hsz:p.title.size≤1000000000)(hgs:mayGs B.gs):Calls Tryz.prog 276 #[pt B.pb] w λr w'=>∃ ad c,r=.returned (.tuple #[.slice ad 128 c,.int .i64 (dispG p B.gs s).2])∧St W w' (Sl 5 1 ad 128 c (bc (dispG p B.gs s).1)::PlainS W B p s::L):=by
 have hne:=hw.wc.lne
 have hl8:s.k.ls.length≤8:=by rw[hw.wc.ls];exact hw.wc.n.2
 have hhd:=hw.wc.headt
 have hfr:frontL s.k.ls≤headK s.k:=hw.wc.frontt
 refine EN Tryz.func276 Tryz.ntmps276 rfl rfl λa ha=>?_
 refine CL 5 ha hs (plain_core hs) λa w ha hs=>?_
 replace hs:=PlainS.open hs
 refine CL 0 ha hs (core_queue (hs.pick (CoreS B.core s.k))) λa w ha hs=>?_
 obtain⟨D,hs,hD⟩:=CoreS.qu hs
 refine CL 0 ha hs (queue_front hs hne hl8) λa w ha hs=>?_
 refine RN 1 ha hs λa ha=>?_
 replace hs:=(PlainS.fold (hD _ _ hs) B p s)
 refine RN 5 ha hs λa ha=>?_
 replace ha:=ha.isF 11
 refine RN 3 ha hs λa ha=>?_
 replace hs:=PlainS.open hs
 refine CL 1 ha hs (core_head (hs.pick (CoreS B.core s.k)) hw.wc) λa w ha hs=>?_
 replace hs:=(PlainS.fold hs B p s)
 refine IF 3 ha hs (λhc0 a ha=>?_) λhc0 a ha=>?_
 ·
  refine CL2 2 ha hs (plain_confirmed hs hw) λad c a w ha hs=>?_
  refine RT 4 ha hs ?_
  refine⟨ad,c,?_,?_⟩
  · rw[dispG,if_pos (by rw[frontK];omega)]
  · rw[dispG,if_pos (by rw[frontK];omega)];exact hs
 refine RN 1 ha hs λa ha=>?_
 replace hs:=PlainS.open hs
 refine DWC 0 (λw0 w'=>Rd w' B.pb 0 (plC p B s.g)) [7,12,13,17,21,22,23,24,25,29] [0,1,2,4,5,6,8,9,10,11,14,15,16,18,19,20,26,27,28,3003,3007,3012,3017,3021,3029,1013,1022,1023,1024,1025,1030,31,32] ha hs λa w ha hs hH=>?_
 have hC:=hH.at w (hs.rdAll (b:=B.pb))
 refine RH 19 ha hs hH hC λa ha=>?_
 refine QH ha (λw hc=>ex_loadN ha Tryz.underlying45 rfl Ty.t45 (plC_pr hc)) hC λa ha=>?_
 refine QH ha (λw hc=>ex_loadN ha Tryz.underlying183 rfl Ty.t183 (plC_st hc)) hC λa ha=>?_
 refine QH ha (λw hc=>ld1 ha (hc 0 _ rfl)) hC λa ha=>?_
 refine QH ha (λw hc=>ex_loadN ha Tryz.underlying186 rfl Ty.t186 (plC_by hc)) hC λa ha=>?_
 refine QH ha (λw hc=>ld1 ha (hc 0 _ rfl)) hC λa ha=>?_
 refine QH ha (λw hc=>ld1 ha (hc 0 _ rfl)) hC λa ha=>?_
 refine RH 0 ha hs hH hC λa ha=>?_
 refine CL 0 ha hs (core_queue (hs.pick (CoreS B.core s.k))) λa w ha hs=>?_
 replace hC:=hH.at w (hs.rdAll (b:=B.pb))
 refine RH 0 ha hs hH hC λa ha=>?_
 refine CL 0 ha hs (core_head (hs.pick (CoreS B.core s.k)) hw.wc) λa w ha hs=>?_
 replace hC:=hH.at w (hs.rdAll (b:=B.pb))
 obtain⟨D,hs,hD⟩:=CoreS.qu hs
 refine RH 0 ha hs hH hC λa ha=>?_
 refine CL3 0 ha hs (guess_ahead (r:=0) (to:=headK s.k) (.inl rfl) (by decide) hs hgs hne hl8 hw.wc.ln hhd (λw' hw'=>(hw'.pick (Sl 5 1 B.adT B.gs.table.length B.cT (bc B.gs.table))).rdB B.adT _ rfl rfl)) λadh ch X a w ha ⟨⟨hFX,hX⟩,hs⟩=>?_
 replace hC:=hH.at w (hs.rdAll (b:=B.pb))
 have hXf:=hX rfl
 subst hXf
 rw[aheadX_full]at hs
 have hall:(aheadL B.gs s.k.ls (headK s.k)).length=headK s.k-frontL s.k.ls:=aheadL_len _ _ _
 have hal1:∀ b∈aheadL B.gs s.k.ls (headK s.k),b.length≤1099511627776:=λb hb=>by
   rw[aheadL,List.mem_map]at hb
   obtain⟨i,_,rfl⟩:=hb
   rw[jointL_len,fullL,List.length_map];omega
 obtain⟨zs,hz1,hz2,hs⟩:=OwnBB.open hs
 rw[← hall]at ha hs
 refine RH 0 ha hs hH hC λa ha=>?_
 refine CL 0 ha hs (fold_from (P:=aheadL B.gs s.k.ls (headK s.k)) (zs:=zs) (fr:=frontL s.k.ls) (L:=Sl 22 1 adh (aheadL B.gs s.k.ls (headK s.k)).length ch (zs.map bbv)::All bbo zs::Qu B.core.qb B.core.lbs s.k.ls::D::blk B.pb 192 (plC p B s.g)::Sl 5 1 B.adT B.gs.table.length B.cT (bc B.gs.table)::L) (hs.sub (M:=RoP W p B.adO B.cO::Sl 22 1 adh (aheadL B.gs s.k.ls (headK s.k)).length ch (zs.map bbv)::All bbo zs::Qu B.core.qb B.core.lbs s.k.ls::D::blk B.pb 192 (plC p B s.g)::Sl 5 1 B.adT B.gs.table.length B.cT (bc B.gs.table)::L)) hpr hsz (hw.gok hpr) ⟨by omega,hal1⟩ (by omega) hz1 (λw' hw'=>St.rdX (hw'.sub (M:=Sl 22 1 adh (aheadL B.gs s.k.ls (headK s.k)).length ch (zs.map bbv)::All bbo zs::[])))) λa w ha hs=>?_
 replace hC:=hH.at w (hs.rdAll (b:=B.pb))
 refine RH 0 ha hs hH hC λa ha=>?_
 refine CL2 0 ha hs (state_encode hs) λad2 c2 a w ha hs=>?_
 replace hC:=hH.at w (hs.rdAll (b:=B.pb))
 replace hs:=hD _ _ (hs.sub (M:=Qu B.core.qb B.core.lbs s.k.ls::D::Sl 5 1 ad2 128 c2 (bc (gameB (foldI p (frontL s.k.ls) s.g (aheadL B.gs s.k.ls (headK s.k)))))::blk B.pb 192 (plC p B s.g)::RoP W p B.adO B.cO::Sl 5 1 B.adT B.gs.table.length B.cT (bc B.gs.table)::L))
 refine RH 0 ha hs hH hC λa ha=>?_
 refine CL 0 ha hs (core_head hs hw.wc) λa w ha hs=>?_
 refine RN 2 ha hs λa ha=>?_
 refine RT 0 ha hs ?_
 refine⟨ad2,c2,?_,?_⟩
 · rw[dispG,if_neg (by rw[frontK];omega)]
 · rw[dispG,if_neg (by rw[frontK];omega)]
   exact (PlainS.fold hs B p s).sub (M:=Sl 5 1 ad2 128 c2 (bc (gameB (foldI p (frontL s.k.ls) s.g (aheadL B.gs s.k.ls (headK s.k)))))::PlainS W B p s::L)
end
theorem mayCf_nat {cf:Cf}(h:mayCf cf):∃ (n me delay window:Nat),cf=⟨n,me,cf.id,delay,window,cf.guess,cf.order,cf.branches,cf.workers,cf.room⟩:=by
 obtain⟨⟨h1,h2,h3⟩,⟨h4,h5,h6,h7⟩,h8,h9,h10,h11⟩:=h
 simp only[inI] at *
 refine⟨cf.n.toNat,cf.me.toNat,cf.delay.toNat,cf.window.toNat,?_⟩
 rw[Int.toNat_of_nonneg (by omega),Int.toNat_of_nonneg (by omega),Int.toNat_of_nonneg (by omega),Int.toNat_of_nonneg (by omega)]
section
variable {W w:World}{L:List SP}{cP cT n me delay window:Nat}{adP adT:Option Addr}{p:Pr}{tb:List UInt8}{cf:Cf}{id guess order branches workers room:Int}
theorem plain_new_no1 (hs:St W w (RoP W p adP cP::L))(h:¬ mayCf cf)(htl:tb.length≤1099511627776)(hT:∀ w',St W w' (RoP W p adP cP::L)→RdB w' adT tb.length tb) :
   Calls Tryz.prog 60 #[.agg (cfC cf).toArray,.agg (prV p adP cP).toArray,.slice adT tb.length cT] w λr w'=>r=.returned (.tuple #[.pointer none,.int .i64 1])∧St W w' (RoP W p adP cP::L):=by
 refine EN Tryz.func60 Tryz.ntmps60 rfl rfl λa ha=>?_
 refine BX 1 ha hs λb3 a w ha hs=>?_
 change St W w (blk b3 28 (cfC cf)::_) at hs
 refine BX 0 ha hs λb4 a w ha hs=>?_
 change St W w (blk b4 45 (prV p adP cP)::_) at hs
 refine RN 2 ha hs λa ha=>?_
 refine wp_seq_cut (M:=λa w=>∃ (b8:Nat) (ad5:Option Addr) (c5:Nat),Fr a 48 [(3,pt b3),(4,pt b4),(8,pt b8)]∧St W w (blk b8 186 (gsC ⟨cf.guess,cf.order,tb⟩ ad5 c5)::Sl 5 1 ad5 tb.length c5 (bc tb)::blk b3 28 (cfC cf)::blk b4 45 (prV p adP cP)::RoP W p adP cP::L)) ?_ ?_
 ·
  refine DWC 0 (λw0 w'=>Rd w' b3 0 (cfC cf)) [3,5,7] [0,2,4,3001,3003,2005,6,1007,1008] ha hs λa w ha hs hH=>?_
  have hC:=hH.at w (hs.rdAll (b:=b3))
  refine RH 3 ha hs hH hC λa ha=>?_
  refine QH ha (λw hc=>ld1 ha (hc 5 _ rfl)) hC λa ha=>?_
  refine QH ha (λw hc=>ld1 ha (hc 6 _ rfl)) hC λa ha=>?_
  refine RH 0 ha hs hH hC λa ha=>?_
  refine DN [(5,[6,1007,1008]),(7,[1005,6,1008])] (by kernel_rfl) rfl ⟨⟨_,rfl,?_⟩,⟨_,rfl,?_⟩,trivial⟩
  ·
   refine RH 0 ha hs hH hC λa ha=>?_
   refine CL2 0 ha hs (bytes_clone (bs:=tb) hs (λw' hw=>hT w' hw.sub) htl) λad5 c5 a w ha hs=>?_
   replace hC:=hH.at w (hs.rdAll (b:=b3))
   refine RH 1 ha hs hH hC λa ha=>?_
   refine st_alloc ha rfl hs Ty.t186 rfl λb8 a w ha hs ho=>?_
   clear ho
   replace hC:=hH.at w (hs.rdAll (b:=b3))
   refine RH 0 ha hs hH hC λa ha=>?_
   refine SA 0 ha hs λa w ha hs=>?_
   refine RN 0 ha hs λa ha=>?_
   exact⟨_,ad5,c5,ha.keep [3,4,8],hs.sub (M:=blk b8 186 [.int .i64 cf.guess,.int .i64 cf.order,.slice ad5 tb.length c5]::Sl 5 1 ad5 tb.length c5 (bc tb)::blk b3 28 (cfC cf)::blk b4 45 (prV p adP cP)::RoP W p adP cP::L)⟩
  refine RH 0 ha hs hH hC λa ha=>?_
  refine st_alloc ha rfl hs Ty.t186 rfl λb8 a w ha hs ho=>?_
  clear ho
  replace hC:=hH.at w (hs.rdAll (b:=b3))
  refine RH 0 ha hs hH hC λa ha=>?_
  refine CL2 0 ha hs (bytes_clone (bs:=tb) hs (λw' hw=>hT w' hw.sub) htl) λad5 c5 a w ha hs=>?_
  replace hC:=hH.at w (hs.rdAll (b:=b3))
  refine RH 1 ha hs hH hC λa ha=>?_
  refine SA 0 ha hs λa w ha hs=>?_
  refine RN 0 ha hs λa ha=>?_
  exact⟨_,ad5,c5,ha.keep [3,4,8],hs.sub (M:=blk b8 186 [.int .i64 cf.guess,.int .i64 cf.order,.slice ad5 tb.length c5]::Sl 5 1 ad5 tb.length c5 (bc tb)::blk b3 28 (cfC cf)::blk b4 45 (prV p adP cP)::RoP W p adP cP::L)⟩
 clear ha;(try clear hs)
 rintro a w ⟨b8,ad5,c5,ha,hs⟩
 refine CL 2 ha hs (core_new_no hs h) λa w ha hs=>?_
 refine RN 9 ha hs λa ha=>?_
 rw[show decide ((1:Int)≠0)=true from rfl]at ha
 refine RN 1 ha hs λa ha=>?_
 replace ha:=ha.isT 26
 refine RT 13 ha hs ?_
 exact⟨rfl,hs.sub⟩
theorem plain_new_no2 (hs:St W w (RoP W p adP cP::L))(hm:mayCf ⟨n,me,id,delay,window,guess,order,branches,workers,room⟩)(h:¬ (prOk p∧mayGs ⟨guess,order,tb⟩))(hsz:p.title.size≤1000000000)(hol:p.ops.length≤1000000000)(htl:tb.length≤1099511627776)(hT:∀ w',St W w' (RoP W p adP cP::L)→RdB w' adT tb.length tb) :
   Calls Tryz.prog 60 #[.agg (cfC ⟨n,me,id,delay,window,guess,order,branches,workers,room⟩).toArray,.agg (prV p adP cP).toArray,.slice adT tb.length cT] w λr w'=>r=.returned (.tuple #[.pointer none,.int .i64 1])∧St W w' (RoP W p adP cP::L):=by
 obtain⟨cf,hcf⟩:∃ cf:Cf,cf=⟨n,me,id,delay,window,guess,order,branches,workers,room⟩:=⟨_,rfl⟩
 rw[← hcf]
 have hg:cf.guess=guess∧cf.order=order:=by rw[hcf];exact⟨rfl,rfl⟩
 refine EN Tryz.func60 Tryz.ntmps60 rfl rfl λa ha=>?_
 refine BX 1 ha hs λb3 a w ha hs=>?_
 change St W w (blk b3 28 (cfC cf)::_) at hs
 refine BX 0 ha hs λb4 a w ha hs=>?_
 change St W w (blk b4 45 (prV p adP cP)::_) at hs
 refine RN 2 ha hs λa ha=>?_
 refine wp_seq_cut (M:=λa w=>∃ (b8:Nat) (ad5:Option Addr) (c5:Nat),Fr a 48 [(3,pt b3),(4,pt b4),(8,pt b8)]∧St W w (blk b8 186 (gsC ⟨cf.guess,cf.order,tb⟩ ad5 c5)::Sl 5 1 ad5 tb.length c5 (bc tb)::blk b3 28 (cfC cf)::blk b4 45 (prV p adP cP)::RoP W p adP cP::L)) ?_ ?_
 ·
  refine DWC 0 (λw0 w'=>Rd w' b3 0 (cfC cf)) [3,5,7] [0,2,4,3001,3003,2005,6,1007,1008] ha hs λa w ha hs hH=>?_
  have hC:=hH.at w (hs.rdAll (b:=b3))
  refine RH 3 ha hs hH hC λa ha=>?_
  refine QH ha (λw hc=>ld1 ha (hc 5 _ rfl)) hC λa ha=>?_
  refine QH ha (λw hc=>ld1 ha (hc 6 _ rfl)) hC λa ha=>?_
  refine RH 0 ha hs hH hC λa ha=>?_
  refine DN [(5,[6,1007,1008]),(7,[1005,6,1008])] (by kernel_rfl) rfl ⟨⟨_,rfl,?_⟩,⟨_,rfl,?_⟩,trivial⟩
  ·
   refine RH 0 ha hs hH hC λa ha=>?_
   refine CL2 0 ha hs (bytes_clone (bs:=tb) hs (λw' hw=>hT w' hw.sub) htl) λad5 c5 a w ha hs=>?_
   replace hC:=hH.at w (hs.rdAll (b:=b3))
   refine RH 1 ha hs hH hC λa ha=>?_
   refine st_alloc ha rfl hs Ty.t186 rfl λb8 a w ha hs ho=>?_
   clear ho
   replace hC:=hH.at w (hs.rdAll (b:=b3))
   refine RH 0 ha hs hH hC λa ha=>?_
   refine SA 0 ha hs λa w ha hs=>?_
   refine RN 0 ha hs λa ha=>?_
   exact⟨_,ad5,c5,ha.keep [3,4,8],hs.sub (M:=blk b8 186 [.int .i64 cf.guess,.int .i64 cf.order,.slice ad5 tb.length c5]::Sl 5 1 ad5 tb.length c5 (bc tb)::blk b3 28 (cfC cf)::blk b4 45 (prV p adP cP)::RoP W p adP cP::L)⟩
  refine RH 0 ha hs hH hC λa ha=>?_
  refine st_alloc ha rfl hs Ty.t186 rfl λb8 a w ha hs ho=>?_
  clear ho
  replace hC:=hH.at w (hs.rdAll (b:=b3))
  refine RH 0 ha hs hH hC λa ha=>?_
  refine CL2 0 ha hs (bytes_clone (bs:=tb) hs (λw' hw=>hT w' hw.sub) htl) λad5 c5 a w ha hs=>?_
  replace hC:=hH.at w (hs.rdAll (b:=b3))
  refine RH 1 ha hs hH hC λa ha=>?_
  refine SA 0 ha hs λa w ha hs=>?_
  refine RN 0 ha hs λa ha=>?_
  exact⟨_,ad5,c5,ha.keep [3,4,8],hs.sub (M:=blk b8 186 [.int .i64 cf.guess,.int .i64 cf.order,.slice ad5 tb.length c5]::Sl 5 1 ad5 tb.length c5 (bc tb)::blk b3 28 (cfC cf)::blk b4 45 (prV p adP cP)::RoP W p adP cP::L)⟩
 clear ha;(try clear hs)
 rintro a w ⟨b8,ad5,c5,ha,hs⟩
 refine RN 2 ha hs λa ha=>?_
 rw[hcf]at ha
 refine CL1 0 ha hs (core_new hs hm) λBc a w ha hs=>?_
 refine RN 9 ha hs λa ha=>?_
 rw[show decide ((0:Int)≠0)=false from rfl]at ha
 refine RN 1 ha hs λa ha=>?_
 replace ha:=ha.isF 26
 refine CL1 1 ha hs (checkMay_spec (hs.pick (RoP W p adP cP)) hsz hol) λrc a w ha ⟨hrc,hs⟩=>?_
 refine BY 3 ha hs (λhg7 a ha=>?_) λhg7 a ha=>?_
 ·
  refine RT 8 ha hs ?_
  exact⟨rfl,hs.sub⟩
 refine CL1 1 ha hs (pred_may hs) λrp a w ha ⟨hrp,hs⟩=>?_
 refine IF 2 ha hs (λhc0 a ha=>?_) λhc0 a ha=>?_
 ·
  refine RT 3 ha hs ?_
  exact⟨rfl,hs.sub⟩
 exact absurd ⟨hrc.1 hg7,by have:=hrp.1 hc0;rw[hg.1,hg.2]at this;exact this⟩ h
theorem plain_new (hs:St W w (RoP W p adP cP::L))(hm:mayCf ⟨n,me,id,delay,window,guess,order,branches,workers,room⟩)(hpr:prOk p)(hgs:mayGs ⟨guess,order,tb⟩)(hsz:p.title.size≤1000000000)(hol:p.ops.length≤1000000000)(htl:tb.length≤1099511627776)(hT:∀ w',St W w' (RoP W p adP cP::L)→RdB w' adT tb.length tb) :
   Calls Tryz.prog 60 #[.agg (cfC ⟨n,me,id,delay,window,guess,order,branches,workers,room⟩).toArray,.agg (prV p adP cP).toArray,.slice adT tb.length cT] w λr w'=>∃ B:PlB,r=.returned (.tuple #[pt B.pb,.int .i64 0])∧B.gs=⟨guess,order,tb⟩ ∧
     St W w' (PlainS W B p (newP p ⟨n,me,id,delay,window,guess,order,branches,workers,room⟩)::RoP W p adP cP::L):=by
 obtain⟨cf,hcf⟩:∃ cf:Cf,cf=⟨n,me,id,delay,window,guess,order,branches,workers,room⟩:=⟨_,rfl⟩
 rw[← hcf]
 have hg:cf.guess=guess∧cf.order=order:=by rw[hcf];exact⟨rfl,rfl⟩
 have hopl:1≤p.ops.length∧p.ops.length≤64:=⟨hpr.1.2.1,hpr.1.2.2.1⟩
 refine EN Tryz.func60 Tryz.ntmps60 rfl rfl λa ha=>?_
 refine BX 1 ha hs λb3 a w ha hs=>?_
 change St W w (blk b3 28 (cfC cf)::_) at hs
 refine BX 0 ha hs λb4 a w ha hs=>?_
 change St W w (blk b4 45 (prV p adP cP)::_) at hs
 refine RN 2 ha hs λa ha=>?_
 refine wp_seq_cut (M:=λa w=>∃ (b8:Nat) (ad5:Option Addr) (c5:Nat),Fr a 48 [(3,pt b3),(4,pt b4),(8,pt b8)]∧St W w (blk b8 186 (gsC ⟨cf.guess,cf.order,tb⟩ ad5 c5)::Sl 5 1 ad5 tb.length c5 (bc tb)::blk b3 28 (cfC cf)::blk b4 45 (prV p adP cP)::RoP W p adP cP::L)) ?_ ?_
 ·
  refine DWC 0 (λw0 w'=>Rd w' b3 0 (cfC cf)) [3,5,7] [0,2,4,3001,3003,2005,6,1007,1008] ha hs λa w ha hs hH=>?_
  have hC:=hH.at w (hs.rdAll (b:=b3))
  refine RH 3 ha hs hH hC λa ha=>?_
  refine QH ha (λw hc=>ld1 ha (hc 5 _ rfl)) hC λa ha=>?_
  refine QH ha (λw hc=>ld1 ha (hc 6 _ rfl)) hC λa ha=>?_
  refine RH 0 ha hs hH hC λa ha=>?_
  refine DN [(5,[6,1007,1008]),(7,[1005,6,1008])] (by kernel_rfl) rfl ⟨⟨_,rfl,?_⟩,⟨_,rfl,?_⟩,trivial⟩
  ·
   refine RH 0 ha hs hH hC λa ha=>?_
   refine CL2 0 ha hs (bytes_clone (bs:=tb) hs (λw' hw=>hT w' hw.sub) htl) λad5 c5 a w ha hs=>?_
   replace hC:=hH.at w (hs.rdAll (b:=b3))
   refine RH 1 ha hs hH hC λa ha=>?_
   refine st_alloc ha rfl hs Ty.t186 rfl λb8 a w ha hs ho=>?_
   clear ho
   replace hC:=hH.at w (hs.rdAll (b:=b3))
   refine RH 0 ha hs hH hC λa ha=>?_
   refine SA 0 ha hs λa w ha hs=>?_
   refine RN 0 ha hs λa ha=>?_
   exact⟨_,ad5,c5,ha.keep [3,4,8],hs.sub (M:=blk b8 186 [.int .i64 cf.guess,.int .i64 cf.order,.slice ad5 tb.length c5]::Sl 5 1 ad5 tb.length c5 (bc tb)::blk b3 28 (cfC cf)::blk b4 45 (prV p adP cP)::RoP W p adP cP::L)⟩
  refine RH 0 ha hs hH hC λa ha=>?_
  refine st_alloc ha rfl hs Ty.t186 rfl λb8 a w ha hs ho=>?_
  clear ho
  replace hC:=hH.at w (hs.rdAll (b:=b3))
  refine RH 0 ha hs hH hC λa ha=>?_
  refine CL2 0 ha hs (bytes_clone (bs:=tb) hs (λw' hw=>hT w' hw.sub) htl) λad5 c5 a w ha hs=>?_
  replace hC:=hH.at w (hs.rdAll (b:=b3))
  refine RH 1 ha hs hH hC λa ha=>?_
  refine SA 0 ha hs λa w ha hs=>?_
  refine RN 0 ha hs λa ha=>?_
  exact⟨_,ad5,c5,ha.keep [3,4,8],hs.sub (M:=blk b8 186 [.int .i64 cf.guess,.int .i64 cf.order,.slice ad5 tb.length c5]::Sl 5 1 ad5 tb.length c5 (bc tb)::blk b3 28 (cfC cf)::blk b4 45 (prV p adP cP)::RoP W p adP cP::L)⟩
 clear ha;(try clear hs)
 rintro a w ⟨b8,ad5,c5,ha,hs⟩
 refine RN 2 ha hs λa ha=>?_
 rw[hcf]at ha
 refine CL1 0 ha hs (core_new hs hm) λBc a w ha hs=>?_
 rw[← hcf]at hs
 refine RN 9 ha hs λa ha=>?_
 rw[show decide ((0:Int)≠0)=false from rfl]at ha
 refine RN 1 ha hs λa ha=>?_
 replace ha:=ha.isF 26
 refine CL1 1 ha hs (checkMay_spec (hs.pick (RoP W p adP cP)) hsz hol) λrc a w ha ⟨hrc,hs⟩=>?_
 rw[hrc.2 hpr]at ha
 refine RN 1 ha hs λa ha=>?_
 rw[show (!true)=false from rfl]at ha
 refine RN 2 ha hs λa ha=>?_
 replace ha:=ha.isF 31
 refine CL1 1 ha hs (pred_may hs) λrp a w ha ⟨hrp,hs⟩=>?_
 rw[hrp.2 (by rw[hg.1,hg.2];exact hgs)]at ha
 refine RN 2 ha hs λa ha=>?_
 replace ha:=ha.isF 35
 refine RN 2 ha hs λa ha=>?_
 replace hs:=hs.sl0 114 4 none
 rw[prV]at hs
 refine RN 2 ha hs λa ha=>?_
 refine st_appendT ha rfl hs Tryz.underlying43 Ty.t114 rfl rfl (by decide) (λh0=>(hs.pick (RoP W p adP cP)).roRd adP h0) (by rw[rows_len opR_len]) (rows_one opR_one _) (by omega) λad38 c38 a w ha hs=>?_
 rw[List.nil_append,Nat.zero_add]at hs
 rw[Nat.zero_add]at ha
 refine ST 1 ha hs (λa w ha hs=>?_)
 refine RN 0 ha hs λa ha=>?_
 replace hs:St W w (blk b4 45 [.string p.title,.slice ad38 p.ops.length c38]::Sl 114 4 ad38 p.ops.length c38 (rows opR p.ops)::_):=hs
 refine RN 4 ha hs λa ha=>?_
 simp only[gsC]at ha
 refine BX 1 ha hs λb44 a w ha hs=>?_
 refine RN 1 ha hs λa ha=>?_
 replace hs:=(hs.pick (Sl 114 4 ad38 p.ops.length c38 (rows opR p.ops))).roSl
 replace hs:St W w (blk b44 192 (plC p ⟨b44,Bc,ad38,c38,ad5,c5,⟨cf.guess,cf.order,tb⟩⟩ zeroG)::CoreS Bc (newK cf)::RoP W p ad38 c38::Sl 5 1 ad5 tb.length c5 (bc tb)::RoP W p adP cP::L):=by
   have hs2:St W w (RoP W p ad38 c38::_):=hs
   have hs3:=hs2.bring b44
   exact St.sub (M:=_::CoreS Bc (newK cf)::RoP W p ad38 c38::Sl 5 1 ad5 tb.length c5 (bc tb)::RoP W p adP cP::L) (show St W w (blk b44 192 (plC p ⟨b44,Bc,ad38,c38,ad5,c5,⟨cf.guess,cf.order,tb⟩⟩ zeroG)::_) from hs3)
 replace hs:=PlainS.fold hs ⟨b44,Bc,ad38,c38,ad5,c5,⟨cf.guess,cf.order,tb⟩⟩ p ⟨newK cf,zeroG⟩
 refine CL 2 ha hs (plain_mark hs (newP_ok (by rw[hcf];exact hm)) hpr hsz) λa w ha hs=>?_
 refine RT 4 ha hs ?_
 exact⟨⟨b44,Bc,ad38,c38,ad5,c5,⟨cf.guess,cf.order,tb⟩⟩,rfl,by rw[hg.1,hg.2],hs⟩
end
end
end Go.Proofs.YteoldcfapaiobaaGreat
