/- quintainref21.Player. -/
import Derived.Test.YtdilfdkendjjhaaGreatP11RefC
import Derived.Test.YtdilfdkendjjhaaGreatP10MulM
import Derived.Test.YtdilfdkendjjhaaGreatP05RefP
import Derived.Test.YtdilfdkendjjhaaGreatP09Rank
namespace Go.Proofs.YtdilfdkendjjhaaGreat
open Go.RowKit
set_option linter.unusedVariables false
set_option linter.unusedSimpArgs false
set_option maxRecDepth 10000
set_option synthInstance.maxSize 4000
set_option synthInstance.maxHeartbeats 400000
section
structure RgB where
 pb:Nat
 core:RcB
 adO:Option Addr
 cO:Nat
 adT:Option Addr
 cT:Nat
 gs:Gs
abbrev rgC (p:Pr)(B:RgB)(g:Nat→Int):List Value:=[pt B.core.cb,.string p.title,.slice B.adO p.ops.length B.cO,.int .i64 B.gs.kind,.int .i64 B.gs.order,.slice B.adT B.gs.table.length B.cT]++ints .i32 32 g
theorem rgC_pr {w:World}{b:Nat}{p:Pr}{B:RgB}{g:Nat→Int}(h:Rd w b 0 (rgC p B g)):Rd w b 1 (prV p B.adO B.cO):=h.part 1 2
theorem rgC_by {w:World}{b:Nat}{p:Pr}{B:RgB}{g:Nat→Int}(h:Rd w b 0 (rgC p B g)):Rd w b 3 (gsC B.gs B.adT B.cT):=h.part 3 3
theorem rgC_st {w:World}{b:Nat}{p:Pr}{B:RgB}{g:Nat→Int}(h:Rd w b 0 (rgC p B g)):Rd w b 6 (ints .i32 32 g):=by
 have h1:=h.part 6 32
 rwa [show ((rgC p B g).drop 6).take 32=ints .i32 32 g from by
   show (ints .i32 32 g).take 32=_
   exact List.take_of_length_le (by rw[ints_len];exact Nat.le_refl _)]at h1
theorem rgC_len (p:Pr)(B:RgB)(g:Nat→Int):(rgC p B g).length=38:=by rw[rgC,List.length_append,ints_len];rfl
theorem rgC_set (p:Pr)(B:RgB)(g g':Nat→Int):splice (rgC p B g) 6 (ints .i32 32 g')=rgC p B g':=by
 rw[splice,ints_len,List.drop_eq_nil_of_le (by rw[rgC_len];exact Nat.le_refl _),List.append_nil,rgC,rgC]
 congr 1
def RefG (W:World)(B:RgB)(p:Pr)(s:Pl):SP:=λh=>sepL [blk B.pb 65 (rgC p B s.g),RefS B.core s.k,RoP W p B.adO B.cO] h
section
variable {W w:World}{L R:List SP}{n c i cP cT:Nat}{ad adP adT:Option Addr}{B:RgB}{x:UInt8}{p:Pr}{s:Pl}{bs tb:List UInt8}{k:Ks}{C:RcB}{A:RcA}
theorem RefG.open (hs:St W w (RefG W B p s::L)):St W w (blk B.pb 65 (rgC p B s.g)::RefS B.core s.k::RoP W p B.adO B.cO::L) :=
 hs.open (M:=[_,_,_]) λ_ h=>h
theorem RefG.fold (hs:St W w L)(B:RgB)(p:Pr)(s:Pl)[kk:Arr L [blk B.pb 65 (rgC p B s.g),RefS B.core s.k,RoP W p B.adO B.cO] R]:St W w (RefG W B p s::R) :=
 St.shut (M:=[_,_,_]) (hs.perm kk.perm) λ_ h=>h
theorem ref_frontA (hs:St W w (RLn C.lb C.lo C.cL k.ls::blk C.cb 83 (rcC k C A)::L))(hk:WC k):Calls Tryz.prog 64 #[pt C.cb] w λr w'=>r=.returned (.int .i64 (frontK k))∧St W w' (RLn C.lb C.lo C.cL k.ls::blk C.cb 83 (rcC k C A)::L):=by
 have hn:=hk.n
 have hls:=hk.ls
 refine EN Tryz.func64 Tryz.ntmps64 rfl rfl λa ha=>?_
 refine RN 7 ha hs λa ha=>?_
 obtain⟨xs,hxs,hs⟩:=RLn.open hs
 have hxl:xs.length=k.ls.length:=by rw[← hxs,prx_len]
 rw[← hxl]at ha
 refine CL 0 ha hs (ref_front (xs:=xs) hs (by omega) (by omega) (λw' hw=>St.rdXe hw)) λa w ha hs=>?_
 refine RT 1 ha hs ?_
 exact⟨by rw[hxs];rfl,RLn.close hs hxs⟩
theorem ref_plays (hs:St W w (RefG W B p s::L))(hw:WP p s)(hpr:prOk p)(hsz:p.title.size≤1000000000):Calls Tryz.prog 60 #[pt B.pb] w λr w'=>r=.returned (.tuple #[])∧St W w' (RefG W B p (playP p s)::L):=by
 refine EN Tryz.func60 Tryz.ntmps60 rfl rfl λa ha=>?_
 refine RN 0 ha hs λa ha=>?_
 refine wp_loop_ghost (λμ a w=>∃ (i:Nat),(μ=frontK s.k-s.k.mr.length-i∧i≤frontK s.k-s.k.mr.length)∧Fr a 60 [(0,pt B.pb)]∧St W w (RefG W B p (playN p i s)::L)) (frontK s.k-s.k.mr.length) (⟨0,⟨rfl,by omega⟩,ha.keep [0],hs⟩) ?_
 clear ha hs
 rintro μ a w ⟨i,⟨rfl,hi⟩,ha,hs⟩
 obtain⟨hwi,hls,hml⟩:=hw.play i hi
 have hnx:playN p (i+1) s=play1 p (playN p i s):=playN_succ p i s
 have hlow:=hw.low
 have hfe:frontK (playN p i s).k=frontK s.k:=by rw[frontK,hls];rfl
 generalize hsi:playN p i s=si at hs hwi hls hml hnx hfe
 replace hs:=RefG.open hs
 have hne:=hwi.wc.lne
 have hl8:si.k.ls.length≤8:=by rw[hwi.wc.ls];exact hwi.wc.n.2
 have hl0:0<si.k.ls.length:=by rw[hwi.wc.ls];have:=hwi.wc.n;omega
 have hfr1:frontK si.k≤1000:=Nat.le_trans hwi.wc.frontt hwi.wc.headt
 obtain⟨A,hs⟩:=RefS.open (hs.pick (RefS B.core si.k))
 refine DWC 2 (λw0 w'=>Rd w' B.pb 0 (rgC p B si.g)∧Rd w' B.core.cb 0 (rcC si.k B.core A)) [11,12] [0,1,2,8,9,10,3003,4,5,3006,7,1011,1012,13] ha hs λa w ha hs hH=>?_
 have hC:=hH.at w ⟨hs.rdAll (b:=B.pb),hs.rdAll (b:=B.core.cb)⟩
 refine RH 6 ha hs hH hC λa ha=>?_
 refine QH ha (λw hc=>ld1 ha (hc.1 0 _ rfl)) hC λa ha=>?_
 refine RH 2 ha hs hH hC λa ha=>?_
 refine QH ha (λw hc=>ld1 ha (hc.2 16 _ rfl)) hC λa ha=>?_
 refine RH 1 ha hs hH hC λa ha=>?_
 refine SS ha (ld1 ha (hC.1 0 _ rfl)) λa ha=>?_
 refine RH 0 ha hs hH hC λa ha=>?_
 refine CL 0 ha hs (ref_frontA ((hs.pick (blk B.core.cb 83 (rcC si.k B.core A))).pick (RLn B.core.lb B.core.lo B.core.cL si.k.ls)) hwi.wc) λa w ha hs=>?_
 replace hC:=hH.at w ⟨hs.rdAll (b:=B.pb),hs.rdAll (b:=B.core.cb)⟩
 refine RH 1 ha hs hH hC λa ha=>?_
 refine IF 0 ha hs (λhc0 a ha=>?_) λhc0 a ha=>?_
 ·
  have hmf:si.k.mr.length<frontL si.k.ls:=by
    have:frontL si.k.ls=frontK si.k:=rfl
    omega
  have hmf2:si.k.mr.length<frontK si.k:=hmf
  refine RN 11 ha hs λa ha=>?_
  obtain⟨xs,hxs,hs⟩:=RLn.open (hs.pick (RLn B.core.lb B.core.lo B.core.cL si.k.ls))
  have hxl:xs.length=si.k.ls.length:=by rw[← hxs,prx_len]
  have hjl:=jointL_len si.k.ls si.k.mr.length
  refine DWC 0 (λw0 w'=>Rd w' B.pb 0 (rgC p B si.g)∧Rd w' B.core.cb 0 (rcC si.k B.core A)) [8,13,14,15,16,18] [0,1,2,3,5,6,7,9,10,11,12,17,3004,3008,1013,1014,1015,1016,1018,1019,20,21,22,23,24,1025] ha hs λa w ha hs hH=>?_
  have hC:=hH.at w ⟨hs.rdAll (b:=B.pb),hs.rdAll (b:=B.core.cb)⟩
  refine RH 12 ha hs hH hC λa ha=>?_
  refine QH ha (λw hc=>ex_loadN ha Tryz.underlying34 rfl Ty.t34 (rgC_pr hc.1)) hC λa ha=>?_
  refine QH ha (λw hc=>ex_loadN ha Tryz.underlying63 rfl Ty.t63 (rgC_st hc.1)) hC λa ha=>?_
  refine RH 0 ha hs hH hC λa ha=>?_
  refine SS ha (ld1 ha (hC.1 0 _ rfl)) λa ha=>?_
  refine RH 2 ha hs hH hC λa ha=>?_
  refine SS ha (ld1 ha (hC.2 10 _ rfl)) λa ha=>?_
  rw[← hxl]at ha
  refine RH 0 ha hs hH hC λa ha=>?_
  refine CL2 0 ha hs (ref_joint (xs:=xs) (f:=si.k.mr.length) hs (by omega) (by omega) (λw' hw=>St.rdXe hw) (by rw[hxs];exact hmf)) λadj cj a w ha hs=>?_
  replace hC:=hH.at w ⟨hs.rdAll (b:=B.pb),hs.rdAll (b:=B.core.cb)⟩
  rw[hxs]at ha hs
  refine RH 0 ha hs hH hC λa ha=>?_
  refine CL1 0 ha hs (refStep_spec (b:=jointL si.k.ls si.k.mr.length) (fr:=si.k.mr.length) (hs.pick (RoP W p B.adO B.cO)) hpr hsz (hwi.gok hpr) (by omega) (by omega) (λw' hw=>(hw.pick (Sl 5 1 adj (jointL si.k.ls si.k.mr.length).length cj (bc (jointL si.k.ls si.k.mr.length)))).rdB adj _ rfl rfl)) λnst a w ha ⟨hgk,hs⟩=>?_
  refine RN 5 ha hs λa ha=>?_
  refine st_storeN ha rfl hs Ty.t63 ints_one (by rw[ints_len,rgC_len];decide) λa w ha hs=>?_
  rw[rgC_set]at hs
  refine RN 0 ha hs λa ha=>?_
  replace hs:=RLn.close (hs.sub (M:=Sl 128 1 (some ⟨B.core.lb,B.core.lo,none⟩) si.k.ls.length B.core.cL (xs.map bbv)::All bbo xs::blk B.pb 65 (rgC p B (frameI p si.k.mr.length (jointL si.k.ls si.k.mr.length) si.g))::RoP W p B.adO B.cO::blk B.core.cb 83 (rcC si.k B.core A)::blk B.core.hb 3 (heC si.k.ps)::blk B.core.ab 3 (haC si.k.ps)::blk B.core.wb 244 (rows wdC si.k.ps)::blk B.core.xb 4 (apC si.k.ps)::Sl 68 1 A.adM si.k.mr.length A.cM (mrC si.k.mr)::Sl 223 3 A.adE si.k.ev.length A.cE (rows rawC si.k.ev)::L)) hxs
  replace hs:=RefS.fold hs B.core si.k A
  refine DWC 0 (λw0 w'=>Rd w' B.pb 0 (rgC p B (frameI p si.k.mr.length (jointL si.k.ls si.k.mr.length) si.g))) [7,8] [0,1,2,4,5,6,3003,1007,1008,1009] ha hs λa w ha hs hH=>?_
  have hC:=hH.at w (hs.rdAll (b:=B.pb))
  refine RH 6 ha hs hH hC λa ha=>?_
  refine QH ha (λw hc=>ld1 ha (hc 0 _ rfl)) hC λa ha=>?_
  refine RH 0 ha hs hH hC λa ha=>?_
  refine SS ha (ex_loadN ha Tryz.underlying63 rfl Ty.t63 (rgC_st hC)) λa ha=>?_
  refine RH 0 ha hs hH hC λa ha=>?_
  refine CL 0 ha hs (refSumOf_spec hs) λa w ha hs=>?_
  replace hC:=hH.at w (hs.rdAll (b:=B.pb))
  refine RH 0 ha hs hH hC λa ha=>?_
  refine CL 0 ha hs (ref_mark (hs.pick (RefS B.core si.k)) hwi.wc (by omega) (crcSum_lt _)) λa w ha hs=>?_
  refine RN 0 ha hs λa ha=>?_
  exact⟨frontK s.k-s.k.mr.length-(i+1),by omega,i+1,⟨rfl,by omega⟩,ha.keep [0],by
    rw[hnx]
    show St W w (RefG W B p ⟨markK si.k (crcSum (gameB (frameI p si.k.mr.length (jointL si.k.ls si.k.mr.length) si.g))),frameI p si.k.mr.length (jointL si.k.ls si.k.mr.length) si.g⟩::L)
    exact (RefG.fold hs B p ⟨markK si.k (crcSum (gameB (frameI p si.k.mr.length (jointL si.k.ls si.k.mr.length) si.g))),frameI p si.k.mr.length (jointL si.k.ls si.k.mr.length) si.g⟩).sub⟩
 refine RT 0 ha hs ?_
 obtain rfl:i=frontK s.k-s.k.mr.length:=by
   have:frontL si.k.ls=frontK si.k:=rfl
   omega
 refine⟨rfl,?_⟩
 rw[playP,hsi]
 exact (RefG.fold (RefS.fold hs B.core si.k A) B p si).sub
theorem refP_press (hs:St W w (RefG W B p s::L))(hw:WF' p s)(hpr:prOk p)(hsz:p.title.size≤1000000000):Calls Tryz.prog 21 #[pt B.pb,.int .u8 (x.toNat:Nat)] w λr w'=>r=.returned (.int .i64 (pressP p x s).1)∧St W w' (RefG W B p (pressP p x s).2::L):=by
 have h1:=press_ext x s.k
 have hwp:=hw.toWP.more (hw.wc.press x) (hw.held.press x) h1.1 h1.2
 replace hs:=RefG.open hs
 refine EN Tryz.func21 Tryz.ntmps21 rfl rfl λa ha=>?_
 refine CL 8 ha hs (ref_press (x:=x) (hs.pick (RefS B.core s.k)) hw.wc) λa w ha hs=>?_
 refine RN 1 ha hs λa ha=>?_
 replace hs:=RefG.fold hs B p ⟨(pressK x s.k).2,s.g⟩
 refine CL 2 ha hs (ref_plays hs hwp hpr hsz) λa w ha hs=>?_
 refine RT 3 ha hs ?_
 exact⟨rfl,hs⟩
theorem refP_receive (hs:St W w (RefG W B p s::L))(hw:WF' p s)(hpr:prOk p)(hsz:p.title.size≤1000000000)(hb:bs.length≤65536)(hc:bs.length≤c)(hp:∀ w',St W w' L→RdB w' ad bs.length bs) :
   Calls Tryz.prog 36 #[pt B.pb,.slice ad bs.length c] w λr w'=>r=.returned (.int .i64 (recvP p bs s).1)∧St W w' (RefG W B p (recvP p bs s).2::L):=by
 have h1:=recv_ext bs s.k
 have hwp:=hw.toWP.more (hw.wc.recv bs).1 ((hw.wc.recv bs).2 hw.held) h1.1 h1.2
 replace hs:=RefG.open hs
 refine EN Tryz.func36 Tryz.ntmps36 rfl rfl λa ha=>?_
 refine CL 8 ha hs (ref_receive (bs:=bs) (ad:=ad) (c:=c) (hs.pick (RefS B.core s.k)) hw.wc hw.held hb hc (λw' hw'=>hp w' hw'.tail.tail)) λa w ha hs=>?_
 refine RN 1 ha hs λa ha=>?_
 replace hs:=RefG.fold hs B p ⟨(recvK bs s.k).2,s.g⟩
 refine CL 2 ha hs (ref_plays hs hwp hpr hsz) λa w ha hs=>?_
 refine RT 3 ha hs ?_
 exact⟨rfl,hs⟩
theorem refP_conf (hs:St W w (RefG W B p s::L))(hw:WF' p s):Calls Tryz.prog 62 #[pt B.pb] w λr w'=>∃ ad c,r=.returned (.tuple #[.slice ad 128 c,.int .i64 (confP s).2])∧St W w' (Sl 5 1 ad 128 c (bc (confP s).1)::RefG W B p s::L):=by
 replace hs:=RefG.open hs
 refine EN Tryz.func62 Tryz.ntmps62 rfl rfl λa ha=>?_
 refine DWC 4 (λw0 w'=>Rd w' B.pb 0 (rgC p B s.g)) [4,8] [0,1,2,5,6,7,3003,3008,1004,1009,10,11] ha hs λa w ha hs hH=>?_
 have hC:=hH.at w (hs.rdAll (b:=B.pb))
 refine RH 6 ha hs hH hC λa ha=>?_
 refine QH ha (λw hc=>ex_loadN ha Tryz.underlying63 rfl Ty.t63 (rgC_st hc)) hC λa ha=>?_
 refine QH ha (λw hc=>ld1 ha (hc 0 _ rfl)) hC λa ha=>?_
 refine RH 0 ha hs hH hC λa ha=>?_
 refine CL2 0 ha hs (refBytes_spec hs) λad c a w ha hs=>?_
 replace hC:=hH.at w (hs.rdAll (b:=B.pb))
 refine RH 0 ha hs hH hC λa ha=>?_
 refine CL 0 ha hs (ref_frontC (hs.pick (RefS B.core s.k)) hw.wc) λa w ha hs=>?_
 refine RN 2 ha hs λa ha=>?_
 refine RT 0 ha hs ?_
 exact⟨ad,c,rfl,(RefG.fold hs B p s).sub (M:=Sl 5 1 ad 128 c (bc (gameB s.g))::RefG W B p s::L)⟩
theorem ref_headA (hs:St W w (RLn C.lb C.lo C.cL k.ls::blk C.cb 83 (rcC k C A)::L))(hk:WC k):Calls Tryz.prog 38 #[pt C.cb] w λr w'=>r=.returned (.int .i64 (headK k))∧St W w' (RLn C.lb C.lo C.cL k.ls::blk C.cb 83 (rcC k C A)::L):=by
 have hme:k.me<k.ls.length:=by rw[hk.ls];exact hk.me
 refine EN Tryz.func38 Tryz.ntmps38 rfl rfl λa ha=>?_
 refine DWO 3 [8] [0,1,2,4,5,6,7,3003,1008,9,10,1011,12,13] ha hs λa w ha hs hH hC=>?_
 obtain⟨xs,hxs,hs⟩:=RLn.open hs
 have hxl:xs.length=k.ls.length:=by rw[← hxs,prx_len]
 obtain⟨bl,ol,y,hbe,hy,hcy,hry⟩:=(St.rdXe hs).at (i:=k.me) (by omega)
 cases hbe
 have hyl:headK k=y.2.2.length:=by
   show (k.ls.getD k.me []).length=_
   rw[← hxs,prx_get hy]
 replace hH:=Hd.old hs
 refine RH 11 ha hs hH hC λa ha=>?_
 refine SS ha (ld1 ha (hcy)) λa ha=>?_
 rw[bbv]at ha
 refine RH 2 ha hs hH hC λa ha=>?_
 refine RT 0 ha hs ?_
 exact⟨by rw[hyl],RLn.close hs hxs⟩
theorem refP_disp (hs:St W w (RefG W B p s::L))(hw:WF' p s)(hpr:prOk p)(hsz:p.title.size≤1000000000)(hgs:mayGs B.gs)(hT:RdB W B.adT B.gs.table.length B.gs.table):Calls Tryz.prog 63 #[pt B.pb] w λr w'=>∃ ad c,r=.returned (.tuple #[.slice ad 128 c,.int .i64 (dispG p B.gs s).2])∧St W w' (Sl 5 1 ad 128 c (bc (dispG p B.gs s).1)::RefG W B p s::L):=by
 have hl8:s.k.ls.length≤8:=by rw[hw.wc.ls];exact hw.wc.n.2
 have hl0:0<s.k.ls.length:=by rw[hw.wc.ls];have:=hw.wc.n;omega
 have hhd:=hw.wc.headt
 have hfr:frontK s.k≤headK s.k:=hw.wc.frontt
 replace hs:=RefG.open hs
 refine EN Tryz.func63 Tryz.ntmps63 rfl rfl λa ha=>?_
 refine DWC 5 (λw0 w'=>Rd w' B.pb 0 (rgC p B s.g)) [4,8] [0,1,2,5,6,7,3003,3008,1004,1009,10] ha hs λa w ha hs hH=>?_
 have hC:=hH.at w (hs.rdAll (b:=B.pb))
 refine RH 6 ha hs hH hC λa ha=>?_
 refine QH ha (λw hc=>ld1 ha (hc 0 _ rfl)) hC λa ha=>?_
 refine QH ha (λw hc=>ld1 ha (hc 0 _ rfl)) hC λa ha=>?_
 refine RH 0 ha hs hH hC λa ha=>?_
 refine CL 0 ha hs (ref_head (hs.pick (RefS B.core s.k)) hw.wc) λa w ha hs=>?_
 replace hC:=hH.at w (hs.rdAll (b:=B.pb))
 refine RH 0 ha hs hH hC λa ha=>?_
 refine CL 0 ha hs (ref_frontC hs hw.wc) λa w ha hs=>?_
 refine RN 1 ha hs λa ha=>?_
 refine IF 0 ha hs (λhc0 a ha=>?_) λhc0 a ha=>?_
 ·
  replace hs:=RefG.fold hs B p s
  refine CL2 2 ha hs (refP_conf hs hw) λad c a w ha hs=>?_
  refine RT 4 ha hs ?_
  refine⟨ad,c,?_,?_⟩
  · rw[dispG,if_pos (by omega)]
  · rw[dispG,if_pos (by omega)];exact hs
 refine RN 1 ha hs λa ha=>?_
 obtain⟨A,hs⟩:=RefS.open (hs.pick (RefS B.core s.k))
 refine DWC 0 (λw0 w'=>Rd w' B.pb 0 (rgC p B s.g)∧Rd w' B.core.cb 0 (rcC s.k B.core A)) [7,11,12,16,17,18,19,23,27,28,29,31] [0,1,2,4,5,6,8,9,10,13,14,15,20,21,22,24,25,26,3003,3007,3011,3016,3017,3018,3019,3023,3027,2012,2028,2029,2030,1031,1032] ha hs λa w ha hs hH=>?_
 have hC:=hH.at w ⟨hs.rdAll (b:=B.pb),hs.rdAll (b:=B.core.cb)⟩
 refine RH 18 ha hs hH hC λa ha=>?_
 refine QH ha (λw hc=>ex_loadN ha Tryz.underlying34 rfl Ty.t34 (rgC_pr hc.1)) hC λa ha=>?_
 refine QH ha (λw hc=>ex_loadN ha Tryz.underlying63 rfl Ty.t63 (rgC_st hc.1)) hC λa ha=>?_
 refine QH ha (λw hc=>ld1 ha (hc.1 0 _ rfl)) hC λa ha=>?_
 refine QH ha (λw hc=>ld1 ha (hc.1 0 _ rfl)) hC λa ha=>?_
 refine RH 2 ha hs hH hC λa ha=>?_
 refine QH ha (λw hc=>ld1 ha (hc.2 10 _ rfl)) hC λa ha=>?_
 refine QH ha (λw hc=>ex_loadN ha Tryz.underlying61 rfl Ty.t61 (rgC_by hc.1)) hC λa ha=>?_
 refine QH ha (λw hc=>ld1 ha (hc.1 0 _ rfl)) hC λa ha=>?_
 refine RH 0 ha hs hH hC λa ha=>?_
 refine DN [(12,[2028,2029,2030,1031,1032]),(31,[1012,1028,1029,1030,1032])] (by kernel_rfl) rfl ⟨⟨_,rfl,?_⟩,⟨_,rfl,?_⟩,trivial⟩
 ·
  refine RH 0 ha hs hH hC λa ha=>?_
  refine CL 0 ha hs (ref_frontA ((hs.pick (blk B.core.cb 83 (rcC s.k B.core A))).pick (RLn B.core.lb B.core.lo B.core.cL s.k.ls)) hw.wc) λa w ha hs=>?_
  replace hC:=hH.at w ⟨hs.rdAll (b:=B.pb),hs.rdAll (b:=B.core.cb)⟩
  refine RH 0 ha hs hH hC λa ha=>?_
  refine DN [(28,[2029,2030,1031,1032]),(31,[1028,1029,1030,1032])] (by kernel_rfl) rfl ⟨⟨_,rfl,?_⟩,⟨_,rfl,?_⟩,trivial⟩
  ·
   refine RH 0 ha hs hH hC λa ha=>?_
   refine CL 0 ha hs (ref_headA ((hs.pick (blk B.core.cb 83 (rcC s.k B.core A))).pick (RLn B.core.lb B.core.lo B.core.cL s.k.ls)) hw.wc) λa w ha hs=>?_
   replace hC:=hH.at w ⟨hs.rdAll (b:=B.pb),hs.rdAll (b:=B.core.cb)⟩
   refine RH 0 ha hs hH hC λa ha=>?_
   refine DN [(29,[2030,1031,1032]),(31,[1029,1030,1032])] (by kernel_rfl) rfl ⟨⟨_,rfl,?_⟩,⟨_,rfl,?_⟩,trivial⟩
   ·
    obtain⟨xs,hxs,hs⟩:=RLn.open (hs.pick (RLn B.core.lb B.core.lo B.core.cL s.k.ls))
    have hxl:xs.length=s.k.ls.length:=by rw[← hxs,prx_len]
    rw[← hxl]at ha
    refine RH 0 ha hs hH hC λa ha=>?_
    refine CL3 0 ha hs (ref_aheadG (xs:=xs) (b:=B.gs) (r:=0) (to:=headK s.k) (by decide) hs hgs (by omega) (by omega) (by rw[hxs];exact hw.wc.ln) hhd (λw' hw'=>St.rdXe hw') (λw' hw'=>hT.old hw')) λadh ch X a w ha ⟨⟨hFX,hX⟩,hs⟩=>?_
    replace hC:=hH.at w ⟨hs.rdAll (b:=B.pb),hs.rdAll (b:=B.core.cb)⟩
    have hXf:=hX rfl
    subst hXf
    rw[aheadX_full,hxs]at hs
    rw[hxs]at ha
    have hal:(aheadL B.gs s.k.ls (headK s.k)).length=headK s.k-frontL s.k.ls:=aheadL_len _ _ _
    have hal1:∀ b∈aheadL B.gs s.k.ls (headK s.k),b.length≤1099511627776:=λb hb=>by
      rw[aheadL,List.mem_map]at hb
      obtain⟨i,_,rfl⟩:=hb
      rw[jointL_len,fullL,List.length_map];omega
    obtain⟨ys,hy1,hy2,hs⟩:=OwnBB.open hs
    refine RH 0 ha hs hH hC λa ha=>?_
    refine DN [(30,[1031,1032]),(31,[1030,1032])] (by kernel_rfl) rfl ⟨⟨_,rfl,?_⟩,⟨_,rfl,?_⟩,trivial⟩
    ·
     refine RH 0 ha hs hH hC λa ha=>?_
     refine CL 0 ha hs (refFold_len (P:=aheadL B.gs s.k.ls (headK s.k)) (zs:=ys) (fr:=frontK s.k) (hs.pick (RoP W p B.adO B.cO)) hal hpr hsz (hw.gok hpr) ⟨by omega,hal1⟩ hy1 (by omega) (λw' hw'=>St.rdX (hw'.sub (M:=Sl 22 1 adh (headK s.k-frontL s.k.ls) ch (ys.map bbv)::All bbo ys::[])))) λa w ha ⟨hgk,hs⟩=>?_
     refine RN 0 ha hs λa ha=>?_
     refine st_alloc ha rfl hs Ty.t63 rfl λb4 a w ha hs ho=>?_
     clear ho
     replace hC:=hH.at w ⟨hs.rdAll (b:=B.pb),hs.rdAll (b:=B.core.cb)⟩
     refine RH 0 ha hs hH hC λa ha=>?_
     refine SA 0 ha hs λa w ha hs=>?_
     refine RN 0 ha hs λa ha=>?_
     replace hs:=RLn.close (hs.sub (M:=Sl 128 1 (some ⟨B.core.lb,B.core.lo,none⟩) s.k.ls.length B.core.cL (xs.map bbv)::All bbo xs::blk b4 63 (ints .i32 32 (foldI p (frontK s.k) s.g (aheadL B.gs s.k.ls (headK s.k))))::blk B.pb 65 (rgC p B s.g)::RoP W p B.adO B.cO::blk B.core.cb 83 (rcC s.k B.core A)::blk B.core.hb 3 (heC s.k.ps)::blk B.core.ab 3 (haC s.k.ps)::blk B.core.wb 244 (rows wdC s.k.ps)::blk B.core.xb 4 (apC s.k.ps)::Sl 68 1 A.adM s.k.mr.length A.cM (mrC s.k.mr)::Sl 223 3 A.adE s.k.ev.length A.cE (rows rawC s.k.ev)::L)) hxs
     replace hs:=RefS.fold hs B.core s.k A
     refine DWC 1 (λw0 w'=>Rd w' b4 0 (ints .i32 32 (foldI p (frontK s.k) s.g (aheadL B.gs s.k.ls (headK s.k))))∧Rd w' B.pb 0 (rgC p B s.g)) [1,5] [2,3,4,3000,3005,1001,1006,7,8] ha hs λa w ha hs hH=>?_
     have hC:=hH.at w ⟨hs.rdAll (b:=b4),hs.rdAll (b:=B.pb)⟩
     refine RH 3 ha hs hH hC λa ha=>?_
     refine QH ha (λw hc=>ex_loadN ha Tryz.underlying63 rfl Ty.t63 (hc.1)) hC λa ha=>?_
     refine QH ha (λw hc=>ld1 ha (hc.2 0 _ rfl)) hC λa ha=>?_
     refine RH 0 ha hs hH hC λa ha=>?_
     refine CL2 0 ha hs (refBytes_spec hs) λad2 c2 a w ha hs=>?_
     replace hC:=hH.at w ⟨hs.rdAll (b:=b4),hs.rdAll (b:=B.pb)⟩
     refine RH 0 ha hs hH hC λa ha=>?_
     refine CL 0 ha hs (ref_head (hs.pick (RefS B.core s.k)) hw.wc) λa w ha hs=>?_
     refine RN 2 ha hs λa ha=>?_
     refine RT 0 ha hs ?_
     refine⟨ad2,c2,?_,?_⟩
     · rw[dispG,if_neg (by omega)]
     · rw[dispG,if_neg (by omega)]
       exact (RefG.fold hs B p s).sub (M:=Sl 5 1 ad2 128 c2 (bc (gameB (foldI p (frontK s.k) s.g (aheadL B.gs s.k.ls (headK s.k)))))::RefG W B p s::L)
    refine RH 0 ha hs hH hC λa ha=>?_
    refine st_alloc ha rfl hs Ty.t63 rfl λb4 a w ha hs ho=>?_
    clear ho
    replace hC:=hH.at w ⟨hs.rdAll (b:=B.pb),hs.rdAll (b:=B.core.cb)⟩
    refine RH 0 ha hs hH hC λa ha=>?_
    refine CL 0 ha hs (refFold_len (P:=aheadL B.gs s.k.ls (headK s.k)) (zs:=ys) (fr:=frontK s.k) (hs.pick (RoP W p B.adO B.cO)) hal hpr hsz (hw.gok hpr) ⟨by omega,hal1⟩ hy1 (by omega) (λw' hw'=>St.rdX (hw'.sub (M:=Sl 22 1 adh (headK s.k-frontL s.k.ls) ch (ys.map bbv)::All bbo ys::[])))) λa w ha ⟨hgk,hs⟩=>?_
    refine SA 0 ha hs λa w ha hs=>?_
    refine RN 0 ha hs λa ha=>?_
    replace hs:=RLn.close (hs.sub (M:=Sl 128 1 (some ⟨B.core.lb,B.core.lo,none⟩) s.k.ls.length B.core.cL (xs.map bbv)::All bbo xs::blk b4 63 (ints .i32 32 (foldI p (frontK s.k) s.g (aheadL B.gs s.k.ls (headK s.k))))::blk B.pb 65 (rgC p B s.g)::RoP W p B.adO B.cO::blk B.core.cb 83 (rcC s.k B.core A)::blk B.core.hb 3 (heC s.k.ps)::blk B.core.ab 3 (haC s.k.ps)::blk B.core.wb 244 (rows wdC s.k.ps)::blk B.core.xb 4 (apC s.k.ps)::Sl 68 1 A.adM s.k.mr.length A.cM (mrC s.k.mr)::Sl 223 3 A.adE s.k.ev.length A.cE (rows rawC s.k.ev)::L)) hxs
    replace hs:=RefS.fold hs B.core s.k A
    refine DWC 1 (λw0 w'=>Rd w' b4 0 (ints .i32 32 (foldI p (frontK s.k) s.g (aheadL B.gs s.k.ls (headK s.k))))∧Rd w' B.pb 0 (rgC p B s.g)) [1,5] [2,3,4,3000,3005,1001,1006,7,8] ha hs λa w ha hs hH=>?_
    have hC:=hH.at w ⟨hs.rdAll (b:=b4),hs.rdAll (b:=B.pb)⟩
    refine RH 3 ha hs hH hC λa ha=>?_
    refine QH ha (λw hc=>ex_loadN ha Tryz.underlying63 rfl Ty.t63 (hc.1)) hC λa ha=>?_
    refine QH ha (λw hc=>ld1 ha (hc.2 0 _ rfl)) hC λa ha=>?_
    refine RH 0 ha hs hH hC λa ha=>?_
    refine CL2 0 ha hs (refBytes_spec hs) λad2 c2 a w ha hs=>?_
    replace hC:=hH.at w ⟨hs.rdAll (b:=b4),hs.rdAll (b:=B.pb)⟩
    refine RH 0 ha hs hH hC λa ha=>?_
    refine CL 0 ha hs (ref_head (hs.pick (RefS B.core s.k)) hw.wc) λa w ha hs=>?_
    refine RN 2 ha hs λa ha=>?_
    refine RT 0 ha hs ?_
    refine⟨ad2,c2,?_,?_⟩
    · rw[dispG,if_neg (by omega)]
    · rw[dispG,if_neg (by omega)]
      exact (RefG.fold hs B p s).sub (M:=Sl 5 1 ad2 128 c2 (bc (gameB (foldI p (frontK s.k) s.g (aheadL B.gs s.k.ls (headK s.k)))))::RefG W B p s::L)
   refine RH 0 ha hs hH hC λa ha=>?_
   refine st_alloc ha rfl hs Ty.t63 rfl λb4 a w ha hs ho=>?_
   clear ho
   replace hC:=hH.at w ⟨hs.rdAll (b:=B.pb),hs.rdAll (b:=B.core.cb)⟩
   obtain⟨xs,hxs,hs⟩:=RLn.open (hs.pick (RLn B.core.lb B.core.lo B.core.cL s.k.ls))
   have hxl:xs.length=s.k.ls.length:=by rw[← hxs,prx_len]
   rw[← hxl]at ha
   refine RH 0 ha hs hH hC λa ha=>?_
   refine CL3 0 ha hs (ref_aheadG (xs:=xs) (b:=B.gs) (r:=0) (to:=headK s.k) (by decide) hs hgs (by omega) (by omega) (by rw[hxs];exact hw.wc.ln) hhd (λw' hw'=>St.rdXe hw') (λw' hw'=>hT.old hw')) λadh ch X a w ha ⟨⟨hFX,hX⟩,hs⟩=>?_
   replace hC:=hH.at w ⟨hs.rdAll (b:=B.pb),hs.rdAll (b:=B.core.cb)⟩
   have hXf:=hX rfl
   subst hXf
   rw[aheadX_full,hxs]at hs
   rw[hxs]at ha
   have hal:(aheadL B.gs s.k.ls (headK s.k)).length=headK s.k-frontL s.k.ls:=aheadL_len _ _ _
   have hal1:∀ b∈aheadL B.gs s.k.ls (headK s.k),b.length≤1099511627776:=λb hb=>by
     rw[aheadL,List.mem_map]at hb
     obtain⟨i,_,rfl⟩:=hb
     rw[jointL_len,fullL,List.length_map];omega
   obtain⟨ys,hy1,hy2,hs⟩:=OwnBB.open hs
   refine RH 0 ha hs hH hC λa ha=>?_
   refine CL 0 ha hs (refFold_len (P:=aheadL B.gs s.k.ls (headK s.k)) (zs:=ys) (fr:=frontK s.k) (hs.pick (RoP W p B.adO B.cO)) hal hpr hsz (hw.gok hpr) ⟨by omega,hal1⟩ hy1 (by omega) (λw' hw'=>St.rdX (hw'.sub (M:=Sl 22 1 adh (headK s.k-frontL s.k.ls) ch (ys.map bbv)::All bbo ys::[])))) λa w ha ⟨hgk,hs⟩=>?_
   refine SA 0 ha hs λa w ha hs=>?_
   refine RN 0 ha hs λa ha=>?_
   replace hs:=RLn.close (hs.sub (M:=Sl 128 1 (some ⟨B.core.lb,B.core.lo,none⟩) s.k.ls.length B.core.cL (xs.map bbv)::All bbo xs::blk b4 63 (ints .i32 32 (foldI p (frontK s.k) s.g (aheadL B.gs s.k.ls (headK s.k))))::blk B.pb 65 (rgC p B s.g)::RoP W p B.adO B.cO::blk B.core.cb 83 (rcC s.k B.core A)::blk B.core.hb 3 (heC s.k.ps)::blk B.core.ab 3 (haC s.k.ps)::blk B.core.wb 244 (rows wdC s.k.ps)::blk B.core.xb 4 (apC s.k.ps)::Sl 68 1 A.adM s.k.mr.length A.cM (mrC s.k.mr)::Sl 223 3 A.adE s.k.ev.length A.cE (rows rawC s.k.ev)::L)) hxs
   replace hs:=RefS.fold hs B.core s.k A
   refine DWC 1 (λw0 w'=>Rd w' b4 0 (ints .i32 32 (foldI p (frontK s.k) s.g (aheadL B.gs s.k.ls (headK s.k))))∧Rd w' B.pb 0 (rgC p B s.g)) [1,5] [2,3,4,3000,3005,1001,1006,7,8] ha hs λa w ha hs hH=>?_
   have hC:=hH.at w ⟨hs.rdAll (b:=b4),hs.rdAll (b:=B.pb)⟩
   refine RH 3 ha hs hH hC λa ha=>?_
   refine QH ha (λw hc=>ex_loadN ha Tryz.underlying63 rfl Ty.t63 (hc.1)) hC λa ha=>?_
   refine QH ha (λw hc=>ld1 ha (hc.2 0 _ rfl)) hC λa ha=>?_
   refine RH 0 ha hs hH hC λa ha=>?_
   refine CL2 0 ha hs (refBytes_spec hs) λad2 c2 a w ha hs=>?_
   replace hC:=hH.at w ⟨hs.rdAll (b:=b4),hs.rdAll (b:=B.pb)⟩
   refine RH 0 ha hs hH hC λa ha=>?_
   refine CL 0 ha hs (ref_head (hs.pick (RefS B.core s.k)) hw.wc) λa w ha hs=>?_
   refine RN 2 ha hs λa ha=>?_
   refine RT 0 ha hs ?_
   refine⟨ad2,c2,?_,?_⟩
   · rw[dispG,if_neg (by omega)]
   · rw[dispG,if_neg (by omega)]
     exact (RefG.fold hs B p s).sub (M:=Sl 5 1 ad2 128 c2 (bc (gameB (foldI p (frontK s.k) s.g (aheadL B.gs s.k.ls (headK s.k)))))::RefG W B p s::L)
  refine RH 0 ha hs hH hC λa ha=>?_
  refine st_alloc ha rfl hs Ty.t63 rfl λb4 a w ha hs ho=>?_
  clear ho
  replace hC:=hH.at w ⟨hs.rdAll (b:=B.pb),hs.rdAll (b:=B.core.cb)⟩
  refine RH 0 ha hs hH hC λa ha=>?_
  refine CL 0 ha hs (ref_headA ((hs.pick (blk B.core.cb 83 (rcC s.k B.core A))).pick (RLn B.core.lb B.core.lo B.core.cL s.k.ls)) hw.wc) λa w ha hs=>?_
  replace hC:=hH.at w ⟨hs.rdAll (b:=B.pb),hs.rdAll (b:=B.core.cb)⟩
  obtain⟨xs,hxs,hs⟩:=RLn.open (hs.pick (RLn B.core.lb B.core.lo B.core.cL s.k.ls))
  have hxl:xs.length=s.k.ls.length:=by rw[← hxs,prx_len]
  rw[← hxl]at ha
  refine RH 0 ha hs hH hC λa ha=>?_
  refine CL3 0 ha hs (ref_aheadG (xs:=xs) (b:=B.gs) (r:=0) (to:=headK s.k) (by decide) hs hgs (by omega) (by omega) (by rw[hxs];exact hw.wc.ln) hhd (λw' hw'=>St.rdXe hw') (λw' hw'=>hT.old hw')) λadh ch X a w ha ⟨⟨hFX,hX⟩,hs⟩=>?_
  replace hC:=hH.at w ⟨hs.rdAll (b:=B.pb),hs.rdAll (b:=B.core.cb)⟩
  have hXf:=hX rfl
  subst hXf
  rw[aheadX_full,hxs]at hs
  rw[hxs]at ha
  have hal:(aheadL B.gs s.k.ls (headK s.k)).length=headK s.k-frontL s.k.ls:=aheadL_len _ _ _
  have hal1:∀ b∈aheadL B.gs s.k.ls (headK s.k),b.length≤1099511627776:=λb hb=>by
    rw[aheadL,List.mem_map]at hb
    obtain⟨i,_,rfl⟩:=hb
    rw[jointL_len,fullL,List.length_map];omega
  obtain⟨ys,hy1,hy2,hs⟩:=OwnBB.open hs
  refine RH 0 ha hs hH hC λa ha=>?_
  refine CL 0 ha hs (refFold_len (P:=aheadL B.gs s.k.ls (headK s.k)) (zs:=ys) (fr:=frontK s.k) (hs.pick (RoP W p B.adO B.cO)) hal hpr hsz (hw.gok hpr) ⟨by omega,hal1⟩ hy1 (by omega) (λw' hw'=>St.rdX (hw'.sub (M:=Sl 22 1 adh (headK s.k-frontL s.k.ls) ch (ys.map bbv)::All bbo ys::[])))) λa w ha ⟨hgk,hs⟩=>?_
  refine SA 0 ha hs λa w ha hs=>?_
  refine RN 0 ha hs λa ha=>?_
  replace hs:=RLn.close (hs.sub (M:=Sl 128 1 (some ⟨B.core.lb,B.core.lo,none⟩) s.k.ls.length B.core.cL (xs.map bbv)::All bbo xs::blk b4 63 (ints .i32 32 (foldI p (frontK s.k) s.g (aheadL B.gs s.k.ls (headK s.k))))::blk B.pb 65 (rgC p B s.g)::RoP W p B.adO B.cO::blk B.core.cb 83 (rcC s.k B.core A)::blk B.core.hb 3 (heC s.k.ps)::blk B.core.ab 3 (haC s.k.ps)::blk B.core.wb 244 (rows wdC s.k.ps)::blk B.core.xb 4 (apC s.k.ps)::Sl 68 1 A.adM s.k.mr.length A.cM (mrC s.k.mr)::Sl 223 3 A.adE s.k.ev.length A.cE (rows rawC s.k.ev)::L)) hxs
  replace hs:=RefS.fold hs B.core s.k A
  refine DWC 1 (λw0 w'=>Rd w' b4 0 (ints .i32 32 (foldI p (frontK s.k) s.g (aheadL B.gs s.k.ls (headK s.k))))∧Rd w' B.pb 0 (rgC p B s.g)) [1,5] [2,3,4,3000,3005,1001,1006,7,8] ha hs λa w ha hs hH=>?_
  have hC:=hH.at w ⟨hs.rdAll (b:=b4),hs.rdAll (b:=B.pb)⟩
  refine RH 3 ha hs hH hC λa ha=>?_
  refine QH ha (λw hc=>ex_loadN ha Tryz.underlying63 rfl Ty.t63 (hc.1)) hC λa ha=>?_
  refine QH ha (λw hc=>ld1 ha (hc.2 0 _ rfl)) hC λa ha=>?_
  refine RH 0 ha hs hH hC λa ha=>?_
  refine CL2 0 ha hs (refBytes_spec hs) λad2 c2 a w ha hs=>?_
  replace hC:=hH.at w ⟨hs.rdAll (b:=b4),hs.rdAll (b:=B.pb)⟩
  refine RH 0 ha hs hH hC λa ha=>?_
  refine CL 0 ha hs (ref_head (hs.pick (RefS B.core s.k)) hw.wc) λa w ha hs=>?_
  refine RN 2 ha hs λa ha=>?_
  refine RT 0 ha hs ?_
  refine⟨ad2,c2,?_,?_⟩
  · rw[dispG,if_neg (by omega)]
  · rw[dispG,if_neg (by omega)]
    exact (RefG.fold hs B p s).sub (M:=Sl 5 1 ad2 128 c2 (bc (gameB (foldI p (frontK s.k) s.g (aheadL B.gs s.k.ls (headK s.k)))))::RefG W B p s::L)
 refine RH 0 ha hs hH hC λa ha=>?_
 refine st_alloc ha rfl hs Ty.t63 rfl λb4 a w ha hs ho=>?_
 clear ho
 replace hC:=hH.at w ⟨hs.rdAll (b:=B.pb),hs.rdAll (b:=B.core.cb)⟩
 refine RH 0 ha hs hH hC λa ha=>?_
 refine CL 0 ha hs (ref_frontA ((hs.pick (blk B.core.cb 83 (rcC s.k B.core A))).pick (RLn B.core.lb B.core.lo B.core.cL s.k.ls)) hw.wc) λa w ha hs=>?_
 replace hC:=hH.at w ⟨hs.rdAll (b:=B.pb),hs.rdAll (b:=B.core.cb)⟩
 refine RH 0 ha hs hH hC λa ha=>?_
 refine CL 0 ha hs (ref_headA ((hs.pick (blk B.core.cb 83 (rcC s.k B.core A))).pick (RLn B.core.lb B.core.lo B.core.cL s.k.ls)) hw.wc) λa w ha hs=>?_
 replace hC:=hH.at w ⟨hs.rdAll (b:=B.pb),hs.rdAll (b:=B.core.cb)⟩
 obtain⟨xs,hxs,hs⟩:=RLn.open (hs.pick (RLn B.core.lb B.core.lo B.core.cL s.k.ls))
 have hxl:xs.length=s.k.ls.length:=by rw[← hxs,prx_len]
 rw[← hxl]at ha
 refine RH 0 ha hs hH hC λa ha=>?_
 refine CL3 0 ha hs (ref_aheadG (xs:=xs) (b:=B.gs) (r:=0) (to:=headK s.k) (by decide) hs hgs (by omega) (by omega) (by rw[hxs];exact hw.wc.ln) hhd (λw' hw'=>St.rdXe hw') (λw' hw'=>hT.old hw')) λadh ch X a w ha ⟨⟨hFX,hX⟩,hs⟩=>?_
 replace hC:=hH.at w ⟨hs.rdAll (b:=B.pb),hs.rdAll (b:=B.core.cb)⟩
 have hXf:=hX rfl
 subst hXf
 rw[aheadX_full,hxs]at hs
 rw[hxs]at ha
 have hal:(aheadL B.gs s.k.ls (headK s.k)).length=headK s.k-frontL s.k.ls:=aheadL_len _ _ _
 have hal1:∀ b∈aheadL B.gs s.k.ls (headK s.k),b.length≤1099511627776:=λb hb=>by
   rw[aheadL,List.mem_map]at hb
   obtain⟨i,_,rfl⟩:=hb
   rw[jointL_len,fullL,List.length_map];omega
 obtain⟨ys,hy1,hy2,hs⟩:=OwnBB.open hs
 refine RH 0 ha hs hH hC λa ha=>?_
 refine CL 0 ha hs (refFold_len (P:=aheadL B.gs s.k.ls (headK s.k)) (zs:=ys) (fr:=frontK s.k) (hs.pick (RoP W p B.adO B.cO)) hal hpr hsz (hw.gok hpr) ⟨by omega,hal1⟩ hy1 (by omega) (λw' hw'=>St.rdX (hw'.sub (M:=Sl 22 1 adh (headK s.k-frontL s.k.ls) ch (ys.map bbv)::All bbo ys::[])))) λa w ha ⟨hgk,hs⟩=>?_
 refine SA 0 ha hs λa w ha hs=>?_
 refine RN 0 ha hs λa ha=>?_
 replace hs:=RLn.close (hs.sub (M:=Sl 128 1 (some ⟨B.core.lb,B.core.lo,none⟩) s.k.ls.length B.core.cL (xs.map bbv)::All bbo xs::blk b4 63 (ints .i32 32 (foldI p (frontK s.k) s.g (aheadL B.gs s.k.ls (headK s.k))))::blk B.pb 65 (rgC p B s.g)::RoP W p B.adO B.cO::blk B.core.cb 83 (rcC s.k B.core A)::blk B.core.hb 3 (heC s.k.ps)::blk B.core.ab 3 (haC s.k.ps)::blk B.core.wb 244 (rows wdC s.k.ps)::blk B.core.xb 4 (apC s.k.ps)::Sl 68 1 A.adM s.k.mr.length A.cM (mrC s.k.mr)::Sl 223 3 A.adE s.k.ev.length A.cE (rows rawC s.k.ev)::L)) hxs
 replace hs:=RefS.fold hs B.core s.k A
 refine DWC 1 (λw0 w'=>Rd w' b4 0 (ints .i32 32 (foldI p (frontK s.k) s.g (aheadL B.gs s.k.ls (headK s.k))))∧Rd w' B.pb 0 (rgC p B s.g)) [1,5] [2,3,4,3000,3005,1001,1006,7,8] ha hs λa w ha hs hH=>?_
 have hC:=hH.at w ⟨hs.rdAll (b:=b4),hs.rdAll (b:=B.pb)⟩
 refine RH 3 ha hs hH hC λa ha=>?_
 refine QH ha (λw hc=>ex_loadN ha Tryz.underlying63 rfl Ty.t63 (hc.1)) hC λa ha=>?_
 refine QH ha (λw hc=>ld1 ha (hc.2 0 _ rfl)) hC λa ha=>?_
 refine RH 0 ha hs hH hC λa ha=>?_
 refine CL2 0 ha hs (refBytes_spec hs) λad2 c2 a w ha hs=>?_
 replace hC:=hH.at w ⟨hs.rdAll (b:=b4),hs.rdAll (b:=B.pb)⟩
 refine RH 0 ha hs hH hC λa ha=>?_
 refine CL 0 ha hs (ref_head (hs.pick (RefS B.core s.k)) hw.wc) λa w ha hs=>?_
 refine RN 2 ha hs λa ha=>?_
 refine RT 0 ha hs ?_
 refine⟨ad2,c2,?_,?_⟩
 · rw[dispG,if_neg (by omega)]
 · rw[dispG,if_neg (by omega)]
   exact (RefG.fold hs B p s).sub (M:=Sl 5 1 ad2 128 c2 (bc (gameB (foldI p (frontK s.k) s.g (aheadL B.gs s.k.ls (headK s.k)))))::RefG W B p s::L)
theorem refP_new {n me delay window:Nat}{id guess order branches workers room:Int}(hs:St W w (RoP W p adP cP::L))(hm:mayCf ⟨n,me,id,delay,window,guess,order,branches,workers,room⟩)(hpr:prOk p)(hsz:p.title.size≤1000000000) :
   Calls Tryz.prog 20 #[.agg (cfC ⟨n,me,id,delay,window,guess,order,branches,workers,room⟩).toArray,.agg (prV p adP cP).toArray,.slice adT tb.length cT] w λr w'=>∃ B:RgB,r=.returned (pt B.pb)∧(B.gs=⟨guess,order,tb⟩∧B.adT=adT)∧St W w' (RefG W B p (newP p ⟨n,me,id,delay,window,guess,order,branches,workers,room⟩)::L):=by
 refine EN Tryz.func20 Tryz.ntmps20 rfl rfl λa ha=>?_
 refine BX 1 ha hs λb3 a w ha hs=>?_
 change St W w (blk b3 27 (cfC ⟨n,me,id,delay,window,guess,order,branches,workers,room⟩)::_) at hs
 refine BX 0 ha hs λb4 a w ha hs=>?_
 change St W w (blk b4 34 [.string p.title,.slice adP p.ops.length cP]::_) at hs
 refine DWC 2 (λw0 w'=>Rd w' b3 0 (cfC ⟨n,me,id,delay,window,guess,order,branches,workers,room⟩)∧Rd w' b4 0 [.string p.title,.slice adP p.ops.length cP]) [1,2,4,6,8] [3,5,7,3000,3002,3004,3006,3008,1001,9,1010,11] ha hs λa w ha hs hH=>?_
 have hC:=hH.at w ⟨hs.rdAll (b:=b3),hs.rdAll (b:=b4)⟩
 refine RH 3 ha hs hH hC λa ha=>?_
 refine QH ha (λw hc=>ex_loadN ha Tryz.underlying27 rfl Ty.t27 (hc.1)) hC λa ha=>?_
 refine QH ha (λw hc=>ex_loadN ha Tryz.underlying34 rfl Ty.t34 (hc.2)) hC λa ha=>?_
 refine QH ha (λw hc=>ld1 ha (hc.1 5 _ rfl)) hC λa ha=>?_
 refine QH ha (λw hc=>ld1 ha (hc.1 6 _ rfl)) hC λa ha=>?_
 refine RH 1 ha hs hH hC λa ha=>?_
 refine CL1 0 ha hs (ref_new hs hm) λBc a w ha hs=>?_
 replace hC:=hH.at w ⟨hs.rdAll (b:=b3),hs.rdAll (b:=b4)⟩
 refine RH 1 ha hs hH hC λa ha=>?_
 refine st_box ha rfl hs rfl λb18 a w ha hs ho=>?_
 clear ho
 change St W w (blk b18 65 (rgC p ⟨b18,Bc,adP,cP,adT,cT,⟨guess,order,tb⟩⟩ zeroG)::_) at hs
 refine RN 1 ha hs λa ha=>?_
 replace hs:=RefG.fold hs ⟨b18,Bc,adP,cP,adT,cT,⟨guess,order,tb⟩⟩ p ⟨newK ⟨n,me,id,delay,window,guess,order,branches,workers,room⟩,zeroG⟩
 refine CL 2 ha hs (ref_plays hs (newP_ok hm) hpr hsz) λa w ha hs=>?_
 refine RT 3 ha hs ?_
 have h9:St W w (RefG W ⟨b18,Bc,adP,cP,adT,cT,⟨guess,order,tb⟩⟩ p (newP p ⟨n,me,id,delay,window,guess,order,branches,workers,room⟩)::_):=hs
 exact⟨⟨b18,Bc,adP,cP,adT,cT,⟨guess,order,tb⟩⟩,rfl,⟨rfl,rfl⟩,h9.sub⟩
end
end
section
section
variable {W w:World}{L:List SP}{n c c' m i:Nat}{ad ad':Option Addr}{l:List Ml}{ev:List (Nat×Nat×Nat)}{e:Evt}
theorem mails_spec (hs:St W w (OwnMl 139 ad n c l::L))(hn:n≤1000):Calls Tryz.prog 26 #[.slice ad n c] w λr w'=>∃ ad' c',r=.returned (.slice ad' n c')∧St W w' (OwnMl 138 ad' n c' l::L):=by
 obtain⟨xs,hxm,hxl,hs⟩:=OwnMl.open hs
 have hxs:xs.length=n:=by rw[← hxl,← hxm,List.length_map]
 subst hxs
 refine EN Tryz.func26 Tryz.ntmps26 rfl rfl λa ha=>?_
 refine RN 7 ha hs λa ha=>?_
 replace hs:=hs.sl0 138 3 none
 refine wp_loop_ghost (λμ a w=>∃ (i:Nat) (ado:Option Addr) (co:Nat),(μ=xs.length-i∧i≤xs.length)∧Fr a 31 [(0,.slice ad xs.length c),(3,.slice ado i co),(4,.int .i64 i)]∧St W w (Sl 138 3 ado i co (rows mlC (xs.take i))::Sl 139 3 ad xs.length c (rows mlC xs)::All mlo xs::L)) (xs.length) (⟨0,none,0,⟨rfl,by omega⟩,ha.keep [0,3,4],(show St W w (Sl 138 3 none 0 0 (rows mlC (xs.take 0))::_) from hs).sub⟩) ?_
 clear ha hs
 rintro μ a w ⟨i,ado,co,⟨rfl,hi⟩,ha,hs⟩
 refine IF 6 ha hs (λhc0 a ha=>?_) λhc0 a ha=>?_
 ·
  have hil:i<xs.length:=by omega
  refine DWO 1 [10,15] [0,1,2,3,4,6,7,8,9,11,12,13,14,3005,3010,1015,16,1017,1018,19] ha hs λa w ha hs hH hC=>?_
  obtain⟨bi,oi,rfl,hri⟩:=(hs.pick (Sl 139 3 ad xs.length c (rows mlC xs))).slRd ad (by omega)
  have hrp:=rows_part mlC_len hri (List.getElem?_eq_getElem hil)
  generalize hxi:xs[i]=x at hrp
  refine RH 13 ha hs hH hC λa ha=>?_
  refine QH ha (λw hc=>ld1 ha (hc.cell (hrp 0 (.int .i64 x.2.2.1) rfl))) hC λa ha=>?_
  refine QH ha (λw hc=>ld1 ha (hc.cell (hrp 1 (.int .i64 x.2.2.2.1) rfl))) hC λa ha=>?_
  refine RH 0 ha hs hH hC λa ha=>?_
  refine SS ha (ld1 ha (hrp 2 (.slice x.1 x.2.2.2.2.length x.2.1) rfl)) λa ha=>?_
  refine RH 1 ha hs hH hC λa ha=>?_
  refine st_buildSlice ha rfl hs Tryz.underlying54 Ty.t138 rfl rfl rfl rfl (by decide) (by decide) λb28 a w ha hs ho=>?_
  replace hC:=hC.trans ho
  clear ho
  refine RH 0 ha hs hH hC λa ha=>?_
  refine st_append ha rfl hs Tryz.underlying54 Ty.t138 rfl rfl hs.rdAll rfl (by simp[Value.oneCell']) (by decide) (by decide) (by omega) λad29 c29 a w ha hs=>?_
  rw[show rows mlC (xs.take i)++_=rows mlC (xs.take (i+1)) from by rw[← List.take_append_getElem hil,rows_app,hxi];rfl]at hs
  refine RN 1 ha hs λa ha=>?_
  refine RN 3 ha hs λa ha=>?_
  exact⟨xs.length-(i+1),by omega,i+1,ad29,c29,⟨rfl,by omega⟩,ha.keep [0,3,4],hs.sub⟩
 refine RT 3 ha hs ?_
 obtain rfl:i=xs.length:=by omega
 rw[List.take_length]at hs
 exact⟨ado,co,rfl,OwnMl.close (hs.sub (M:=Sl 138 3 ado xs.length co (rows mlC xs)::All mlo xs::L)) hxm hxl⟩
theorem raws_spec (hs:St W w (Sl 256 1 ad ev.length c (ev.map evV)::L))(hn:ev.length≤1000)(ho:∀ e∈ev,evOk e):Calls Tryz.prog 105 #[.slice ad ev.length c] w λr w'=>∃ ad' c',r=.returned (.slice ad' ev.length c')∧St W w' (Sl 223 3 ad' ev.length c' (rows rawC ev)::L):=by
 refine EN Tryz.func105 Tryz.ntmps105 rfl rfl λa ha=>?_
 refine RN 7 ha hs λa ha=>?_
 replace hs:=hs.sl0 223 3 none
 refine wp_loop_ghost (λμ a w=>∃ (i:Nat) (ado:Option Addr) (co:Nat),(μ=ev.length-i∧i≤ev.length)∧Fr a 20 [(0,.slice ad ev.length c),(3,.slice ado i co),(4,.int .i64 i)]∧St W w (Sl 223 3 ado i co (rows rawC (ev.take i))::Sl 256 1 ad ev.length c (ev.map evV)::L)) (ev.length) (⟨0,none,0,⟨rfl,by omega⟩,ha.keep [0,3,4],(show St W w (Sl 223 3 none 0 0 (rows rawC (ev.take 0))::_) from hs).sub⟩) ?_
 clear ha hs
 rintro μ a w ⟨i,ado,co,⟨rfl,hi⟩,ha,hs⟩
 refine IF 6 ha hs (λhc0 a ha=>?_) λhc0 a ha=>?_
 ·
  have hil:i<ev.length:=by omega
  obtain⟨bi,oi,rfl,hri⟩:=(hs.pick (Sl 256 1 ad ev.length c (ev.map evV))).slRd ad (by omega)
  have hrp:=hri i (evV ev[i]) (by rw[List.getElem?_map,List.getElem?_eq_getElem hil];rfl)
  have hoe:=ho _ (List.getElem_mem hil)
  generalize hxi:ev[i]=x at hrp hoe
  have hre:Rd w bi (oi+i) [evV x]:=by
    intro k v hk
    cases k with
    | zero=>simp at hk;subst hk;exact hrp
    | succ k=>simp at hk
  refine RN 5 ha hs λa ha=>?_
  refine SS ha (ex_loadN ha Tryz.underlying256 rfl Ty.t256 (hre)) λa ha=>?_
  refine CL 0 ha hs (event_raw hs hoe) λa w ha hs=>?_
  refine RN 0 ha hs λa ha=>?_
  refine st_buildSlice ha rfl hs Tryz.underlying81 Ty.t223 rfl rfl rfl rfl (by decide) (by decide) λb17 a w ha hs ho=>?_
  clear ho
  refine RN 0 ha hs λa ha=>?_
  refine st_append ha rfl hs Tryz.underlying81 Ty.t223 rfl rfl hs.rdAll rfl (λv hv=>rawC_one x v (by simpa using hv)) (by decide) (by decide) (by omega) λad18 c18 a w ha hs=>?_
  rw[show rows rawC (ev.take i)++_=rows rawC (ev.take (i+1)) from by rw[← List.take_append_getElem hil,rows_app,hxi];rfl]at hs
  refine RN 4 ha hs λa ha=>?_
  exact⟨ev.length-(i+1),by omega,i+1,ad18,c18,⟨rfl,by omega⟩,ha.keep [0,3,4],hs.sub⟩
 refine RT 3 ha hs ?_
 obtain rfl:i=ev.length:=by omega
 rw[List.take_length]at hs
 exact⟨ado,co,rfl,hs.sub⟩
theorem eqMails_spec (hs:St W w (OwnMl 138 ad n c l::OwnMl 138 ad' n c' l::L))(hn:n≤1000):Calls Tryz.prog 25 #[.slice ad n c,.slice ad' n c'] w λr w'=>r=.returned (.bool true)∧St W w' L:=by
 obtain⟨xs,hxm,hxl,hs⟩:=OwnMl.open hs
 obtain⟨ys,hym,hyl,hs⟩:=OwnMl.open (hs.pick (OwnMl 138 ad' n c' l))
 have hxs:xs.length=n:=by rw[← hxl,← hxm,List.length_map]
 have hys:ys.length=n:=by rw[← hyl,← hym,List.length_map]
 refine EN Tryz.func25 Tryz.ntmps25 rfl rfl λa ha=>?_
 refine RN 9 ha hs λa ha=>?_
 rw[decide_eq_false (by omega)]at ha
 refine RN 4 ha hs λa ha=>?_
 refine wp_loop_ghost (λμ a w=>∃ (i:Nat),(μ=n-i∧i≤n)∧Fr a 56 [(0,.slice ad n c),(1,.slice ad' n c'),(5,.int .i64 i)]∧St W w (Sl 138 3 ad' n c' (rows mlC ys)::All mlo ys::Sl 138 3 ad n c (rows mlC xs)::All mlo xs::L)) (n) (⟨0,⟨rfl,by omega⟩,ha.keep [0,1,5],hs.sub⟩) ?_
 clear ha hs
 rintro μ a w ⟨i,⟨rfl,hi⟩,ha,hs⟩
 refine IF 6 ha hs (λhc1 a ha=>?_) λhc1 a ha=>?_
 ·
  have hil:i<xs.length:=by omega
  have hjl:i<ys.length:=by omega
  obtain⟨m,hm⟩:∃ m,m=xs[i].2.2:=⟨_,rfl⟩
  obtain⟨xa,xc,hx⟩:∃ a c,xs[i]=(a,c,m):=⟨xs[i].1,xs[i].2.1,by rw[hm]⟩
  obtain⟨ya,yc,hy⟩:∃ a c,ys[i]=(a,c,m):=⟨ys[i].1,ys[i].2.1,by
    have h1:(xs.map (·.2.2))[i]?=(ys.map (·.2.2))[i]?:=by rw[hxm,hym]
    rw[List.getElem?_map,List.getElem?_map,List.getElem?_eq_getElem hil,List.getElem?_eq_getElem hjl]at h1
    have h2:xs[i].2.2=ys[i].2.2:=by simpa using h1
    rw[hm,h2]⟩
  refine RN 2 ha hs λa ha=>?_
  have hbx:RdB w.drew xa m.2.2.length m.2.2:=by
    have h1:=(hs.drew.pick (All mlo xs)).allOut hil
    rw[hx]at h1
    exact St.rdB (L:=mlo (xa,xc,m)::_) h1 _ _ (k:=(PickSl.head:PickSl (Sl 5 1 xa m.2.2.length xc (bc m.2.2)::_) xa _ _ _ _ _ _)) rfl rfl
  have hby:RdB w.drew ya m.2.2.length m.2.2:=by
    have h1:=(hs.drew.pick (All mlo ys)).allOut hjl
    rw[hy]at h1
    exact St.rdB (L:=mlo (ya,yc,m)::_) h1 _ _ (k:=(PickSl.head:PickSl (Sl 5 1 ya m.2.2.length yc (bc m.2.2)::_) ya _ _ _ _ _ _)) rfl rfl
  obtain⟨bx,ox,rfl,hrx⟩:=(hs.drew.pick (Sl 138 3 ad n c (rows mlC xs))).slRd ad (by omega)
  obtain⟨bY,oY,rfl,hry⟩:=(hs.drew.pick (Sl 138 3 ad' n c' (rows mlC ys))).slRd ad' (by omega)
  replace hrx:=rows_part mlC_len hrx (List.getElem?_eq_getElem hil)
  replace hry:=rows_part mlC_len hry (List.getElem?_eq_getElem hjl)
  rw[hx]at hrx
  rw[hy]at hry
  refine DWG 0 (λw'=>(Rd w' bx (ox+i*3) (mlC (xa,xc,m))∧Rd w' bY (oY+i*3) (mlC (ya,yc,m)))∧RdB w' xa m.2.2.length m.2.2∧RdB w' ya m.2.2.length m.2.2) [9,21,35,36] [0,1,2,3,5,6,7,8,3004,1009,10,11,12,13,14,15,17,18,19,20,3016,1021,22,23,24,25,26,27,28,31,32,33,34,3029,3030,1035,1036,37,38] ha hs λa ha=>?_
  replace hs:=hs.drew
  generalize w.drew=w at hs hrx hry hbx hby ⊢
  have hC:(Rd w bx (ox+i*3) (mlC (xa,xc,m))∧Rd w bY (oY+i*3) (mlC (ya,yc,m)))∧RdB w xa m.2.2.length m.2.2∧RdB w ya m.2.2.length m.2.2:=⟨⟨hrx,hry⟩,hbx,hby⟩
  have hH:=Hd.any (λw'=>(Rd w' bx (ox+i*3) (mlC (xa,xc,m))∧Rd w' bY (oY+i*3) (mlC (ya,yc,m)))∧RdB w' xa m.2.2.length m.2.2∧RdB w' ya m.2.2.length m.2.2)
  refine RH 8 ha hs hH hC λa ha=>?_
  refine QH ha (λw hc=>ld1 ha (hc.1.1 0 (.int .i64 m.1) rfl)) hC λa ha=>?_
  refine RH 0 ha hs hH hC λa ha=>?_
  refine SS ha (ld1 ha (hC.1.2 0 (.int .i64 m.1) rfl)) λa ha=>?_
  refine RH 2 ha hs hH hC λa ha=>?_
  rw[decide_eq_false (by omega)]at ha
  refine RH 8 ha hs hH hC λa ha=>?_
  refine QH ha (λw hc=>ld1 ha (hc.1.1 1 (.int .i64 m.2.1) rfl)) hC λa ha=>?_
  refine RH 0 ha hs hH hC λa ha=>?_
  refine st_set ha (wgT ha rfl (s:=28)) (ld1 ha (hC.1.2 1 (.int .i64 m.2.1) rfl)) rfl λa ha=>?_
  refine RH 3 ha hs hH hC λa ha=>?_
  rw[decide_eq_false (by omega)]at ha
  refine RH 8 ha hs hH hC λa ha=>?_
  refine QH ha (λw hc=>ld1 ha (hc.1.1 2 (.slice xa m.2.2.length xc) rfl)) hC λa ha=>?_
  refine QH ha (λw hc=>ex_toString ha Tryz.underlying22 Tryz.underlying5 Tryz.underlying9 (hc.2.1)) hC λa ha=>?_
  refine RH 0 ha hs hH hC λa ha=>?_
  refine st_set ha (wgT ha rfl (s:=41)) (ld1 ha (hC.1.2 2 (.slice ya m.2.2.length yc) rfl)) rfl λa ha=>?_
  refine RH 0 ha hs hH hC λa ha=>?_
  refine st_set ha (wgT ha rfl (s:=41)) (ex_toString ha Tryz.underlying22 Tryz.underlying5 Tryz.underlying9 (hC.2.2)) rfl λa ha=>?_
  refine RH 0 ha hs hH hC λa ha=>?_
  refine QP ha (λw=>ex_neqS ha) λa ha=>?_
  rw[str_beq,beq_self_eq_true,Bool.not_true]at ha
  refine RH 1 ha hs hH hC λa ha=>?_
  replace ha:=ha.isF 55
  refine RN 4 ha hs λa ha=>?_
  exact⟨n-(i+1),by omega,i+1,⟨rfl,by omega⟩,ha.keep [0,1,5],hs.sub⟩
 refine RT 2 ha hs ?_
 exact⟨rfl,hs.sub⟩
theorem eqRaw_spec (hs:St W w L):Calls Tryz.prog 164 #[.agg (rawC e).toArray,.agg (rawC e).toArray] w λr w'=>r=.returned (.bool true)∧St W w' L:=by
 refine EN Tryz.func164 Tryz.ntmps164 rfl rfl λa ha=>?_
 refine BX 1 ha hs λb2 a w ha hs=>?_
 change St W w (blk b2 223 [.int .i64 e.1,.int .i64 e.2.1,.int .i64 e.2.2]::_) at hs
 refine BX 0 ha hs λb3 a w ha hs=>?_
 change St W w (blk b3 223 [.int .i64 e.1,.int .i64 e.2.1,.int .i64 e.2.2]::_) at hs
 refine RN 8 ha hs λa ha=>?_
 rw[decide_eq_true (by omega)]at ha
 refine RN 7 ha hs λa ha=>?_
 rw[decide_eq_true (by omega)]at ha
 refine RT 7 ha hs ?_
 exact⟨by simp,hs.sub⟩
theorem eqRaws_spec (hs:St W w (Sl 223 3 ad ev.length c (rows rawC ev)::Sl 223 3 ad' ev.length c' (rows rawC ev)::L))(hn:ev.length≤1000):Calls Tryz.prog 104 #[.slice ad ev.length c,.slice ad' ev.length c'] w λr w'=>r=.returned (.bool true)∧St W w' L:=by
 refine EN Tryz.func104 Tryz.ntmps104 rfl rfl λa ha=>?_
 refine RN 9 ha hs λa ha=>?_
 rw[decide_eq_false (by omega)]at ha
 refine RN 4 ha hs λa ha=>?_
 refine wp_loop_ghost (λμ a w=>∃ (i:Nat),(μ=ev.length-i∧i≤ev.length)∧Fr a 27 [(0,.slice ad ev.length c),(1,.slice ad' ev.length c'),(5,.int .i64 i)]∧St W w (Sl 223 3 ad ev.length c (rows rawC ev)::Sl 223 3 ad' ev.length c' (rows rawC ev)::L)) (ev.length) (⟨0,⟨rfl,by omega⟩,ha.keep [0,1,5],hs⟩) ?_
 clear ha hs
 rintro μ a w ⟨i,⟨rfl,hi⟩,ha,hs⟩
 refine IF 6 ha hs (λhc1 a ha=>?_) λhc1 a ha=>?_
 ·
  have hil:i<ev.length:=by omega
  refine RN 2 ha hs λa ha=>?_
  obtain⟨bx,ox,rfl,hrx⟩:=hs.drew.slRd ad (by omega)
  obtain⟨bY,oY,rfl,hry⟩:=hs.drew.tail.slRd ad' (by omega)
  replace hrx:=rows_part rawC_len hrx (List.getElem?_eq_getElem hil)
  replace hry:=rows_part rawC_len hry (List.getElem?_eq_getElem hil)
  generalize ev[i]=x at hrx hry
  refine DWG 0 (λw'=>Rd w' bx (ox+i*3) (rawC x)∧Rd w' bY (oY+i*3) (rawC x)) [7] [0,1,2,4,5,6,3003,1007,1008,9] ha hs λa ha=>?_
  replace hs:=hs.drew
  generalize w.drew=w at hs hrx hry ⊢
  have hC:Rd w bx (ox+i*3) (rawC x)∧Rd w bY (oY+i*3) (rawC x):=⟨hrx,hry⟩
  have hH:=Hd.any (λw'=>Rd w' bx (ox+i*3) (rawC x)∧Rd w' bY (oY+i*3) (rawC x))
  refine RH 6 ha hs hH hC λa ha=>?_
  refine QH ha (λw hc=>ex_loadN ha Tryz.underlying223 rfl Ty.t223 (hc.1)) hC λa ha=>?_
  refine RH 0 ha hs hH hC λa ha=>?_
  refine SS ha (ex_loadN ha Tryz.underlying223 rfl Ty.t223 (hC.2)) λa ha=>?_
  refine RH 0 ha hs hH hC λa ha=>?_
  refine CL 0 ha hs (eqRaw_spec hs) λa w ha hs=>?_
  refine RN 1 ha hs λa ha=>?_
  replace ha:=ha.isF 26
  refine RN 4 ha hs λa ha=>?_
  exact⟨ev.length-(i+1),by omega,i+1,⟨rfl,by omega⟩,ha.keep [0,1,5],hs⟩
 refine RT 2 ha hs ?_
 exact⟨rfl,hs.tail.tail⟩
end
end
section
theorem tick_len {k:Ks}(h:WC k):(tickK k).1.length≤1000:=by
 have hn:=h.n
 have hl:∀ k:Ks,(othersK k).length≤k.n:=λk=>by
   rw[othersK];exact Nat.le_trans (List.length_filter_le _ _) (by rw[List.length_range];exact Nat.le_refl _)
 unfold tickK
 split
 · simp
 · simp only
   split
   · simp
   · rw[List.length_map]
     have:=hl { k with now:=k.now+1 }
     have h2:({ k with now:=k.now+1 }:Ks).n=k.n:=rfl
     omega
theorem quit_len {k:Ks}(h:WC k):(quitK k).1.length≤1000:=by
 have hn:=h.n
 unfold quitK
 split
 · simp
 · rw[List.length_map,othersK]
   have h2:=List.length_filter_le (λi=>decide (i≠k.me)) (List.range k.n)
   rw[List.length_range]at h2
   show ((List.range k.n).filter (·≠k.me)).length≤1000
   omega
theorem press_now (p:Pr)(x:UInt8){s:Pl}(h:WF' p s):(pressP p x s).2.k.now=s.k.now:=by
 have he:=press_ext x s.k
 have h1:=(playP_same (h.toWP.more (h.wc.press x) (h.held.press x) he.1 he.2)).2.2.2.2.2.1
 rw[pressP,h1]
 show (pressK x s.k).2.now=_
 by_cases h0:(pressK x s.k).1=0
 · obtain⟨_,_,_,h4⟩:=press_ls h0
   rw[h4]
 · rw[press_no h0]
theorem hear_now (k:Ks)(q:Pk):(hearK k q).now=k.now:=by
 unfold hearK
 split
 · rfl
 · obtain⟨ps,ev,h9,_⟩:=holdK_eq { k with ls:=k.ls.set q.from'.toNat (putLn (k.ls.getD q.from'.toNat []) q.first.toNat q.press),ps:=k.ps.set q.from'.toNat (hearP k.now (headK k) q (peK k q.from'.toNat)) }
   rw[h9]
theorem recv_now (p:Pr)(bs:List UInt8){s:Pl}(h:WF' p s):(recvP p bs s).2.k.now=s.k.now:=by
 have he:=recv_ext bs s.k
 have h1:=(playP_same (h.toWP.more (h.wc.recv bs).1 ((h.wc.recv bs).2 h.held) he.1 he.2)).2.2.2.2.2.1
 rw[recvP,h1]
 show (recvK bs s.k).2.now=_
 by_cases h0:(recvK bs s.k).1=0
 · obtain⟨q,_,_,_,_,_,h6⟩:=recv_ok h0
   rw[h6,hear_now]
 · rw[recv_no h0]
theorem tick_now (k:Ks):(tickK k).2.now≤k.now+1:=by
 rcases tickK_k k with h1 | ⟨hc,h1 | ⟨i,hi,h1⟩⟩ <;> rw[h1]
 · exact Nat.le_succ _
 · exact Nat.le_refl _
 · exact Nat.le_refl _
theorem quit_now (k:Ks):(quitK k).2.now=k.now:=by
 unfold quitK
 split <;> rfl
structure PlayS (W:World)(t:TypeId)(ad:Addr)(fP fR fT fQ fE fC fD fX:FuncId)(p:Pr)(gs:Gs)(J:Nat→Pl→SP):Prop where
 mP : MethodT Tryz.prog t "Press" fP
 cP:callable Tryz.prog fP=true
 mR : MethodT Tryz.prog t "Receive" fR
 cR:callable Tryz.prog fR=true
 mT : MethodT Tryz.prog t "Tick" fT
 cT:callable Tryz.prog fT=true
 mQ : MethodT Tryz.prog t "Quit" fQ
 cQ:callable Tryz.prog fQ=true
 mE : MethodT Tryz.prog t "Events" fE
 cE:callable Tryz.prog fE=true
 mC : MethodT Tryz.prog t "Confirmed" fC
 cC:callable Tryz.prog fC=true
 mD : MethodT Tryz.prog t "Display" fD
 cD:callable Tryz.prog fD=true
 mX : MethodT Tryz.prog t "Closed" fX
 cX:callable Tryz.prog fX=true
 press:∀ (w:World) (L:List SP) (i:Nat) (s:Pl) (x:UInt8),i≤1000000→WF' p s→St W w (J i s::L)→Calls Tryz.prog fP (List.toArray [.pointer (some ad),.int .u8 (x.toNat:Nat)]) w λr w'=>r=.returned (.int .i64 (pressP p x s).1)∧St W w' (J (i+1) (pressP p x s).2::L)
 recv:∀ (w:World) (L:List SP) (i:Nat) (s:Pl) (bs:List UInt8) (a:Option Addr) (c:Nat),i≤1000000→WF' p s→bs.length≤65536→bs.length≤c→(∀ w',St W w' L→RdB w' a bs.length bs)→St W w (J i s::L)→Calls Tryz.prog fR (List.toArray [.pointer (some ad),.slice a bs.length c]) w λr w'=>r=.returned (.int .i64 (recvP p bs s).1)∧St W w' (J (i+1) (recvP p bs s).2::L)
 tick:∀ (w:World) (L:List SP) (i:Nat) (s:Pl),i≤1000000→WF' p s→s.k.now≤1000000→St W w (J i s::L)→Calls Tryz.prog fT (List.toArray [.pointer (some ad)]) w λr w'=>∃ a c,r=.returned (.slice a (tickK s.k).1.length c)∧St W w' (OwnMl 139 a (tickK s.k).1.length c (tickK s.k).1::J (i+1) ⟨(tickK s.k).2,s.g⟩::L)
 quit:∀ (w:World) (L:List SP) (i:Nat) (s:Pl),i≤1000000→WF' p s→St W w (J i s::L)→Calls Tryz.prog fQ (List.toArray [.pointer (some ad)]) w λr w'=>∃ a c,r=.returned (.slice a (quitK s.k).1.length c)∧St W w' (OwnMl 139 a (quitK s.k).1.length c (quitK s.k).1::J (i+1) ⟨(quitK s.k).2,s.g⟩::L)
 events:∀ (w:World) (L:List SP) (i:Nat) (s:Pl),i≤1000000→WF' p s→St W w (J i s::L)→Calls Tryz.prog fE (List.toArray [.pointer (some ad)]) w λr w'=>∃ a c,r=.returned (.slice a s.k.ev.length c)∧St W w' (Sl 256 1 a s.k.ev.length c (s.k.ev.map evV)::J (i+1) ⟨{ s.k with ev:=[] },s.g⟩::L)
 conf:∀ (w:World) (L:List SP) (i:Nat) (s:Pl),i≤1000000→WF' p s→St W w (J i s::L)→Calls Tryz.prog fC (List.toArray [.pointer (some ad)]) w λr w'=>∃ a c,r=.returned (.tuple #[.slice a 128 c,.int .i64 (confP s).2])∧St W w' (Sl 5 1 a 128 c (bc (confP s).1)::J i s::L)
 disp:∀ (w:World) (L:List SP) (i:Nat) (s:Pl),i≤1000000→WF' p s→St W w (J i s::L)→Calls Tryz.prog fD (List.toArray [.pointer (some ad)]) w λr w'=>∃ a c,r=.returned (.tuple #[.slice a 128 c,.int .i64 (dispG p gs s).2])∧St W w' (Sl 5 1 a 128 c (bc (dispG p gs s).1)::J i s::L)
 closed:∀ (w:World) (L:List SP) (i:Nat) (s:Pl),i≤1000000→WF' p s→St W w (J i s::L)→Calls Tryz.prog fX (List.toArray [.pointer (some ad)]) w λr w'=>r=.returned (.bool s.k.cl)∧St W w' (J i s::L)
abbrev opL (k:Int)(aB:Option Addr)(n cB:Nat)(pk:Pk)(aK:Option Addr)(cK:Nat)(b:Bool)(z:Int):List Value:=[.int .i64 k,.slice aB n cB]++pkC pk aK cK++[.bool b,.int .u32 z]
section
variable {W w:World}{L:List SP}{n i cB cK:Nat}{aB aK:Option Addr}{t:TypeId}{ad:Addr}{fP fR fT fQ fE fC fD fX:FuncId}{p:Pr}{gs:Gs}{J:Nat→Pl→SP}{B:RgB}{s:Pl}{pk:Pk}{bs:List UInt8}{kd z:Int}{b:Bool}
theorem shows_spec (M:PlayS W t ad fP fR fT fQ fE fC fD fX p gs J)(hi:i≤1000000)(hs:St W w (J i s::RefG W B p s::L))(hw:WF' p s)(hpr:prOk p)(hsz:p.title.size≤1000000000)(hgs:mayGs B.gs)(hbg:B.gs=gs)(hT:RdB W B.adT B.gs.table.length B.gs.table) :
   Calls Tryz.prog 22 #[.iface t (.pointer (some ad)),pt B.pb] w λe w'=>e=.returned (.bool true)∧St W w' (J i s::RefG W B p s::L):=by
 subst hbg
 refine EN Tryz.func22 Tryz.ntmps22 rfl rfl λa ha=>?_
 refine RN 4 ha hs λa ha=>?_
 refine st_callI ha rfl M.mC M.cC rfl (M.conf _ _ i s hi hw hs) (by rfl) ?_
 clear ha hs
 rintro e w ⟨a1,c1,rfl,hs⟩
 refine⟨_,rfl,λa ha=>?_⟩
 refine CL2 7 ha hs (refP_conf (hs.pick (RefG W B p s)) hw) λa2 c2 a w ha hs=>?_
 refine RN 7 ha hs λa ha=>?_
 refine st_callI ha rfl M.mD M.cD rfl (M.disp _ _ i s hi hw (hs.pick (J i s))) (by rfl) ?_
 clear ha hs
 rintro e w ⟨a3,c3,rfl,hs⟩
 refine⟨_,rfl,λa ha=>?_⟩
 refine CL2 7 ha hs (refP_disp (hs.pick (RefG W B p s)) hw hpr hsz hgs hT) λa4 c4 a w ha hs=>?_
 refine RN 5 ha hs λa ha=>?_
 have hcl:(confP s).1.length=128:=gameB_len _
 have hdl:(dispG p B.gs s).1.length=128:=by
   rw[dispG];split
   · exact gameB_len _
   · exact gameB_len _
 replace hs:=hs.sub (M:=Sl 5 1 a4 128 c4 (bc (dispG p B.gs s).1)::Sl 5 1 a3 128 c3 (bc (dispG p B.gs s).1)::Sl 5 1 a2 128 c2 (bc (confP s).1)::Sl 5 1 a1 128 c1 (bc (confP s).1)::RefG W B p s::J i s::L)
 obtain⟨A,hs⟩:∃ A,St W w (Sl 5 1 a4 128 c4 (bc (dispG p B.gs s).1)::Sl 5 1 a3 128 c3 (bc (dispG p B.gs s).1)::Sl 5 1 a2 128 c2 (bc (confP s).1)::Sl 5 1 a1 128 c1 (bc (confP s).1)::blk B.core.cb 83 (rcC s.k B.core A)::RLn B.core.lb B.core.lo B.core.cL s.k.ls::blk B.core.hb 3 (heC s.k.ps)::blk B.core.ab 3 (haC s.k.ps)::blk B.core.wb 244 (rows wdC s.k.ps)::blk B.core.xb 4 (apC s.k.ps)::Sl 68 1 A.adM s.k.mr.length A.cM (mrC s.k.mr)::Sl 223 3 A.adE s.k.ev.length A.cE (rows rawC s.k.ev)::blk B.pb 65 (rgC p B s.g)::RoP W p B.adO B.cO::J i s::L):=by
   obtain⟨A,h⟩:=RefS.open ((RefG.open (hs.pick (RefG W B p s))).pick (RefS B.core s.k))
   exact⟨A,h.sub⟩
 refine DWC 1 (λw0 w'=>((RdB w' a1 128 (confP s).1∧RdB w' a2 128 (confP s).1)∧RdB w' a3 128 (dispG p B.gs s).1∧RdB w' a4 128 (dispG p B.gs s).1)∧Rd w' B.pb 0 (rgC p B s.g)∧Rd w' B.core.cb 0 (rcC s.k B.core A)) [7,19,24] [0,1,2,3,4,6,3005,1007,8,9,10,11,12,13,14,15,16,18,3017,1019,20,21,22,23,25,26,27,3028,29,30,3031,1024,32,33,34] ha hs λa w ha hs hH=>?_
 have hC:=hH.at w ⟨⟨⟨hs.rdB a1 _ rfl hcl,hs.rdB a2 _ rfl hcl⟩,hs.rdB a3 _ rfl hdl,hs.rdB a4 _ rfl hdl⟩,hs.rdAll (b:=B.pb),hs.rdAll (b:=B.core.cb)⟩
 refine RH 4 ha hs hH hC λa ha=>?_
 rw[decide_eq_true (by omega)]at ha
 refine RH 2 ha hs hH hC λa ha=>?_
 refine QH ha (λw hc=>ex_toString ha Tryz.underlying22 Tryz.underlying5 Tryz.underlying9 (hc.1.1.1)) hC λa ha=>?_
 refine RH 0 ha hs hH hC λa ha=>?_
 refine st_set ha (wgT ha rfl (s:=36)) (ex_toString ha Tryz.underlying22 Tryz.underlying5 Tryz.underlying9 (hC.1.1.2)) rfl λa ha=>?_
 refine RH 0 ha hs hH hC λa ha=>?_
 refine QP ha (λw=>ex_eqlS ha) λa ha=>?_
 rw[str_beq,beq_self_eq_true]at ha
 refine RH 2 ha hs hH hC λa ha=>?_
 replace ha:=ha.isT 43
 refine RH 5 ha hs hH hC λa ha=>?_
 rw[decide_eq_true (by omega)]at ha
 refine RH 2 ha hs hH hC λa ha=>?_
 refine QH ha (λw hc=>ex_toString ha Tryz.underlying22 Tryz.underlying5 Tryz.underlying9 (hc.1.2.1)) hC λa ha=>?_
 refine RH 0 ha hs hH hC λa ha=>?_
 refine st_set ha (wgT ha rfl (s:=48)) (ex_toString ha Tryz.underlying22 Tryz.underlying5 Tryz.underlying9 (hC.1.2.2)) rfl λa ha=>?_
 refine RH 0 ha hs hH hC λa ha=>?_
 refine QP ha (λw=>ex_eqlS ha) λa ha=>?_
 rw[str_beq,beq_self_eq_true]at ha
 refine RH 2 ha hs hH hC λa ha=>?_
 replace ha:=ha.isT 55
 refine RH 4 ha hs hH hC λa ha=>?_
 refine QH ha (λw hc=>ld1 ha (hc.2.1 0 _ rfl)) hC λa ha=>?_
 refine RH 2 ha hs hH hC λa ha=>?_
 refine QH ha (λw hc=>ld1 ha (hc.2.2 18 _ rfl)) hC λa ha=>?_
 refine RH 0 ha hs hH hC λa ha=>?_
 refine st_callI ha (wgT ha rfl (s:=55)) M.mX M.cX rfl (M.closed _ _ i s hi hw (hs.pick (J i s))) (by rfl) ?_
 clear ha hs
 rintro e w ⟨rfl,hs⟩
 refine⟨_,rfl,λa ha=>?_⟩
 replace hC:=hH.at w ⟨⟨⟨hs.rdB a1 _ rfl hcl,hs.rdB a2 _ rfl hcl⟩,hs.rdB a3 _ rfl hdl,hs.rdB a4 _ rfl hdl⟩,hs.rdAll (b:=B.pb),hs.rdAll (b:=B.core.cb)⟩
 refine RH 3 ha hs hH hC λa ha=>?_
 refine RT 0 ha hs ?_
 refine⟨by simp,?_⟩
 exact (RefG.fold (RefS.fold hs B.core s.k A) B p s).sub (M:=J i s::RefG W B p s::L)
theorem rcC_cf {w:World}{b:Nat}{k:Ks}{C:RcB}{A:RcA}(h:Rd w b 0 (rcC k C A)):Rd w b 0 (cfC (ksCf k)):=h.part 0 10
theorem packet21_spec {cf:Cf}(hs:St W w L)(hps:pk.sum<4294967296)(hrK:RdB W aK pk.press.length pk.press)(hcK:pk.press.length≤cK) :
   Calls Tryz.prog 103 #[.agg (cfC cf).toArray,.agg (opL kd aB n cB pk aK cK b z).toArray] w λe w'=>∃ (q:Pk) (aq:Option Addr) (cq:Nat),e=.returned (.agg (pkC q aq cq).toArray)∧q.sum<4294967296∧RdB W aq q.press.length q.press∧St W w' L:=by
 refine EN Tryz.func103 Tryz.ntmps103 rfl rfl λa ha=>?_
 refine BX 1 ha hs λb2 a w ha hs=>?_
 change St W w (blk b2 27 (cfC cf)::_) at hs
 refine BX 0 ha hs λb3 a w ha hs=>?_
 change St W w (blk b3 98 (opL kd aB n cB pk aK cK b z)::_) at hs
 refine AL 0 ha hs λb4 a w ha hs=>?_
 change St W w (blk b4 70 (pkC pk0 none 0)::_) at hs
 refine RN 2 ha hs λa ha=>?_
 refine SS ha (ex_loadN ha Tryz.underlying70 rfl Ty.t70 ((show Rd w b3 2 (pkC pk aK cK) from (hs.rdAll (b:=b3)).part 2 9))) λa ha=>?_
 refine AL 0 ha hs λb5 a w ha hs=>?_
 refine SA 0 ha hs λa w ha hs=>?_
 refine CL2 3 ha hs (shortN (K:=33) hs hrK hcK) λaq cq a w ha ⟨hrq,hcq,hs⟩=>?_
 refine ST 1 ha hs (λa w ha hs=>?_) (hlt:=(by simp[pkC]))
 change St W w (blk b5 70 (pkC { pk with press:=pk.press.take 33 } aq cq)::_) at hs
 refine RN 0 ha hs λa ha=>?_
 refine wp_seq_cut (M:=λa w=>∃ q:Pk,(q.sum=pk.sum∧q.press=pk.press.take 33)∧Fr a 21 [(4,pt b4),(5,pt b5)]∧St W w (blk b5 70 (pkC q aq cq)::blk b4 70 (pkC pk0 none 0)::L)) ?_ ?_
 ·
  refine IF 3 ha hs (λhc0 a ha=>?_) λhc0 a ha=>?_
  ·
   refine DWC 0 (λw0 w'=>Rd w' b2 0 (cfC cf)) [3,5] [0,2,3001,4,3003,1005,6,1007] ha hs λa w ha hs hH=>?_
   have hC:=hH.at w (hs.rdAll (b:=b2))
   refine RH 2 ha hs hH hC λa ha=>?_
   refine QH ha (λw hc=>ld1 ha (hc 1 _ rfl)) hC λa ha=>?_
   refine RH 1 ha hs hH hC λa ha=>?_
   refine QH ha (λw hc=>ld1 ha (hc 2 _ rfl)) hC λa ha=>?_
   refine RH 0 ha hs hH hC λa ha=>?_
   refine ST 0 ha hs (λa w ha hs=>?_) (hlt:=(by simp[pkC]))
   replace hC:=hH.at w (hs.rdAll (b:=b2))
   refine RH 1 ha hs hH hC λa ha=>?_
   refine ST 0 ha hs (λa w ha hs=>?_) (hlt:=(by simp[pkC]))
   refine RN 0 ha hs λa ha=>?_
   exact⟨{ pk with press:=pk.press.take 33,to:=cf.me,id:=cf.id },⟨rfl,rfl⟩,ha.keep [4,5],(show St W w (blk b5 70 (pkC { pk with press:=pk.press.take 33,to:=cf.me,id:=cf.id } aq cq)::_) from hs).sub⟩
  refine RN 0 ha hs λa ha=>?_
  exact⟨{ pk with press:=pk.press.take 33 },⟨rfl,rfl⟩,ha.keep [4,5],hs.sub⟩
 clear ha;(try clear hs)
 rintro a w ⟨q,⟨hq1,hq2⟩,ha,hs⟩
 refine SA 2 ha hs λa w ha hs=>?_
 refine RT 0 ha hs ?_
 exact⟨q,aq,cq,rfl,by rw[hq1];exact hps,by rw[hq2];exact hrq,hs.sub⟩
set_option maxHeartbeats 4000000 in
theorem do_spec (M:PlayS W t ad fP fR fT fQ fE fC fD fX p gs J)(hi:i≤1000000)(hs:St W w (J i s::RefG W B p s::L))(hw:WF' p s)(hpr:prOk p)(hsz:p.title.size≤1000000000)(hnw:s.k.now≤1000000)
   (hrB:RdB W aB n bs) (hnB:n≤cB) (hps:pk.sum<4294967296) (hrK:RdB W aK pk.press.length pk.press) (hcK:pk.press.length≤cK) :
   Calls Tryz.prog 45 #[.iface t (.pointer (some ad)),pt B.pb,.agg (opL kd aB n cB pk aK cK b z).toArray] w λe w'=>e=.returned (.bool true)∧∃ s',WF' p s'∧s'.k.now≤s.k.now+1∧St W w' (J (i+1) s'::RefG W B p s'::L):=by
 have hbl:=hrB.1
 have hevl:=hw.wc.evl
 refine EN Tryz.func45 Tryz.ntmps45 rfl rfl λa ha=>?_
 refine BX 1 ha hs λb5 a w ha hs=>?_
 change St W w (blk b5 98 (opL kd aB n cB pk aK cK b z)::_) at hs
 refine IF 8 ha hs (λhc0 a ha=>?_) λhc0 a ha=>?_
 ·
  refine RN 2 ha hs λa ha=>?_
  refine wp_seq_cut (M:=λa w=>∃ x:UInt8,Fr a 91 [(0,.iface t (.pointer (some ad))),(1,pt B.pb),(7,.int .u8 (x.toNat:Nat))]∧St W w (J i s::RefG W B p s::L)) ?_ ?_
  ·
   refine IF 5 ha hs (λhc1 a ha=>?_) λhc1 a ha=>?_
   ·
    have h0:0<bs.length:=by omega
    obtain⟨bb,oo,rfl,hrb⟩:=(hrB.old hs).get (by omega)
    refine RN 3 ha hs λa ha=>?_
    refine SS ha (ld1 ha (hrb 0 _ (bc_at h0))) λa ha=>?_
    refine RN 1 ha hs λa ha=>?_
    exact⟨bs[0],ha.keep [0,1,7],hs.sub⟩
   refine RN 0 ha hs λa ha=>?_
   exact⟨0,ha.keep [0,1,7],hs.sub⟩
  clear ha;(try clear hs)
  rintro a w ⟨x,ha,hs⟩
  refine RN 3 ha hs λa ha=>?_
  refine st_callI ha rfl M.mP M.cP rfl (M.press _ _ i s x hi hw (hs.pick (J i s))) (by rfl) ?_
  clear ha hs
  rintro e w ⟨rfl,hs⟩
  refine⟨_,rfl,λa ha=>?_⟩
  refine CL 2 ha hs (refP_press (x:=x) (hs.pick (RefG W B p s)) hw hpr hsz) λa w ha hs=>?_
  refine RT 2 ha hs ?_
  exact⟨by simp,(pressP p x s).2,hw.press x,by rw[press_now p x hw];omega,hs.sub⟩
 refine IF 3 ha hs (λhc2 a ha=>?_) λhc2 a ha=>?_
 ·
  refine RN 1 ha hs λa ha=>?_
  replace hs:=RefG.open (hs.pick (RefG W B p s))
  refine DWC 0 (λw0 w'=>Rd w' B.pb 0 (rgC p B s.g)) [1,2] [0,3,4,5,3006,1001,1002,1007,1008,9] ha hs λa w ha hs hH=>?_
  have hC:=hH.at w (hs.rdAll (b:=B.pb))
  refine RH 4 ha hs hH hC λa ha=>?_
  refine QH ha (λw hc=>ld1 ha (hc 0 _ rfl)) hC λa ha=>?_
  refine RH 0 ha hs hH hC λa ha=>?_
  refine st_callI ha rfl M.mT M.cT rfl (M.tick _ _ i s hi hw hnw (hs.pick (J i s))) (by rfl) ?_
  clear ha hs
  rintro e w ⟨am,cm,rfl,hs⟩
  refine⟨_,rfl,λa ha=>?_⟩
  replace hC:=hH.at w (hs.rdAll (b:=B.pb))
  refine RH 0 ha hs hH hC λa ha=>?_
  refine CL2 0 ha hs (mails_spec hs (tick_len hw.wc)) λan cn a w ha hs=>?_
  replace hC:=hH.at w (hs.rdAll (b:=B.pb))
  refine RH 0 ha hs hH hC λa ha=>?_
  refine CL2 0 ha hs (ref_tick (hs.pick (RefS B.core s.k)) hw.wc hnw) λar cr a w ha hs=>?_
  refine CL 0 ha hs (eqMails_spec ((hs.pick (OwnMl 138 ar (tickK s.k).1.length cr (tickK s.k).1)).pick (OwnMl 138 an (tickK s.k).1.length cn (tickK s.k).1)) (tick_len hw.wc)) λa w ha hs=>?_
  refine RN 1 ha hs λa ha=>?_
  refine RT 0 ha hs ?_
  exact⟨rfl,⟨(tickK s.k).2,s.g⟩,hw.tick,tick_now _,(RefG.fold hs B p ⟨(tickK s.k).2,s.g⟩).sub⟩
 refine IF 3 ha hs (λhc3 a ha=>?_) λhc3 a ha=>?_
 ·
  refine RN 1 ha hs λa ha=>?_
  obtain⟨A,hs⟩:=RefS.open ((RefG.open (hs.pick (RefG W B p s))).pick (RefS B.core s.k))
  refine DWC 0 (λw0 w'=>Rd w' B.pb 0 (rgC p B s.g)∧Rd w' B.core.cb 0 (rcC s.k B.core A)) [7] [0,1,2,3003,4,5,3006,1007,1008,1009,10] ha hs λa w ha hs hH=>?_
  have hC:=hH.at w ⟨hs.rdAll (b:=B.pb),hs.rdAll (b:=B.core.cb)⟩
  refine RH 3 ha hs hH hC λa ha=>?_
  refine QH ha (λw hc=>ld1 ha (hc.1 0 _ rfl)) hC λa ha=>?_
  refine RH 2 ha hs hH hC λa ha=>?_
  refine QH ha (λw hc=>ex_loadN ha Tryz.underlying27 rfl Ty.t27 (rcC_cf hc.2)) hC λa ha=>?_
  refine RH 1 ha hs hH hC λa ha=>?_
  refine CL3 0 ha hs (packet21_spec (cf:=ksCf s.k) hs hps hrK hcK) λq aq cq a w ha ⟨hqs,hrq,hs⟩=>?_
  refine CL2 0 ha hs (refPacket_spec (p:=q) hs hqs (λw' hw'=>hrq.old hw')) λadE cE a w ha hs=>?_
  refine RN 1 ha hs λa ha=>?_
  replace hs:=RefG.fold (RefS.fold hs B.core s.k A) B p s
  refine RN 3 ha hs λa ha=>?_
  refine st_callI ha rfl M.mR M.cR rfl (M.recv _ _ i s (encO q) adE cE hi hw (Nat.le_trans (encO_len _) (by decide)) (hs.sl adE).2 (λw' hw'=>(hw'.pick (Sl 5 1 adE (encO q).length cE (bc (encO q)))).rdB adE _ rfl rfl) (hs.pick (J i s))) (by rfl) ?_
  clear ha hs
  rintro e w ⟨rfl,hs⟩
  refine⟨_,rfl,λa ha=>?_⟩
  refine CL 2 ha hs (refP_receive (bs:=encO q) (hs.pick (RefG W B p s)) hw hpr hsz (Nat.le_trans (encO_len _) (by decide)) (hs.sl adE).2 (λw' hw'=>(hw'.pick (Sl 5 1 adE (encO q).length cE (bc (encO q)))).rdB adE _ rfl rfl)) λa w ha hs=>?_
  refine RT 2 ha hs ?_
  exact⟨by simp,(recvP p (encO q) s).2,hw.recv _,by rw[recv_now p _ hw];omega,hs.sub⟩
 refine IF 3 ha hs (λhc4 a ha=>?_) λhc4 a ha=>?_
 ·
  refine CL2 3 ha hs (shortN (K:=60) hs hrB hnB) λaS cS a w ha ⟨hrS,hcS,hs⟩=>?_
  refine RN 1 ha hs λa ha=>?_
  have hSl:(bs.take 60).length≤60:=by rw[List.length_take];omega
  generalize bs.take 60=S at ha hrS hcS hSl
  refine RN 3 ha hs λa ha=>?_
  refine st_callI ha rfl M.mR M.cR rfl (M.recv _ _ i s S aS cS hi hw (by omega) hcS (λw' hw'=>hrS.old hw') (hs.pick (J i s))) (by rfl) ?_
  clear ha hs
  rintro e w ⟨rfl,hs⟩
  refine⟨_,rfl,λa ha=>?_⟩
  refine CL 2 ha hs (refP_receive (bs:=S) (hs.pick (RefG W B p s)) hw hpr hsz (by omega) hcS (λw' hw'=>hrS.old hw')) λa w ha hs=>?_
  refine RT 2 ha hs ?_
  exact⟨by simp,(recvP p S s).2,hw.recv _,by rw[recv_now p _ hw];omega,hs.sub⟩
 refine IF 3 ha hs (λhc5 a ha=>?_) λhc5 a ha=>?_
 ·
  refine RN 1 ha hs λa ha=>?_
  replace hs:=RefG.open (hs.pick (RefG W B p s))
  refine DWC 0 (λw0 w'=>Rd w' B.pb 0 (rgC p B s.g)) [1,2] [0,3,4,5,3006,1001,1002,1007,1008,9] ha hs λa w ha hs hH=>?_
  have hC:=hH.at w (hs.rdAll (b:=B.pb))
  refine RH 4 ha hs hH hC λa ha=>?_
  refine QH ha (λw hc=>ld1 ha (hc 0 _ rfl)) hC λa ha=>?_
  refine RH 0 ha hs hH hC λa ha=>?_
  refine st_callI ha rfl M.mQ M.cQ rfl (M.quit _ _ i s hi hw (hs.pick (J i s))) (by rfl) ?_
  clear ha hs
  rintro e w ⟨am,cm,rfl,hs⟩
  refine⟨_,rfl,λa ha=>?_⟩
  replace hC:=hH.at w (hs.rdAll (b:=B.pb))
  refine RH 0 ha hs hH hC λa ha=>?_
  refine CL2 0 ha hs (mails_spec hs (quit_len hw.wc)) λan cn a w ha hs=>?_
  replace hC:=hH.at w (hs.rdAll (b:=B.pb))
  refine RH 0 ha hs hH hC λa ha=>?_
  refine CL2 0 ha hs (ref_quit (hs.pick (RefS B.core s.k)) hw.wc) λar cr a w ha hs=>?_
  refine CL 0 ha hs (eqMails_spec ((hs.pick (OwnMl 138 ar (quitK s.k).1.length cr (quitK s.k).1)).pick (OwnMl 138 an (quitK s.k).1.length cn (quitK s.k).1)) (quit_len hw.wc)) λa w ha hs=>?_
  refine RN 1 ha hs λa ha=>?_
  refine RT 0 ha hs ?_
  exact⟨rfl,⟨(quitK s.k).2,s.g⟩,hw.quit,by rw[show (⟨(quitK s.k).2,s.g⟩:Pl).k.now=s.k.now from quit_now _];omega,(RefG.fold hs B p ⟨(quitK s.k).2,s.g⟩).sub⟩
 refine RN 1 ha hs λa ha=>?_
 replace hs:=RefG.open (hs.pick (RefG W B p s))
 refine DWC 0 (λw0 w'=>Rd w' B.pb 0 (rgC p B s.g)) [1,2] [0,3,4,5,3006,1001,1002,1007,1008,9] ha hs λa w ha hs hH=>?_
 have hC:=hH.at w (hs.rdAll (b:=B.pb))
 refine RH 4 ha hs hH hC λa ha=>?_
 refine QH ha (λw hc=>ld1 ha (hc 0 _ rfl)) hC λa ha=>?_
 refine RH 0 ha hs hH hC λa ha=>?_
 refine st_callI ha rfl M.mE M.cE rfl (M.events _ _ i s hi hw (hs.pick (J i s))) (by rfl) ?_
 clear ha hs
 rintro e w ⟨am,cm,rfl,hs⟩
 refine⟨_,rfl,λa ha=>?_⟩
 replace hC:=hH.at w (hs.rdAll (b:=B.pb))
 refine RH 0 ha hs hH hC λa ha=>?_
 refine CL2 0 ha hs (raws_spec hs (by omega) hw.wc.evs) λan cn a w ha hs=>?_
 replace hC:=hH.at w (hs.rdAll (b:=B.pb))
 refine RH 0 ha hs hH hC λa ha=>?_
 refine CL2 0 ha hs (ref_told (hs.pick (RefS B.core s.k))) λar cr a w ha hs=>?_
 refine CL 0 ha hs (eqRaws_spec ((hs.pick (Sl 223 3 ar s.k.ev.length cr (rows rawC s.k.ev))).pick (Sl 223 3 an s.k.ev.length cn (rows rawC s.k.ev))) (by omega)) λa w ha hs=>?_
 refine RN 1 ha hs λa ha=>?_
 refine RT 0 ha hs ?_
 exact⟨rfl,⟨{ s.k with ev:=[] },s.g⟩,hw.told,Nat.le_succ _,(RefG.fold hs B p ⟨{ s.k with ev:=[] },s.g⟩).sub⟩
end
end
section
open Go.RowKit Go.ChangeShapes Go.WideShapes Go.ChangeAt
set_option linter.constructorNameAsVariable false
set_option maxRecDepth 100000
theorem argConf_of {H:Type}{enc:TypeId×Value→H}{W:World}{base:Nat}{v:Value}{d:DataW H}{q:List MemPlace}(hv:Value.okWide Tryz.prog W .any base 27 v)
   (h:DataW.Trod enc Tryz.prog W 0 (λ_=>true) true 27 v d q):∃ cf:Cf,v=.agg (cfC cf).toArray:=by
 obtain⟨cs,rfl,hsz⟩:=okWide_struct Tryz.underlying27 hv
 obtain⟨fuel,hf⟩:=h
 obtain⟨xs,n,_,_,_,hlen,hfs⟩:=DataW.trod_struct Tryz.underlying27 hf
 rw[show Tryz.prog.cellsOf 27=10 from by kernel_rfl]at hsz
 have hc1:Tryz.prog.cellsOf 3=1:=by kernel_rfl
 have hi:∀ k,k<10→∃ z,cs.toList[k]?=some (.int .i64 z):=by
   intro k hk
   obtain⟨y,hy⟩:∃ y,xs[k]?=some y:=⟨_,List.getElem?_eq_getElem (by rw[hlen];exact hk)⟩
   have hk2:∃ f:Field,Tryz.prog.underlying f.type=some (.int .i64)∧Tryz.prog.cellsOf f.type=1∧f.offset=k∧DataW.trod enc Tryz.prog W 0 (λ_=>true) true n f.type (((Value.agg cs).cells.toList.drop f.offset).take (Tryz.prog.cellsOf f.type))=some y:=by
     rcases (by omega:k=0∨k=1∨k=2∨k=3∨k=4∨k=5∨k=6∨k=7∨k=8∨k=9) with rfl | rfl | rfl | rfl | rfl | rfl | rfl | rfl | rfl | rfl
     · exact⟨_,Tryz.underlying3,by kernel_rfl,rfl,(hfs 0 _ rfl).trans hy⟩
     · exact⟨_,Tryz.underlying3,by kernel_rfl,rfl,(hfs 1 _ rfl).trans hy⟩
     · exact⟨_,Tryz.underlying2,by kernel_rfl,rfl,(hfs 2 _ rfl).trans hy⟩
     · exact⟨_,Tryz.underlying3,by kernel_rfl,rfl,(hfs 3 _ rfl).trans hy⟩
     · exact⟨_,Tryz.underlying3,by kernel_rfl,rfl,(hfs 4 _ rfl).trans hy⟩
     · exact⟨_,Tryz.underlying3,by kernel_rfl,rfl,(hfs 5 _ rfl).trans hy⟩
     · exact⟨_,Tryz.underlying3,by kernel_rfl,rfl,(hfs 6 _ rfl).trans hy⟩
     · exact⟨_,Tryz.underlying3,by kernel_rfl,rfl,(hfs 7 _ rfl).trans hy⟩
     · exact⟨_,Tryz.underlying3,by kernel_rfl,rfl,(hfs 8 _ rfl).trans hy⟩
     · exact⟨_,Tryz.underlying3,by kernel_rfl,rfl,(hfs 9 _ rfl).trans hy⟩
   obtain⟨f,t1,t2,t4,t3⟩:=hk2
   rw[t4,t2]at t3
   obtain⟨z,hz,_,_⟩:=DataW.trod_int t1 t3
   refine⟨z,?_⟩
   have h9:(((Value.agg cs).cells.toList.drop k).take 1)[0]?=some (.int .i64 z):=by rw[hz];rfl
   rw[List.getElem?_take,if_pos (by decide),List.getElem?_drop]at h9
   simpa [Value.cells] using h9
 obtain⟨c0,c1,c2,c3,c4,c5,c6,c7,c8,c9,rfl⟩:∃ c0 c1 c2 c3 c4 c5 c6 c7 c8 c9,cs=#[c0,c1,c2,c3,c4,c5,c6,c7,c8,c9]:=by
   match cs,hsz with
   | ⟨[c0,c1,c2,c3,c4,c5,c6,c7,c8,c9]⟩,_=>exact⟨c0,c1,c2,c3,c4,c5,c6,c7,c8,c9,rfl⟩
 obtain⟨z0,q0⟩:=hi 0 (by decide)
 obtain⟨z1,q1⟩:=hi 1 (by decide)
 obtain⟨z2,q2⟩:=hi 2 (by decide)
 obtain⟨z3,q3⟩:=hi 3 (by decide)
 obtain⟨z4,q4⟩:=hi 4 (by decide)
 obtain⟨z5,q5⟩:=hi 5 (by decide)
 obtain⟨z6,q6⟩:=hi 6 (by decide)
 obtain⟨z7,q7⟩:=hi 7 (by decide)
 obtain⟨z8,q8⟩:=hi 8 (by decide)
 obtain⟨z9,q9⟩:=hi 9 (by decide)
 obtain rfl:c0=_:=Option.some.inj q0
 obtain rfl:c1=_:=Option.some.inj q1
 obtain rfl:c2=_:=Option.some.inj q2
 obtain rfl:c3=_:=Option.some.inj q3
 obtain rfl:c4=_:=Option.some.inj q4
 obtain rfl:c5=_:=Option.some.inj q5
 obtain rfl:c6=_:=Option.some.inj q6
 obtain rfl:c7=_:=Option.some.inj q7
 obtain rfl:c8=_:=Option.some.inj q8
 obtain rfl:c9=_:=Option.some.inj q9
 exact⟨⟨z0,z1,z2,z3,z4,z5,z6,z7,z8,z9⟩,rfl⟩
section
variable {W w:World}{L:List SP}{n cP cT:Nat}{adP adT:Option Addr}{p:Pr}{tb:List UInt8}{cf:Cf}
theorem ref_within {x lo hi:Int}(hs:St W w L):Calls Tryz.prog 161 #[.int .i64 x,.int .i64 lo,.int .i64 hi] w λe w'=>∃ r:Bool,e=.returned (.bool r)∧(r=true↔inI x lo hi)∧St W w' L:=by
 refine EN Tryz.func161 Tryz.ntmps161 rfl rfl λa ha=>?_
 refine BY 7 ha hs (λhg3 a ha=>?_) λhg3 a ha=>?_
 ·
  refine RT 5 ha hs ?_
  exact⟨_,rfl,⟨λh=>⟨hg3,of_decide_eq_true h⟩,λh=>decide_eq_true h.2⟩,hs⟩
 refine RT 5 ha hs ?_
 exact⟨_,rfl,⟨λh=>(by cases h),λh=>by have:=h.1;omega⟩,hs⟩
theorem ref_may (hs:St W w L):Calls Tryz.prog 101 #[.agg (cfC cf).toArray] w λe w'=>∃ r:Bool,e=.returned (.bool r)∧(r=true↔mayCf cf)∧St W w' L:=by
 refine EN Tryz.func101 Tryz.ntmps101 rfl rfl λa ha=>?_
 refine BX 1 ha hs λb1 a w ha hs=>?_
 change St W w (blk b1 27 (cfC cf)::_) at hs
 refine CL1 5 ha hs (ref_within hs) λr1 a w ha ⟨hr1,hs⟩=>?_
 refine BY 2 ha hs (λhg4 a ha=>?_) λhg4 a ha=>?_
 ·
  refine RT 55 ha hs ?_
  exact⟨_,rfl,⟨λh=>(by cases h),λh=>by have:=hr1.2 h.1.1;rw[hg4]at this;cases this⟩,hs.sub⟩
 have hn0:=hr1.1 hg4
 refine RN 4 ha hs λa ha=>?_
 refine SK (st_set ha (wgT ha rfl (s:=7)) (ex_sub ha) rfl ?_);clear ha a;intro a ha
 have hn1:IntKind.i64.wrap (cf.n-1)=cf.n-1:=wrap_in (by have:=hn0.1;omega) (by have:=hn0.2;omega)
 rw[hn1]at ha
 refine CL1 0 ha hs (ref_within hs) λr2 a w ha ⟨hr2,hs⟩=>?_
 refine BY 3 ha hs (λhg13 a ha=>?_) λhg13 a ha=>?_
 ·
  refine RT 46 ha hs ?_
  exact⟨_,rfl,⟨λh=>(by cases h),λh=>by have:=hr2.2 h.1.2.1;rw[hg13]at this;cases this⟩,hs.sub⟩
 refine BY 5 ha hs (λhg18 a ha=>?_) λhg18 a ha=>?_
 ·
  refine RT 41 ha hs ?_
  exact⟨_,rfl,⟨λh=>(by cases h),λh=>by have:=h.1.2.2.1;omega⟩,hs.sub⟩
 refine BY 5 ha hs (λhg23 a ha=>?_) λhg23 a ha=>?_
 ·
  refine RT 36 ha hs ?_
  exact⟨_,rfl,⟨λh=>(by cases h),λh=>by have:=h.1.2.2.2;omega⟩,hs.sub⟩
 refine CL1 2 ha hs (ref_within hs) λr3 a w ha ⟨hr3,hs⟩=>?_
 refine BY 3 ha hs (λhg29 a ha=>?_) λhg29 a ha=>?_
 ·
  refine RT 30 ha hs ?_
  exact⟨_,rfl,⟨λh=>(by cases h),λh=>by have:=hr3.2 h.2.1.1;rw[hg29]at this;cases this⟩,hs.sub⟩
 refine CL1 2 ha hs (ref_within hs) λr4 a w ha ⟨hr4,hs⟩=>?_
 refine BY 3 ha hs (λhg35 a ha=>?_) λhg35 a ha=>?_
 ·
  refine RT 24 ha hs ?_
  exact⟨_,rfl,⟨λh=>(by cases h),λh=>by have:=hr4.2 h.2.1.2.1;rw[hg35]at this;cases this⟩,hs.sub⟩
 refine CL1 2 ha hs (ref_within hs) λr5 a w ha ⟨hr5,hs⟩=>?_
 refine BY 3 ha hs (λhg41 a ha=>?_) λhg41 a ha=>?_
 ·
  refine RT 18 ha hs ?_
  exact⟨_,rfl,⟨λh=>(by cases h),λh=>by have:=hr5.2 h.2.1.2.2.1;rw[hg41]at this;cases this⟩,hs.sub⟩
 refine CL1 2 ha hs (ref_within hs) λr6 a w ha ⟨hr6,hs⟩=>?_
 refine BY 3 ha hs (λhg47 a ha=>?_) λhg47 a ha=>?_
 ·
  refine RT 12 ha hs ?_
  exact⟨_,rfl,⟨λh=>(by cases h),λh=>by have:=hr6.2 h.2.1.2.2.2;rw[hg47]at this;cases this⟩,hs.sub⟩
 refine BY 4 ha hs (λhg51 a ha=>?_) λhg51 a ha=>?_
 ·
  refine IF 5 ha hs (λhc0 a ha=>?_) λhc0 a ha=>?_
  ·
   refine RT 2 ha hs ?_
   exact⟨_,rfl,⟨λh=>(by cases h),λh=>by have:=h.2.2.1;omega⟩,hs.sub⟩
  refine RN 1 ha hs λa ha=>?_
  have hog:cf.order=0∨cf.guess=2:=by omega
  have hA:(inI cf.n 2 8∧inI cf.me 0 (cf.n-1)∧inI cf.id 0 1099511627776)∧(inI cf.delay 0 8∧inI cf.window 1 16∧inI cf.guess 1 3∧inI cf.order 0 3):=⟨⟨hn0,hr2.1 hg13,hg18,hg23⟩,hr3.1 hg29,hr4.1 hg35,hr5.1 hg41,hr6.1 hg47⟩
  refine CL1 2 ha hs (ref_within hs) λs1 a w ha ⟨hs1,hs⟩=>?_
  refine BY 1 ha hs (λhg3 a ha=>?_) λhg3 a ha=>?_
  ·
   refine CL1 2 ha hs (ref_within hs) λs2 a w ha ⟨hs2,hs⟩=>?_
   refine BY 2 ha hs (λhg8 a ha=>?_) λhg8 a ha=>?_
   ·
    refine CL1 2 ha hs (ref_within hs) λs3 a w ha ⟨hs3,hs⟩=>?_
    refine RT 2 ha hs ?_
    exact⟨_,rfl,⟨λh=>⟨hA.1,hA.2,hog,hs1.1 hg3,hs2.1 hg8,hs3.1 h⟩,λh=>hs3.2 h.2.2.2.2.2⟩,hs.sub⟩
   refine RT 5 ha hs ?_
   exact⟨_,rfl,⟨λh=>(by cases h),λh=>by have:=hs2.2 h.2.2.2.2.1;rw[hg8]at this;cases this⟩,hs.sub⟩
  refine RT 10 ha hs ?_
  exact⟨_,rfl,⟨λh=>(by cases h),λh=>by have:=hs1.2 h.2.2.2.1;rw[hg3]at this;cases this⟩,hs.sub⟩
 refine RN 7 ha hs λa ha=>?_
 have hog:cf.order=0∨cf.guess=2:=by omega
 have hA:(inI cf.n 2 8∧inI cf.me 0 (cf.n-1)∧inI cf.id 0 1099511627776)∧(inI cf.delay 0 8∧inI cf.window 1 16∧inI cf.guess 1 3∧inI cf.order 0 3):=⟨⟨hn0,hr2.1 hg13,hg18,hg23⟩,hr3.1 hg29,hr4.1 hg35,hr5.1 hg41,hr6.1 hg47⟩
 refine CL1 2 ha hs (ref_within hs) λs1 a w ha ⟨hs1,hs⟩=>?_
 refine BY 1 ha hs (λhg3 a ha=>?_) λhg3 a ha=>?_
 ·
  refine CL1 2 ha hs (ref_within hs) λs2 a w ha ⟨hs2,hs⟩=>?_
  refine BY 2 ha hs (λhg8 a ha=>?_) λhg8 a ha=>?_
  ·
   refine CL1 2 ha hs (ref_within hs) λs3 a w ha ⟨hs3,hs⟩=>?_
   refine RT 2 ha hs ?_
   exact⟨_,rfl,⟨λh=>⟨hA.1,hA.2,hog,hs1.1 hg3,hs2.1 hg8,hs3.1 h⟩,λh=>hs3.2 h.2.2.2.2.2⟩,hs.sub⟩
  refine RT 5 ha hs ?_
  exact⟨_,rfl,⟨λh=>(by cases h),λh=>by have:=hs2.2 h.2.2.2.2.1;rw[hg8]at this;cases this⟩,hs.sub⟩
 refine RT 10 ha hs ?_
 exact⟨_,rfl,⟨λh=>(by cases h),λh=>by have:=hs1.2 h.2.2.2.1;rw[hg3]at this;cases this⟩,hs.sub⟩
def mayAll (cf:Cf)(p:Pr)(tb:List UInt8):Prop:=mayCf cf∧prOk p∧mayGs ⟨cf.guess,cf.order,tb⟩
theorem refMayAll (hs:St W w (RoP W p adP cP::L))(hsz:p.title.size≤1000000000)(hol:p.ops.length≤1000000000)(hn:tb.length=n) :
   Calls Tryz.prog 44 #[.agg (cfC cf).toArray,.agg (prV p adP cP).toArray,.slice adT n cT] w λe w'=>∃ r:Bool,e=.returned (.bool r)∧(r=true↔mayAll cf p tb)∧St W w' (RoP W p adP cP::L):=by
 subst hn
 refine EN Tryz.func44 Tryz.ntmps44 rfl rfl λa ha=>?_
 refine BX 1 ha hs λb3 a w ha hs=>?_
 change St W w (blk b3 27 (cfC cf)::_) at hs
 refine BX 0 ha hs λb4 a w ha hs=>?_
 change St W w (blk b4 34 (prV p adP cP)::_) at hs
 refine CL1 3 ha hs (ref_may hs) λr1 a w ha ⟨hr1,hs⟩=>?_
 refine BY 1 ha hs (λhg2 a ha=>?_) λhg2 a ha=>?_
 ·
  refine CL1 1 ha hs (refFault_spec (hs.pick (RoP W p adP cP)) hsz hol) λr2 a w ha ⟨hr2,hs⟩=>?_
  refine BY 3 ha hs (λhg7 a ha=>?_) λhg7 a ha=>?_
  ·
   refine CL1 6 ha hs (ref_mayBy (b:=⟨cf.guess,cf.order,tb⟩) hs) λr3 a w ha ⟨hr3,hs⟩=>?_
   refine RT 2 ha hs ?_
   exact⟨_,rfl,⟨λh=>⟨hr1.1 hg2,hr2.1 hg7,hr3.1 h⟩,λh=>hr3.2 h.2.2⟩,hs.sub⟩
  refine RT 9 ha hs ?_
  refine⟨_,rfl,⟨λh=>(by cases h),λh=>?_⟩,hs.sub⟩
  have:=hr2.2 h.2.1
  simp_all
 refine RT 14 ha hs ?_
 refine⟨_,rfl,⟨λh=>(by cases h),λh=>?_⟩,hs.sub⟩
 have:=hr1.2 h.1
 simp_all
end
end
section
def MuJ (W:World)(M:MuB)(p:Pr)(cf:Cf)(i:Nat)(s:Pl):SP:=λh=>∃ m:Mu,(m.s=s∧MI p M (20*i+1) m∧ksCf s.k=cf)∧MuS W M p m h
section
variable {W w:World}{L:List SP}{n c i N cP cT:Nat}{adP adT:Option Addr}{M:MuB}{x:UInt8}{p:Pr}{s:Pl}{m:Mu}{bs tb:List UInt8}{cf:Cf}{y:Int}
theorem MuJ.open (hs:St W w (MuJ W M p cf i s::L)):∃ m:Mu,(m.s=s∧MI p M (20*i+1) m∧ksCf s.k=cf)∧St W w (MuS W M p m::L):=hs.exi λ_ h=>h
theorem MuJ.close (hs:St W w (MuS W M p m::L))(h:MI p M N m)(hN:N≤20*i+1)(hm:m.s=s)(hc:ksCf s.k=cf):St W w (MuJ W M p cf i s::L) :=
 St.shut (M:=MuL W M p m) (MuS.open hs) λ_ q=>⟨m,⟨hm,h.more hN,hc⟩,q⟩
theorem mu_play (hpr:prOk p)(hsz:p.title.size≤1000000000):PlayS W 28 ⟨M.mb,0,none⟩ 16 33 27 29 39 35 34 31 p M.B.gs (MuJ W M p cf) where
 mP:=λad w=>by kernel_rfl
 cP:=(by kernel_rfl)
 mR:=λad w=>by kernel_rfl
 cR:=(by kernel_rfl)
 mT:=λad w=>by kernel_rfl
 cT:=(by kernel_rfl)
 mQ:=λad w=>by kernel_rfl
 cQ:=(by kernel_rfl)
 mE:=λad w=>by kernel_rfl
 cE:=(by kernel_rfl)
 mC:=λad w=>by kernel_rfl
 cC:=(by kernel_rfl)
 mD:=λad w=>by kernel_rfl
 cD:=(by kernel_rfl)
 mX:=λad w=>by kernel_rfl
 cX:=(by kernel_rfl)
 press:=λw L i s x hi hw hs=>by
   replace hs:=MuJ.open hs
   obtain⟨m,⟨rfl,hI,hc⟩,hs⟩:=hs
   exact (mu_press (x:=x) hs hI hpr hsz (by omega)).mono λr w' ⟨m',h1,⟨h2,h3,_⟩,hs⟩=>⟨h1,MuJ.close hs h3 (by omega) h2 ((Nxt.press hI.wf x).cf.trans hc)⟩
 recv:=λw L i s bs a c hi hw hb hc hp hs=>by
   replace hs:=MuJ.open hs
   obtain⟨m,⟨rfl,hI,hcf⟩,hs⟩:=hs
   exact (mu_receive hs hI hpr hsz (by omega) hb hc hp).mono λr w' ⟨m',h1,⟨h2,h3⟩,hs⟩=>⟨h1,MuJ.close hs h3 (by omega) h2 ((Nxt.recv hI.wf bs).cf.trans hcf)⟩
 tick:=λw L i s hi hw hn hs=>by
   replace hs:=MuJ.open hs
   obtain⟨m,⟨rfl,hI,hc⟩,hs⟩:=hs
   exact (mu_tick hs hI hn).mono λr w' ⟨a,c,h1,h2,hs⟩=>⟨a,c,h1,(MuJ.close (hs.perm (List.Perm.swap _ _ _)) h2 (by omega) rfl ((tick_cf _).trans hc)).perm (List.Perm.swap _ _ _)⟩
 quit:=λw L i s hi hw hs=>by
   replace hs:=MuJ.open hs
   obtain⟨m,⟨rfl,hI,hc⟩,hs⟩:=hs
   exact (mu_quit hs hI).mono λr w' ⟨a,c,h1,h2,hs⟩=>⟨a,c,h1,(MuJ.close (hs.perm (List.Perm.swap _ _ _)) h2 (by omega) rfl ((quit_cf _).trans hc)).perm (List.Perm.swap _ _ _)⟩
 events:=λw L i s hi hw hs=>by
   replace hs:=MuJ.open hs
   obtain⟨m,⟨rfl,hI,hc⟩,hs⟩:=hs
   exact (mu_events hs hI).mono λr w' ⟨a,c,h1,h2,hs⟩=>⟨a,c,h1,(MuJ.close (hs.perm (List.Perm.swap _ _ _)) h2 (by omega) rfl hc).perm (List.Perm.swap _ _ _)⟩
 conf:=λw L i s hi hw hs=>by
   replace hs:=MuJ.open hs
   obtain⟨m,⟨rfl,hI,hc⟩,hs⟩:=hs
   exact (mu_confirmed hs hI).mono λr w' ⟨a,c,h1,hs⟩=>⟨a,c,h1,(MuJ.close (hs.perm (List.Perm.swap _ _ _)) hI (Nat.le_refl _) rfl hc).perm (List.Perm.swap _ _ _)⟩
 disp:=λw L i s hi hw hs=>by
   replace hs:=MuJ.open hs
   obtain⟨m,⟨rfl,hI,hc⟩,hs⟩:=hs
   exact (mu_display hs hI hpr hsz).mono λr w' ⟨a,c,h1,hs⟩=>⟨a,c,h1,(MuJ.close (hs.perm (List.Perm.swap _ _ _)) hI (Nat.le_refl _) rfl hc).perm (List.Perm.swap _ _ _)⟩
 closed:=λw L i s hi hw hs=>by
   replace hs:=MuJ.open hs
   obtain⟨m,⟨rfl,hI,hc⟩,hs⟩:=hs
   exact (mu_closed hs).mono λr w' ⟨h1,hs⟩=>⟨h1,MuJ.close hs hI (Nat.le_refl _) rfl hc⟩
theorem mu_workJ (hs:St W w (MuJ W M p cf i s::L))(hpr:prOk p)(hsz:p.title.size≤1000000000)(hi:i≤1000000) :
   Calls Tryz.prog 17 #[pt M.mb,.int .i64 y] w λe w'=>∃ z:Bool,e=.returned (.bool z)∧(z=true→s.k.cl=false∧0≤y∧y<s.k.workers)∧St W w' (MuJ W M p cf (i+1) s::L):=by
 replace hs:=MuJ.open hs
 obtain⟨m,⟨rfl,hI,hc⟩,hs⟩:=hs
 have h4:=hI.ks
 by_cases hn:m.s.k.cl=true∨y<0∨(m.ks.length:Int)≤y
 · exact (mu_work_no hs hn h4).mono λe w' ⟨h1,hs⟩=>⟨false,h1,λh=>(by cases h),MuJ.close hs hI (by omega) rfl hc⟩
 · have hcl : m.s.k.cl = false := by
     cases h:m.s.k.cl with
     | false=>rfl
     | true=>exact absurd (.inl h) hn
   have hy:0≤y∧y<(m.ks.length:Int):=⟨by
     rcases Int.lt_or_le y 0 with h | h
     · exact absurd (.inr (.inl h)) hn
     · exact h,by
     rcases Int.lt_or_le y (m.ks.length:Int) with h | h
     · exact h
     · exact absurd (.inr (.inr h)) hn⟩
   obtain⟨j,rfl⟩:=Int.eq_ofNat_of_zero_le hy.1
   obtain⟨⟨k,wb⟩,hk⟩:∃ z,m.ks[j]?=some z:=⟨_,List.getElem?_eq_getElem (by omega)⟩
   exact (mu_work hs hI hcl hk hpr hsz (by omega)).mono λe w' ⟨z,A',T',J',k',h1,⟨_,h2⟩,hs⟩=>⟨z,h1,λ_=>⟨hcl,hy.1,by rw[hI.workers];exact hy.2⟩,MuJ.close hs h2 (by omega) rfl hc⟩
theorem MuJ.more {j:Nat}(hs:St W w (MuJ W M p cf i s::L))(h:i≤j):St W w (MuJ W M p cf j s::L):=by
 replace hs:=MuJ.open hs
 obtain⟨m,⟨hm,hI,hc⟩,hs⟩:=hs
 exact MuJ.close hs hI (by omega) hm hc
theorem mayCf_nat3 (h:mayCf cf):∃ n me delay window nb nw rm:Nat,cf=⟨n,me,cf.id,delay,window,cf.guess,cf.order,nb,nw,rm⟩:=by
 obtain⟨n,me,id,delay,window,guess,order,branches,workers,room⟩:=cf
 simp only[mayCf,inI]at h
 obtain⟨⟨h1,h2,h3⟩,⟨h4,h5,h6,h7⟩,h8,h9,h10,h11⟩:=h
 exact⟨n.toNat,me.toNat,delay.toNat,window.toNat,branches.toNat,workers.toNat,room.toNat,by
   simp only[Cf.mk.injEq];refine⟨?_,?_,?_,?_,?_,?_,?_,?_,?_,?_⟩ <;> first | trivial | omega⟩
theorem newP_cf (h:mayCf cf):ksCf (newP p cf).k=cf:=by
 obtain⟨ps,ev,mr,hk⟩:∃ ps ev mr,(newP p cf).k={ newK cf with ps:=ps,ev:=ev,mr:=mr }:=(newP_ok (p:=p) (c:=cf) h).playP.2.2
 rw[hk];exact (WC.new h).2.2
theorem mu_newY (hma:mayAll cf p tb)(hs:St W w (RoP W p adP cP::L))(hn:tb.length=n)(hsz:p.title.size≤1000000000)(hol:p.ops.length≤1000000000)(htl:tb.length≤1099511627776)(hT:∀ w',St W w' (RoP W p adP cP::L)→RdB w' adT tb.length tb) :
   Calls Tryz.prog 14 #[.agg (cfC cf).toArray,.agg (prV p adP cP).toArray,.slice adT n cT] w λr w'=>∃ M:MuB,r=.returned (.tuple #[pt M.mb,.int .i64 0])∧M.B.gs=⟨cf.guess,cf.order,tb⟩∧St W w' (MuJ W M p cf 0 (newP p cf)::RoP W p adP cP::L):=by
 subst hn
 obtain⟨h1,h2,h3⟩:=hma
 have hcf0:=newP_cf (p:=p) h1
 obtain⟨n,me,delay,window,nb,nw,rm,hcf⟩:=mayCf_nat3 h1
 generalize cf.guess=guess at hcf h3 ⊢
 generalize cf.order=order at hcf h3 ⊢
 generalize cf.id=id at hcf
 rw[hcf]at h1 hcf0 ⊢
 exact (mu_new (adT:=adT) (cT:=cT) hs h1 h2 h3 hsz hol htl hT).mono λr w' ⟨M,m,h4,⟨h5,h6,h7,_⟩,hs⟩=>⟨M,h4,h5,MuJ.close hs h7 (by omega) h6 hcf0⟩
theorem refP_newZ (hm:mayCf cf)(hs:St W w (RoP W p adP cP::L))(hn:tb.length=n)(hpr:prOk p)(hsz:p.title.size≤1000000000) :
   Calls Tryz.prog 20 #[.agg (cfC cf).toArray,.agg (prV p adP cP).toArray,.slice adT n cT] w λr w'=>∃ B:RgB,r=.returned (pt B.pb)∧(B.gs=⟨cf.guess,cf.order,tb⟩∧B.adT=adT)∧St W w' (RefG W B p (newP p cf)::L):=by
 subst hn
 obtain⟨n,me,delay,window,hcf⟩:=mayCf_nat hm
 generalize cf.guess=guess at hcf ⊢
 generalize cf.order=order at hcf ⊢
 rw[hcf]at hm ⊢
 exact refP_new hs hm hpr hsz
theorem newP_now0 (h:mayCf cf):(newP p cf).k.now=0:=by
 rw[newP,(playP_same (newP_ok (p:=p) h)).2.2.2.2.2.1];rfl
theorem mu_newN (hma:¬ mayAll cf p tb)(hs:St W w (RoP W p adP cP::L))(hn:tb.length=n)(hsz:p.title.size≤1000000000)(hol:p.ops.length≤1000000000)(htl:tb.length≤1099511627776)(hT:∀ w',St W w' (RoP W p adP cP::L)→RdB w' adT tb.length tb) :
   Calls Tryz.prog 14 #[.agg (cfC cf).toArray,.agg (prV p adP cP).toArray,.slice adT n cT] w λr w'=>r=.returned (.tuple #[.pointer none,.int .i64 1])∧St W w' (RoP W p adP cP::L):=by
 subst hn
 by_cases h1:mayCf cf
 · obtain⟨n,me,delay,window,hcf⟩:=mayCf_nat h1
   generalize hg:cf.guess=guess at hcf
   generalize ho:cf.order=order at hcf
   have h2:¬ (prOk p∧mayGs ⟨guess,order,tb⟩):=λh=>hma ⟨h1,h.1,by rw[hg,ho];exact h.2⟩
   rw[hcf]at h1 ⊢
   exact mu_new_no2 (adT:=adT) (cT:=cT) hs h1 h2 hsz hol htl hT
 · exact mu_new_no1 (adT:=adT) (cT:=cT) hs h1 htl hT
end
end
section
theorem Bit.first {p:Pr}{A A':Sn}{T T':Tr}{J J':Js}{k k':Wk}{z:Bool}{y:Br}(hb:Bit p A T J k z A' T' J' k')(hk:k.busy=false)(hJ:J=[jb T.epoch y])(hT:T.l=[y])(hd:y.done<y.press.length) :
   z=true∧A'.pics.length=A.pics.length+1:=by
 cases hb with
 | idle _ h=>rw[hJ]at h;cases h
 | stale _ h h3 =>
   rw[hJ]at h;cases h
   exfalso
   rcases h3 with h3 | h3 | ⟨x,h3,h4,h5⟩
   · exact h3 rfl
   · exact h3 y (by rw[hT];exact List.mem_cons_self ..) rfl
   · rw[hT,List.mem_singleton]at h3
     subst h3;omega
 | took _ h h3 h4 h5 h6 h7 h8=>exact⟨rfl,by simp[Sn.add]⟩
 | gone h=>rw[hk]at h;cases h
 | played h=>rw[hk]at h;cases h
 | failed h=>rw[hk]at h;cases h
 | pub h=>rw[hk]at h;cases h
 | lost h=>rw[hk]at h;cases h
section
variable {W w:World}{L:List SP}
set_option maxHeartbeats 2000000 in
theorem begun26 (hs:St W w L):Calls Tryz.prog 11 #[] w λe w'=>e=.returned (.bool true)∧St W w' L:=by
 have hm0:mayCf ⟨(2:Nat),(0:Nat),0,(0:Nat),(4:Nat),1,0,(1:Nat),(1:Nat),(5:Nat)⟩:=by decide
 refine EN Tryz.func11 Tryz.ntmps11 rfl rfl λa ha=>?_
 refine CL1 4 ha hs (prog22 hs) λadP a w ha hs=>?_
 refine CL2 0 ha hs (mu_new (tb:=[]) (n:=2) (me:=0) (id:=0) (delay:=0) (window:=4) (guess:=1) (order:=0) (nb:=1) (nw:=1) (rm:=5) hs hm0 sumP_ok (by decide) (by decide) (by decide) (by decide) (λw' h=>RdB.nil)) λM m a w ha ⟨⟨hBg,hms,hI,hT,hJ,hk⟩,hs⟩=>?_
 have t0:Two sumP 4 0 [[],[]] m.s:=by rw[hms];exact Two.new (id:=0) hm0 rfl
 have hcf:ksCf m.s.k=⟨(2:Nat),(0:Nat),0,(0:Nat),(4:Nat),1,0,(1:Nat),(1:Nat),(5:Nat)⟩:=by rw[hms];exact newP_cf hm0
 simp only[ksCf,Cf.mk.injEq]at hcf
 have hmost:m.T.most=1:=by have:=hI.most;omega
 have hkl:m.ks.length=1:=by have:=hI.workers;omega
 have hgm:mayGs M.B.gs:=hI.gs
 refine RN 10 ha hs λa ha=>?_
 replace ha:=ha.isF 16
 refine RN 4 ha hs λa ha=>?_
 replace ha:=ha.isF 20
 refine CL 1 ha hs (mu_store hs) λa w ha hs=>?_
 refine RN 3 ha hs λa ha=>?_
 replace ha:=ha.isF 25
 refine CL 1 ha hs (mu_tree hs) λa w ha hs=>?_
 refine RN 3 ha hs λa ha=>?_
 replace ha:=ha.isF 30
 refine CL 1 ha hs (mu_core hs) λa w ha hs=>?_
 refine RN 2 ha hs λa ha=>?_
 replace ha:=ha.isF 34
 refine CL1 3 ha hs (mu_press (x:=7) hs hI sumP_ok (by decide) (by decide)) λm1 a w ha ⟨⟨hm1,hI1,hR⟩,hs⟩=>?_
 obtain⟨e1,t1⟩:=t0.press 7 (by decide) (by decide)
 rw[e1]at ha
 replace t1:Two sumP 4 0 [[7],[]] (pressP sumP 7 m.s).2:=t1
 obtain⟨t',hR⟩:=hR t1.cl
 have hf1:frontK (pressP sumP 7 m.s).2.k=0:=t1.front
 have hh1:headK (pressP sumP 7 m.s).2.k=1:=t1.head
 have hf0:m.front=0:=hI.front.trans t0.front
 obtain⟨q1,q2,l,q3,q4⟩:=hR.keep (by show m.front=frontK (pressP sumP 7 m.s).2.k;rw[hf0,hf1]) (λy hy=>(by rw[hT]at hy;cases hy))
 have q5:=hR.has (by show 0<m.T.most;omega) (by show frontK (pressP sumP 7 m.s).2.k<headK (pressP sumP 7 m.s).2.k;omega)
 have q6:m1.T.l=l:=by rw[q3];show m.T.l++l=l;rw[hT];rfl
 have hwt:=Tree.wt ((MuS.open hs).tree M.tq)
 have q7:m1.T.most=1:=hR.most.trans hmost
 have hl1:m1.T.l.length=1:=by
   have:=hwt.most.2
   have:=List.length_pos_iff.2 q5
   omega
 obtain⟨y,hy⟩:=List.length_eq_one_iff.1 hl1
 obtain⟨hy1,hy2,_⟩:=q4 y (by rw[← q6,hy];exact List.mem_cons_self ..)
 have hyd:y.done<y.press.length:=by rw[hy1];exact List.length_pos_iff.2 hy2
 have hJ1:m1.J=[jb m1.T.epoch y]:=by
   have h1:=jobs_new (T:=m1.T) (l0:=[]) (l:=m1.T.l) hwt (by intro z hz;rw[hy,List.mem_singleton]at hz;rw[hz];exact hyd) rfl
   rw[hR.jobs]
   show jobsT m1.T m.J=_
   rw[hJ]
   exact h1.trans (by rw[hy];rfl)
 obtain⟨⟨k0,wb⟩,hk0⟩:=List.length_eq_one_iff.1 hkl
 have hk1:m1.ks=[(k0,wb)]:=by rw[q1];exact hk0
 have hkb:k0=wk0:=hk (k0,wb) (by rw[hk0];exact List.mem_cons_self ..)
 have t1':Two sumP 4 0 [[7],[]] m1.s:=by rw[hm1];exact t1
 have hd1:(dispG sumP M.B.gs m1.s).2=1:=by
   rw[dispG,if_neg (by rw[t1'.head,t1'.front];decide)]
   exact t1'.head
 have hpl:m1.A.pics.length=2:=by
   obtain⟨t9,h9⟩:=hI1.inv
   have h8:=h9.len
   rw[hk1,hl1]at h8
   rw[h8,hkb];rfl
 refine CL 3 ha hs (mu_tree hs) λa w ha hs=>?_
 replace hs:=MuS.open hs
 refine CL2 0 ha hs (tree_all (hs.tree M.tq)) λadt ct a w ha hs=>?_
 rw[hl1]at ha
 replace hs:=(MuS.fold hs.tail M sumP m1).sub (M:=MuS W M sumP m1::L)
 refine CLX 3 ha hs (mu_work (i:=0) (k:=k0) (wb:=wb) hs hI1 t1'.cl (by rw[hk1];rfl) sumP_ok (by decide) (by decide)) ?_
 clear ha hs
 rintro e w ⟨z,A2,T2,J2,k2,rfl,⟨hbit,hI2⟩,hs⟩
 refine⟨_,rfl,λa ha=>?_⟩
 obtain⟨hz,hA2⟩:=hbit.first (y:=y) (by rw[hkb];rfl) hJ1 hy hyd
 rw[hz]at ha
 obtain⟨m2,hm2⟩:∃ m2:Mu,m2={ m1 with A:=A2,T:=T2,J:=J2,ks:=m1.ks.set 0 (k2,wb) }:=⟨_,rfl⟩
 rw[← hm2]at hs hI2
 have hs2:m2.s=m1.s:=by rw[hm2]
 have hl2:m2.ks.length=1:=by rw[hm2,hk1];rfl
 have hp2:m2.A.pics.length=3:=by rw[hm2];show A2.pics.length=3;omega
 rw[← hs2]at hd1
 clear hm2
 refine CL2 3 ha hs (mu_display hs hI2 sumP_ok (by decide)) λadD cD a w ha hs=>?_
 rw[hd1]at ha
 replace hs:=hs.tail
 refine RN 9 ha hs λa ha=>?_
 replace ha:=ha.isT 49
 refine RN 5 ha hs λa ha=>?_
 replace ha:=ha.isT 54
 refine RN 3 ha hs λa ha=>?_
 replace ha:=ha.isT 57
 refine CL 1 ha hs (mu_work_no (y:=1) hs (.inr (.inr (by omega))) (by omega)) λa w ha hs=>?_
 refine RN 3 ha hs λa ha=>?_
 replace ha:=ha.isT 62
 refine RN 4 ha hs λa ha=>?_
 replace ha:=ha.isT 66
 refine CL 1 ha hs (mu_workers hs) λa w ha hs=>?_
 rw[hl2]at ha
 refine RN 3 ha hs λa ha=>?_
 replace ha:=ha.isT 71
 refine CL 1 ha hs (mu_store hs) λa w ha hs=>?_
 replace hs:=MuS.open hs
 refine CL2 0 ha hs (snap_live (hs.store M.sq)) λadv cv a w ha hs=>?_
 rw[hp2]at ha
 refine RT 4 ha hs ?_
 exact⟨rfl,hs.sub⟩
end
end
section
theorem Sn.used_room (A:Sn):A.used≤A.room:=by
 have:=List.countP_le_length (p:=λp=>decide (0<cnt A.pics p)) (l:=List.range A.room)
 rw[List.length_range]at this;exact this
theorem cnt_zero {p:Nat}:∀ (l:List Pic),(∀ x∈l,∀ k,k<4→x.p k≠p)→cnt l p=0
 | [],_=>rfl
 | x::l,h=>by
   rw[cnt_cons,cntP_zero (h x (List.mem_cons_self ..)),cnt_zero l λy hy=>h y (List.mem_cons_of_mem _ hy)]
theorem cnt_over {A:Sn}{p:Nat}(h:∀ x∈A.pics,∀ k,k<4→x.p k<A.room)(hp:A.room≤p):cnt A.pics p=0 :=
 cnt_zero _ λx hx k hk e=>by have:=h x hx k hk;omega
def pgs (l:List Pic)(m:Nat):Nat:=(List.range m).countP λp=>decide (0<cnt l p)
theorem pgs_succ (l:List Pic)(m:Nat):pgs l (m+1)=pgs l m+if 0<cnt l m then 1 else 0:=by
 rw[pgs,List.range_succ,List.countP_append,List.countP_singleton,pgs]
 by_cases h:0<cnt l m <;> simp[h]
theorem pgs_le (l:List Pic)(m:Nat):pgs l m≤m:=by
 have:=List.countP_le_length (p:=λp=>decide (0<cnt l p)) (l:=List.range m)
 rw[List.length_range]at this;exact this
theorem pgs_all {A:Sn}(h:∀ x∈A.pics,∀ k,k<4→x.p k<A.room){m:Nat}(hm:A.room≤m):pgs A.pics m=A.used:=by
 induction m with
 | zero=>rw[Sn.used,show A.room=0 from by omega];rfl
 | succ m ih =>
   rcases Nat.lt_or_ge m A.room with h1 | h1
   · rw[Sn.used,show A.room=m+1 from by omega];rfl
   · rw[pgs_succ,ih h1,cnt_over h h1];rfl
def cB (l:List Pic)(j:Nat):Int:=if j=0 then 0 else (cnt l (j-1):Nat)
def cA (l:List Pic)(x:Pic)(k j:Nat):Int:=if j=0 then 0 else ((cnt l (j-1)+cntU x (j-1) k:Nat):Int)
theorem cB_nil:cB []=λ_=>0:=by
 funext j;unfold cB;split <;> rfl
theorem cA_zero (l:List Pic)(x:Pic):cA l x 0=cB l:=by
 funext j;unfold cA cB;simp[cntU_zero]
theorem cA_four {l:List Pic}{i:Nat}{x:Pic}(h:l[i]?=some x):cA (l.take i) x 4=cB (l.take (i+1)):=by
 obtain⟨hi,rfl⟩:=List.getElem?_eq_some_iff.1 h
 funext j
 unfold cA cB
 rw[List.take_succ_eq_append_getElem hi,cnt_app,cnt_cons,cnt_nil]
 rfl
theorem cA_set (l:List Pic)(x:Pic)(k:Nat):(λj=>if j=x.p k+1 then cA l x k (x.p k+1)+1 else cA l x k j)=cA l x (k+1):=by
 funext j
 by_cases h:j=x.p k+1
 · subst h
   rw[if_pos rfl]
   simp only[cA,if_neg (Nat.succ_ne_zero _),Nat.add_sub_cancel]
   rw[cntU_succ,if_pos rfl];omega
 · rw[if_neg h]
   unfold cA
   split
   · rfl
   · rw[cntU_succ,if_neg (by omega)];simp
theorem cA_le (l:List Pic)(x:Pic)(k j:Nat)(hk:k≤4):0≤cA l x k j∧cA l x k j≤4*l.length+4:=by
 unfold cA
 have h1:=cnt_le l (j-1)
 have h2:=cntU_mono x (j-1) hk
 have h3:=cntP_le x (j-1)
 have h4:cntU x (j-1) 4=cntP x (j-1):=rfl
 split <;> omega
theorem cB_at (l:List Pic)(p:Nat):cB l (p+1)=(cnt l p:Nat):=by simp[cB]
section
variable {W w:World}{L:List SP}{q b i r:Nat}{ps:List Pg}{A:Sn}
theorem page_at_no (hs:St W w (Room q b ps::L))(hn:∀ h:i<ps.length,ps[i].refs=0)(hi:i<1000) :
   Calls Tryz.prog 140 #[pt q,.int .i64 ((i:Int)+1)] w λe w'=>e=.returned (.pointer none)∧St W w' (Room q b ps::L):=by
 obtain⟨hp,hs⟩:=Room.open hs
 by_cases hil:i<ps.length
 · have hr:=hn hil
   refine EN Tryz.func140 Tryz.ntmps140 rfl rfl λa ha=>?_
   refine RN 7 ha hs λa ha=>?_
   replace ha:=ha.isF 7
   refine RN 4 ha hs λa ha=>?_
   rw[decide_eq_false (by omega)]at ha
   refine RN 9 ha hs λa ha=>?_
   rw[decide_eq_false (by omega)]at ha
   refine RN 6 ha hs λa ha=>?_
   rw[show (i:Int)+1-1=(i:Int) from by omega]at ha
   refine RN 2 ha hs λa ha=>?_
   refine st_set ha (wgT ha rfl (s:=20)) (ld1 ha (hs.rd1 (pgc_ref hil))) rfl λa ha=>?_
   refine RN 2 ha hs λa ha=>?_
   rw[decide_eq_true (by omega)]at ha
   refine RT 3 ha hs ?_
   exact⟨rfl,(Room.close (n:=_) hs rfl hp)⟩
 ·
   refine EN Tryz.func140 Tryz.ntmps140 rfl rfl λa ha=>?_
   refine RN 7 ha hs λa ha=>?_
   replace ha:=ha.isF 7
   refine RN 4 ha hs λa ha=>?_
   rw[decide_eq_false (by omega)]at ha
   refine RN 9 ha hs λa ha=>?_
   rw[decide_eq_true (by omega)]at ha
   refine RT 14 ha hs ?_
   exact⟨rfl,(Room.close (n:=_) hs rfl hp)⟩
theorem page_refs_no (hs:St W w (Room q b ps::L))(hn:∀ h:i<ps.length,ps[i].refs=0)(hi:i<1000) :
   Calls Tryz.prog 70 #[pt q,.int .i64 ((i:Int)+1)] w λe w'=>e=.returned (.int .i64 0)∧St W w' (Room q b ps::L):=by
 refine EN Tryz.func70 Tryz.ntmps70 rfl rfl λa ha=>?_
 refine CL 5 ha hs (page_at_no hs hn hi) λa w ha hs=>?_
 refine RN 5 ha hs λa ha=>?_
 replace ha:=ha.isT 10
 refine RT 3 ha hs ?_
 exact⟨rfl,hs⟩
theorem snap_prefs_any (hs:St W w (Store q r A::L))(hi:i<1000) :
   Calls Tryz.prog 70 #[pt r,.int .i64 ((i:Int)+1)] w λe w'=>e=.returned (.int .i64 (cnt A.pics i))∧St W w' (Store q r A::L):=by
 have hf:=(Store.facts hs).2
 obtain⟨b,m,ps,xs,h1,hw,hr,hs⟩:=Store.open hs
 by_cases hl:∃ h:i<ps.length,0<ps[i].refs
 · obtain⟨h3,h4⟩:=hl
   refine (page_refs (hs.pick (Room r b ps)) h3 h4).mono λe w' ⟨h2,hs⟩=>?_
   rw[hr.refs _ _ (List.getElem?_eq_getElem h3)]at h2
   exact⟨h2,Store.close (b:=b) (m:=m) (ps:=ps) hs h1 hw hr⟩
 · have hn : ∀ h : i < ps.length, ps[i].refs = 0 := fun h => by
     rcases Nat.eq_zero_or_pos ps[i].refs with h2 | h2
     · exact h2
     · exact absurd ⟨h,h2⟩ hl
   have h0:cnt A.pics i=0:=by
     by_cases h:i<ps.length
     · rw[← hr.refs _ _ (List.getElem?_eq_getElem h)];exact hn h
     · exact cnt_over hf (by rw[← hr.len];omega)
   refine (page_refs_no (hs.pick (Room r b ps)) hn hi).mono λe w' ⟨h2,hs⟩=>?_
   rw[h0]
   exact⟨h2,Store.close (b:=b) (m:=m) (ps:=ps) hs h1 hw hr⟩
end
end
section
theorem rep_ints' (k:IntKind)(m:Nat)(x:Int):List.replicate m (Value.int k x)=ints k m (λ_=>x):=by
 rw[ints,fn];exact (List.ext_getElem (by simp) (by simp))
section
variable {W w:World}{L:List SP}{N:Nat}{M:MuB}{p:Pr}{m:Mu}{cf:Cf}{x:Int}
set_option maxHeartbeats 4000000 in
theorem bounds_spec (hs:St W w (MuS W M p m::L))(h:MI p M N m)(hcf:ksCf m.s.k=cf) :
   Calls Tryz.prog 24 #[pt M.mb,.agg (cfC cf).toArray] w λe w'=>e=.returned (.bool true)∧St W w' (MuS W M p m::L):=by
 have hcb:cf.branches=(m.T.most:Int):=by rw[← hcf];exact h.most
 have hcw:cf.workers=(m.ks.length:Int):=by rw[← hcf];exact h.workers
 have hcr:(m.A.room:Int)=4*cf.room:=by rw[← hcf];exact h.room.1
 have hk4:=h.ks
 obtain⟨t,hI⟩:=h.inv
 have hlen:=hI.len
 have hhl:(heldW (m.ks.map (·.1))).length≤m.ks.length:=by
   have h1:=List.length_filter_le (λk:Wk=>k.busy) (m.ks.map (·.1))
   rw[List.length_map]at h1
   rw[heldW,List.length_map];exact h1
 clear hcf
 replace hs:=MuS.open hs
 have hwt:=(Tree.wt (hs.tree M.tq)).most
 have hAf:=Store.facts (hs.store M.sq)
 have hul:=Store.used_le (hs.store M.sq)
 have hur:=Sn.used_room m.A
 have hrm:=hAf.1.room
 obtain⟨s,A,T,J,ks,base,front⟩:=m
 dsimp only at hcb hcw hcr hk4 hlen hhl hwt hAf hul hur hrm hs
 have hall:=pgs_all hAf.2 (m:=200) hrm
 refine EN Tryz.func24 Tryz.ntmps24 rfl rfl λa ha=>?_
 refine BX 1 ha hs λb3 a w ha hs=>?_
 change St W w (blk b3 27 (cfC cf)::_) at hs
 refine RN 3 ha hs λa ha=>?_
 replace hs:=MuS.fold hs M p ⟨s,A,T,J,ks,base,front⟩
 refine CL 0 ha hs (mu_store hs) λa w ha hs=>?_
 refine RN 3 ha hs λa ha=>?_
 replace hs:=MuS.open hs
 dsimp only at hs
 refine CL2 0 ha hs (snap_live (hs.store M.sq)) λadv cv a w ha hs=>?_
 refine DWC 3 (λw0 w'=>Rd w' b3 0 (cfC cf)) [5,25,26] [0,1,2,4,3003,1005,6,7,8,9,10,11,12,13,14,17,18,19,1015,1016,20,21,22,23,24,27,3028,29,1025,1026,30,31] ha hs λa w ha hs hH=>?_
 have hC:=hH.at w (hs.rdAll (b:=b3))
 refine RH 4 ha hs hH hC λa ha=>?_
 refine QH ha (λw hc=>ld1 ha (hc 7 _ rfl)) hC λa ha=>?_
 refine RH 0 ha hs hH hC λa ha=>?_
 refine SS ha (ld1 ha (hC 8 _ rfl)) λa ha=>?_
 refine RH 4 ha hs hH hC λa ha=>?_
 rw[decide_eq_false (by omega)]at ha
 refine RH 4 ha hs hH hC λa ha=>?_
 rw[decide_eq_true (by omega)]at ha
 refine RH 4 ha hs hH hC λa ha=>?_
 refine CL 0 ha hs (snap_room (hs.store M.sq)) λa w ha hs=>?_
 refine CL 0 ha hs (snap_used (hs.store M.sq)) λa w ha hs=>?_
 refine RN 4 ha hs λa ha=>?_
 rw[decide_eq_false (by omega)]at ha
 refine RN 2 ha hs λa ha=>?_
 replace hC:Rd w b3 0 (cfC cf):=hs.rdAll (b:=b3)
 refine QH ha (λw hc=>ld1 ha (hc 9 _ rfl)) hC λa ha=>?_
 refine CL 1 ha hs (snap_room (hs.store M.sq)) λa w ha hs=>?_
 replace hC:=hH.at w (hs.rdAll (b:=b3))
 refine RH 0 ha hs hH hC λa ha=>?_
 refine CL 0 ha hs (snap_used (hs.store M.sq)) λa w ha hs=>?_
 replace hC:=hH.at w (hs.rdAll (b:=b3))
 refine RH 2 ha hs hH hC λa ha=>?_
 rw[decide_eq_false (by omega)]at ha
 refine AL 2 ha hs λb7 a w ha hs=>?_
 rw[rep_ints']at hs
 refine RN 3 ha hs λa ha=>?_
 refine wp_loop_ghost (λμ a w=>∃ (i:Nat),(μ=A.pics.length-i∧i≤A.pics.length)∧Fr a 120 [(0,pt M.mb),(3,pt b3),(5,pt M.sq),(6,.slice adv A.pics.length cv),(7,pt b7),(8,.int .i64 i)]∧St W w (blk b7 134 (ints .i64 201 (cB (A.pics.take i)))::Sl 43 1 adv A.pics.length cv (A.pics.map λx=>.int .i64 x.id)::Store M.sq M.r A::blk b3 27 (cfC cf)::blk M.mb 110 (muC p M ks.length base front)::PlainS W M.B p s::RoP W p M.adO M.cO::Sl 112 1 M.adw ks.length M.cw (ptrs ks)::All (ownK p M.adO M.cO M.tq M.jq M.sq) ks::Tree M.tq M.sq T::Jobs M.jq J::L)) (A.pics.length) (⟨0,⟨rfl,by omega⟩,ha.keep [0,3,5,6,7,8],by rw[List.take_zero,cB_nil];exact hs.sub⟩) ?_
 clear ha hs
 rintro μ a w ⟨i,⟨rfl,hi⟩,ha,hs⟩
 refine IF 6 ha hs (λhc1 a ha=>?_) λhc1 a ha=>?_
 ·
  obtain⟨x,hx⟩:∃ x,A.pics[i]?=some x:=⟨_,List.getElem?_eq_getElem (by omega)⟩
  obtain⟨bv,ov,rfl,hrv⟩:=(hs.pick (Sl 43 1 adv A.pics.length cv (A.pics.map λx=>.int .i64 x.id))).slRd adv (by omega)
  have hxi:=hrv i (.int .i64 x.id) (by rw[List.getElem?_map,hx];rfl)
  have hxp:=hAf.2 x (List.mem_of_getElem? hx)
  have hc4:=cA_four hx
  have htl:(A.pics.take i).length≤200:=by rw[List.length_take];omega
  clear hrv
  refine RN 6 ha hs λa ha=>?_
  refine SS ha (ld1 ha (hxi)) λa ha=>?_
  refine CL2 0 ha hs (snap_pages (hs.store M.sq) hx) λadp cp a w ha hs=>?_
  refine RN 6 ha hs λa ha=>?_
  replace ha:=ha.isF 63
  refine RN 3 ha hs λa ha=>?_
  refine wp_loop_ghost (λμ a w=>∃ (k:Nat),(μ=4-k∧k≤4)∧Fr a 120 [(0,pt M.mb),(3,pt b3),(5,pt M.sq),(6,.slice (some ⟨bv,ov,none⟩) A.pics.length cv),(7,pt b7),(8,.int .i64 i),(9,.slice adp 4 cp),(10,.int .i64 k)]∧St W w (blk b7 134 (ints .i64 201 (cA (A.pics.take i) x k))::Sl 3 1 adp 4 cp (ints .i64 4 (λk=>(x.p k:Int)+1))::Sl 43 1 (some ⟨bv,ov,none⟩) A.pics.length cv (A.pics.map λx=>.int .i64 x.id)::Store M.sq M.r A::blk b3 27 (cfC cf)::blk M.mb 110 (muC p M ks.length base front)::PlainS W M.B p s::RoP W p M.adO M.cO::Sl 112 1 M.adw ks.length M.cw (ptrs ks)::All (ownK p M.adO M.cO M.tq M.jq M.sq) ks::Tree M.tq M.sq T::Jobs M.jq J::L)) (4) (⟨0,⟨rfl,by omega⟩,ha.keep [0,3,5,6,7,8,9,10],by rw[cA_zero];exact hs.sub⟩) ?_
  clear ha hs
  rintro μ a w ⟨k,⟨rfl,hk⟩,ha,hs⟩
  refine IF 4 ha hs (λhc3 a ha=>?_) λhc3 a ha=>?_
  ·
   obtain⟨bp,op,rfl,hrp⟩:=(hs.pick (Sl 3 1 adp 4 cp (ints .i64 4 (λk=>(x.p k:Int)+1)))).slRd adp (by omega)
   have hpk:=hrp k _ (ints_get _ (by omega))
   have hpl:=hxp k (by omega)
   have hct:=cA_le (A.pics.take i) x k (x.p k+1) (by omega)
   clear hrp
   refine RN 6 ha hs λa ha=>?_
   refine SS ha (ld1 ha (hpk)) λa ha=>?_
   refine RN 2 ha hs λa ha=>?_
   rw[decide_eq_false (by omega)]at ha
   refine RN 3 ha hs λa ha=>?_
   refine st_set ha (wgT ha rfl (s:=73)) (ld1 ha (hpk)) rfl λa ha=>?_
   refine RN 2 ha hs λa ha=>?_
   rw[decide_eq_false (by omega)]at ha
   refine RN 4 ha hs λa ha=>?_
   refine SS ha (ld1 ha (hpk)) λa ha=>?_
   rw[show ((x.p k:Nat):Int)+1=((x.p k+1:Nat):Int) from rfl]at ha
   refine RN 1 ha hs λa ha=>?_
   refine SS ha (ld1 ha (hs.rd1 (ints_get _ (by omega)))) λa ha=>?_
   refine ST 2 ha hs (λa w ha hs=>?_) (hlt:=(by rw[ints_len];omega))
   rw[ints_set,cA_set]at hs
   refine RN 3 ha hs λa ha=>?_
   exact⟨4-(k+1),by omega,k+1,⟨rfl,by omega⟩,ha.keep [0,3,5,6,7,8,9,10],hs.sub⟩
  refine RN 3 ha hs λa ha=>?_
  obtain rfl:k=4:=by omega
  rw[hc4]at hs
  exact⟨A.pics.length-(i+1),by omega,i+1,⟨rfl,by omega⟩,ha.keep [0,3,5,6,7,8],hs.sub⟩
 obtain rfl:i=A.pics.length:=by omega
 rw[List.take_length]at hs
 refine RN 5 ha hs λa ha=>?_
 refine wp_loop_ghost (λμ a w=>∃ (q:Nat),(μ=200-q∧q≤200)∧Fr a 120 [(0,pt M.mb),(3,pt b3),(5,pt M.sq),(7,pt b7),(11,.int .i64 (pgs A.pics q:Nat)),(12,.int .i64 ((q:Int)+1))]∧St W w (Store M.sq M.r A::blk b7 134 (ints .i64 201 (cB A.pics))::blk b3 27 (cfC cf)::blk M.mb 110 (muC p M ks.length base front)::PlainS W M.B p s::RoP W p M.adO M.cO::Sl 112 1 M.adw ks.length M.cw (ptrs ks)::All (ownK p M.adO M.cO M.tq M.jq M.sq) ks::Tree M.tq M.sq T::Jobs M.jq J::L)) (200) (⟨0,⟨rfl,by omega⟩,by have h9:=ha.keep [0,3,5,7,11,12];exact h9,hs.sub⟩) ?_
 clear ha hs
 rintro μ a w ⟨q,⟨rfl,hq⟩,ha,hs⟩
 refine IF 4 ha hs (λhc5 a ha=>?_) λhc5 a ha=>?_
 ·
  have hcq:=cB_at A.pics q
  have hps:=pgs_succ A.pics q
  have hpl:=pgs_le A.pics q
  have hcl:=cnt_le A.pics q
  have hq1:q<200:=by omega
  refine DWC 3 (λw0 w'=>w'.cell? ⟨b7,q+1,none⟩=some (.int .i64 (cB A.pics (q+1)))) [1,3] [0,2,4,5,3006,1001,1003,7] ha hs λa w ha hs hH=>?_
  have hC:=hH.at w (hs.rd1 (b:=b7) (ints_get _ (by omega)))
  refine RH 3 ha hs hH hC λa ha=>?_
  rw[show ((q:Nat):Int)+1=((q+1:Nat):Int) from rfl]at ha
  refine RH 1 ha hs hH hC λa ha=>?_
  refine QH ha (λw hc=>ld1 ha (hc)) hC λa ha=>?_
  refine RH 0 ha hs hH hC λa ha=>?_
  refine CL 0 ha hs (snap_room hs) λa w ha hs=>?_
  replace hC:=hH.at w (hs.rd1 (b:=b7) (ints_get _ (by omega)))
  refine RH 0 ha hs hH hC λa ha=>?_
  refine CL 0 ha hs (snap_prefs_any hs (by omega)) λa w ha hs=>?_
  replace hC:=hH.at w (hs.rd1 (b:=b7) (ints_get _ (by omega)))
  refine RH 1 ha hs hH hC λa ha=>?_
  rw[hcq,show decide ((cnt A.pics q:Nat)≠((cnt A.pics q:Nat):Int))=false from by simp]at ha
  replace ha:=ha.isF 99
  refine RN 4 ha hs λa ha=>?_
  refine SS ha (ld1 ha (hs.rd1 (b:=b7) (ints_get _ (by omega)))) λa ha=>?_
  rw[hcq]at ha
  refine IF 1 ha hs (λhc7 a ha=>?_) λhc7 a ha=>?_
  ·
   refine RN 6 ha hs λa ha=>?_
   exact⟨200-(q+1),by omega,q+1,⟨rfl,by omega⟩,by rw[hps,if_pos (by omega)];exact ha.keep [0,3,5,7,11,12],hs.sub⟩
  refine RN 3 ha hs λa ha=>?_
  exact⟨200-(q+1),by omega,q+1,⟨rfl,by omega⟩,by rw[hps,if_neg (by omega)];exact ha.keep [0,3,5,7,11,12],hs.sub⟩
 obtain rfl:q=200:=by omega
 rw[hall]at ha
 refine DWC 1 (λw0 w'=>Rd w' b3 0 (cfC cf)) [7,8,9] [0,1,1002,1003,4,5,6,10,3011,1007,1008,1009,12,13,14] ha hs λa w ha hs hH=>?_
 have hC:=hH.at w (hs.rdAll (b:=b3))
 refine RH 2 ha hs hH hC λa ha=>?_
 refine CL 0 ha hs (snap_room hs) λa w ha hs=>?_
 refine CL 0 ha hs (snap_used hs) λa w ha hs=>?_
 refine RN 2 ha hs λa ha=>?_
 rw[decide_eq_true (by omega)]at ha
 refine RN 2 ha hs λa ha=>?_
 replace hC:Rd w b3 0 (cfC cf):=hs.rdAll (b:=b3)
 refine QH ha (λw hc=>ld1 ha (hc 7 _ rfl)) hC λa ha=>?_
 replace hs:=MuS.fold hs M p ⟨s,A,T,J,ks,base,front⟩
 refine CL 0 ha hs (mu_tree hs) λa w ha hs=>?_
 replace hC:=hH.at w (hs.rdAll (b:=b3))
 replace hs:=MuS.open hs
 dsimp only at hs
 refine RH 0 ha hs hH hC λa ha=>?_
 refine CL2 0 ha hs (tree_all (hs.tree M.tq)) λadt ct a w ha hs=>?_
 replace hC:=hH.at w (hs.rdAll (b:=b3))
 refine RH 4 ha hs hH hC λa ha=>?_
 refine RT 0 ha hs ?_
 exact⟨by rw[decide_eq_true (by omega)],(MuS.fold hs.tail M p ⟨s,A,T,J,ks,base,front⟩).sub⟩
end
end
section
section
variable {W w:World}{L:List SP}{i:Nat}{M:MuB}{p:Pr}{s:Pl}{cf:Cf}
theorem boundsJ (hs:St W w (MuJ W M p cf i s::L)) :
   Calls Tryz.prog 24 #[pt M.mb,.agg (cfC cf).toArray] w λe w'=>e=.returned (.bool true)∧St W w' (MuJ W M p cf i s::L):=by
 replace hs:=MuJ.open hs
 obtain⟨m,⟨rfl,hI,hc⟩,hs⟩:=hs
 exact (bounds_spec hs hI hc).mono λe w' ⟨h1,h2⟩=>⟨h1,MuJ.close h2 hI (Nat.le_refl _) rfl hc⟩
end
end
end Go.Proofs.YtdilfdkendjjhaaGreat
