/- quintainref21.Player. -/
import Derived.Test.YtdilfdkendjjhaaGreatA32RefC
import Derived.Test.YtdilfdkendjjhaaGreatA31MulV
import Derived.Test.YtdilfdkendjjhaaGreatA16RefS
import Derived.Test.YtdilfdkendjjhaaGreatA13Vm
import Derived.ChangeSame
import Derived.Test.YtdilfdkendjjhaaGreatA26Rank
import Derived.Test.YtdilfdkendjjhaaGreatA15Ref
import Derived.Test.YtdilfdkendjjhaaGreatA12Num
import Derived.Test.YtdilfdkendjjhaaGreatA04Ty
namespace Go.Proofs.YtdilfdkendjjhaaGreat
open Go.RowKit
set_option linter.unusedVariables false
set_option linter.unusedSimpArgs false
set_option maxRecDepth 10000
set_option synthInstance.maxSize 4000
set_option synthInstance.maxHeartbeats 400000
section
structure RgB where
 pb:Nat
 core:RcB
 adO:Option Addr
 cO:Nat
 adT:Option Addr
 cT:Nat
 gs:Gs
abbrev rgC (p:Pr)(B:RgB)(g:Nat→Int):List Value:=[pt B.core.cb,.string p.title,.slice B.adO p.ops.length B.cO,.int .i64 B.gs.kind,.int .i64 B.gs.order,.slice B.adT B.gs.table.length B.cT]++ints .i32 32 g
theorem rgC_pr {w:World}{b:Nat}{p:Pr}{B:RgB}{g:Nat→Int}(h:Rd w b 0 (rgC p B g)):Rd w b 1 (prV p B.adO B.cO):=h.part 1 2
theorem rgC_by {w:World}{b:Nat}{p:Pr}{B:RgB}{g:Nat→Int}(h:Rd w b 0 (rgC p B g)):Rd w b 3 (gsC B.gs B.adT B.cT):=h.part 3 3
theorem rgC_st {w:World}{b:Nat}{p:Pr}{B:RgB}{g:Nat→Int}(h:Rd w b 0 (rgC p B g)):Rd w b 6 (ints .i32 32 g):=by
 have h1:=h.part 6 32
 rwa [show ((rgC p B g).drop 6).take 32=ints .i32 32 g from by
   show (ints .i32 32 g).take 32=_
   exact List.take_of_length_le (by rw[ints_len];exact Nat.le_refl _)]at h1
theorem rgC_len (p:Pr)(B:RgB)(g:Nat→Int):(rgC p B g).length=38:=by rw[rgC,List.length_append,ints_len];rfl
theorem rgC_set (p:Pr)(B:RgB)(g g':Nat→Int):splice (rgC p B g) 6 (ints .i32 32 g')=rgC p B g':=by
 rw[splice,ints_len,List.drop_eq_nil_of_le (by rw[rgC_len];exact Nat.le_refl _),List.append_nil,rgC,rgC]
 congr 1
def RefG (W:World)(B:RgB)(p:Pr)(s:Pl):SP:=λh=>sepL [blk B.pb 65 (rgC p B s.g),RefS B.core s.k,RoP W p B.adO B.cO] h
section
variable {W w:World}{L R:List SP}{n c i cP cT:Nat}{ad adP adT:Option Addr}{B:RgB}{x:UInt8}{p:Pr}{s:Pl}{bs tb:List UInt8}{k:Ks}{C:RcB}{A:RcA}
theorem RefG.open (hs:St W w (RefG W B p s::L)):St W w (blk B.pb 65 (rgC p B s.g)::RefS B.core s.k::RoP W p B.adO B.cO::L) :=
 hs.open (M:=[_,_,_]) λ_ h=>h
theorem RefG.fold (hs:St W w L)(B:RgB)(p:Pr)(s:Pl)[kk:Arr L [blk B.pb 65 (rgC p B s.g),RefS B.core s.k,RoP W p B.adO B.cO] R]:St W w (RefG W B p s::R) :=
 St.shut (M:=[_,_,_]) (hs.perm kk.perm) λ_ h=>h
theorem ref_frontA (hs:St W w (RLn C.lb C.lo C.cL k.ls::blk C.cb 83 (rcC k C A)::L))(hk:WC k):Calls Tryz.prog 64 #[pt C.cb] w λr w'=>r=.returned (.int .i64 (frontK k))∧St W w' (RLn C.lb C.lo C.cL k.ls::blk C.cb 83 (rcC k C A)::L):=by
 have hn:=hk.n
 have hls:=hk.ls
 refine EN Tryz.func64 Tryz.ntmps64 rfl rfl λa ha=>?_
 refine RN 7 ha hs λa ha=>?_
 obtain⟨xs,hxs,hs⟩:=RLn.open hs
 have hxl:xs.length=k.ls.length:=by rw[← hxs,prx_len]
 rw[← hxl]at ha
 refine CL 0 ha hs (ref_front (xs:=xs) hs (by omega) (by omega) (λw' hw=>St.rdXe hw)) λa w ha hs=>?_
 refine RT 1 ha hs ?_
 exact⟨by rw[hxs];rfl,RLn.close hs hxs⟩
theorem ref_plays (hs:St W w (RefG W B p s::L))(hw:WP p s)(hpr:prOk p)(hsz:p.title.size≤1000000000):Calls Tryz.prog 60 #[pt B.pb] w λr w'=>r=.returned (.tuple #[])∧St W w' (RefG W B p (playP p s)::L):=by
 refine EN Tryz.func60 Tryz.ntmps60 rfl rfl λa ha=>?_
 refine RN 0 ha hs λa ha=>?_
 refine wp_loop_ghost (λμ a w=>∃ (i:Nat),(μ=frontK s.k-s.k.mr.length-i∧i≤frontK s.k-s.k.mr.length)∧Fr a 60 [(0,pt B.pb)]∧St W w (RefG W B p (playN p i s)::L)) (frontK s.k-s.k.mr.length) (⟨0,⟨rfl,by omega⟩,ha.keep [0],hs⟩) ?_
 clear ha hs
 rintro μ a w ⟨i,⟨rfl,hi⟩,ha,hs⟩
 obtain⟨hwi,hls,hml⟩:=hw.play i hi
 have hnx:playN p (i+1) s=play1 p (playN p i s):=playN_succ p i s
 have hlow:=hw.low
 have hfe:frontK (playN p i s).k=frontK s.k:=by rw[frontK,hls];rfl
 generalize hsi:playN p i s=si at hs hwi hls hml hnx hfe
 replace hs:=RefG.open hs
 have hne:=hwi.wc.lne
 have hl8:si.k.ls.length≤8:=by rw[hwi.wc.ls];exact hwi.wc.n.2
 have hl0:0<si.k.ls.length:=by rw[hwi.wc.ls];have:=hwi.wc.n;omega
 have hfr1:frontK si.k≤1000:=Nat.le_trans hwi.wc.frontt hwi.wc.headt
 obtain⟨A,hs⟩:=RefS.open (hs.pick (RefS B.core si.k))
 refine DWC 2 (λw0 w'=>Rd w' B.pb 0 (rgC p B si.g)∧Rd w' B.core.cb 0 (rcC si.k B.core A)) [11,12] [0,1,2,8,9,10,3003,4,5,3006,7,1011,1012,13] ha hs λa w ha hs hH=>?_
 have hC:=hH.at w ⟨hs.rdAll (b:=B.pb),hs.rdAll (b:=B.core.cb)⟩
 refine RH 6 ha hs hH hC λa ha=>?_
 refine QH ha (λw hc=>ld1 ha (hc.1 0 _ rfl)) hC λa ha=>?_
 refine RH 2 ha hs hH hC λa ha=>?_
 refine QH ha (λw hc=>ld1 ha (hc.2 16 _ rfl)) hC λa ha=>?_
 refine RH 1 ha hs hH hC λa ha=>?_
 refine SS ha (ld1 ha (hC.1 0 _ rfl)) λa ha=>?_
 refine RH 0 ha hs hH hC λa ha=>?_
 refine CL 0 ha hs (ref_frontA ((hs.pick (blk B.core.cb 83 (rcC si.k B.core A))).pick (RLn B.core.lb B.core.lo B.core.cL si.k.ls)) hwi.wc) λa w ha hs=>?_
 replace hC:=hH.at w ⟨hs.rdAll (b:=B.pb),hs.rdAll (b:=B.core.cb)⟩
 refine RH 1 ha hs hH hC λa ha=>?_
 refine IF 0 ha hs (λhc0 a ha=>?_) λhc0 a ha=>?_
 ·
  have hmf:si.k.mr.length<frontL si.k.ls:=by
    have:frontL si.k.ls=frontK si.k:=rfl
    omega
  have hmf2:si.k.mr.length<frontK si.k:=hmf
  refine RN 11 ha hs λa ha=>?_
  obtain⟨xs,hxs,hs⟩:=RLn.open (hs.pick (RLn B.core.lb B.core.lo B.core.cL si.k.ls))
  have hxl:xs.length=si.k.ls.length:=by rw[← hxs,prx_len]
  have hjl:=jointL_len si.k.ls si.k.mr.length
  refine DWC 0 (λw0 w'=>Rd w' B.pb 0 (rgC p B si.g)∧Rd w' B.core.cb 0 (rcC si.k B.core A)) [8,13,14,15,16,18] [0,1,2,3,5,6,7,9,10,11,12,17,3004,3008,1013,1014,1015,1016,1018,1019,20,21,22,23,24,1025] ha hs λa w ha hs hH=>?_
  have hC:=hH.at w ⟨hs.rdAll (b:=B.pb),hs.rdAll (b:=B.core.cb)⟩
  refine RH 12 ha hs hH hC λa ha=>?_
  refine QH ha (λw hc=>ex_loadN ha Tryz.underlying34 rfl Ty.t34 (rgC_pr hc.1)) hC λa ha=>?_
  refine QH ha (λw hc=>ex_loadN ha Tryz.underlying63 rfl Ty.t63 (rgC_st hc.1)) hC λa ha=>?_
  refine RH 0 ha hs hH hC λa ha=>?_
  refine SS ha (ld1 ha (hC.1 0 _ rfl)) λa ha=>?_
  refine RH 2 ha hs hH hC λa ha=>?_
  refine SS ha (ld1 ha (hC.2 10 _ rfl)) λa ha=>?_
  rw[← hxl]at ha
  refine RH 0 ha hs hH hC λa ha=>?_
  refine CL2 0 ha hs (ref_joint (xs:=xs) (f:=si.k.mr.length) hs (by omega) (by omega) (λw' hw=>St.rdXe hw) (by rw[hxs];exact hmf)) λadj cj a w ha hs=>?_
  replace hC:=hH.at w ⟨hs.rdAll (b:=B.pb),hs.rdAll (b:=B.core.cb)⟩
  rw[hxs]at ha hs
  refine RH 0 ha hs hH hC λa ha=>?_
  refine CL1 0 ha hs (refStep_spec (b:=jointL si.k.ls si.k.mr.length) (fr:=si.k.mr.length) (hs.pick (RoP W p B.adO B.cO)) hpr hsz (hwi.gok hpr) (by omega) (by omega) (λw' hw=>(hw.pick (Sl 5 1 adj (jointL si.k.ls si.k.mr.length).length cj (bc (jointL si.k.ls si.k.mr.length)))).rdB adj _ rfl rfl)) λnst a w ha ⟨hgk,hs⟩=>?_
  refine RN 5 ha hs λa ha=>?_
  refine st_storeN ha rfl hs Ty.t63 ints_one (by rw[ints_len,rgC_len];decide) λa w ha hs=>?_
  rw[rgC_set]at hs
  refine RN 0 ha hs λa ha=>?_
  replace hs:=RLn.close (hs.sub (M:=Sl 128 1 (some ⟨B.core.lb,B.core.lo,none⟩) si.k.ls.length B.core.cL (xs.map bbv)::All bbo xs::blk B.pb 65 (rgC p B (frameI p si.k.mr.length (jointL si.k.ls si.k.mr.length) si.g))::RoP W p B.adO B.cO::blk B.core.cb 83 (rcC si.k B.core A)::blk B.core.hb 3 (heC si.k.ps)::blk B.core.ab 3 (haC si.k.ps)::blk B.core.wb 244 (rows wdC si.k.ps)::blk B.core.xb 4 (apC si.k.ps)::Sl 68 1 A.adM si.k.mr.length A.cM (mrC si.k.mr)::Sl 223 3 A.adE si.k.ev.length A.cE (rows rawC si.k.ev)::L)) hxs
  replace hs:=RefS.fold hs B.core si.k A
  refine DWC 0 (λw0 w'=>Rd w' B.pb 0 (rgC p B (frameI p si.k.mr.length (jointL si.k.ls si.k.mr.length) si.g))) [7,8] [0,1,2,4,5,6,3003,1007,1008,1009] ha hs λa w ha hs hH=>?_
  have hC:=hH.at w (hs.rdAll (b:=B.pb))
  refine RH 6 ha hs hH hC λa ha=>?_
  refine QH ha (λw hc=>ld1 ha (hc 0 _ rfl)) hC λa ha=>?_
  refine RH 0 ha hs hH hC λa ha=>?_
  refine SS ha (ex_loadN ha Tryz.underlying63 rfl Ty.t63 (rgC_st hC)) λa ha=>?_
  refine RH 0 ha hs hH hC λa ha=>?_
  refine CL 0 ha hs (refSumOf_spec hs) λa w ha hs=>?_
  replace hC:=hH.at w (hs.rdAll (b:=B.pb))
  refine RH 0 ha hs hH hC λa ha=>?_
  refine CL 0 ha hs (ref_mark (hs.pick (RefS B.core si.k)) hwi.wc (by omega) (crcSum_lt _)) λa w ha hs=>?_
  refine RN 0 ha hs λa ha=>?_
  exact⟨frontK s.k-s.k.mr.length-(i+1),by omega,i+1,⟨rfl,by omega⟩,ha.keep [0],by
    rw[hnx]
    show St W w (RefG W B p ⟨markK si.k (crcSum (gameB (frameI p si.k.mr.length (jointL si.k.ls si.k.mr.length) si.g))),frameI p si.k.mr.length (jointL si.k.ls si.k.mr.length) si.g⟩::L)
    exact (RefG.fold hs B p ⟨markK si.k (crcSum (gameB (frameI p si.k.mr.length (jointL si.k.ls si.k.mr.length) si.g))),frameI p si.k.mr.length (jointL si.k.ls si.k.mr.length) si.g⟩).sub⟩
 refine RT 0 ha hs ?_
 obtain rfl:i=frontK s.k-s.k.mr.length:=by
   have:frontL si.k.ls=frontK si.k:=rfl
   omega
 refine⟨rfl,?_⟩
 rw[playP,hsi]
 exact (RefG.fold (RefS.fold hs B.core si.k A) B p si).sub
theorem refP_press (hs:St W w (RefG W B p s::L))(hw:WF' p s)(hpr:prOk p)(hsz:p.title.size≤1000000000):Calls Tryz.prog 21 #[pt B.pb,.int .u8 (x.toNat:Nat)] w λr w'=>r=.returned (.int .i64 (pressP p x s).1)∧St W w' (RefG W B p (pressP p x s).2::L):=by
 have h1:=press_ext x s.k
 have hwp:=hw.toWP.more (hw.wc.press x) (hw.held.press x) h1.1 h1.2
 replace hs:=RefG.open hs
 refine EN Tryz.func21 Tryz.ntmps21 rfl rfl λa ha=>?_
 refine CL 8 ha hs (ref_press (x:=x) (hs.pick (RefS B.core s.k)) hw.wc) λa w ha hs=>?_
 refine RN 1 ha hs λa ha=>?_
 replace hs:=RefG.fold hs B p ⟨(pressK x s.k).2,s.g⟩
 refine CL 2 ha hs (ref_plays hs hwp hpr hsz) λa w ha hs=>?_
 refine RT 3 ha hs ?_
 exact⟨rfl,hs⟩
theorem refP_receive (hs:St W w (RefG W B p s::L))(hw:WF' p s)(hpr:prOk p)(hsz:p.title.size≤1000000000)(hb:bs.length≤65536)(hc:bs.length≤c)(hp:∀ w',St W w' L→RdB w' ad bs.length bs) :
   Calls Tryz.prog 36 #[pt B.pb,.slice ad bs.length c] w λr w'=>r=.returned (.int .i64 (recvP p bs s).1)∧St W w' (RefG W B p (recvP p bs s).2::L):=by
 have h1:=recv_ext bs s.k
 have hwp:=hw.toWP.more (hw.wc.recv bs).1 ((hw.wc.recv bs).2 hw.held) h1.1 h1.2
 replace hs:=RefG.open hs
 refine EN Tryz.func36 Tryz.ntmps36 rfl rfl λa ha=>?_
 refine CL 8 ha hs (ref_receive (bs:=bs) (ad:=ad) (c:=c) (hs.pick (RefS B.core s.k)) hw.wc hw.held hb hc (λw' hw'=>hp w' hw'.tail.tail)) λa w ha hs=>?_
 refine RN 1 ha hs λa ha=>?_
 replace hs:=RefG.fold hs B p ⟨(recvK bs s.k).2,s.g⟩
 refine CL 2 ha hs (ref_plays hs hwp hpr hsz) λa w ha hs=>?_
 refine RT 3 ha hs ?_
 exact⟨rfl,hs⟩
theorem refP_conf (hs:St W w (RefG W B p s::L))(hw:WF' p s):Calls Tryz.prog 62 #[pt B.pb] w λr w'=>∃ ad c,r=.returned (.tuple #[.slice ad 128 c,.int .i64 (confP s).2])∧St W w' (Sl 5 1 ad 128 c (bc (confP s).1)::RefG W B p s::L):=by
 replace hs:=RefG.open hs
 refine EN Tryz.func62 Tryz.ntmps62 rfl rfl λa ha=>?_
 refine DWC 4 (λw0 w'=>Rd w' B.pb 0 (rgC p B s.g)) [4,8] [0,1,2,5,6,7,3003,3008,1004,1009,10,11] ha hs λa w ha hs hH=>?_
 have hC:=hH.at w (hs.rdAll (b:=B.pb))
 refine RH 6 ha hs hH hC λa ha=>?_
 refine QH ha (λw hc=>ex_loadN ha Tryz.underlying63 rfl Ty.t63 (rgC_st hc)) hC λa ha=>?_
 refine QH ha (λw hc=>ld1 ha (hc 0 _ rfl)) hC λa ha=>?_
 refine RH 0 ha hs hH hC λa ha=>?_
 refine CL2 0 ha hs (refBytes_spec hs) λad c a w ha hs=>?_
 replace hC:=hH.at w (hs.rdAll (b:=B.pb))
 refine RH 0 ha hs hH hC λa ha=>?_
 refine CL 0 ha hs (ref_frontC (hs.pick (RefS B.core s.k)) hw.wc) λa w ha hs=>?_
 refine RN 2 ha hs λa ha=>?_
 refine RT 0 ha hs ?_
 exact⟨ad,c,rfl,(RefG.fold hs B p s).sub (M:=Sl 5 1 ad 128 c (bc (gameB s.g))::RefG W B p s::L)⟩
theorem ref_headA (hs:St W w (RLn C.lb C.lo C.cL k.ls::blk C.cb 83 (rcC k C A)::L))(hk:WC k):Calls Tryz.prog 38 #[pt C.cb] w λr w'=>r=.returned (.int .i64 (headK k))∧St W w' (RLn C.lb C.lo C.cL k.ls::blk C.cb 83 (rcC k C A)::L):=by
 have hme:k.me<k.ls.length:=by rw[hk.ls];exact hk.me
 refine EN Tryz.func38 Tryz.ntmps38 rfl rfl λa ha=>?_
 refine DWO 3 [8] [0,1,2,4,5,6,7,3003,1008,9,10,1011,12,13] ha hs λa w ha hs hH hC=>?_
 obtain⟨xs,hxs,hs⟩:=RLn.open hs
 have hxl:xs.length=k.ls.length:=by rw[← hxs,prx_len]
 obtain⟨bl,ol,y,hbe,hy,hcy,hry⟩:=(St.rdXe hs).at (i:=k.me) (by omega)
 cases hbe
 have hyl:headK k=y.2.2.length:=by
   show (k.ls.getD k.me []).length=_
   rw[← hxs,prx_get hy]
 replace hH:=Hd.old hs
 refine RH 11 ha hs hH hC λa ha=>?_
 refine SS ha (ld1 ha (hcy)) λa ha=>?_
 rw[bbv]at ha
 refine RH 2 ha hs hH hC λa ha=>?_
 refine RT 0 ha hs ?_
 exact⟨by rw[hyl],RLn.close hs hxs⟩
theorem refP_disp (hs:St W w (RefG W B p s::L))(hw:WF' p s)(hpr:prOk p)(hsz:p.title.size≤1000000000)(hgs:mayGs B.gs)(hT:RdB W B.adT B.gs.table.length B.gs.table):Calls Tryz.prog 63 #[pt B.pb] w λr w'=>∃ ad c,r=.returned (.tuple #[.slice ad 128 c,.int .i64 (dispG p B.gs s).2])∧St W w' (Sl 5 1 ad 128 c (bc (dispG p B.gs s).1)::RefG W B p s::L):=by
 have hl8:s.k.ls.length≤8:=by rw[hw.wc.ls];exact hw.wc.n.2
 have hl0:0<s.k.ls.length:=by rw[hw.wc.ls];have:=hw.wc.n;omega
 have hhd:=hw.wc.headt
 have hfr:frontK s.k≤headK s.k:=hw.wc.frontt
 replace hs:=RefG.open hs
 refine EN Tryz.func63 Tryz.ntmps63 rfl rfl λa ha=>?_
 refine DWC 5 (λw0 w'=>Rd w' B.pb 0 (rgC p B s.g)) [4,8] [0,1,2,5,6,7,3003,3008,1004,1009,10] ha hs λa w ha hs hH=>?_
 have hC:=hH.at w (hs.rdAll (b:=B.pb))
 refine RH 6 ha hs hH hC λa ha=>?_
 refine QH ha (λw hc=>ld1 ha (hc 0 _ rfl)) hC λa ha=>?_
 refine QH ha (λw hc=>ld1 ha (hc 0 _ rfl)) hC λa ha=>?_
 refine RH 0 ha hs hH hC λa ha=>?_
 refine CL 0 ha hs (ref_head (hs.pick (RefS B.core s.k)) hw.wc) λa w ha hs=>?_
 replace hC:=hH.at w (hs.rdAll (b:=B.pb))
 refine RH 0 ha hs hH hC λa ha=>?_
 refine CL 0 ha hs (ref_frontC hs hw.wc) λa w ha hs=>?_
 refine RN 1 ha hs λa ha=>?_
 refine IF 0 ha hs (λhc0 a ha=>?_) λhc0 a ha=>?_
 ·
  replace hs:=RefG.fold hs B p s
  refine CL2 2 ha hs (refP_conf hs hw) λad c a w ha hs=>?_
  refine RT 4 ha hs ?_
  refine⟨ad,c,?_,?_⟩
  · rw[dispG,if_pos (by omega)]
  · rw[dispG,if_pos (by omega)];exact hs
 refine RN 1 ha hs λa ha=>?_
 obtain⟨A,hs⟩:=RefS.open (hs.pick (RefS B.core s.k))
 refine DWC 0 (λw0 w'=>Rd w' B.pb 0 (rgC p B s.g)∧Rd w' B.core.cb 0 (rcC s.k B.core A)) [7,11,12,16,17,18,19,23,27,28,29,31] [0,1,2,4,5,6,8,9,10,13,14,15,20,21,22,24,25,26,3003,3007,3011,3016,3017,3018,3019,3023,3027,2012,2028,2029,2030,1031,1032] ha hs λa w ha hs hH=>?_
 have hC:=hH.at w ⟨hs.rdAll (b:=B.pb),hs.rdAll (b:=B.core.cb)⟩
 refine RH 18 ha hs hH hC λa ha=>?_
 refine QH ha (λw hc=>ex_loadN ha Tryz.underlying34 rfl Ty.t34 (rgC_pr hc.1)) hC λa ha=>?_
 refine QH ha (λw hc=>ex_loadN ha Tryz.underlying63 rfl Ty.t63 (rgC_st hc.1)) hC λa ha=>?_
 refine QH ha (λw hc=>ld1 ha (hc.1 0 _ rfl)) hC λa ha=>?_
 refine QH ha (λw hc=>ld1 ha (hc.1 0 _ rfl)) hC λa ha=>?_
 refine RH 2 ha hs hH hC λa ha=>?_
 refine QH ha (λw hc=>ld1 ha (hc.2 10 _ rfl)) hC λa ha=>?_
 refine QH ha (λw hc=>ex_loadN ha Tryz.underlying61 rfl Ty.t61 (rgC_by hc.1)) hC λa ha=>?_
 refine QH ha (λw hc=>ld1 ha (hc.1 0 _ rfl)) hC λa ha=>?_
 refine RH 0 ha hs hH hC λa ha=>?_
 refine DN [(12,[2028,2029,2030,1031,1032]),(31,[1012,1028,1029,1030,1032])] (by kernel_rfl) rfl ⟨⟨_,rfl,?_⟩,⟨_,rfl,?_⟩,trivial⟩
 ·
  refine RH 0 ha hs hH hC λa ha=>?_
  refine CL 0 ha hs (ref_frontA ((hs.pick (blk B.core.cb 83 (rcC s.k B.core A))).pick (RLn B.core.lb B.core.lo B.core.cL s.k.ls)) hw.wc) λa w ha hs=>?_
  replace hC:=hH.at w ⟨hs.rdAll (b:=B.pb),hs.rdAll (b:=B.core.cb)⟩
  refine RH 0 ha hs hH hC λa ha=>?_
  refine DN [(28,[2029,2030,1031,1032]),(31,[1028,1029,1030,1032])] (by kernel_rfl) rfl ⟨⟨_,rfl,?_⟩,⟨_,rfl,?_⟩,trivial⟩
  ·
   refine RH 0 ha hs hH hC λa ha=>?_
   refine CL 0 ha hs (ref_headA ((hs.pick (blk B.core.cb 83 (rcC s.k B.core A))).pick (RLn B.core.lb B.core.lo B.core.cL s.k.ls)) hw.wc) λa w ha hs=>?_
   replace hC:=hH.at w ⟨hs.rdAll (b:=B.pb),hs.rdAll (b:=B.core.cb)⟩
   refine RH 0 ha hs hH hC λa ha=>?_
   refine DN [(29,[2030,1031,1032]),(31,[1029,1030,1032])] (by kernel_rfl) rfl ⟨⟨_,rfl,?_⟩,⟨_,rfl,?_⟩,trivial⟩
   ·
    obtain⟨xs,hxs,hs⟩:=RLn.open (hs.pick (RLn B.core.lb B.core.lo B.core.cL s.k.ls))
    have hxl:xs.length=s.k.ls.length:=by rw[← hxs,prx_len]
    rw[← hxl]at ha
    refine RH 0 ha hs hH hC λa ha=>?_
    refine CL3 0 ha hs (ref_aheadG (xs:=xs) (b:=B.gs) (r:=0) (to:=headK s.k) (by decide) hs hgs (by omega) (by omega) (by rw[hxs];exact hw.wc.ln) hhd (λw' hw'=>St.rdXe hw') (λw' hw'=>hT.old hw')) λadh ch X a w ha ⟨⟨hFX,hX⟩,hs⟩=>?_
    replace hC:=hH.at w ⟨hs.rdAll (b:=B.pb),hs.rdAll (b:=B.core.cb)⟩
    have hXf:=hX rfl
    subst hXf
    rw[aheadX_full,hxs]at hs
    rw[hxs]at ha
    have hal:(aheadL B.gs s.k.ls (headK s.k)).length=headK s.k-frontL s.k.ls:=aheadL_len _ _ _
    have hal1:∀ b∈aheadL B.gs s.k.ls (headK s.k),b.length≤1099511627776:=λb hb=>by
      rw[aheadL,List.mem_map]at hb
      obtain⟨i,_,rfl⟩:=hb
      rw[jointL_len,fullL,List.length_map];omega
    obtain⟨ys,hy1,hy2,hs⟩:=OwnBB.open hs
    refine RH 0 ha hs hH hC λa ha=>?_
    refine DN [(30,[1031,1032]),(31,[1030,1032])] (by kernel_rfl) rfl ⟨⟨_,rfl,?_⟩,⟨_,rfl,?_⟩,trivial⟩
    ·
     refine RH 0 ha hs hH hC λa ha=>?_
     refine CL 0 ha hs (refFold_len (P:=aheadL B.gs s.k.ls (headK s.k)) (zs:=ys) (fr:=frontK s.k) (hs.pick (RoP W p B.adO B.cO)) hal hpr hsz (hw.gok hpr) ⟨by omega,hal1⟩ hy1 (by omega) (λw' hw'=>St.rdX (hw'.sub (M:=Sl 22 1 adh (headK s.k-frontL s.k.ls) ch (ys.map bbv)::All bbo ys::[])))) λa w ha ⟨hgk,hs⟩=>?_
     refine RN 0 ha hs λa ha=>?_
     refine st_alloc ha rfl hs Ty.t63 rfl λb4 a w ha hs ho=>?_
     clear ho
     replace hC:=hH.at w ⟨hs.rdAll (b:=B.pb),hs.rdAll (b:=B.core.cb)⟩
     refine RH 0 ha hs hH hC λa ha=>?_
     refine SA 0 ha hs λa w ha hs=>?_
     refine RN 0 ha hs λa ha=>?_
     replace hs:=RLn.close (hs.sub (M:=Sl 128 1 (some ⟨B.core.lb,B.core.lo,none⟩) s.k.ls.length B.core.cL (xs.map bbv)::All bbo xs::blk b4 63 (ints .i32 32 (foldI p (frontK s.k) s.g (aheadL B.gs s.k.ls (headK s.k))))::blk B.pb 65 (rgC p B s.g)::RoP W p B.adO B.cO::blk B.core.cb 83 (rcC s.k B.core A)::blk B.core.hb 3 (heC s.k.ps)::blk B.core.ab 3 (haC s.k.ps)::blk B.core.wb 244 (rows wdC s.k.ps)::blk B.core.xb 4 (apC s.k.ps)::Sl 68 1 A.adM s.k.mr.length A.cM (mrC s.k.mr)::Sl 223 3 A.adE s.k.ev.length A.cE (rows rawC s.k.ev)::L)) hxs
     replace hs:=RefS.fold hs B.core s.k A
     refine DWC 1 (λw0 w'=>Rd w' b4 0 (ints .i32 32 (foldI p (frontK s.k) s.g (aheadL B.gs s.k.ls (headK s.k))))∧Rd w' B.pb 0 (rgC p B s.g)) [1,5] [2,3,4,3000,3005,1001,1006,7,8] ha hs λa w ha hs hH=>?_
     have hC:=hH.at w ⟨hs.rdAll (b:=b4),hs.rdAll (b:=B.pb)⟩
     refine RH 3 ha hs hH hC λa ha=>?_
     refine QH ha (λw hc=>ex_loadN ha Tryz.underlying63 rfl Ty.t63 (hc.1)) hC λa ha=>?_
     refine QH ha (λw hc=>ld1 ha (hc.2 0 _ rfl)) hC λa ha=>?_
     refine RH 0 ha hs hH hC λa ha=>?_
     refine CL2 0 ha hs (refBytes_spec hs) λad2 c2 a w ha hs=>?_
     replace hC:=hH.at w ⟨hs.rdAll (b:=b4),hs.rdAll (b:=B.pb)⟩
     refine RH 0 ha hs hH hC λa ha=>?_
     refine CL 0 ha hs (ref_head (hs.pick (RefS B.core s.k)) hw.wc) λa w ha hs=>?_
     refine RN 2 ha hs λa ha=>?_
     refine RT 0 ha hs ?_
     refine⟨ad2,c2,?_,?_⟩
     · rw[dispG,if_neg (by omega)]
     · rw[dispG,if_neg (by omega)]
       exact (RefG.fold hs B p s).sub (M:=Sl 5 1 ad2 128 c2 (bc (gameB (foldI p (frontK s.k) s.g (aheadL B.gs s.k.ls (headK s.k)))))::RefG W B p s::L)
    refine RH 0 ha hs hH hC λa ha=>?_
    refine st_alloc ha rfl hs Ty.t63 rfl λb4 a w ha hs ho=>?_
    clear ho
    replace hC:=hH.at w ⟨hs.rdAll (b:=B.pb),hs.rdAll (b:=B.core.cb)⟩
    refine RH 0 ha hs hH hC λa ha=>?_
    refine CL 0 ha hs (refFold_len (P:=aheadL B.gs s.k.ls (headK s.k)) (zs:=ys) (fr:=frontK s.k) (hs.pick (RoP W p B.adO B.cO)) hal hpr hsz (hw.gok hpr) ⟨by omega,hal1⟩ hy1 (by omega) (λw' hw'=>St.rdX (hw'.sub (M:=Sl 22 1 adh (headK s.k-frontL s.k.ls) ch (ys.map bbv)::All bbo ys::[])))) λa w ha ⟨hgk,hs⟩=>?_
    refine SA 0 ha hs λa w ha hs=>?_
    refine RN 0 ha hs λa ha=>?_
    replace hs:=RLn.close (hs.sub (M:=Sl 128 1 (some ⟨B.core.lb,B.core.lo,none⟩) s.k.ls.length B.core.cL (xs.map bbv)::All bbo xs::blk b4 63 (ints .i32 32 (foldI p (frontK s.k) s.g (aheadL B.gs s.k.ls (headK s.k))))::blk B.pb 65 (rgC p B s.g)::RoP W p B.adO B.cO::blk B.core.cb 83 (rcC s.k B.core A)::blk B.core.hb 3 (heC s.k.ps)::blk B.core.ab 3 (haC s.k.ps)::blk B.core.wb 244 (rows wdC s.k.ps)::blk B.core.xb 4 (apC s.k.ps)::Sl 68 1 A.adM s.k.mr.length A.cM (mrC s.k.mr)::Sl 223 3 A.adE s.k.ev.length A.cE (rows rawC s.k.ev)::L)) hxs
    replace hs:=RefS.fold hs B.core s.k A
    refine DWC 1 (λw0 w'=>Rd w' b4 0 (ints .i32 32 (foldI p (frontK s.k) s.g (aheadL B.gs s.k.ls (headK s.k))))∧Rd w' B.pb 0 (rgC p B s.g)) [1,5] [2,3,4,3000,3005,1001,1006,7,8] ha hs λa w ha hs hH=>?_
    have hC:=hH.at w ⟨hs.rdAll (b:=b4),hs.rdAll (b:=B.pb)⟩
    refine RH 3 ha hs hH hC λa ha=>?_
    refine QH ha (λw hc=>ex_loadN ha Tryz.underlying63 rfl Ty.t63 (hc.1)) hC λa ha=>?_
    refine QH ha (λw hc=>ld1 ha (hc.2 0 _ rfl)) hC λa ha=>?_
    refine RH 0 ha hs hH hC λa ha=>?_
    refine CL2 0 ha hs (refBytes_spec hs) λad2 c2 a w ha hs=>?_
    replace hC:=hH.at w ⟨hs.rdAll (b:=b4),hs.rdAll (b:=B.pb)⟩
    refine RH 0 ha hs hH hC λa ha=>?_
    refine CL 0 ha hs (ref_head (hs.pick (RefS B.core s.k)) hw.wc) λa w ha hs=>?_
    refine RN 2 ha hs λa ha=>?_
    refine RT 0 ha hs ?_
    refine⟨ad2,c2,?_,?_⟩
    · rw[dispG,if_neg (by omega)]
    · rw[dispG,if_neg (by omega)]
      exact (RefG.fold hs B p s).sub (M:=Sl 5 1 ad2 128 c2 (bc (gameB (foldI p (frontK s.k) s.g (aheadL B.gs s.k.ls (headK s.k)))))::RefG W B p s::L)
   refine RH 0 ha hs hH hC λa ha=>?_
   refine st_alloc ha rfl hs Ty.t63 rfl λb4 a w ha hs ho=>?_
   clear ho
   replace hC:=hH.at w ⟨hs.rdAll (b:=B.pb),hs.rdAll (b:=B.core.cb)⟩
   obtain⟨xs,hxs,hs⟩:=RLn.open (hs.pick (RLn B.core.lb B.core.lo B.core.cL s.k.ls))
   have hxl:xs.length=s.k.ls.length:=by rw[← hxs,prx_len]
   rw[← hxl]at ha
   refine RH 0 ha hs hH hC λa ha=>?_
   refine CL3 0 ha hs (ref_aheadG (xs:=xs) (b:=B.gs) (r:=0) (to:=headK s.k) (by decide) hs hgs (by omega) (by omega) (by rw[hxs];exact hw.wc.ln) hhd (λw' hw'=>St.rdXe hw') (λw' hw'=>hT.old hw')) λadh ch X a w ha ⟨⟨hFX,hX⟩,hs⟩=>?_
   replace hC:=hH.at w ⟨hs.rdAll (b:=B.pb),hs.rdAll (b:=B.core.cb)⟩
   have hXf:=hX rfl
   subst hXf
   rw[aheadX_full,hxs]at hs
   rw[hxs]at ha
   have hal:(aheadL B.gs s.k.ls (headK s.k)).length=headK s.k-frontL s.k.ls:=aheadL_len _ _ _
   have hal1:∀ b∈aheadL B.gs s.k.ls (headK s.k),b.length≤1099511627776:=λb hb=>by
     rw[aheadL,List.mem_map]at hb
     obtain⟨i,_,rfl⟩:=hb
     rw[jointL_len,fullL,List.length_map];omega
   obtain⟨ys,hy1,hy2,hs⟩:=OwnBB.open hs
   refine RH 0 ha hs hH hC λa ha=>?_
   refine CL 0 ha hs (refFold_len (P:=aheadL B.gs s.k.ls (headK s.k)) (zs:=ys) (fr:=frontK s.k) (hs.pick (RoP W p B.adO B.cO)) hal hpr hsz (hw.gok hpr) ⟨by omega,hal1⟩ hy1 (by omega) (λw' hw'=>St.rdX (hw'.sub (M:=Sl 22 1 adh (headK s.k-frontL s.k.ls) ch (ys.map bbv)::All bbo ys::[])))) λa w ha ⟨hgk,hs⟩=>?_
   refine SA 0 ha hs λa w ha hs=>?_
   refine RN 0 ha hs λa ha=>?_
   replace hs:=RLn.close (hs.sub (M:=Sl 128 1 (some ⟨B.core.lb,B.core.lo,none⟩) s.k.ls.length B.core.cL (xs.map bbv)::All bbo xs::blk b4 63 (ints .i32 32 (foldI p (frontK s.k) s.g (aheadL B.gs s.k.ls (headK s.k))))::blk B.pb 65 (rgC p B s.g)::RoP W p B.adO B.cO::blk B.core.cb 83 (rcC s.k B.core A)::blk B.core.hb 3 (heC s.k.ps)::blk B.core.ab 3 (haC s.k.ps)::blk B.core.wb 244 (rows wdC s.k.ps)::blk B.core.xb 4 (apC s.k.ps)::Sl 68 1 A.adM s.k.mr.length A.cM (mrC s.k.mr)::Sl 223 3 A.adE s.k.ev.length A.cE (rows rawC s.k.ev)::L)) hxs
   replace hs:=RefS.fold hs B.core s.k A
   refine DWC 1 (λw0 w'=>Rd w' b4 0 (ints .i32 32 (foldI p (frontK s.k) s.g (aheadL B.gs s.k.ls (headK s.k))))∧Rd w' B.pb 0 (rgC p B s.g)) [1,5] [2,3,4,3000,3005,1001,1006,7,8] ha hs λa w ha hs hH=>?_
   have hC:=hH.at w ⟨hs.rdAll (b:=b4),hs.rdAll (b:=B.pb)⟩
   refine RH 3 ha hs hH hC λa ha=>?_
   refine QH ha (λw hc=>ex_loadN ha Tryz.underlying63 rfl Ty.t63 (hc.1)) hC λa ha=>?_
   refine QH ha (λw hc=>ld1 ha (hc.2 0 _ rfl)) hC λa ha=>?_
   refine RH 0 ha hs hH hC λa ha=>?_
   refine CL2 0 ha hs (refBytes_spec hs) λad2 c2 a w ha hs=>?_
   replace hC:=hH.at w ⟨hs.rdAll (b:=b4),hs.rdAll (b:=B.pb)⟩
   refine RH 0 ha hs hH hC λa ha=>?_
   refine CL 0 ha hs (ref_head (hs.pick (RefS B.core s.k)) hw.wc) λa w ha hs=>?_
   refine RN 2 ha hs λa ha=>?_
   refine RT 0 ha hs ?_
   refine⟨ad2,c2,?_,?_⟩
   · rw[dispG,if_neg (by omega)]
   · rw[dispG,if_neg (by omega)]
     exact (RefG.fold hs B p s).sub (M:=Sl 5 1 ad2 128 c2 (bc (gameB (foldI p (frontK s.k) s.g (aheadL B.gs s.k.ls (headK s.k)))))::RefG W B p s::L)
  refine RH 0 ha hs hH hC λa ha=>?_
  refine st_alloc ha rfl hs Ty.t63 rfl λb4 a w ha hs ho=>?_
  clear ho
  replace hC:=hH.at w ⟨hs.rdAll (b:=B.pb),hs.rdAll (b:=B.core.cb)⟩
  refine RH 0 ha hs hH hC λa ha=>?_
  refine CL 0 ha hs (ref_headA ((hs.pick (blk B.core.cb 83 (rcC s.k B.core A))).pick (RLn B.core.lb B.core.lo B.core.cL s.k.ls)) hw.wc) λa w ha hs=>?_
  replace hC:=hH.at w ⟨hs.rdAll (b:=B.pb),hs.rdAll (b:=B.core.cb)⟩
  obtain⟨xs,hxs,hs⟩:=RLn.open (hs.pick (RLn B.core.lb B.core.lo B.core.cL s.k.ls))
  have hxl:xs.length=s.k.ls.length:=by rw[← hxs,prx_len]
  rw[← hxl]at ha
  refine RH 0 ha hs hH hC λa ha=>?_
  refine CL3 0 ha hs (ref_aheadG (xs:=xs) (b:=B.gs) (r:=0) (to:=headK s.k) (by decide) hs hgs (by omega) (by omega) (by rw[hxs];exact hw.wc.ln) hhd (λw' hw'=>St.rdXe hw') (λw' hw'=>hT.old hw')) λadh ch X a w ha ⟨⟨hFX,hX⟩,hs⟩=>?_
  replace hC:=hH.at w ⟨hs.rdAll (b:=B.pb),hs.rdAll (b:=B.core.cb)⟩
  have hXf:=hX rfl
  subst hXf
  rw[aheadX_full,hxs]at hs
  rw[hxs]at ha
  have hal:(aheadL B.gs s.k.ls (headK s.k)).length=headK s.k-frontL s.k.ls:=aheadL_len _ _ _
  have hal1:∀ b∈aheadL B.gs s.k.ls (headK s.k),b.length≤1099511627776:=λb hb=>by
    rw[aheadL,List.mem_map]at hb
    obtain⟨i,_,rfl⟩:=hb
    rw[jointL_len,fullL,List.length_map];omega
  obtain⟨ys,hy1,hy2,hs⟩:=OwnBB.open hs
  refine RH 0 ha hs hH hC λa ha=>?_
  refine CL 0 ha hs (refFold_len (P:=aheadL B.gs s.k.ls (headK s.k)) (zs:=ys) (fr:=frontK s.k) (hs.pick (RoP W p B.adO B.cO)) hal hpr hsz (hw.gok hpr) ⟨by omega,hal1⟩ hy1 (by omega) (λw' hw'=>St.rdX (hw'.sub (M:=Sl 22 1 adh (headK s.k-frontL s.k.ls) ch (ys.map bbv)::All bbo ys::[])))) λa w ha ⟨hgk,hs⟩=>?_
  refine SA 0 ha hs λa w ha hs=>?_
  refine RN 0 ha hs λa ha=>?_
  replace hs:=RLn.close (hs.sub (M:=Sl 128 1 (some ⟨B.core.lb,B.core.lo,none⟩) s.k.ls.length B.core.cL (xs.map bbv)::All bbo xs::blk b4 63 (ints .i32 32 (foldI p (frontK s.k) s.g (aheadL B.gs s.k.ls (headK s.k))))::blk B.pb 65 (rgC p B s.g)::RoP W p B.adO B.cO::blk B.core.cb 83 (rcC s.k B.core A)::blk B.core.hb 3 (heC s.k.ps)::blk B.core.ab 3 (haC s.k.ps)::blk B.core.wb 244 (rows wdC s.k.ps)::blk B.core.xb 4 (apC s.k.ps)::Sl 68 1 A.adM s.k.mr.length A.cM (mrC s.k.mr)::Sl 223 3 A.adE s.k.ev.length A.cE (rows rawC s.k.ev)::L)) hxs
  replace hs:=RefS.fold hs B.core s.k A
  refine DWC 1 (λw0 w'=>Rd w' b4 0 (ints .i32 32 (foldI p (frontK s.k) s.g (aheadL B.gs s.k.ls (headK s.k))))∧Rd w' B.pb 0 (rgC p B s.g)) [1,5] [2,3,4,3000,3005,1001,1006,7,8] ha hs λa w ha hs hH=>?_
  have hC:=hH.at w ⟨hs.rdAll (b:=b4),hs.rdAll (b:=B.pb)⟩
  refine RH 3 ha hs hH hC λa ha=>?_
  refine QH ha (λw hc=>ex_loadN ha Tryz.underlying63 rfl Ty.t63 (hc.1)) hC λa ha=>?_
  refine QH ha (λw hc=>ld1 ha (hc.2 0 _ rfl)) hC λa ha=>?_
  refine RH 0 ha hs hH hC λa ha=>?_
  refine CL2 0 ha hs (refBytes_spec hs) λad2 c2 a w ha hs=>?_
  replace hC:=hH.at w ⟨hs.rdAll (b:=b4),hs.rdAll (b:=B.pb)⟩
  refine RH 0 ha hs hH hC λa ha=>?_
  refine CL 0 ha hs (ref_head (hs.pick (RefS B.core s.k)) hw.wc) λa w ha hs=>?_
  refine RN 2 ha hs λa ha=>?_
  refine RT 0 ha hs ?_
  refine⟨ad2,c2,?_,?_⟩
  · rw[dispG,if_neg (by omega)]
  · rw[dispG,if_neg (by omega)]
    exact (RefG.fold hs B p s).sub (M:=Sl 5 1 ad2 128 c2 (bc (gameB (foldI p (frontK s.k) s.g (aheadL B.gs s.k.ls (headK s.k)))))::RefG W B p s::L)
 refine RH 0 ha hs hH hC λa ha=>?_
 refine st_alloc ha rfl hs Ty.t63 rfl λb4 a w ha hs ho=>?_
 clear ho
 replace hC:=hH.at w ⟨hs.rdAll (b:=B.pb),hs.rdAll (b:=B.core.cb)⟩
 refine RH 0 ha hs hH hC λa ha=>?_
 refine CL 0 ha hs (ref_frontA ((hs.pick (blk B.core.cb 83 (rcC s.k B.core A))).pick (RLn B.core.lb B.core.lo B.core.cL s.k.ls)) hw.wc) λa w ha hs=>?_
 replace hC:=hH.at w ⟨hs.rdAll (b:=B.pb),hs.rdAll (b:=B.core.cb)⟩
 refine RH 0 ha hs hH hC λa ha=>?_
 refine CL 0 ha hs (ref_headA ((hs.pick (blk B.core.cb 83 (rcC s.k B.core A))).pick (RLn B.core.lb B.core.lo B.core.cL s.k.ls)) hw.wc) λa w ha hs=>?_
 replace hC:=hH.at w ⟨hs.rdAll (b:=B.pb),hs.rdAll (b:=B.core.cb)⟩
 obtain⟨xs,hxs,hs⟩:=RLn.open (hs.pick (RLn B.core.lb B.core.lo B.core.cL s.k.ls))
 have hxl:xs.length=s.k.ls.length:=by rw[← hxs,prx_len]
 rw[← hxl]at ha
 refine RH 0 ha hs hH hC λa ha=>?_
 refine CL3 0 ha hs (ref_aheadG (xs:=xs) (b:=B.gs) (r:=0) (to:=headK s.k) (by decide) hs hgs (by omega) (by omega) (by rw[hxs];exact hw.wc.ln) hhd (λw' hw'=>St.rdXe hw') (λw' hw'=>hT.old hw')) λadh ch X a w ha ⟨⟨hFX,hX⟩,hs⟩=>?_
 replace hC:=hH.at w ⟨hs.rdAll (b:=B.pb),hs.rdAll (b:=B.core.cb)⟩
 have hXf:=hX rfl
 subst hXf
 rw[aheadX_full,hxs]at hs
 rw[hxs]at ha
 have hal:(aheadL B.gs s.k.ls (headK s.k)).length=headK s.k-frontL s.k.ls:=aheadL_len _ _ _
 have hal1:∀ b∈aheadL B.gs s.k.ls (headK s.k),b.length≤1099511627776:=λb hb=>by
   rw[aheadL,List.mem_map]at hb
   obtain⟨i,_,rfl⟩:=hb
   rw[jointL_len,fullL,List.length_map];omega
 obtain⟨ys,hy1,hy2,hs⟩:=OwnBB.open hs
 refine RH 0 ha hs hH hC λa ha=>?_
 refine CL 0 ha hs (refFold_len (P:=aheadL B.gs s.k.ls (headK s.k)) (zs:=ys) (fr:=frontK s.k) (hs.pick (RoP W p B.adO B.cO)) hal hpr hsz (hw.gok hpr) ⟨by omega,hal1⟩ hy1 (by omega) (λw' hw'=>St.rdX (hw'.sub (M:=Sl 22 1 adh (headK s.k-frontL s.k.ls) ch (ys.map bbv)::All bbo ys::[])))) λa w ha ⟨hgk,hs⟩=>?_
 refine SA 0 ha hs λa w ha hs=>?_
 refine RN 0 ha hs λa ha=>?_
 replace hs:=RLn.close (hs.sub (M:=Sl 128 1 (some ⟨B.core.lb,B.core.lo,none⟩) s.k.ls.length B.core.cL (xs.map bbv)::All bbo xs::blk b4 63 (ints .i32 32 (foldI p (frontK s.k) s.g (aheadL B.gs s.k.ls (headK s.k))))::blk B.pb 65 (rgC p B s.g)::RoP W p B.adO B.cO::blk B.core.cb 83 (rcC s.k B.core A)::blk B.core.hb 3 (heC s.k.ps)::blk B.core.ab 3 (haC s.k.ps)::blk B.core.wb 244 (rows wdC s.k.ps)::blk B.core.xb 4 (apC s.k.ps)::Sl 68 1 A.adM s.k.mr.length A.cM (mrC s.k.mr)::Sl 223 3 A.adE s.k.ev.length A.cE (rows rawC s.k.ev)::L)) hxs
 replace hs:=RefS.fold hs B.core s.k A
 refine DWC 1 (λw0 w'=>Rd w' b4 0 (ints .i32 32 (foldI p (frontK s.k) s.g (aheadL B.gs s.k.ls (headK s.k))))∧Rd w' B.pb 0 (rgC p B s.g)) [1,5] [2,3,4,3000,3005,1001,1006,7,8] ha hs λa w ha hs hH=>?_
 have hC:=hH.at w ⟨hs.rdAll (b:=b4),hs.rdAll (b:=B.pb)⟩
 refine RH 3 ha hs hH hC λa ha=>?_
 refine QH ha (λw hc=>ex_loadN ha Tryz.underlying63 rfl Ty.t63 (hc.1)) hC λa ha=>?_
 refine QH ha (λw hc=>ld1 ha (hc.2 0 _ rfl)) hC λa ha=>?_
 refine RH 0 ha hs hH hC λa ha=>?_
 refine CL2 0 ha hs (refBytes_spec hs) λad2 c2 a w ha hs=>?_
 replace hC:=hH.at w ⟨hs.rdAll (b:=b4),hs.rdAll (b:=B.pb)⟩
 refine RH 0 ha hs hH hC λa ha=>?_
 refine CL 0 ha hs (ref_head (hs.pick (RefS B.core s.k)) hw.wc) λa w ha hs=>?_
 refine RN 2 ha hs λa ha=>?_
 refine RT 0 ha hs ?_
 refine⟨ad2,c2,?_,?_⟩
 · rw[dispG,if_neg (by omega)]
 · rw[dispG,if_neg (by omega)]
   exact (RefG.fold hs B p s).sub (M:=Sl 5 1 ad2 128 c2 (bc (gameB (foldI p (frontK s.k) s.g (aheadL B.gs s.k.ls (headK s.k)))))::RefG W B p s::L)
theorem refP_new {n me delay window:Nat}{id guess order branches workers room:Int}(hs:St W w (RoP W p adP cP::L))(hm:mayCf ⟨n,me,id,delay,window,guess,order,branches,workers,room⟩)(hpr:prOk p)(hsz:p.title.size≤1000000000) :
   Calls Tryz.prog 20 #[.agg (cfC ⟨n,me,id,delay,window,guess,order,branches,workers,room⟩).toArray,.agg (prV p adP cP).toArray,.slice adT tb.length cT] w λr w'=>∃ B:RgB,r=.returned (pt B.pb)∧(B.gs=⟨guess,order,tb⟩∧B.adT=adT)∧St W w' (RefG W B p (newP p ⟨n,me,id,delay,window,guess,order,branches,workers,room⟩)::L):=by
 refine EN Tryz.func20 Tryz.ntmps20 rfl rfl λa ha=>?_
 refine BX 1 ha hs λb3 a w ha hs=>?_
 change St W w (blk b3 27 (cfC ⟨n,me,id,delay,window,guess,order,branches,workers,room⟩)::_) at hs
 refine BX 0 ha hs λb4 a w ha hs=>?_
 change St W w (blk b4 34 [.string p.title,.slice adP p.ops.length cP]::_) at hs
 refine DWC 2 (λw0 w'=>Rd w' b3 0 (cfC ⟨n,me,id,delay,window,guess,order,branches,workers,room⟩)∧Rd w' b4 0 [.string p.title,.slice adP p.ops.length cP]) [1,2,4,6,8] [3,5,7,3000,3002,3004,3006,3008,1001,9,1010,11] ha hs λa w ha hs hH=>?_
 have hC:=hH.at w ⟨hs.rdAll (b:=b3),hs.rdAll (b:=b4)⟩
 refine RH 3 ha hs hH hC λa ha=>?_
 refine QH ha (λw hc=>ex_loadN ha Tryz.underlying27 rfl Ty.t27 (hc.1)) hC λa ha=>?_
 refine QH ha (λw hc=>ex_loadN ha Tryz.underlying34 rfl Ty.t34 (hc.2)) hC λa ha=>?_
 refine QH ha (λw hc=>ld1 ha (hc.1 5 _ rfl)) hC λa ha=>?_
 refine QH ha (λw hc=>ld1 ha (hc.1 6 _ rfl)) hC λa ha=>?_
 refine RH 1 ha hs hH hC λa ha=>?_
 refine CL1 0 ha hs (ref_new hs hm) λBc a w ha hs=>?_
 replace hC:=hH.at w ⟨hs.rdAll (b:=b3),hs.rdAll (b:=b4)⟩
 refine RH 1 ha hs hH hC λa ha=>?_
 refine st_box ha rfl hs rfl λb18 a w ha hs ho=>?_
 clear ho
 change St W w (blk b18 65 (rgC p ⟨b18,Bc,adP,cP,adT,cT,⟨guess,order,tb⟩⟩ zeroG)::_) at hs
 refine RN 1 ha hs λa ha=>?_
 replace hs:=RefG.fold hs ⟨b18,Bc,adP,cP,adT,cT,⟨guess,order,tb⟩⟩ p ⟨newK ⟨n,me,id,delay,window,guess,order,branches,workers,room⟩,zeroG⟩
 refine CL 2 ha hs (ref_plays hs (newP_ok hm) hpr hsz) λa w ha hs=>?_
 refine RT 3 ha hs ?_
 have h9:St W w (RefG W ⟨b18,Bc,adP,cP,adT,cT,⟨guess,order,tb⟩⟩ p (newP p ⟨n,me,id,delay,window,guess,order,branches,workers,room⟩)::_):=hs
 exact⟨⟨b18,Bc,adP,cP,adT,cT,⟨guess,order,tb⟩⟩,rfl,⟨rfl,rfl⟩,h9.sub⟩
end
end
section
structure PlayS (W:World)(t:TypeId)(ad:Addr)(fP fR fT fQ fE fC fD fX:FuncId)(p:Pr)(gs:Gs)(J:Nat→Pl→SP):Prop where
 mP : MethodT Tryz.prog t "Press" fP
 cP:callable Tryz.prog fP=true
 mR : MethodT Tryz.prog t "Receive" fR
 cR:callable Tryz.prog fR=true
 mT : MethodT Tryz.prog t "Tick" fT
 cT:callable Tryz.prog fT=true
 mQ : MethodT Tryz.prog t "Quit" fQ
 cQ:callable Tryz.prog fQ=true
 mE : MethodT Tryz.prog t "Events" fE
 cE:callable Tryz.prog fE=true
 mC : MethodT Tryz.prog t "Confirmed" fC
 cC:callable Tryz.prog fC=true
 mD : MethodT Tryz.prog t "Display" fD
 cD:callable Tryz.prog fD=true
 mX : MethodT Tryz.prog t "Closed" fX
 cX:callable Tryz.prog fX=true
 press:∀ (w:World) (L:List SP) (i:Nat) (s:Pl) (x:UInt8),i≤1000000→WF' p s→St W w (J i s::L)→Calls Tryz.prog fP (List.toArray [.pointer (some ad),.int .u8 (x.toNat:Nat)]) w λr w'=>r=.returned (.int .i64 (pressP p x s).1)∧St W w' (J (i+1) (pressP p x s).2::L)
 recv:∀ (w:World) (L:List SP) (i:Nat) (s:Pl) (bs:List UInt8) (a:Option Addr) (c:Nat),i≤1000000→WF' p s→bs.length≤65536→bs.length≤c→(∀ w',St W w' L→RdB w' a bs.length bs)→St W w (J i s::L)→Calls Tryz.prog fR (List.toArray [.pointer (some ad),.slice a bs.length c]) w λr w'=>r=.returned (.int .i64 (recvP p bs s).1)∧St W w' (J (i+1) (recvP p bs s).2::L)
 tick:∀ (w:World) (L:List SP) (i:Nat) (s:Pl),i≤1000000→WF' p s→s.k.now≤1000000→St W w (J i s::L)→Calls Tryz.prog fT (List.toArray [.pointer (some ad)]) w λr w'=>∃ a c,r=.returned (.slice a (tickK s.k).1.length c)∧St W w' (OwnMl 139 a (tickK s.k).1.length c (tickK s.k).1::J (i+1) ⟨(tickK s.k).2,s.g⟩::L)
 quit:∀ (w:World) (L:List SP) (i:Nat) (s:Pl),i≤1000000→WF' p s→St W w (J i s::L)→Calls Tryz.prog fQ (List.toArray [.pointer (some ad)]) w λr w'=>∃ a c,r=.returned (.slice a (quitK s.k).1.length c)∧St W w' (OwnMl 139 a (quitK s.k).1.length c (quitK s.k).1::J (i+1) ⟨(quitK s.k).2,s.g⟩::L)
 events:∀ (w:World) (L:List SP) (i:Nat) (s:Pl),i≤1000000→WF' p s→St W w (J i s::L)→Calls Tryz.prog fE (List.toArray [.pointer (some ad)]) w λr w'=>∃ a c,r=.returned (.slice a s.k.ev.length c)∧St W w' (Sl 256 1 a s.k.ev.length c (s.k.ev.map evV)::J (i+1) ⟨{ s.k with ev:=[] },s.g⟩::L)
 conf:∀ (w:World) (L:List SP) (i:Nat) (s:Pl),i≤1000000→WF' p s→St W w (J i s::L)→Calls Tryz.prog fC (List.toArray [.pointer (some ad)]) w λr w'=>∃ a c,r=.returned (.tuple #[.slice a 128 c,.int .i64 (confP s).2])∧St W w' (Sl 5 1 a 128 c (bc (confP s).1)::J i s::L)
 disp:∀ (w:World) (L:List SP) (i:Nat) (s:Pl),i≤1000000→WF' p s→St W w (J i s::L)→Calls Tryz.prog fD (List.toArray [.pointer (some ad)]) w λr w'=>∃ a c,r=.returned (.tuple #[.slice a 128 c,.int .i64 (dispG p gs s).2])∧St W w' (Sl 5 1 a 128 c (bc (dispG p gs s).1)::J i s::L)
 closed:∀ (w:World) (L:List SP) (i:Nat) (s:Pl),i≤1000000→WF' p s→St W w (J i s::L)→Calls Tryz.prog fX (List.toArray [.pointer (some ad)]) w λr w'=>r=.returned (.bool s.k.cl)∧St W w' (J i s::L)
section
variable {W w:World}{L:List SP}{i:Nat}{t:TypeId}{ad:Addr}{fP fR fT fQ fE fC fD fX:FuncId}{p:Pr}{gs:Gs}{J:Nat→Pl→SP}{B:RgB}{s:Pl}{b:Bool}
theorem shows_spec (M:PlayS W t ad fP fR fT fQ fE fC fD fX p gs J)(hi:i≤1000000)(hs:St W w (J i s::RefG W B p s::L))(hw:WF' p s)(hpr:prOk p)(hsz:p.title.size≤1000000000)(hgs:mayGs B.gs)(hbg:B.gs=gs)(hT:RdB W B.adT B.gs.table.length B.gs.table) :
   Calls Tryz.prog 22 #[.iface t (.pointer (some ad)),pt B.pb] w λe w'=>e=.returned (.bool true)∧St W w' (J i s::RefG W B p s::L):=by
 subst hbg
 refine EN Tryz.func22 Tryz.ntmps22 rfl rfl λa ha=>?_
 refine RN 4 ha hs λa ha=>?_
 refine st_callI ha rfl M.mC M.cC rfl (M.conf _ _ i s hi hw hs) (by rfl) ?_
 clear ha hs
 rintro e w ⟨a1,c1,rfl,hs⟩
 refine⟨_,rfl,λa ha=>?_⟩
 refine CL2 7 ha hs (refP_conf (hs.pick (RefG W B p s)) hw) λa2 c2 a w ha hs=>?_
 refine RN 7 ha hs λa ha=>?_
 refine st_callI ha rfl M.mD M.cD rfl (M.disp _ _ i s hi hw (hs.pick (J i s))) (by rfl) ?_
 clear ha hs
 rintro e w ⟨a3,c3,rfl,hs⟩
 refine⟨_,rfl,λa ha=>?_⟩
 refine CL2 7 ha hs (refP_disp (hs.pick (RefG W B p s)) hw hpr hsz hgs hT) λa4 c4 a w ha hs=>?_
 refine RN 5 ha hs λa ha=>?_
 have hcl:(confP s).1.length=128:=gameB_len _
 have hdl:(dispG p B.gs s).1.length=128:=by
   rw[dispG];split
   · exact gameB_len _
   · exact gameB_len _
 replace hs:=hs.sub (M:=Sl 5 1 a4 128 c4 (bc (dispG p B.gs s).1)::Sl 5 1 a3 128 c3 (bc (dispG p B.gs s).1)::Sl 5 1 a2 128 c2 (bc (confP s).1)::Sl 5 1 a1 128 c1 (bc (confP s).1)::RefG W B p s::J i s::L)
 obtain⟨A,hs⟩:∃ A,St W w (Sl 5 1 a4 128 c4 (bc (dispG p B.gs s).1)::Sl 5 1 a3 128 c3 (bc (dispG p B.gs s).1)::Sl 5 1 a2 128 c2 (bc (confP s).1)::Sl 5 1 a1 128 c1 (bc (confP s).1)::blk B.core.cb 83 (rcC s.k B.core A)::RLn B.core.lb B.core.lo B.core.cL s.k.ls::blk B.core.hb 3 (heC s.k.ps)::blk B.core.ab 3 (haC s.k.ps)::blk B.core.wb 244 (rows wdC s.k.ps)::blk B.core.xb 4 (apC s.k.ps)::Sl 68 1 A.adM s.k.mr.length A.cM (mrC s.k.mr)::Sl 223 3 A.adE s.k.ev.length A.cE (rows rawC s.k.ev)::blk B.pb 65 (rgC p B s.g)::RoP W p B.adO B.cO::J i s::L):=by
   obtain⟨A,h⟩:=RefS.open ((RefG.open (hs.pick (RefG W B p s))).pick (RefS B.core s.k))
   exact⟨A,h.sub⟩
 refine DWC 1 (λw0 w'=>((RdB w' a1 128 (confP s).1∧RdB w' a2 128 (confP s).1)∧RdB w' a3 128 (dispG p B.gs s).1∧RdB w' a4 128 (dispG p B.gs s).1)∧Rd w' B.pb 0 (rgC p B s.g)∧Rd w' B.core.cb 0 (rcC s.k B.core A)) [7,19,24] [0,1,2,3,4,6,3005,1007,8,9,10,11,12,13,14,15,16,18,3017,1019,20,21,22,23,25,26,27,3028,29,30,3031,1024,32,33,34] ha hs λa w ha hs hH=>?_
 have hC:=hH.at w ⟨⟨⟨hs.rdB a1 _ rfl hcl,hs.rdB a2 _ rfl hcl⟩,hs.rdB a3 _ rfl hdl,hs.rdB a4 _ rfl hdl⟩,hs.rdAll (b:=B.pb),hs.rdAll (b:=B.core.cb)⟩
 refine RH 4 ha hs hH hC λa ha=>?_
 rw[decide_eq_true (by omega)]at ha
 refine RH 2 ha hs hH hC λa ha=>?_
 refine QH ha (λw hc=>ex_toString ha Tryz.underlying22 Tryz.underlying5 Tryz.underlying9 (hc.1.1.1)) hC λa ha=>?_
 refine RH 0 ha hs hH hC λa ha=>?_
 refine st_set ha (wgT ha rfl (s:=36)) (ex_toString ha Tryz.underlying22 Tryz.underlying5 Tryz.underlying9 (hC.1.1.2)) rfl λa ha=>?_
 refine RH 0 ha hs hH hC λa ha=>?_
 refine QP ha (λw=>ex_eqlS ha) λa ha=>?_
 rw[str_beq,beq_self_eq_true]at ha
 refine RH 2 ha hs hH hC λa ha=>?_
 replace ha:=ha.isT 43
 refine RH 5 ha hs hH hC λa ha=>?_
 rw[decide_eq_true (by omega)]at ha
 refine RH 2 ha hs hH hC λa ha=>?_
 refine QH ha (λw hc=>ex_toString ha Tryz.underlying22 Tryz.underlying5 Tryz.underlying9 (hc.1.2.1)) hC λa ha=>?_
 refine RH 0 ha hs hH hC λa ha=>?_
 refine st_set ha (wgT ha rfl (s:=48)) (ex_toString ha Tryz.underlying22 Tryz.underlying5 Tryz.underlying9 (hC.1.2.2)) rfl λa ha=>?_
 refine RH 0 ha hs hH hC λa ha=>?_
 refine QP ha (λw=>ex_eqlS ha) λa ha=>?_
 rw[str_beq,beq_self_eq_true]at ha
 refine RH 2 ha hs hH hC λa ha=>?_
 replace ha:=ha.isT 55
 refine RH 4 ha hs hH hC λa ha=>?_
 refine QH ha (λw hc=>ld1 ha (hc.2.1 0 _ rfl)) hC λa ha=>?_
 refine RH 2 ha hs hH hC λa ha=>?_
 refine QH ha (λw hc=>ld1 ha (hc.2.2 18 _ rfl)) hC λa ha=>?_
 refine RH 0 ha hs hH hC λa ha=>?_
 refine st_callI ha (wgT ha rfl (s:=55)) M.mX M.cX rfl (M.closed _ _ i s hi hw (hs.pick (J i s))) (by rfl) ?_
 clear ha hs
 rintro e w ⟨rfl,hs⟩
 refine⟨_,rfl,λa ha=>?_⟩
 replace hC:=hH.at w ⟨⟨⟨hs.rdB a1 _ rfl hcl,hs.rdB a2 _ rfl hcl⟩,hs.rdB a3 _ rfl hdl,hs.rdB a4 _ rfl hdl⟩,hs.rdAll (b:=B.pb),hs.rdAll (b:=B.core.cb)⟩
 refine RH 3 ha hs hH hC λa ha=>?_
 refine RT 0 ha hs ?_
 refine⟨by simp,?_⟩
 exact (RefG.fold (RefS.fold hs B.core s.k A) B p s).sub (M:=J i s::RefG W B p s::L)
end
end
section
open Go.RowKit Go.ChangeShapes Go.WideShapes Go.ChangeAt
set_option linter.constructorNameAsVariable false
set_option maxRecDepth 100000
section
variable {p:Pr}{tb:List UInt8}{cf:Cf}
def mayAll (cf:Cf)(p:Pr)(tb:List UInt8):Prop:=mayCf cf∧prOk p∧mayGs ⟨cf.guess,cf.order,tb⟩
end
end
end Go.Proofs.YtdilfdkendjjhaaGreat
