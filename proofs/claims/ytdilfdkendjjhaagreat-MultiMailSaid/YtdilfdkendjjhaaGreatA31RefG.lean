/- quintainref21.Player. -/
import Derived.Test.YtdilfdkendjjhaaGreatA30RefC
import Derived.Test.YtdilfdkendjjhaaGreatA29MulD
import Derived.Test.YtdilfdkendjjhaaGreatA16RefS
import Derived.Test.YtdilfdkendjjhaaGreatA13Vm
import Derived.ChangeSame
import Derived.Test.YtdilfdkendjjhaaGreatA24Fold
import Derived.Test.YtdilfdkendjjhaaGreatA15Ref
import Derived.Test.YtdilfdkendjjhaaGreatA26Sort
namespace Go.Proofs.YtdilfdkendjjhaaGreat
open Go.RowKit
set_option linter.unusedVariables false
set_option linter.unusedSimpArgs false
set_option maxRecDepth 10000
set_option synthInstance.maxSize 4000
set_option synthInstance.maxHeartbeats 400000
section
structure RgB where
 pb:Nat
 core:RcB
 adO:Option Addr
 cO:Nat
 adT:Option Addr
 cT:Nat
 gs:Gs
abbrev rgC (p:Pr)(B:RgB)(g:Nat→Int):List Value:=[pt B.core.cb,.string p.title,.slice B.adO p.ops.length B.cO,.int .i64 B.gs.kind,.int .i64 B.gs.order,.slice B.adT B.gs.table.length B.cT]++ints .i32 32 g
theorem rgC_pr {w:World}{b:Nat}{p:Pr}{B:RgB}{g:Nat→Int}(h:Rd w b 0 (rgC p B g)):Rd w b 1 (prV p B.adO B.cO):=h.part 1 2
theorem rgC_st {w:World}{b:Nat}{p:Pr}{B:RgB}{g:Nat→Int}(h:Rd w b 0 (rgC p B g)):Rd w b 6 (ints .i32 32 g):=by
 have h1:=h.part 6 32
 rwa [show ((rgC p B g).drop 6).take 32=ints .i32 32 g from by
   show (ints .i32 32 g).take 32=_
   exact List.take_of_length_le (by rw[ints_len];exact Nat.le_refl _)]at h1
theorem rgC_len (p:Pr)(B:RgB)(g:Nat→Int):(rgC p B g).length=38:=by rw[rgC,List.length_append,ints_len];rfl
theorem rgC_set (p:Pr)(B:RgB)(g g':Nat→Int):splice (rgC p B g) 6 (ints .i32 32 g')=rgC p B g':=by
 rw[splice,ints_len,List.drop_eq_nil_of_le (by rw[rgC_len];exact Nat.le_refl _),List.append_nil,rgC,rgC]
 congr 1
def RefG (W:World)(B:RgB)(p:Pr)(s:Pl):SP:=λh=>sepL [blk B.pb 65 (rgC p B s.g),RefS B.core s.k,RoP W p B.adO B.cO] h
section
variable {W w:World}{L R:List SP}{n i cP cT:Nat}{adP adT:Option Addr}{B:RgB}{x:UInt8}{p:Pr}{s:Pl}{tb:List UInt8}{k:Ks}{C:RcB}{A:RcA}
theorem RefG.open (hs:St W w (RefG W B p s::L)):St W w (blk B.pb 65 (rgC p B s.g)::RefS B.core s.k::RoP W p B.adO B.cO::L) :=
 hs.open (M:=[_,_,_]) λ_ h=>h
theorem RefG.fold (hs:St W w L)(B:RgB)(p:Pr)(s:Pl)[kk:Arr L [blk B.pb 65 (rgC p B s.g),RefS B.core s.k,RoP W p B.adO B.cO] R]:St W w (RefG W B p s::R) :=
 St.shut (M:=[_,_,_]) (hs.perm kk.perm) λ_ h=>h
theorem ref_frontA (hs:St W w (RLn C.lb C.lo C.cL k.ls::blk C.cb 83 (rcC k C A)::L))(hk:WC k):Calls Tryz.prog 64 #[pt C.cb] w λr w'=>r=.returned (.int .i64 (frontK k))∧St W w' (RLn C.lb C.lo C.cL k.ls::blk C.cb 83 (rcC k C A)::L):=by
 have hn:=hk.n
 have hls:=hk.ls
 refine EN Tryz.func64 Tryz.ntmps64 rfl rfl λa ha=>?_
 refine RN 7 ha hs λa ha=>?_
 obtain⟨xs,hxs,hs⟩:=RLn.open hs
 have hxl:xs.length=k.ls.length:=by rw[← hxs,prx_len]
 rw[← hxl]at ha
 refine CL 0 ha hs (ref_front (xs:=xs) hs (by omega) (by omega) (λw' hw=>St.rdXe hw)) λa w ha hs=>?_
 refine RT 1 ha hs ?_
 exact⟨by rw[hxs];rfl,RLn.close hs hxs⟩
theorem ref_plays (hs:St W w (RefG W B p s::L))(hw:WP p s)(hpr:prOk p)(hsz:p.title.size≤1000000000):Calls Tryz.prog 60 #[pt B.pb] w λr w'=>r=.returned (.tuple #[])∧St W w' (RefG W B p (playP p s)::L):=by
 refine EN Tryz.func60 Tryz.ntmps60 rfl rfl λa ha=>?_
 refine RN 0 ha hs λa ha=>?_
 refine wp_loop_ghost (λμ a w=>∃ (i:Nat),(μ=frontK s.k-s.k.mr.length-i∧i≤frontK s.k-s.k.mr.length)∧Fr a 60 [(0,pt B.pb)]∧St W w (RefG W B p (playN p i s)::L)) (frontK s.k-s.k.mr.length) (⟨0,⟨rfl,by omega⟩,ha.keep [0],hs⟩) ?_
 clear ha hs
 rintro μ a w ⟨i,⟨rfl,hi⟩,ha,hs⟩
 obtain⟨hwi,hls,hml⟩:=hw.play i hi
 have hnx:playN p (i+1) s=play1 p (playN p i s):=playN_succ p i s
 have hlow:=hw.low
 have hfe:frontK (playN p i s).k=frontK s.k:=by rw[frontK,hls];rfl
 generalize hsi:playN p i s=si at hs hwi hls hml hnx hfe
 replace hs:=RefG.open hs
 have hne:=hwi.wc.lne
 have hl8:si.k.ls.length≤8:=by rw[hwi.wc.ls];exact hwi.wc.n.2
 have hl0:0<si.k.ls.length:=by rw[hwi.wc.ls];have:=hwi.wc.n;omega
 have hfr1:frontK si.k≤1000:=Nat.le_trans hwi.wc.frontt hwi.wc.headt
 obtain⟨A,hs⟩:=RefS.open (hs.pick (RefS B.core si.k))
 refine DWC 2 (λw0 w'=>Rd w' B.pb 0 (rgC p B si.g)∧Rd w' B.core.cb 0 (rcC si.k B.core A)) [11,12] [0,1,2,8,9,10,3003,4,5,3006,7,1011,1012,13] ha hs λa w ha hs hH=>?_
 have hC:=hH.at w ⟨hs.rdAll (b:=B.pb),hs.rdAll (b:=B.core.cb)⟩
 refine RH 6 ha hs hH hC λa ha=>?_
 refine QH ha (λw hc=>ld1 ha (hc.1 0 _ rfl)) hC λa ha=>?_
 refine RH 2 ha hs hH hC λa ha=>?_
 refine QH ha (λw hc=>ld1 ha (hc.2 16 _ rfl)) hC λa ha=>?_
 refine RH 1 ha hs hH hC λa ha=>?_
 refine SS ha (ld1 ha (hC.1 0 _ rfl)) λa ha=>?_
 refine RH 0 ha hs hH hC λa ha=>?_
 refine CL 0 ha hs (ref_frontA ((hs.pick (blk B.core.cb 83 (rcC si.k B.core A))).pick (RLn B.core.lb B.core.lo B.core.cL si.k.ls)) hwi.wc) λa w ha hs=>?_
 replace hC:=hH.at w ⟨hs.rdAll (b:=B.pb),hs.rdAll (b:=B.core.cb)⟩
 refine RH 1 ha hs hH hC λa ha=>?_
 refine IF 0 ha hs (λhc0 a ha=>?_) λhc0 a ha=>?_
 ·
  have hmf:si.k.mr.length<frontL si.k.ls:=by
    have:frontL si.k.ls=frontK si.k:=rfl
    omega
  have hmf2:si.k.mr.length<frontK si.k:=hmf
  refine RN 11 ha hs λa ha=>?_
  obtain⟨xs,hxs,hs⟩:=RLn.open (hs.pick (RLn B.core.lb B.core.lo B.core.cL si.k.ls))
  have hxl:xs.length=si.k.ls.length:=by rw[← hxs,prx_len]
  have hjl:=jointL_len si.k.ls si.k.mr.length
  refine DWC 0 (λw0 w'=>Rd w' B.pb 0 (rgC p B si.g)∧Rd w' B.core.cb 0 (rcC si.k B.core A)) [8,13,14,15,16,18] [0,1,2,3,5,6,7,9,10,11,12,17,3004,3008,1013,1014,1015,1016,1018,1019,20,21,22,23,24,1025] ha hs λa w ha hs hH=>?_
  have hC:=hH.at w ⟨hs.rdAll (b:=B.pb),hs.rdAll (b:=B.core.cb)⟩
  refine RH 12 ha hs hH hC λa ha=>?_
  refine QH ha (λw hc=>ex_loadN ha Tryz.underlying34 rfl Ty.t34 (rgC_pr hc.1)) hC λa ha=>?_
  refine QH ha (λw hc=>ex_loadN ha Tryz.underlying63 rfl Ty.t63 (rgC_st hc.1)) hC λa ha=>?_
  refine RH 0 ha hs hH hC λa ha=>?_
  refine SS ha (ld1 ha (hC.1 0 _ rfl)) λa ha=>?_
  refine RH 2 ha hs hH hC λa ha=>?_
  refine SS ha (ld1 ha (hC.2 10 _ rfl)) λa ha=>?_
  rw[← hxl]at ha
  refine RH 0 ha hs hH hC λa ha=>?_
  refine CL2 0 ha hs (ref_joint (xs:=xs) (f:=si.k.mr.length) hs (by omega) (by omega) (λw' hw=>St.rdXe hw) (by rw[hxs];exact hmf)) λadj cj a w ha hs=>?_
  replace hC:=hH.at w ⟨hs.rdAll (b:=B.pb),hs.rdAll (b:=B.core.cb)⟩
  rw[hxs]at ha hs
  refine RH 0 ha hs hH hC λa ha=>?_
  refine CL1 0 ha hs (refStep_spec (b:=jointL si.k.ls si.k.mr.length) (fr:=si.k.mr.length) (hs.pick (RoP W p B.adO B.cO)) hpr hsz (hwi.gok hpr) (by omega) (by omega) (λw' hw=>(hw.pick (Sl 5 1 adj (jointL si.k.ls si.k.mr.length).length cj (bc (jointL si.k.ls si.k.mr.length)))).rdB adj _ rfl rfl)) λnst a w ha ⟨hgk,hs⟩=>?_
  refine RN 5 ha hs λa ha=>?_
  refine st_storeN ha rfl hs Ty.t63 ints_one (by rw[ints_len,rgC_len];decide) λa w ha hs=>?_
  rw[rgC_set]at hs
  refine RN 0 ha hs λa ha=>?_
  replace hs:=RLn.close (hs.sub (M:=Sl 128 1 (some ⟨B.core.lb,B.core.lo,none⟩) si.k.ls.length B.core.cL (xs.map bbv)::All bbo xs::blk B.pb 65 (rgC p B (frameI p si.k.mr.length (jointL si.k.ls si.k.mr.length) si.g))::RoP W p B.adO B.cO::blk B.core.cb 83 (rcC si.k B.core A)::blk B.core.hb 3 (heC si.k.ps)::blk B.core.ab 3 (haC si.k.ps)::blk B.core.wb 244 (rows wdC si.k.ps)::blk B.core.xb 4 (apC si.k.ps)::Sl 68 1 A.adM si.k.mr.length A.cM (mrC si.k.mr)::Sl 223 3 A.adE si.k.ev.length A.cE (rows rawC si.k.ev)::L)) hxs
  replace hs:=RefS.fold hs B.core si.k A
  refine DWC 0 (λw0 w'=>Rd w' B.pb 0 (rgC p B (frameI p si.k.mr.length (jointL si.k.ls si.k.mr.length) si.g))) [7,8] [0,1,2,4,5,6,3003,1007,1008,1009] ha hs λa w ha hs hH=>?_
  have hC:=hH.at w (hs.rdAll (b:=B.pb))
  refine RH 6 ha hs hH hC λa ha=>?_
  refine QH ha (λw hc=>ld1 ha (hc 0 _ rfl)) hC λa ha=>?_
  refine RH 0 ha hs hH hC λa ha=>?_
  refine SS ha (ex_loadN ha Tryz.underlying63 rfl Ty.t63 (rgC_st hC)) λa ha=>?_
  refine RH 0 ha hs hH hC λa ha=>?_
  refine CL 0 ha hs (refSumOf_spec hs) λa w ha hs=>?_
  replace hC:=hH.at w (hs.rdAll (b:=B.pb))
  refine RH 0 ha hs hH hC λa ha=>?_
  refine CL 0 ha hs (ref_mark (hs.pick (RefS B.core si.k)) hwi.wc (by omega) (crcSum_lt _)) λa w ha hs=>?_
  refine RN 0 ha hs λa ha=>?_
  exact⟨frontK s.k-s.k.mr.length-(i+1),by omega,i+1,⟨rfl,by omega⟩,ha.keep [0],by
    rw[hnx]
    show St W w (RefG W B p ⟨markK si.k (crcSum (gameB (frameI p si.k.mr.length (jointL si.k.ls si.k.mr.length) si.g))),frameI p si.k.mr.length (jointL si.k.ls si.k.mr.length) si.g⟩::L)
    exact (RefG.fold hs B p ⟨markK si.k (crcSum (gameB (frameI p si.k.mr.length (jointL si.k.ls si.k.mr.length) si.g))),frameI p si.k.mr.length (jointL si.k.ls si.k.mr.length) si.g⟩).sub⟩
 refine RT 0 ha hs ?_
 obtain rfl:i=frontK s.k-s.k.mr.length:=by
   have:frontL si.k.ls=frontK si.k:=rfl
   omega
 refine⟨rfl,?_⟩
 rw[playP,hsi]
 exact (RefG.fold (RefS.fold hs B.core si.k A) B p si).sub
theorem refP_press (hs:St W w (RefG W B p s::L))(hw:WF' p s)(hpr:prOk p)(hsz:p.title.size≤1000000000):Calls Tryz.prog 21 #[pt B.pb,.int .u8 (x.toNat:Nat)] w λr w'=>r=.returned (.int .i64 (pressP p x s).1)∧St W w' (RefG W B p (pressP p x s).2::L):=by
 have h1:=press_ext x s.k
 have hwp:=hw.toWP.more (hw.wc.press x) (hw.held.press x) h1.1 h1.2
 replace hs:=RefG.open hs
 refine EN Tryz.func21 Tryz.ntmps21 rfl rfl λa ha=>?_
 refine CL 8 ha hs (ref_press (x:=x) (hs.pick (RefS B.core s.k)) hw.wc) λa w ha hs=>?_
 refine RN 1 ha hs λa ha=>?_
 replace hs:=RefG.fold hs B p ⟨(pressK x s.k).2,s.g⟩
 refine CL 2 ha hs (ref_plays hs hwp hpr hsz) λa w ha hs=>?_
 refine RT 3 ha hs ?_
 exact⟨rfl,hs⟩
theorem refP_new {n me delay window:Nat}{id guess order branches workers room:Int}(hs:St W w (RoP W p adP cP::L))(hm:mayCf ⟨n,me,id,delay,window,guess,order,branches,workers,room⟩)(hpr:prOk p)(hsz:p.title.size≤1000000000) :
   Calls Tryz.prog 20 #[.agg (cfC ⟨n,me,id,delay,window,guess,order,branches,workers,room⟩).toArray,.agg (prV p adP cP).toArray,.slice adT tb.length cT] w λr w'=>∃ B:RgB,r=.returned (pt B.pb)∧(B.gs=⟨guess,order,tb⟩∧B.adT=adT)∧St W w' (RefG W B p (newP p ⟨n,me,id,delay,window,guess,order,branches,workers,room⟩)::L):=by
 refine EN Tryz.func20 Tryz.ntmps20 rfl rfl λa ha=>?_
 refine BX 1 ha hs λb3 a w ha hs=>?_
 change St W w (blk b3 27 (cfC ⟨n,me,id,delay,window,guess,order,branches,workers,room⟩)::_) at hs
 refine BX 0 ha hs λb4 a w ha hs=>?_
 change St W w (blk b4 34 [.string p.title,.slice adP p.ops.length cP]::_) at hs
 refine DWC 2 (λw0 w'=>Rd w' b3 0 (cfC ⟨n,me,id,delay,window,guess,order,branches,workers,room⟩)∧Rd w' b4 0 [.string p.title,.slice adP p.ops.length cP]) [1,2,4,6,8] [3,5,7,3000,3002,3004,3006,3008,1001,9,1010,11] ha hs λa w ha hs hH=>?_
 have hC:=hH.at w ⟨hs.rdAll (b:=b3),hs.rdAll (b:=b4)⟩
 refine RH 3 ha hs hH hC λa ha=>?_
 refine QH ha (λw hc=>ex_loadN ha Tryz.underlying27 rfl Ty.t27 (hc.1)) hC λa ha=>?_
 refine QH ha (λw hc=>ex_loadN ha Tryz.underlying34 rfl Ty.t34 (hc.2)) hC λa ha=>?_
 refine QH ha (λw hc=>ld1 ha (hc.1 5 _ rfl)) hC λa ha=>?_
 refine QH ha (λw hc=>ld1 ha (hc.1 6 _ rfl)) hC λa ha=>?_
 refine RH 1 ha hs hH hC λa ha=>?_
 refine CL1 0 ha hs (ref_new hs hm) λBc a w ha hs=>?_
 replace hC:=hH.at w ⟨hs.rdAll (b:=b3),hs.rdAll (b:=b4)⟩
 refine RH 1 ha hs hH hC λa ha=>?_
 refine st_box ha rfl hs rfl λb18 a w ha hs ho=>?_
 clear ho
 change St W w (blk b18 65 (rgC p ⟨b18,Bc,adP,cP,adT,cT,⟨guess,order,tb⟩⟩ zeroG)::_) at hs
 refine RN 1 ha hs λa ha=>?_
 replace hs:=RefG.fold hs ⟨b18,Bc,adP,cP,adT,cT,⟨guess,order,tb⟩⟩ p ⟨newK ⟨n,me,id,delay,window,guess,order,branches,workers,room⟩,zeroG⟩
 refine CL 2 ha hs (ref_plays hs (newP_ok hm) hpr hsz) λa w ha hs=>?_
 refine RT 3 ha hs ?_
 have h9:St W w (RefG W ⟨b18,Bc,adP,cP,adT,cT,⟨guess,order,tb⟩⟩ p (newP p ⟨n,me,id,delay,window,guess,order,branches,workers,room⟩)::_):=hs
 exact⟨⟨b18,Bc,adP,cP,adT,cT,⟨guess,order,tb⟩⟩,rfl,⟨rfl,rfl⟩,h9.sub⟩
end
end
section
section
variable {W w:World}{L:List SP}{n c c' m i:Nat}{ad ad':Option Addr}{l:List Ml}
theorem mails_spec (hs:St W w (OwnMl 139 ad n c l::L))(hn:n≤1000):Calls Tryz.prog 26 #[.slice ad n c] w λr w'=>∃ ad' c',r=.returned (.slice ad' n c')∧St W w' (OwnMl 138 ad' n c' l::L):=by
 obtain⟨xs,hxm,hxl,hs⟩:=OwnMl.open hs
 have hxs:xs.length=n:=by rw[← hxl,← hxm,List.length_map]
 subst hxs
 refine EN Tryz.func26 Tryz.ntmps26 rfl rfl λa ha=>?_
 refine RN 7 ha hs λa ha=>?_
 replace hs:=hs.sl0 138 3 none
 refine wp_loop_ghost (λμ a w=>∃ (i:Nat) (ado:Option Addr) (co:Nat),(μ=xs.length-i∧i≤xs.length)∧Fr a 31 [(0,.slice ad xs.length c),(3,.slice ado i co),(4,.int .i64 i)]∧St W w (Sl 138 3 ado i co (rows mlC (xs.take i))::Sl 139 3 ad xs.length c (rows mlC xs)::All mlo xs::L)) (xs.length) (⟨0,none,0,⟨rfl,by omega⟩,ha.keep [0,3,4],(show St W w (Sl 138 3 none 0 0 (rows mlC (xs.take 0))::_) from hs).sub⟩) ?_
 clear ha hs
 rintro μ a w ⟨i,ado,co,⟨rfl,hi⟩,ha,hs⟩
 refine IF 6 ha hs (λhc0 a ha=>?_) λhc0 a ha=>?_
 ·
  have hil:i<xs.length:=by omega
  refine DWO 1 [10,15] [0,1,2,3,4,6,7,8,9,11,12,13,14,3005,3010,1015,16,1017,1018,19] ha hs λa w ha hs hH hC=>?_
  obtain⟨bi,oi,rfl,hri⟩:=(hs.pick (Sl 139 3 ad xs.length c (rows mlC xs))).slRd ad (by omega)
  have hrp:=rows_part mlC_len hri (List.getElem?_eq_getElem hil)
  generalize hxi:xs[i]=x at hrp
  refine RH 13 ha hs hH hC λa ha=>?_
  refine QH ha (λw hc=>ld1 ha (hc.cell (hrp 0 (.int .i64 x.2.2.1) rfl))) hC λa ha=>?_
  refine QH ha (λw hc=>ld1 ha (hc.cell (hrp 1 (.int .i64 x.2.2.2.1) rfl))) hC λa ha=>?_
  refine RH 0 ha hs hH hC λa ha=>?_
  refine SS ha (ld1 ha (hrp 2 (.slice x.1 x.2.2.2.2.length x.2.1) rfl)) λa ha=>?_
  refine RH 1 ha hs hH hC λa ha=>?_
  refine st_buildSlice ha rfl hs Tryz.underlying54 Ty.t138 rfl rfl rfl rfl (by decide) (by decide) λb28 a w ha hs ho=>?_
  replace hC:=hC.trans ho
  clear ho
  refine RH 0 ha hs hH hC λa ha=>?_
  refine st_append ha rfl hs Tryz.underlying54 Ty.t138 rfl rfl hs.rdAll rfl (by simp[Value.oneCell']) (by decide) (by decide) (by omega) λad29 c29 a w ha hs=>?_
  rw[show rows mlC (xs.take i)++_=rows mlC (xs.take (i+1)) from by rw[← List.take_append_getElem hil,rows_app,hxi];rfl]at hs
  refine RN 1 ha hs λa ha=>?_
  refine RN 3 ha hs λa ha=>?_
  exact⟨xs.length-(i+1),by omega,i+1,ad29,c29,⟨rfl,by omega⟩,ha.keep [0,3,4],hs.sub⟩
 refine RT 3 ha hs ?_
 obtain rfl:i=xs.length:=by omega
 rw[List.take_length]at hs
 exact⟨ado,co,rfl,OwnMl.close (hs.sub (M:=Sl 138 3 ado xs.length co (rows mlC xs)::All mlo xs::L)) hxm hxl⟩
theorem eqMails_spec (hs:St W w (OwnMl 138 ad n c l::OwnMl 138 ad' n c' l::L))(hn:n≤1000):Calls Tryz.prog 25 #[.slice ad n c,.slice ad' n c'] w λr w'=>r=.returned (.bool true)∧St W w' L:=by
 obtain⟨xs,hxm,hxl,hs⟩:=OwnMl.open hs
 obtain⟨ys,hym,hyl,hs⟩:=OwnMl.open (hs.pick (OwnMl 138 ad' n c' l))
 have hxs:xs.length=n:=by rw[← hxl,← hxm,List.length_map]
 have hys:ys.length=n:=by rw[← hyl,← hym,List.length_map]
 refine EN Tryz.func25 Tryz.ntmps25 rfl rfl λa ha=>?_
 refine RN 9 ha hs λa ha=>?_
 rw[decide_eq_false (by omega)]at ha
 refine RN 4 ha hs λa ha=>?_
 refine wp_loop_ghost (λμ a w=>∃ (i:Nat),(μ=n-i∧i≤n)∧Fr a 56 [(0,.slice ad n c),(1,.slice ad' n c'),(5,.int .i64 i)]∧St W w (Sl 138 3 ad' n c' (rows mlC ys)::All mlo ys::Sl 138 3 ad n c (rows mlC xs)::All mlo xs::L)) (n) (⟨0,⟨rfl,by omega⟩,ha.keep [0,1,5],hs.sub⟩) ?_
 clear ha hs
 rintro μ a w ⟨i,⟨rfl,hi⟩,ha,hs⟩
 refine IF 6 ha hs (λhc1 a ha=>?_) λhc1 a ha=>?_
 ·
  have hil:i<xs.length:=by omega
  have hjl:i<ys.length:=by omega
  obtain⟨m,hm⟩:∃ m,m=xs[i].2.2:=⟨_,rfl⟩
  obtain⟨xa,xc,hx⟩:∃ a c,xs[i]=(a,c,m):=⟨xs[i].1,xs[i].2.1,by rw[hm]⟩
  obtain⟨ya,yc,hy⟩:∃ a c,ys[i]=(a,c,m):=⟨ys[i].1,ys[i].2.1,by
    have h1:(xs.map (·.2.2))[i]?=(ys.map (·.2.2))[i]?:=by rw[hxm,hym]
    rw[List.getElem?_map,List.getElem?_map,List.getElem?_eq_getElem hil,List.getElem?_eq_getElem hjl]at h1
    have h2:xs[i].2.2=ys[i].2.2:=by simpa using h1
    rw[hm,h2]⟩
  refine RN 2 ha hs λa ha=>?_
  have hbx:RdB w.drew xa m.2.2.length m.2.2:=by
    have h1:=(hs.drew.pick (All mlo xs)).allOut hil
    rw[hx]at h1
    exact St.rdB (L:=mlo (xa,xc,m)::_) h1 _ _ (k:=(PickSl.head:PickSl (Sl 5 1 xa m.2.2.length xc (bc m.2.2)::_) xa _ _ _ _ _ _)) rfl rfl
  have hby:RdB w.drew ya m.2.2.length m.2.2:=by
    have h1:=(hs.drew.pick (All mlo ys)).allOut hjl
    rw[hy]at h1
    exact St.rdB (L:=mlo (ya,yc,m)::_) h1 _ _ (k:=(PickSl.head:PickSl (Sl 5 1 ya m.2.2.length yc (bc m.2.2)::_) ya _ _ _ _ _ _)) rfl rfl
  obtain⟨bx,ox,rfl,hrx⟩:=(hs.drew.pick (Sl 138 3 ad n c (rows mlC xs))).slRd ad (by omega)
  obtain⟨bY,oY,rfl,hry⟩:=(hs.drew.pick (Sl 138 3 ad' n c' (rows mlC ys))).slRd ad' (by omega)
  replace hrx:=rows_part mlC_len hrx (List.getElem?_eq_getElem hil)
  replace hry:=rows_part mlC_len hry (List.getElem?_eq_getElem hjl)
  rw[hx]at hrx
  rw[hy]at hry
  refine DWG 0 (λw'=>(Rd w' bx (ox+i*3) (mlC (xa,xc,m))∧Rd w' bY (oY+i*3) (mlC (ya,yc,m)))∧RdB w' xa m.2.2.length m.2.2∧RdB w' ya m.2.2.length m.2.2) [9,21,35,36] [0,1,2,3,5,6,7,8,3004,1009,10,11,12,13,14,15,17,18,19,20,3016,1021,22,23,24,25,26,27,28,31,32,33,34,3029,3030,1035,1036,37,38] ha hs λa ha=>?_
  replace hs:=hs.drew
  generalize w.drew=w at hs hrx hry hbx hby ⊢
  have hC:(Rd w bx (ox+i*3) (mlC (xa,xc,m))∧Rd w bY (oY+i*3) (mlC (ya,yc,m)))∧RdB w xa m.2.2.length m.2.2∧RdB w ya m.2.2.length m.2.2:=⟨⟨hrx,hry⟩,hbx,hby⟩
  have hH:=Hd.any (λw'=>(Rd w' bx (ox+i*3) (mlC (xa,xc,m))∧Rd w' bY (oY+i*3) (mlC (ya,yc,m)))∧RdB w' xa m.2.2.length m.2.2∧RdB w' ya m.2.2.length m.2.2)
  refine RH 8 ha hs hH hC λa ha=>?_
  refine QH ha (λw hc=>ld1 ha (hc.1.1 0 (.int .i64 m.1) rfl)) hC λa ha=>?_
  refine RH 0 ha hs hH hC λa ha=>?_
  refine SS ha (ld1 ha (hC.1.2 0 (.int .i64 m.1) rfl)) λa ha=>?_
  refine RH 2 ha hs hH hC λa ha=>?_
  rw[decide_eq_false (by omega)]at ha
  refine RH 8 ha hs hH hC λa ha=>?_
  refine QH ha (λw hc=>ld1 ha (hc.1.1 1 (.int .i64 m.2.1) rfl)) hC λa ha=>?_
  refine RH 0 ha hs hH hC λa ha=>?_
  refine st_set ha (wgT ha rfl (s:=28)) (ld1 ha (hC.1.2 1 (.int .i64 m.2.1) rfl)) rfl λa ha=>?_
  refine RH 3 ha hs hH hC λa ha=>?_
  rw[decide_eq_false (by omega)]at ha
  refine RH 8 ha hs hH hC λa ha=>?_
  refine QH ha (λw hc=>ld1 ha (hc.1.1 2 (.slice xa m.2.2.length xc) rfl)) hC λa ha=>?_
  refine QH ha (λw hc=>ex_toString ha Tryz.underlying22 Tryz.underlying5 Tryz.underlying9 (hc.2.1)) hC λa ha=>?_
  refine RH 0 ha hs hH hC λa ha=>?_
  refine st_set ha (wgT ha rfl (s:=41)) (ld1 ha (hC.1.2 2 (.slice ya m.2.2.length yc) rfl)) rfl λa ha=>?_
  refine RH 0 ha hs hH hC λa ha=>?_
  refine st_set ha (wgT ha rfl (s:=41)) (ex_toString ha Tryz.underlying22 Tryz.underlying5 Tryz.underlying9 (hC.2.2)) rfl λa ha=>?_
  refine RH 0 ha hs hH hC λa ha=>?_
  refine QP ha (λw=>ex_neqS ha) λa ha=>?_
  rw[str_beq,beq_self_eq_true,Bool.not_true]at ha
  refine RH 1 ha hs hH hC λa ha=>?_
  replace ha:=ha.isF 55
  refine RN 4 ha hs λa ha=>?_
  exact⟨n-(i+1),by omega,i+1,⟨rfl,by omega⟩,ha.keep [0,1,5],hs.sub⟩
 refine RT 2 ha hs ?_
 exact⟨rfl,hs.sub⟩
end
end
section
theorem tick_len {k:Ks}(h:WC k):(tickK k).1.length≤1000:=by
 have hn:=h.n
 have hl:∀ k:Ks,(othersK k).length≤k.n:=λk=>by
   rw[othersK];exact Nat.le_trans (List.length_filter_le _ _) (by rw[List.length_range];exact Nat.le_refl _)
 unfold tickK
 split
 · simp
 · simp only
   split
   · simp
   · rw[List.length_map]
     have:=hl { k with now:=k.now+1 }
     have h2:({ k with now:=k.now+1 }:Ks).n=k.n:=rfl
     omega
theorem quit_len {k:Ks}(h:WC k):(quitK k).1.length≤1000:=by
 have hn:=h.n
 unfold quitK
 split
 · simp
 · rw[List.length_map,othersK]
   have h2:=List.length_filter_le (λi=>decide (i≠k.me)) (List.range k.n)
   rw[List.length_range]at h2
   show ((List.range k.n).filter (·≠k.me)).length≤1000
   omega
theorem press_now (p:Pr)(x:UInt8){s:Pl}(h:WF' p s):(pressP p x s).2.k.now=s.k.now:=by
 have he:=press_ext x s.k
 have h1:=(playP_same (h.toWP.more (h.wc.press x) (h.held.press x) he.1 he.2)).2.2.2.2.2.1
 rw[pressP,h1]
 show (pressK x s.k).2.now=_
 by_cases h0:(pressK x s.k).1=0
 · obtain⟨_,_,_,h4⟩:=press_ls h0
   rw[h4]
 · rw[press_no h0]
theorem tick_now (k:Ks):(tickK k).2.now≤k.now+1:=by
 rcases tickK_k k with h1 | ⟨hc,h1 | ⟨i,hi,h1⟩⟩ <;> rw[h1]
 · exact Nat.le_succ _
 · exact Nat.le_refl _
 · exact Nat.le_refl _
structure PlayS (W:World)(t:TypeId)(ad:Addr)(fP fR fT fQ fE fC fD fX:FuncId)(p:Pr)(gs:Gs)(J:Nat→Pl→SP):Prop where
 mP : MethodT Tryz.prog t "Press" fP
 cP:callable Tryz.prog fP=true
 mR : MethodT Tryz.prog t "Receive" fR
 cR:callable Tryz.prog fR=true
 mT : MethodT Tryz.prog t "Tick" fT
 cT:callable Tryz.prog fT=true
 mQ : MethodT Tryz.prog t "Quit" fQ
 cQ:callable Tryz.prog fQ=true
 mE : MethodT Tryz.prog t "Events" fE
 cE:callable Tryz.prog fE=true
 mC : MethodT Tryz.prog t "Confirmed" fC
 cC:callable Tryz.prog fC=true
 mD : MethodT Tryz.prog t "Display" fD
 cD:callable Tryz.prog fD=true
 mX : MethodT Tryz.prog t "Closed" fX
 cX:callable Tryz.prog fX=true
 press:∀ (w:World) (L:List SP) (i:Nat) (s:Pl) (x:UInt8),i≤1000000→WF' p s→St W w (J i s::L)→Calls Tryz.prog fP (List.toArray [.pointer (some ad),.int .u8 (x.toNat:Nat)]) w λr w'=>r=.returned (.int .i64 (pressP p x s).1)∧St W w' (J (i+1) (pressP p x s).2::L)
 recv:∀ (w:World) (L:List SP) (i:Nat) (s:Pl) (bs:List UInt8) (a:Option Addr) (c:Nat),i≤1000000→WF' p s→bs.length≤65536→bs.length≤c→(∀ w',St W w' L→RdB w' a bs.length bs)→St W w (J i s::L)→Calls Tryz.prog fR (List.toArray [.pointer (some ad),.slice a bs.length c]) w λr w'=>r=.returned (.int .i64 (recvP p bs s).1)∧St W w' (J (i+1) (recvP p bs s).2::L)
 tick:∀ (w:World) (L:List SP) (i:Nat) (s:Pl),i≤1000000→WF' p s→s.k.now≤1000000→St W w (J i s::L)→Calls Tryz.prog fT (List.toArray [.pointer (some ad)]) w λr w'=>∃ a c,r=.returned (.slice a (tickK s.k).1.length c)∧St W w' (OwnMl 139 a (tickK s.k).1.length c (tickK s.k).1::J (i+1) ⟨(tickK s.k).2,s.g⟩::L)
 quit:∀ (w:World) (L:List SP) (i:Nat) (s:Pl),i≤1000000→WF' p s→St W w (J i s::L)→Calls Tryz.prog fQ (List.toArray [.pointer (some ad)]) w λr w'=>∃ a c,r=.returned (.slice a (quitK s.k).1.length c)∧St W w' (OwnMl 139 a (quitK s.k).1.length c (quitK s.k).1::J (i+1) ⟨(quitK s.k).2,s.g⟩::L)
 events:∀ (w:World) (L:List SP) (i:Nat) (s:Pl),i≤1000000→WF' p s→St W w (J i s::L)→Calls Tryz.prog fE (List.toArray [.pointer (some ad)]) w λr w'=>∃ a c,r=.returned (.slice a s.k.ev.length c)∧St W w' (Sl 256 1 a s.k.ev.length c (s.k.ev.map evV)::J (i+1) ⟨{ s.k with ev:=[] },s.g⟩::L)
 conf:∀ (w:World) (L:List SP) (i:Nat) (s:Pl),i≤1000000→WF' p s→St W w (J i s::L)→Calls Tryz.prog fC (List.toArray [.pointer (some ad)]) w λr w'=>∃ a c,r=.returned (.tuple #[.slice a 128 c,.int .i64 (confP s).2])∧St W w' (Sl 5 1 a 128 c (bc (confP s).1)::J i s::L)
 disp:∀ (w:World) (L:List SP) (i:Nat) (s:Pl),i≤1000000→WF' p s→St W w (J i s::L)→Calls Tryz.prog fD (List.toArray [.pointer (some ad)]) w λr w'=>∃ a c,r=.returned (.tuple #[.slice a 128 c,.int .i64 (dispG p gs s).2])∧St W w' (Sl 5 1 a 128 c (bc (dispG p gs s).1)::J i s::L)
 closed:∀ (w:World) (L:List SP) (i:Nat) (s:Pl),i≤1000000→WF' p s→St W w (J i s::L)→Calls Tryz.prog fX (List.toArray [.pointer (some ad)]) w λr w'=>r=.returned (.bool s.k.cl)∧St W w' (J i s::L)
end
section
open Go.RowKit Go.ChangeShapes Go.WideShapes Go.ChangeAt
set_option linter.constructorNameAsVariable false
set_option maxRecDepth 100000
section
variable {p:Pr}{tb:List UInt8}{cf:Cf}
def mayAll (cf:Cf)(p:Pr)(tb:List UInt8):Prop:=mayCf cf∧prOk p∧mayGs ⟨cf.guess,cf.order,tb⟩
end
end
section
def MuJ (W:World)(M:MuB)(p:Pr)(cf:Cf)(i:Nat)(s:Pl):SP:=λh=>∃ m:Mu,(m.s=s∧MI p M (20*i+1) m∧ksCf s.k=cf)∧MuS W M p m h
section
variable {W w:World}{L:List SP}{n c i N cP cT:Nat}{adP adT:Option Addr}{M:MuB}{x:UInt8}{p:Pr}{s:Pl}{m:Mu}{bs tb:List UInt8}{cf:Cf}{y:Int}
theorem MuJ.open (hs:St W w (MuJ W M p cf i s::L)):∃ m:Mu,(m.s=s∧MI p M (20*i+1) m∧ksCf s.k=cf)∧St W w (MuS W M p m::L):=hs.exi λ_ h=>h
theorem MuJ.close (hs:St W w (MuS W M p m::L))(h:MI p M N m)(hN:N≤20*i+1)(hm:m.s=s)(hc:ksCf s.k=cf):St W w (MuJ W M p cf i s::L) :=
 St.shut (M:=MuL W M p m) (MuS.open hs) λ_ q=>⟨m,⟨hm,h.more hN,hc⟩,q⟩
theorem mu_play (hpr:prOk p)(hsz:p.title.size≤1000000000):PlayS W 28 ⟨M.mb,0,none⟩ 16 33 27 29 39 35 34 31 p M.B.gs (MuJ W M p cf) where
 mP:=λad w=>by kernel_rfl
 cP:=(by kernel_rfl)
 mR:=λad w=>by kernel_rfl
 cR:=(by kernel_rfl)
 mT:=λad w=>by kernel_rfl
 cT:=(by kernel_rfl)
 mQ:=λad w=>by kernel_rfl
 cQ:=(by kernel_rfl)
 mE:=λad w=>by kernel_rfl
 cE:=(by kernel_rfl)
 mC:=λad w=>by kernel_rfl
 cC:=(by kernel_rfl)
 mD:=λad w=>by kernel_rfl
 cD:=(by kernel_rfl)
 mX:=λad w=>by kernel_rfl
 cX:=(by kernel_rfl)
 press:=λw L i s x hi hw hs=>by
   replace hs:=MuJ.open hs
   obtain⟨m,⟨rfl,hI,hc⟩,hs⟩:=hs
   exact (mu_press (x:=x) hs hI hpr hsz (by omega)).mono λr w' ⟨m',h1,⟨h2,h3,_⟩,hs⟩=>⟨h1,MuJ.close hs h3 (by omega) h2 ((Nxt.press hI.wf x).cf.trans hc)⟩
 recv:=λw L i s bs a c hi hw hb hc hp hs=>by
   replace hs:=MuJ.open hs
   obtain⟨m,⟨rfl,hI,hcf⟩,hs⟩:=hs
   exact (mu_receive hs hI hpr hsz (by omega) hb hc hp).mono λr w' ⟨m',h1,⟨h2,h3⟩,hs⟩=>⟨h1,MuJ.close hs h3 (by omega) h2 ((Nxt.recv hI.wf bs).cf.trans hcf)⟩
 tick:=λw L i s hi hw hn hs=>by
   replace hs:=MuJ.open hs
   obtain⟨m,⟨rfl,hI,hc⟩,hs⟩:=hs
   exact (mu_tick hs hI hn).mono λr w' ⟨a,c,h1,h2,hs⟩=>⟨a,c,h1,(MuJ.close (hs.perm (List.Perm.swap _ _ _)) h2 (by omega) rfl ((tick_cf _).trans hc)).perm (List.Perm.swap _ _ _)⟩
 quit:=λw L i s hi hw hs=>by
   replace hs:=MuJ.open hs
   obtain⟨m,⟨rfl,hI,hc⟩,hs⟩:=hs
   exact (mu_quit hs hI).mono λr w' ⟨a,c,h1,h2,hs⟩=>⟨a,c,h1,(MuJ.close (hs.perm (List.Perm.swap _ _ _)) h2 (by omega) rfl ((quit_cf _).trans hc)).perm (List.Perm.swap _ _ _)⟩
 events:=λw L i s hi hw hs=>by
   replace hs:=MuJ.open hs
   obtain⟨m,⟨rfl,hI,hc⟩,hs⟩:=hs
   exact (mu_events hs hI).mono λr w' ⟨a,c,h1,h2,hs⟩=>⟨a,c,h1,(MuJ.close (hs.perm (List.Perm.swap _ _ _)) h2 (by omega) rfl hc).perm (List.Perm.swap _ _ _)⟩
 conf:=λw L i s hi hw hs=>by
   replace hs:=MuJ.open hs
   obtain⟨m,⟨rfl,hI,hc⟩,hs⟩:=hs
   exact (mu_confirmed hs hI).mono λr w' ⟨a,c,h1,hs⟩=>⟨a,c,h1,(MuJ.close (hs.perm (List.Perm.swap _ _ _)) hI (Nat.le_refl _) rfl hc).perm (List.Perm.swap _ _ _)⟩
 disp:=λw L i s hi hw hs=>by
   replace hs:=MuJ.open hs
   obtain⟨m,⟨rfl,hI,hc⟩,hs⟩:=hs
   exact (mu_display hs hI hpr hsz).mono λr w' ⟨a,c,h1,hs⟩=>⟨a,c,h1,(MuJ.close (hs.perm (List.Perm.swap _ _ _)) hI (Nat.le_refl _) rfl hc).perm (List.Perm.swap _ _ _)⟩
 closed:=λw L i s hi hw hs=>by
   replace hs:=MuJ.open hs
   obtain⟨m,⟨rfl,hI,hc⟩,hs⟩:=hs
   exact (mu_closed hs).mono λr w' ⟨h1,hs⟩=>⟨h1,MuJ.close hs hI (Nat.le_refl _) rfl hc⟩
theorem mu_workJ (hs:St W w (MuJ W M p cf i s::L))(hpr:prOk p)(hsz:p.title.size≤1000000000)(hi:i≤1000000) :
   Calls Tryz.prog 17 #[pt M.mb,.int .i64 y] w λe w'=>∃ z:Bool,e=.returned (.bool z)∧(z=true→s.k.cl=false∧0≤y∧y<s.k.workers)∧St W w' (MuJ W M p cf (i+1) s::L):=by
 replace hs:=MuJ.open hs
 obtain⟨m,⟨rfl,hI,hc⟩,hs⟩:=hs
 have h4:=hI.ks
 by_cases hn:m.s.k.cl=true∨y<0∨(m.ks.length:Int)≤y
 · exact (mu_work_no hs hn h4).mono λe w' ⟨h1,hs⟩=>⟨false,h1,λh=>(by cases h),MuJ.close hs hI (by omega) rfl hc⟩
 · have hcl : m.s.k.cl = false := by
     cases h:m.s.k.cl with
     | false=>rfl
     | true=>exact absurd (.inl h) hn
   have hy:0≤y∧y<(m.ks.length:Int):=⟨by
     rcases Int.lt_or_le y 0 with h | h
     · exact absurd (.inr (.inl h)) hn
     · exact h,by
     rcases Int.lt_or_le y (m.ks.length:Int) with h | h
     · exact h
     · exact absurd (.inr (.inr h)) hn⟩
   obtain⟨j,rfl⟩:=Int.eq_ofNat_of_zero_le hy.1
   obtain⟨⟨k,wb⟩,hk⟩:∃ z,m.ks[j]?=some z:=⟨_,List.getElem?_eq_getElem (by omega)⟩
   exact (mu_work hs hI hcl hk hpr hsz (by omega)).mono λe w' ⟨z,A',T',J',k',h1,⟨_,h2⟩,hs⟩=>⟨z,h1,λ_=>⟨hcl,hy.1,by rw[hI.workers];exact hy.2⟩,MuJ.close hs h2 (by omega) rfl hc⟩
theorem MuJ.more {j:Nat}(hs:St W w (MuJ W M p cf i s::L))(h:i≤j):St W w (MuJ W M p cf j s::L):=by
 replace hs:=MuJ.open hs
 obtain⟨m,⟨hm,hI,hc⟩,hs⟩:=hs
 exact MuJ.close hs hI (by omega) hm hc
theorem mayCf_nat3 (h:mayCf cf):∃ n me delay window nb nw rm:Nat,cf=⟨n,me,cf.id,delay,window,cf.guess,cf.order,nb,nw,rm⟩:=by
 obtain⟨n,me,id,delay,window,guess,order,branches,workers,room⟩:=cf
 simp only[mayCf,inI]at h
 obtain⟨⟨h1,h2,h3⟩,⟨h4,h5,h6,h7⟩,h8,h9,h10,h11⟩:=h
 exact⟨n.toNat,me.toNat,delay.toNat,window.toNat,branches.toNat,workers.toNat,room.toNat,by
   simp only[Cf.mk.injEq];refine⟨?_,?_,?_,?_,?_,?_,?_,?_,?_,?_⟩ <;> first | trivial | omega⟩
theorem newP_cf (h:mayCf cf):ksCf (newP p cf).k=cf:=by
 obtain⟨ps,ev,mr,hk⟩:∃ ps ev mr,(newP p cf).k={ newK cf with ps:=ps,ev:=ev,mr:=mr }:=(newP_ok (p:=p) (c:=cf) h).playP.2.2
 rw[hk];exact (WC.new h).2.2
theorem mu_newY (hma:mayAll cf p tb)(hs:St W w (RoP W p adP cP::L))(hn:tb.length=n)(hsz:p.title.size≤1000000000)(hol:p.ops.length≤1000000000)(htl:tb.length≤1099511627776)(hT:∀ w',St W w' (RoP W p adP cP::L)→RdB w' adT tb.length tb) :
   Calls Tryz.prog 14 #[.agg (cfC cf).toArray,.agg (prV p adP cP).toArray,.slice adT n cT] w λr w'=>∃ M:MuB,r=.returned (.tuple #[pt M.mb,.int .i64 0])∧M.B.gs=⟨cf.guess,cf.order,tb⟩∧St W w' (MuJ W M p cf 0 (newP p cf)::RoP W p adP cP::L):=by
 subst hn
 obtain⟨h1,h2,h3⟩:=hma
 have hcf0:=newP_cf (p:=p) h1
 obtain⟨n,me,delay,window,nb,nw,rm,hcf⟩:=mayCf_nat3 h1
 generalize cf.guess=guess at hcf h3 ⊢
 generalize cf.order=order at hcf h3 ⊢
 generalize cf.id=id at hcf
 rw[hcf]at h1 hcf0 ⊢
 exact (mu_new (adT:=adT) (cT:=cT) hs h1 h2 h3 hsz hol htl hT).mono λr w' ⟨M,m,h4,⟨h5,h6,h7,_⟩,hs⟩=>⟨M,h4,h5,MuJ.close hs h7 (by omega) h6 hcf0⟩
theorem refP_newZ (hm:mayCf cf)(hs:St W w (RoP W p adP cP::L))(hn:tb.length=n)(hpr:prOk p)(hsz:p.title.size≤1000000000) :
   Calls Tryz.prog 20 #[.agg (cfC cf).toArray,.agg (prV p adP cP).toArray,.slice adT n cT] w λr w'=>∃ B:RgB,r=.returned (pt B.pb)∧(B.gs=⟨cf.guess,cf.order,tb⟩∧B.adT=adT)∧St W w' (RefG W B p (newP p cf)::L):=by
 subst hn
 obtain⟨n,me,delay,window,hcf⟩:=mayCf_nat hm
 generalize cf.guess=guess at hcf ⊢
 generalize cf.order=order at hcf ⊢
 rw[hcf]at hm ⊢
 exact refP_new hs hm hpr hsz
theorem newP_now0 (h:mayCf cf):(newP p cf).k.now=0:=by
 rw[newP,(playP_same (newP_ok (p:=p) h)).2.2.2.2.2.1];rfl
end
end
section
theorem Bit.first {p:Pr}{A A':Sn}{T T':Tr}{J J':Js}{k k':Wk}{z:Bool}{y:Br}(hb:Bit p A T J k z A' T' J' k')(hk:k.busy=false)(hJ:J=[jb T.epoch y])(hT:T.l=[y])(hd:y.done<y.press.length) :
   z=true∧A'.pics.length=A.pics.length+1:=by
 cases hb with
 | idle _ h=>rw[hJ]at h;cases h
 | stale _ h h3 =>
   rw[hJ]at h;cases h
   exfalso
   rcases h3 with h3 | h3 | ⟨x,h3,h4,h5⟩
   · exact h3 rfl
   · exact h3 y (by rw[hT];exact List.mem_cons_self ..) rfl
   · rw[hT,List.mem_singleton]at h3
     subst h3;omega
 | took _ h h3 h4 h5 h6 h7 h8=>exact⟨rfl,by simp[Sn.add]⟩
 | gone h=>rw[hk]at h;cases h
 | played h=>rw[hk]at h;cases h
 | failed h=>rw[hk]at h;cases h
 | pub h=>rw[hk]at h;cases h
 | lost h=>rw[hk]at h;cases h
section
variable {W w:World}{L:List SP}
set_option maxHeartbeats 2000000 in
theorem begun26 (hs:St W w L):Calls Tryz.prog 11 #[] w λe w'=>e=.returned (.bool true)∧St W w' L:=by
 have hm0:mayCf ⟨(2:Nat),(0:Nat),0,(0:Nat),(4:Nat),1,0,(1:Nat),(1:Nat),(5:Nat)⟩:=by decide
 refine EN Tryz.func11 Tryz.ntmps11 rfl rfl λa ha=>?_
 refine CL1 4 ha hs (prog22 hs) λadP a w ha hs=>?_
 refine CL2 0 ha hs (mu_new (tb:=[]) (n:=2) (me:=0) (id:=0) (delay:=0) (window:=4) (guess:=1) (order:=0) (nb:=1) (nw:=1) (rm:=5) hs hm0 sumP_ok (by decide) (by decide) (by decide) (by decide) (λw' h=>RdB.nil)) λM m a w ha ⟨⟨hBg,hms,hI,hT,hJ,hk⟩,hs⟩=>?_
 have t0:Two sumP 4 0 [[],[]] m.s:=by rw[hms];exact Two.new (id:=0) hm0 rfl
 have hcf:ksCf m.s.k=⟨(2:Nat),(0:Nat),0,(0:Nat),(4:Nat),1,0,(1:Nat),(1:Nat),(5:Nat)⟩:=by rw[hms];exact newP_cf hm0
 simp only[ksCf,Cf.mk.injEq]at hcf
 have hmost:m.T.most=1:=by have:=hI.most;omega
 have hkl:m.ks.length=1:=by have:=hI.workers;omega
 have hgm:mayGs M.B.gs:=hI.gs
 refine RN 10 ha hs λa ha=>?_
 replace ha:=ha.isF 16
 refine RN 4 ha hs λa ha=>?_
 replace ha:=ha.isF 20
 refine CL 1 ha hs (mu_store hs) λa w ha hs=>?_
 refine RN 3 ha hs λa ha=>?_
 replace ha:=ha.isF 25
 refine CL 1 ha hs (mu_tree hs) λa w ha hs=>?_
 refine RN 3 ha hs λa ha=>?_
 replace ha:=ha.isF 30
 refine CL 1 ha hs (mu_core hs) λa w ha hs=>?_
 refine RN 2 ha hs λa ha=>?_
 replace ha:=ha.isF 34
 refine CL1 3 ha hs (mu_press (x:=7) hs hI sumP_ok (by decide) (by decide)) λm1 a w ha ⟨⟨hm1,hI1,hR⟩,hs⟩=>?_
 obtain⟨e1,t1⟩:=t0.press 7 (by decide) (by decide)
 rw[e1]at ha
 replace t1:Two sumP 4 0 [[7],[]] (pressP sumP 7 m.s).2:=t1
 obtain⟨t',hR⟩:=hR t1.cl
 have hf1:frontK (pressP sumP 7 m.s).2.k=0:=t1.front
 have hh1:headK (pressP sumP 7 m.s).2.k=1:=t1.head
 have hf0:m.front=0:=hI.front.trans t0.front
 obtain⟨q1,q2,l,q3,q4⟩:=hR.keep (by show m.front=frontK (pressP sumP 7 m.s).2.k;rw[hf0,hf1]) (λy hy=>(by rw[hT]at hy;cases hy))
 have q5:=hR.has (by show 0<m.T.most;omega) (by show frontK (pressP sumP 7 m.s).2.k<headK (pressP sumP 7 m.s).2.k;omega)
 have q6:m1.T.l=l:=by rw[q3];show m.T.l++l=l;rw[hT];rfl
 have hwt:=Tree.wt ((MuS.open hs).tree M.tq)
 have q7:m1.T.most=1:=hR.most.trans hmost
 have hl1:m1.T.l.length=1:=by
   have:=hwt.most.2
   have:=List.length_pos_iff.2 q5
   omega
 obtain⟨y,hy⟩:=List.length_eq_one_iff.1 hl1
 obtain⟨hy1,hy2,_⟩:=q4 y (by rw[← q6,hy];exact List.mem_cons_self ..)
 have hyd:y.done<y.press.length:=by rw[hy1];exact List.length_pos_iff.2 hy2
 have hJ1:m1.J=[jb m1.T.epoch y]:=by
   have h1:=jobs_new (T:=m1.T) (l0:=[]) (l:=m1.T.l) hwt (by intro z hz;rw[hy,List.mem_singleton]at hz;rw[hz];exact hyd) rfl
   rw[hR.jobs]
   show jobsT m1.T m.J=_
   rw[hJ]
   exact h1.trans (by rw[hy];rfl)
 obtain⟨⟨k0,wb⟩,hk0⟩:=List.length_eq_one_iff.1 hkl
 have hk1:m1.ks=[(k0,wb)]:=by rw[q1];exact hk0
 have hkb:k0=wk0:=hk (k0,wb) (by rw[hk0];exact List.mem_cons_self ..)
 have t1':Two sumP 4 0 [[7],[]] m1.s:=by rw[hm1];exact t1
 have hd1:(dispG sumP M.B.gs m1.s).2=1:=by
   rw[dispG,if_neg (by rw[t1'.head,t1'.front];decide)]
   exact t1'.head
 have hpl:m1.A.pics.length=2:=by
   obtain⟨t9,h9⟩:=hI1.inv
   have h8:=h9.len
   rw[hk1,hl1]at h8
   rw[h8,hkb];rfl
 refine CL 3 ha hs (mu_tree hs) λa w ha hs=>?_
 replace hs:=MuS.open hs
 refine CL2 0 ha hs (tree_all (hs.tree M.tq)) λadt ct a w ha hs=>?_
 rw[hl1]at ha
 replace hs:=(MuS.fold hs.tail M sumP m1).sub (M:=MuS W M sumP m1::L)
 refine CLX 3 ha hs (mu_work (i:=0) (k:=k0) (wb:=wb) hs hI1 t1'.cl (by rw[hk1];rfl) sumP_ok (by decide) (by decide)) ?_
 clear ha hs
 rintro e w ⟨z,A2,T2,J2,k2,rfl,⟨hbit,hI2⟩,hs⟩
 refine⟨_,rfl,λa ha=>?_⟩
 obtain⟨hz,hA2⟩:=hbit.first (y:=y) (by rw[hkb];rfl) hJ1 hy hyd
 rw[hz]at ha
 obtain⟨m2,hm2⟩:∃ m2:Mu,m2={ m1 with A:=A2,T:=T2,J:=J2,ks:=m1.ks.set 0 (k2,wb) }:=⟨_,rfl⟩
 rw[← hm2]at hs hI2
 have hs2:m2.s=m1.s:=by rw[hm2]
 have hl2:m2.ks.length=1:=by rw[hm2,hk1];rfl
 have hp2:m2.A.pics.length=3:=by rw[hm2];show A2.pics.length=3;omega
 rw[← hs2]at hd1
 clear hm2
 refine CL2 3 ha hs (mu_display hs hI2 sumP_ok (by decide)) λadD cD a w ha hs=>?_
 rw[hd1]at ha
 replace hs:=hs.tail
 refine RN 9 ha hs λa ha=>?_
 replace ha:=ha.isT 49
 refine RN 5 ha hs λa ha=>?_
 replace ha:=ha.isT 54
 refine RN 3 ha hs λa ha=>?_
 replace ha:=ha.isT 57
 refine CL 1 ha hs (mu_work_no (y:=1) hs (.inr (.inr (by omega))) (by omega)) λa w ha hs=>?_
 refine RN 3 ha hs λa ha=>?_
 replace ha:=ha.isT 62
 refine RN 4 ha hs λa ha=>?_
 replace ha:=ha.isT 66
 refine CL 1 ha hs (mu_workers hs) λa w ha hs=>?_
 rw[hl2]at ha
 refine RN 3 ha hs λa ha=>?_
 replace ha:=ha.isT 71
 refine CL 1 ha hs (mu_store hs) λa w ha hs=>?_
 replace hs:=MuS.open hs
 refine CL2 0 ha hs (snap_live (hs.store M.sq)) λadv cv a w ha hs=>?_
 rw[hp2]at ha
 refine RT 4 ha hs ?_
 exact⟨rfl,hs.sub⟩
end
end
section
def cB (l:List Pic)(j:Nat):Int:=if j=0 then 0 else (cnt l (j-1):Nat)
end
section
section
variable {W w:World}{L:List SP}{x:Int}
theorem tmod_bd' {x L:Int}(h:0<L):-L<x.tmod L∧x.tmod L<L:=by
 have h1:=Int.natAbs_tmod x L
 have h2:=Nat.mod_lt x.natAbs (show 0<L.natAbs by omega)
 omega
theorem small_nat {k:Nat}(hs:St W w L)(hk:0<k∧k≤1000) :
   Calls Tryz.prog 13 #[.int .i64 x,.int .i64 k] w λe w'=>∃ r:Nat,e=.returned (.int .i64 r)∧r<k∧St W w' L:=by
 have hb:=tmod_bd' (x:=x) (L:=k) (by omega)
 refine EN Tryz.func13 Tryz.ntmps13 rfl rfl λa ha=>?_
 refine IF 11 ha hs (λhc0 a ha=>?_) λhc0 a ha=>?_
 ·
  refine RT 6 ha hs ?_
  exact⟨(x.tmod k).natAbs,by rw[wrap_in (by omega) (by omega),show (((x.tmod k).natAbs:Nat):Int)=0-x.tmod k from by omega],by omega,hs⟩
 refine RT 3 ha hs ?_
 exact⟨(x.tmod k).natAbs,by rw[show (((x.tmod k).natAbs:Nat):Int)=x.tmod k from by omega],by omega,hs⟩
end
end
section
theorem RdB.cellL {w:World}{ad:Option Addr}{n b o i:Nat}{bs:List UInt8}(h:RdB w ad n bs)(he:ad=some ⟨b,o,none⟩)(hi:i<bs.length):w.cell? ⟨b,o+i,none⟩=some (.int .u8 ((bs.getD i 0).toNat:Nat)):=by
 obtain⟨b',o',h1,h2⟩:=h.get (by have:=h.1;omega)
 rw[he]at h1;cases h1
 exact h2 i _ (bc_atD hi)
end
end Go.Proofs.YtdilfdkendjjhaaGreat
