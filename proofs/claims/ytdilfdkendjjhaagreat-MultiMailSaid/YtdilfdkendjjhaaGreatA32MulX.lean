/- MultiMail. -/
import Derived.Test.YtdilfdkendjjhaaGreatA31RefG
import Derived.Test.YtdilfdkendjjhaaGreatRows
import Derived.KernelRfl
import Derived.JoinedOf
namespace Go.Proofs.YtdilfdkendjjhaaGreat
open Go.RowKit
set_option linter.unusedVariables false
set_option linter.unusedSimpArgs false
set_option maxRecDepth 10000
set_option synthInstance.maxSize 4000
set_option synthInstance.maxHeartbeats 400000
section
theorem quit_cl (k:Ks):(quitK k).2.cl=true:=by
 unfold quitK
 split
 · assumption
 · rfl
set_option maxHeartbeats 8000000 in
theorem multiMail_walk (a0:Option Addr)(len0 cap0:Nat)(z0:List Int)(a1:Option Addr)(len1 cap1:Nat)(z1:List Int)(tk:Int)(W:World)(w0:ArgInts .u8 W a0 len0 cap0 z0)(w1:ArgInts .i64 W a1 len1 cap1 z1)(w2:(Lit.int .i64 tk).wf=true) :
   Calls Tryz.prog 4 #[.slice a0 len0 cap0,.slice a1 len1 cap1,.int .i64 tk] W λe w'=>e=.returned (.bool true)∧Below W.heap.size W w':=by
 have hs:=St.start W
 obtain⟨P0,hP0,hrP0⟩:=w0.bytesB
 obtain⟨xs,hxl,hxw,hxr⟩:=w1.vals
 have hcap0:=capLe w0
 refine EN Tryz.func4 Tryz.ntmps4 rfl rfl λa ha=>?_
 refine CL 3 ha hs (begun26 hs) λa w ha hs=>?_
 refine RN 5 ha hs λa ha=>?_
 replace ha:=ha.isF 16
 refine CL2 3 ha hs (shortN (K:=10) hs hrP0 hcap0) λaP cP a w ha ⟨hrP,hcP,hs⟩=>?_
 refine CL1 1 ha hs (small_nat (k:=8) hs (by decide)) λtk a w ha ⟨htk,hs⟩=>?_
 refine RN 2 ha hs λa ha=>?_
 have hPl:(P0.take 10).length≤10:=by rw[List.length_take];omega
 generalize P0.take 10=P at ha hrP hcP hPl
 refine AL 2 ha hs λb8 a w ha hs=>?_
 refine SA 0 ha hs λa w ha hs=>?_
 change St W w (blk b8 27 (cfC ⟨3,0,5,1,12,2,1,5,3,9⟩)::_) at hs
 obtain⟨cf,hcf⟩:∃ cf:Cf,cf=⟨3,0,5,1,12,2,1,5,3,9⟩:=⟨_,rfl⟩
 rw[← hcf]at hs
 have hmc:mayCf cf:=by rw[hcf];decide
 have hma:mayAll cf sumP []:=⟨hmc,sumP_ok,by rw[hcf];decide⟩
 clear hcf
 refine DWC 1 (λw0 w'=>Rd w' b8 0 (cfC cf)) [1] [3000,1001,1002,3,4,5,6,7] ha hs λa w ha hs hH=>?_
 have hC:=hH.at w (hs.rdAll (b:=b8))
 refine RH 0 ha hs hH hC λa ha=>?_
 refine QH ha (λw hc=>ex_loadN ha Tryz.underlying27 rfl Ty.t27 (hc)) hC λa ha=>?_
 refine RH 0 ha hs hH hC λa ha=>?_
 refine CL1 0 ha hs (prog22 hs) λadQ a w ha hs=>?_
 replace hC:=hH.at w (hs.rdAll (b:=b8))
 refine RH 0 ha hs hH hC λa ha=>?_
 refine CL1 0 ha hs (mu_newY (cf:=cf) (tb:=[]) hma hs rfl (by decide) (by decide) (by decide) (λw' h=>RdB.nil)) λM a w ha ⟨hgs,hs⟩=>?_
 refine RN 5 ha hs λa ha=>?_
 refine RN 4 ha hs λa ha=>?_
 replace ha:=ha.isF 29
 refine DWC 2 (λw0 w'=>Rd w' b8 0 (cfC cf)) [1] [3000,1001,1002,3] ha hs λa w ha hs hH=>?_
 have hC:=hH.at w (hs.rdAll (b:=b8))
 refine RH 0 ha hs hH hC λa ha=>?_
 refine QH ha (λw hc=>ex_loadN ha Tryz.underlying27 rfl Ty.t27 (hc)) hC λa ha=>?_
 refine RH 0 ha hs hH hC λa ha=>?_
 refine CL1 0 ha hs (prog22 hs) λadQ2 a w ha hs=>?_
 replace hC:=hH.at w (hs.rdAll (b:=b8))
 refine RH 0 ha hs hH hC λa ha=>?_
 refine CL1 0 ha hs (refP_newZ (cf:=cf) (tb:=[]) hmc hs rfl sumP_ok (by decide)) λB a w ha ⟨⟨hcg,hcT⟩,hs⟩=>?_
 refine RN 1 ha hs λa ha=>?_
 have hwf0:=WF'.new (p:=sumP) hmc
 have hnow0:=newP_now0 (p:=sumP) hmc
 generalize newP sumP cf=s0 at hs hwf0 hnow0
 refine RN 3 ha hs λa ha=>?_
 refine wp_loop_ghost (λμ a w=>∃ (i:Nat) (s:Pl),(μ=P.length-i∧i≤P.length∧WF' sumP s∧s.k.now≤i)∧Fr a 101 [(0,.slice aP P.length cP),(1,.slice a1 len1 cap1),(2,.int .i64 tk),(9,pt M.mb),(11,pt B.pb),(12,.int .i64 i)]∧St W w (MuJ W M sumP cf (6*i) s::RefG W B sumP s::[])) (P.length) (⟨0,s0,⟨rfl,by omega,hwf0,by omega⟩,ha.keep [0,1,2,9,11,12],hs.sub⟩) ?_
 clear ha hs
 rintro μ a w ⟨i,s,⟨rfl,hi,hwf,hnw⟩,ha,hs⟩
 refine IF 6 ha hs (λhc2 a ha=>?_) λhc2 a ha=>?_
 ·
  have hip:i<P.length:=by omega
  obtain⟨bp,op,hade,_⟩:=hrP.get (by omega)
  refine DWC 3 (λw0 w'=>RdB w' aP P.length P) [5,10] [0,1,2,3,6,7,8,9,3004,3010,1005,1011,12] ha hs λa w ha hs hH=>?_
  have hC:=hH.at w (hrP.old hs)
  refine RH 3 ha hs hH hC λa ha=>?_
  rw[hade]at ha
  refine RH 1 ha hs hH hC λa ha=>?_
  rw[← hade]at ha
  refine RH 3 ha hs hH hC λa ha=>?_
  rw[hade]at ha
  refine RH 1 ha hs hH hC λa ha=>?_
  rw[← hade]at ha
  refine QH ha (λw hc=>ld1 ha (RdB.cellL hc hade hip)) hC λa ha=>?_
  refine QH ha (λw hc=>ld1 ha (RdB.cellL hc hade hip)) hC λa ha=>?_
  refine RH 0 ha hs hH hC λa ha=>?_
  refine CL 0 ha hs ((mu_play (M:=M) (cf:=cf) sumP_ok (by decide)).press _ _ _ s (P.getD i 0) (by omega) hwf hs) λa w ha hs=>?_
  replace hC:=hH.at w (hrP.old hs)
  refine RH 0 ha hs hH hC λa ha=>?_
  refine CL 0 ha hs (refP_press (x:=P.getD i 0) (hs.pick (RefG W B sumP s)) hwf sumP_ok (by decide)) λa w ha hs=>?_
  refine RN 1 ha hs λa ha=>?_
  rw[dne]at ha
  replace ha:=ha.isF 51
  refine RN 3 ha hs λa ha=>?_
  have hwf1:=hwf.press (P.getD i 0)
  have hnw1:=press_now sumP (P.getD i 0) hwf
  generalize (pressP sumP (P.getD i 0) s).2=s1 at hs hwf1 hnw1
  refine RN 1 ha hs λa ha=>?_
  refine wp_loop_ghost (λμ a w=>∃ (v:Nat),(μ=4-v∧v≤4)∧Fr a 101 [(0,.slice aP P.length cP),(1,.slice a1 len1 cap1),(2,.int .i64 tk),(9,pt M.mb),(11,pt B.pb),(12,.int .i64 i),(13,.int .i64 v)]∧St W w (MuJ W M sumP cf (6*i+1+v) s1::RefG W B sumP s1::[])) (4) (⟨0,⟨rfl,by omega⟩,ha.keep [0,1,2,9,11,12,13],hs.sub⟩) ?_
  clear ha hs
  rintro μ a w ⟨v,⟨rfl,hv⟩,ha,hs⟩
  refine BY 5 ha hs (λhg2 a ha=>?_) λhg2 a ha=>?_
  ·
   refine IF 7 ha hs (λhc4 a ha=>?_) λhc4 a ha=>?_
   ·
    have hi2:i+v<xs.length:=by omega
    obtain⟨bf,of,rfl,_,hrf⟩:=(hxr _ _ hs).resolve_left (by omega)
    have hcf:=hrf (i+v) (.int .i64 xs[i+v]) (by rw[List.getElem?_map,List.getElem?_eq_getElem hi2];rfl)
    generalize xs[i+v]=y at hcf
    refine RN 6 ha hs λa ha=>?_
    rw[show (i:Int)+(v:Int)=((i+v:Nat):Int) from by omega]at ha
    refine RN 1 ha hs λa ha=>?_
    refine SS ha (ld1 ha (hcf)) λa ha=>?_
    refine CL1 0 ha hs (small_nat (k:=3) hs (by decide)) λr3 a w ha ⟨hr3,hs⟩=>?_
    refine CL1 0 ha hs (mu_workJ (y:=r3) hs sumP_ok (by decide) (by omega)) λz a w ha ⟨_,hs⟩=>?_
    refine RN 3 ha hs λa ha=>?_
    exact⟨4-(v+1),by omega,v+1,⟨rfl,by omega⟩,ha.keep [0,1,2,9,11,12,13],hs.sub⟩
   refine RN 1 ha hs λa ha=>?_
   replace hs:=RefG.open ((MuJ.more (j:=6*i+5) hs (by omega)).pick (RefG W B sumP s1))
   have hnw2:s1.k.now≤1000000:=by omega
   refine DWC 0 (λw0 w'=>Rd w' B.pb 0 (rgC sumP B s1.g)) [5,6] [0,1,2,3,4,7,8,9,3010,1005,1006,1011,1012,13,14] ha hs λa w ha hs hH=>?_
   have hC:=hH.at w (hs.rdAll (b:=B.pb))
   refine RH 4 ha hs hH hC λa ha=>?_
   refine ha.by (s:=76) (λhg3 ha=>?_) (λhg3 ha=>?_)
   ·
    refine RH 4 ha hs hH hC λa ha=>?_
    refine QH ha (λw hc=>ld1 ha (hc 0 _ rfl)) hC λa ha=>?_
    refine RH 0 ha hs hH hC λa ha=>?_
    refine CL2 0 ha hs ((mu_play (M:=M) (cf:=cf) sumP_ok (by decide)).tick _ _ _ s1 (by omega) hwf1 hnw2 (hs.pick (MuJ W M sumP cf (6*i+5) s1))) λam cm a w ha hs=>?_
    replace hC:=hH.at w (hs.rdAll (b:=B.pb))
    refine RH 0 ha hs hH hC λa ha=>?_
    refine CL2 0 ha hs (mails_spec hs (tick_len hwf1.wc)) λan cn a w ha hs=>?_
    replace hC:=hH.at w (hs.rdAll (b:=B.pb))
    refine RH 0 ha hs hH hC λa ha=>?_
    refine CL2 0 ha hs (ref_tick (hs.pick (RefS B.core s1.k)) hwf1.wc hnw2) λar cr a w ha hs=>?_
    refine CL 0 ha hs (eqMails_spec ((hs.pick (OwnMl 138 ar (tickK s1.k).1.length cr (tickK s1.k).1)).pick (OwnMl 138 an (tickK s1.k).1.length cn (tickK s1.k).1)) (tick_len hwf1.wc)) λa w ha hs=>?_
    refine RN 2 ha hs λa ha=>?_
    replace ha:=ha.isF 87
    refine RN 4 ha hs λa ha=>?_
    exact⟨P.length-(i+1),by omega,i+1,⟨(tickK s1.k).2,s1.g⟩,⟨rfl,by omega,hwf1.tick,by have:=tick_now s1.k;show (tickK s1.k).2.now≤i+1;omega⟩,ha.keep [0,1,2,9,11,12],(RefG.fold hs B sumP ⟨(tickK s1.k).2,s1.g⟩).sub⟩
   refine RH 11 ha hs hH hC λa ha=>?_
   refine RN 4 ha hs λa ha=>?_
   exact⟨P.length-(i+1),by omega,i+1,s1,⟨rfl,by omega,hwf1,by omega⟩,ha.keep [0,1,2,9,11,12],((MuJ.more (j:=6*(i+1)) ((RefG.fold hs B sumP s1).pick (MuJ W M sumP cf (6*i+5) s1)) (by omega))).sub⟩
  refine RN 9 ha hs λa ha=>?_
  replace hs:=RefG.open ((MuJ.more (j:=6*i+5) hs (by omega)).pick (RefG W B sumP s1))
  have hnw2:s1.k.now≤1000000:=by omega
  refine DWC 0 (λw0 w'=>Rd w' B.pb 0 (rgC sumP B s1.g)) [5,6] [0,1,2,3,4,7,8,9,3010,1005,1006,1011,1012,13,14] ha hs λa w ha hs hH=>?_
  have hC:=hH.at w (hs.rdAll (b:=B.pb))
  refine RH 4 ha hs hH hC λa ha=>?_
  refine ha.by (s:=76) (λhg3 ha=>?_) (λhg3 ha=>?_)
  ·
   refine RH 4 ha hs hH hC λa ha=>?_
   refine QH ha (λw hc=>ld1 ha (hc 0 _ rfl)) hC λa ha=>?_
   refine RH 0 ha hs hH hC λa ha=>?_
   refine CL2 0 ha hs ((mu_play (M:=M) (cf:=cf) sumP_ok (by decide)).tick _ _ _ s1 (by omega) hwf1 hnw2 (hs.pick (MuJ W M sumP cf (6*i+5) s1))) λam cm a w ha hs=>?_
   replace hC:=hH.at w (hs.rdAll (b:=B.pb))
   refine RH 0 ha hs hH hC λa ha=>?_
   refine CL2 0 ha hs (mails_spec hs (tick_len hwf1.wc)) λan cn a w ha hs=>?_
   replace hC:=hH.at w (hs.rdAll (b:=B.pb))
   refine RH 0 ha hs hH hC λa ha=>?_
   refine CL2 0 ha hs (ref_tick (hs.pick (RefS B.core s1.k)) hwf1.wc hnw2) λar cr a w ha hs=>?_
   refine CL 0 ha hs (eqMails_spec ((hs.pick (OwnMl 138 ar (tickK s1.k).1.length cr (tickK s1.k).1)).pick (OwnMl 138 an (tickK s1.k).1.length cn (tickK s1.k).1)) (tick_len hwf1.wc)) λa w ha hs=>?_
   refine RN 2 ha hs λa ha=>?_
   replace ha:=ha.isF 87
   refine RN 4 ha hs λa ha=>?_
   exact⟨P.length-(i+1),by omega,i+1,⟨(tickK s1.k).2,s1.g⟩,⟨rfl,by omega,hwf1.tick,by have:=tick_now s1.k;show (tickK s1.k).2.now≤i+1;omega⟩,ha.keep [0,1,2,9,11,12],(RefG.fold hs B sumP ⟨(tickK s1.k).2,s1.g⟩).sub⟩
  refine RH 11 ha hs hH hC λa ha=>?_
  refine RN 4 ha hs λa ha=>?_
  exact⟨P.length-(i+1),by omega,i+1,s1,⟨rfl,by omega,hwf1,by omega⟩,ha.keep [0,1,2,9,11,12],((MuJ.more (j:=6*(i+1)) ((RefG.fold hs B sumP s1).pick (MuJ W M sumP cf (6*i+5) s1)) (by omega))).sub⟩
 refine RN 1 ha hs λa ha=>?_
 replace hs:=RefG.open (hs.pick (RefG W B sumP s))
 refine DWC 0 (λw0 w'=>Rd w' B.pb 0 (rgC sumP B s.g)) [1,2] [0,3,4,5,3006,1001,1002,1007,1008,9,10,1011,12,13] ha hs λa w ha hs hH=>?_
 have hC:=hH.at w (hs.rdAll (b:=B.pb))
 refine RH 4 ha hs hH hC λa ha=>?_
 refine QH ha (λw hc=>ld1 ha (hc 0 _ rfl)) hC λa ha=>?_
 refine RH 0 ha hs hH hC λa ha=>?_
 refine CL2 0 ha hs ((mu_play (M:=M) (cf:=cf) sumP_ok (by decide)).quit _ _ _ s (by omega) hwf (hs.pick (MuJ W M sumP cf (6*i) s))) λam cm a w ha hs=>?_
 replace hC:=hH.at w (hs.rdAll (b:=B.pb))
 refine RH 0 ha hs hH hC λa ha=>?_
 refine CL2 0 ha hs (mails_spec hs (quit_len hwf.wc)) λan cn a w ha hs=>?_
 replace hC:=hH.at w (hs.rdAll (b:=B.pb))
 refine RH 0 ha hs hH hC λa ha=>?_
 refine CL2 0 ha hs (ref_quit (hs.pick (RefS B.core s.k)) hwf.wc) λar cr a w ha hs=>?_
 refine CL 0 ha hs (eqMails_spec ((hs.pick (OwnMl 138 ar (quitK s.k).1.length cr (quitK s.k).1)).pick (OwnMl 138 an (quitK s.k).1.length cn (quitK s.k).1)) (quit_len hwf.wc)) λa w ha hs=>?_
 refine RN 1 ha hs λa ha=>?_
 replace ha:=ha.isT 97
 refine CL 1 ha hs ((mu_play (M:=M) (cf:=cf) sumP_ok (by decide)).closed _ _ _ ⟨(quitK s.k).2,s.g⟩ (by omega) hwf.quit (hs.pick (MuJ W M sumP cf (6*i+1) ⟨(quitK s.k).2,s.g⟩))) λa w ha hs=>?_
 rw[show (⟨(quitK s.k).2,s.g⟩:Pl).k.cl=true from quit_cl _]at ha
 refine RN 2 ha hs λa ha=>?_
 refine RT 0 ha hs ?_
 exact⟨rfl,hs.below⟩
end
section
set_option maxRecDepth 100000
theorem and2 {x y:Bool}(h:x=true)(k:y=true):(x&&y)=true:=by rw[h,k];rfl
theorem joined_of {P:Program}{f:FuncId}{fn:Func}{s:ChangeSpec}{c:OpenClaim}(k1:c.wf (OpenSpec.ofChange s)=true)(k2:laidOutB P=true)(k3:mapsRowed P=true)(k4:fn.params.all (P.readableRec ·)=true)(k5:namedTie P c.named s.vars=true)
   (k6:(c.stops==[])=true) (k7:(P.stops==[])=true) (k8:(c.knobs==[])=true) (k9:(P.stopKnobs==[])=true) (k10:(c.inPlace==P.inPlace f)=true) (k11:(c.unfollowed==P.unfollowed f)=true) (k12:(c.recurses==P.recurses f)=true) (k13:(c.named==P.varsNamed f)=true)
   (k14:(c.maps==(fn.params.toList++s.plain.varTypes P).any (P.mapsRec ·))=true) (k15:(c.ifaces==(fn.params.toList++s.plain.varTypes P).any (P.ifacesRec ·))=true) (k16:(c.mapsOut==P.mapsAmong fn.resultTypes.toList)=true)
   (k17:(c.loops==(fn.params.toList++s.plain.varTypes P).any (P.loopsFrom ·))=true) (k18:(c.wideKeys==(fn.params.toList++s.plain.varTypes P++fn.resultTypes.toList).any (P.wideKeysFrom ·))=true) (k19:s.vars.all (P.varReadable ·)=true) (k20:fn.resultTypes.all (λt=>P.readableRec t&&decide (t<P.types.size))=true)
   (k21:(c.ifacesOut==fn.resultTypes.toList.any (P.ifacesRec ·))=true) (k22:(c.loopsOut==fn.resultTypes.toList.any (P.loopsFrom ·))=true) (k23:(c.plainKeys==P.plainKeys)=true) (k24:c.shortTexts.isNone=true) (k25:P.stopsHeard=true) (k26:P.mayEnter=true) (k27:(c.lifted==P.liftsFinal)=true) (k28:(P.make==some c.make)=true)
   (k29:(c.kinds==(if c.domain.isEmpty then [] else fn.params.toList.map λt=>match P.underlying t with | some (.int k)=>some k | _=>none))=true) (k30:(c.pinned==c.pinnedBy)=true) (k31:(c.veiled==(fn.params.toList++s.plain.varTypes P++fn.resultTypes.toList).any (P.veiledRec ·))=true) (k32:c.veiledFits P fn.params.toList (fn.params.toList++s.plain.varTypes P++fn.resultTypes.toList)=true):joinedFacts P f fn s c=true:=by
 unfold joinedFacts
 exact and2 (and2 (and2 (and2 (and2 (and2 (and2 (and2 (and2 (and2 (and2 (and2 (and2 (and2 (and2 (and2 (and2 (and2 (and2 (and2 (and2 (and2 (and2 (and2 (and2 (and2 (and2 (and2 (and2 (and2 (and2 k1 k2) k3) k4) k5) k6) k7) k8) k9) k10) k11) k12) k13) k14) k15) k16) k17) k18) k19) k20) k21) k22) k23) k24) k25) k26) k27) k28) k29) k30) k31) k32
theorem fLaid:laidOutB Tryz.prog=true:=by kernel_rfl
theorem fMaps:mapsRowed Tryz.prog=true:=by kernel_rfl
theorem fHeard:Tryz.prog.stopsHeard=true:=by kernel_rfl
theorem fEnter:Tryz.prog.mayEnter=true:=by kernel_rfl
theorem fKeys (c:OpenClaim)(h:c.plainKeys=Rows.multiNoneRow.plainKeys):(c.plainKeys==Tryz.prog.plainKeys)=true:=by
 rw[h];kernel_rfl
theorem fLift (c:OpenClaim)(h:c.lifted=Rows.multiNoneRow.lifted):(c.lifted==Tryz.prog.liftsFinal)=true:=by
 rw[h];kernel_rfl
theorem fMake (c:OpenClaim)(h:c.make=Rows.multiNoneRow.make):(Tryz.prog.make==some c.make)=true:=by
 rw[h];kernel_rfl
end
end Go.Proofs.YtdilfdkendjjhaaGreat
