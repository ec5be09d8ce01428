/- MultiRooms. -/
import Derived.Test.YtdilfdkendjjhaaGreatE28MulS
import Derived.Test.YtdilfdkendjjhaaGreatRows
import Derived.KernelRfl
import Derived.JoinedOf
namespace Go.Proofs.YtdilfdkendjjhaaGreat
open Go.RowKit
set_option linter.unusedVariables false
set_option linter.unusedSimpArgs false
set_option maxRecDepth 10000
set_option synthInstance.maxSize 4000
set_option synthInstance.maxHeartbeats 400000
section
theorem Two.disp_eq {p:Pr}{win me:Nat}{ls:List (List UInt8)}{s s2:Pl}(h:Two p win me ls s)(h2:Two p win me ls s2)(gs:Gs):dispG p gs s=dispG p gs s2:=by
 rw[dispG,dispG,h.head,h2.head,h.front,h2.front,h.conf,h2.conf,h.game,h2.game,h.ls,h2.ls]
set_option maxHeartbeats 16000000 in
theorem multiRooms_walk (cfa cfb:Cf)(a2:Option Addr)(len2 cap2:Nat)(z2:List Int)(a3:Option Addr)(len3 cap3:Nat)(z3:List Int)(a4:Option Addr)(len4 cap4:Nat)(z4:List Int)(W:World)(w2:ArgInts .u8 W a2 len2 cap2 z2)(w3:ArgInts .u8 W a3 len3 cap3 z3)(w4:ArgInts .i64 W a4 len4 cap4 z4) :
   Calls Tryz.prog 5 #[.agg (cfC cfa).toArray,.agg (cfC cfb).toArray,.slice a2 len2 cap2,.slice a3 len3 cap3,.slice a4 len4 cap4] W λe w'=>e=.returned (.bool true)∧Below W.heap.size W w':=by
 have hs:=St.start W
 obtain⟨P0,hP0,hrP0⟩:=w2.bytesB
 obtain⟨O0,hO0,hrO0⟩:=w3.bytesB
 obtain⟨xs,hxl,hxw,hxr⟩:=w4.vals
 have hcap2:=capLe w2
 have hcap3:=capLe w3
 refine EN Tryz.func5 Tryz.ntmps5 rfl rfl λa ha=>?_
 refine BX 1 ha hs λb5 a w ha hs=>?_
 change St W w (blk b5 27 (cfC cfa)::_) at hs
 refine BX 0 ha hs λb6 a w ha hs=>?_
 change St W w (blk b6 27 (cfC cfb)::_) at hs
 refine CL 2 ha hs (begun26 hs) λa w ha hs=>?_
 refine RN 5 ha hs λa ha=>?_
 replace ha:=ha.isF 31
 refine CL2 3 ha hs (shortN (K:=10) hs hrP0 hcap2) λaP cP a w ha ⟨hrP,hcP,hs⟩=>?_
 refine CL2 1 ha hs (shortN (K:=10) hs hrO0 hcap3) λaO cO a w ha ⟨hrO,hcO,hs⟩=>?_
 refine RN 2 ha hs λa ha=>?_
 have hPl:(P0.take 10).length≤10:=by rw[List.length_take];omega
 have hOl:(O0.take 10).length≤10:=by rw[List.length_take];omega
 generalize P0.take 10=P at ha hrP hcP hPl
 generalize O0.take 10=O at ha hrO hcO hOl
 refine wp_seq_cut (M:=λa w=>∃ (b12:Nat) (cf:Cf),(mayAll cf sumP []∧cf=⟨2,((0:Nat):Int),0,0,((12:Nat):Int),cf.guess,cf.order,cf.branches,cf.workers,cf.room⟩∧cf.guess=2∧cf.order=1)∧Fr a 211 [(2,.slice aP P.length cP),(3,.slice aO O.length cO),(4,.slice a4 len4 cap4),(6,pt b6),(12,pt b12)]∧St W w (blk b12 27 (cfC cf)::blk b6 27 (cfC cfb)::[])) ?_ ?_
 ·
  refine DWC 0 (λw0 w'=>Rd w' b5 0 (cfC cfa)) [2,4,5,7,11] [0,3,6,3001,3004,3007,2002,2005,2008,9,10,1011,1012] ha hs λa w ha hs hH=>?_
  have hC:=hH.at w (hs.rdAll (b:=b5))
  refine RH 3 ha hs hH hC λa ha=>?_
  refine QH ha (λw hc=>ld1 ha (hc 7 _ rfl)) hC λa ha=>?_
  refine QH ha (λw hc=>ld1 ha (hc 8 _ rfl)) hC λa ha=>?_
  refine QH ha (λw hc=>ld1 ha (hc 9 _ rfl)) hC λa ha=>?_
  refine RH 0 ha hs hH hC λa ha=>?_
  refine DN [(2,[2005,2008,9,10,1011,1012]),(11,[1002,1005,1008,9,10,1012])] (by kernel_rfl) rfl ⟨⟨_,rfl,?_⟩,⟨_,rfl,?_⟩,trivial⟩
  ·
   refine RH 0 ha hs hH hC λa ha=>?_
   refine CL1 0 ha hs (small_nat (k:=9) hs (by decide)) λr1 a w ha ⟨hr1,hs⟩=>?_
   replace hC:=hH.at w (hs.rdAll (b:=b5))
   refine RH 0 ha hs hH hC λa ha=>?_
   refine DN [(5,[2008,9,10,1011,1012]),(11,[1005,1008,9,10,1012])] (by kernel_rfl) rfl ⟨⟨_,rfl,?_⟩,⟨_,rfl,?_⟩,trivial⟩
   ·
    refine RH 0 ha hs hH hC λa ha=>?_
    refine CL1 0 ha hs (small_nat (k:=5) hs (by decide)) λr2 a w ha ⟨hr2,hs⟩=>?_
    replace hC:=hH.at w (hs.rdAll (b:=b5))
    refine RH 0 ha hs hH hC λa ha=>?_
    refine DN [(8,[9,10,1011,1012]),(11,[1008,9,10,1012])] (by kernel_rfl) rfl ⟨⟨_,rfl,?_⟩,⟨_,rfl,?_⟩,trivial⟩
    ·
     refine RH 0 ha hs hH hC λa ha=>?_
     refine CL1 0 ha hs (small_nat (k:=48) hs (by decide)) λr3 a w ha ⟨hr3,hs⟩=>?_
     refine RN 2 ha hs λa ha=>?_
     refine st_alloc ha rfl hs Ty.t27 rfl λb12 a w ha hs ho=>?_
     clear ho
     replace hC:=hH.at w (hs.rdAll (b:=b5))
     refine RH 0 ha hs hH hC λa ha=>?_
     refine SA 0 ha hs λa w ha hs=>?_
     refine RN 0 ha hs λa ha=>?_
     exact⟨_,⟨2,0,0,0,12,2,1,r1,r2,3+r3⟩,⟨⟨by simp[mayCf,inI];omega,sumP_ok,(by decide:mayGs ⟨2,1,[]⟩)⟩,rfl,rfl,rfl⟩,ha.keep [2,3,4,6,12],(show St W w (blk _ 27 (cfC ⟨2,0,0,0,12,2,1,r1,r2,3+r3⟩)::_) from hs).sub⟩
    refine RH 0 ha hs hH hC λa ha=>?_
    refine st_alloc ha rfl hs Ty.t27 rfl λb12 a w ha hs ho=>?_
    clear ho
    replace hC:=hH.at w (hs.rdAll (b:=b5))
    refine RH 0 ha hs hH hC λa ha=>?_
    refine CL1 0 ha hs (small_nat (k:=48) hs (by decide)) λr3 a w ha ⟨hr3,hs⟩=>?_
    refine SA 2 ha hs λa w ha hs=>?_
    refine RN 0 ha hs λa ha=>?_
    exact⟨_,⟨2,0,0,0,12,2,1,r1,r2,3+r3⟩,⟨⟨by simp[mayCf,inI];omega,sumP_ok,(by decide:mayGs ⟨2,1,[]⟩)⟩,rfl,rfl,rfl⟩,ha.keep [2,3,4,6,12],(show St W w (blk _ 27 (cfC ⟨2,0,0,0,12,2,1,r1,r2,3+r3⟩)::_) from hs).sub⟩
   refine RH 0 ha hs hH hC λa ha=>?_
   refine st_alloc ha rfl hs Ty.t27 rfl λb12 a w ha hs ho=>?_
   clear ho
   replace hC:=hH.at w (hs.rdAll (b:=b5))
   refine RH 0 ha hs hH hC λa ha=>?_
   refine CL1 0 ha hs (small_nat (k:=5) hs (by decide)) λr2 a w ha ⟨hr2,hs⟩=>?_
   replace hC:=hH.at w (hs.rdAll (b:=b5))
   refine RH 0 ha hs hH hC λa ha=>?_
   refine CL1 0 ha hs (small_nat (k:=48) hs (by decide)) λr3 a w ha ⟨hr3,hs⟩=>?_
   refine SA 2 ha hs λa w ha hs=>?_
   refine RN 0 ha hs λa ha=>?_
   exact⟨_,⟨2,0,0,0,12,2,1,r1,r2,3+r3⟩,⟨⟨by simp[mayCf,inI];omega,sumP_ok,(by decide:mayGs ⟨2,1,[]⟩)⟩,rfl,rfl,rfl⟩,ha.keep [2,3,4,6,12],(show St W w (blk _ 27 (cfC ⟨2,0,0,0,12,2,1,r1,r2,3+r3⟩)::_) from hs).sub⟩
  refine RH 0 ha hs hH hC λa ha=>?_
  refine st_alloc ha rfl hs Ty.t27 rfl λb12 a w ha hs ho=>?_
  clear ho
  replace hC:=hH.at w (hs.rdAll (b:=b5))
  refine RH 0 ha hs hH hC λa ha=>?_
  refine CL1 0 ha hs (small_nat (k:=9) hs (by decide)) λr1 a w ha ⟨hr1,hs⟩=>?_
  replace hC:=hH.at w (hs.rdAll (b:=b5))
  refine RH 0 ha hs hH hC λa ha=>?_
  refine CL1 0 ha hs (small_nat (k:=5) hs (by decide)) λr2 a w ha ⟨hr2,hs⟩=>?_
  replace hC:=hH.at w (hs.rdAll (b:=b5))
  refine RH 0 ha hs hH hC λa ha=>?_
  refine CL1 0 ha hs (small_nat (k:=48) hs (by decide)) λr3 a w ha ⟨hr3,hs⟩=>?_
  refine SA 2 ha hs λa w ha hs=>?_
  refine RN 0 ha hs λa ha=>?_
  exact⟨_,⟨2,0,0,0,12,2,1,r1,r2,3+r3⟩,⟨⟨by simp[mayCf,inI];omega,sumP_ok,(by decide:mayGs ⟨2,1,[]⟩)⟩,rfl,rfl,rfl⟩,ha.keep [2,3,4,6,12],(show St W w (blk _ 27 (cfC ⟨2,0,0,0,12,2,1,r1,r2,3+r3⟩)::_) from hs).sub⟩
 clear ha;(try clear hs)
 rintro a w ⟨b12,cf,⟨hma,hcf,hg2,ho1⟩,ha,hs⟩
 refine wp_seq_cut (M:=λa w=>∃ (b13:Nat) (cg:Cf),(mayAll cg sumP []∧cg=⟨2,((0:Nat):Int),0,0,((12:Nat):Int),cg.guess,cg.order,cg.branches,cg.workers,cg.room⟩∧cg.guess=2∧cg.order=1)∧Fr a 211 [(2,.slice aP P.length cP),(3,.slice aO O.length cO),(4,.slice a4 len4 cap4),(12,pt b12),(13,pt b13)]∧St W w (blk b13 27 (cfC cg)::blk b12 27 (cfC cf)::[])) ?_ ?_
 ·
  refine DWC 0 (λw0 w'=>Rd w' b6 0 (cfC cfb)) [2,4,5,7,11] [0,3,6,3001,3004,3007,2002,2005,2008,9,10,1011,1012] ha hs λa w ha hs hH=>?_
  have hC:=hH.at w (hs.rdAll (b:=b6))
  refine RH 3 ha hs hH hC λa ha=>?_
  refine QH ha (λw hc=>ld1 ha (hc 7 _ rfl)) hC λa ha=>?_
  refine QH ha (λw hc=>ld1 ha (hc 8 _ rfl)) hC λa ha=>?_
  refine QH ha (λw hc=>ld1 ha (hc 9 _ rfl)) hC λa ha=>?_
  refine RH 0 ha hs hH hC λa ha=>?_
  refine DN [(2,[2005,2008,9,10,1011,1012]),(11,[1002,1005,1008,9,10,1012])] (by kernel_rfl) rfl ⟨⟨_,rfl,?_⟩,⟨_,rfl,?_⟩,trivial⟩
  ·
   refine RH 0 ha hs hH hC λa ha=>?_
   refine CL1 0 ha hs (small_nat (k:=9) hs (by decide)) λr1 a w ha ⟨hr1,hs⟩=>?_
   replace hC:=hH.at w (hs.rdAll (b:=b6))
   refine RH 0 ha hs hH hC λa ha=>?_
   refine DN [(5,[2008,9,10,1011,1012]),(11,[1005,1008,9,10,1012])] (by kernel_rfl) rfl ⟨⟨_,rfl,?_⟩,⟨_,rfl,?_⟩,trivial⟩
   ·
    refine RH 0 ha hs hH hC λa ha=>?_
    refine CL1 0 ha hs (small_nat (k:=5) hs (by decide)) λr2 a w ha ⟨hr2,hs⟩=>?_
    replace hC:=hH.at w (hs.rdAll (b:=b6))
    refine RH 0 ha hs hH hC λa ha=>?_
    refine DN [(8,[9,10,1011,1012]),(11,[1008,9,10,1012])] (by kernel_rfl) rfl ⟨⟨_,rfl,?_⟩,⟨_,rfl,?_⟩,trivial⟩
    ·
     refine RH 0 ha hs hH hC λa ha=>?_
     refine CL1 0 ha hs (small_nat (k:=48) hs (by decide)) λr3 a w ha ⟨hr3,hs⟩=>?_
     refine RN 2 ha hs λa ha=>?_
     refine st_alloc ha rfl hs Ty.t27 rfl λb13 a w ha hs ho=>?_
     clear ho
     replace hC:=hH.at w (hs.rdAll (b:=b6))
     refine RH 0 ha hs hH hC λa ha=>?_
     refine SA 0 ha hs λa w ha hs=>?_
     refine RN 0 ha hs λa ha=>?_
     exact⟨_,⟨2,0,0,0,12,2,1,r1,r2,3+r3⟩,⟨⟨by simp[mayCf,inI];omega,sumP_ok,(by decide:mayGs ⟨2,1,[]⟩)⟩,rfl,rfl,rfl⟩,ha.keep [2,3,4,12,13],(show St W w (blk _ 27 (cfC ⟨2,0,0,0,12,2,1,r1,r2,3+r3⟩)::_) from hs).sub⟩
    refine RH 0 ha hs hH hC λa ha=>?_
    refine st_alloc ha rfl hs Ty.t27 rfl λb13 a w ha hs ho=>?_
    clear ho
    replace hC:=hH.at w (hs.rdAll (b:=b6))
    refine RH 0 ha hs hH hC λa ha=>?_
    refine CL1 0 ha hs (small_nat (k:=48) hs (by decide)) λr3 a w ha ⟨hr3,hs⟩=>?_
    refine SA 2 ha hs λa w ha hs=>?_
    refine RN 0 ha hs λa ha=>?_
    exact⟨_,⟨2,0,0,0,12,2,1,r1,r2,3+r3⟩,⟨⟨by simp[mayCf,inI];omega,sumP_ok,(by decide:mayGs ⟨2,1,[]⟩)⟩,rfl,rfl,rfl⟩,ha.keep [2,3,4,12,13],(show St W w (blk _ 27 (cfC ⟨2,0,0,0,12,2,1,r1,r2,3+r3⟩)::_) from hs).sub⟩
   refine RH 0 ha hs hH hC λa ha=>?_
   refine st_alloc ha rfl hs Ty.t27 rfl λb13 a w ha hs ho=>?_
   clear ho
   replace hC:=hH.at w (hs.rdAll (b:=b6))
   refine RH 0 ha hs hH hC λa ha=>?_
   refine CL1 0 ha hs (small_nat (k:=5) hs (by decide)) λr2 a w ha ⟨hr2,hs⟩=>?_
   replace hC:=hH.at w (hs.rdAll (b:=b6))
   refine RH 0 ha hs hH hC λa ha=>?_
   refine CL1 0 ha hs (small_nat (k:=48) hs (by decide)) λr3 a w ha ⟨hr3,hs⟩=>?_
   refine SA 2 ha hs λa w ha hs=>?_
   refine RN 0 ha hs λa ha=>?_
   exact⟨_,⟨2,0,0,0,12,2,1,r1,r2,3+r3⟩,⟨⟨by simp[mayCf,inI];omega,sumP_ok,(by decide:mayGs ⟨2,1,[]⟩)⟩,rfl,rfl,rfl⟩,ha.keep [2,3,4,12,13],(show St W w (blk _ 27 (cfC ⟨2,0,0,0,12,2,1,r1,r2,3+r3⟩)::_) from hs).sub⟩
  refine RH 0 ha hs hH hC λa ha=>?_
  refine st_alloc ha rfl hs Ty.t27 rfl λb13 a w ha hs ho=>?_
  clear ho
  replace hC:=hH.at w (hs.rdAll (b:=b6))
  refine RH 0 ha hs hH hC λa ha=>?_
  refine CL1 0 ha hs (small_nat (k:=9) hs (by decide)) λr1 a w ha ⟨hr1,hs⟩=>?_
  replace hC:=hH.at w (hs.rdAll (b:=b6))
  refine RH 0 ha hs hH hC λa ha=>?_
  refine CL1 0 ha hs (small_nat (k:=5) hs (by decide)) λr2 a w ha ⟨hr2,hs⟩=>?_
  replace hC:=hH.at w (hs.rdAll (b:=b6))
  refine RH 0 ha hs hH hC λa ha=>?_
  refine CL1 0 ha hs (small_nat (k:=48) hs (by decide)) λr3 a w ha ⟨hr3,hs⟩=>?_
  refine SA 2 ha hs λa w ha hs=>?_
  refine RN 0 ha hs λa ha=>?_
  exact⟨_,⟨2,0,0,0,12,2,1,r1,r2,3+r3⟩,⟨⟨by simp[mayCf,inI];omega,sumP_ok,(by decide:mayGs ⟨2,1,[]⟩)⟩,rfl,rfl,rfl⟩,ha.keep [2,3,4,12,13],(show St W w (blk _ 27 (cfC ⟨2,0,0,0,12,2,1,r1,r2,3+r3⟩)::_) from hs).sub⟩
 clear ha;(try clear hs)
 rintro a w ⟨b13,cg,⟨hmb,hcg,hh2,hp1⟩,ha,hs⟩
 refine DWC 1 (λw0 w'=>Rd w' b12 0 (cfC cf)) [1] [3000,1001,1002,3,4,5,6,7] ha hs λa w ha hs hH=>?_
 have hC:=hH.at w (hs.rdAll (b:=b12))
 refine RH 0 ha hs hH hC λa ha=>?_
 refine QH ha (λw hc=>ex_loadN ha Tryz.underlying27 rfl Ty.t27 (hc)) hC λa ha=>?_
 refine RH 0 ha hs hH hC λa ha=>?_
 refine CL1 0 ha hs (prog22 hs) λadQ a w ha hs=>?_
 replace hC:=hH.at w (hs.rdAll (b:=b12))
 refine RH 0 ha hs hH hC λa ha=>?_
 refine CL1 0 ha hs (mu_newY (cf:=cf) (tb:=[]) hma hs rfl (by decide) (by decide) (by decide) (λw' h=>RdB.nil)) λM a w ha ⟨hgs,hs⟩=>?_
 refine RN 5 ha hs λa ha=>?_
 refine DWC 1 (λw0 w'=>Rd w' b13 0 (cfC cg)) [1] [3000,1001,1002,3,4,5,6,7] ha hs λa w ha hs hH=>?_
 have hC:=hH.at w (hs.rdAll (b:=b13))
 refine RH 0 ha hs hH hC λa ha=>?_
 refine QH ha (λw hc=>ex_loadN ha Tryz.underlying27 rfl Ty.t27 (hc)) hC λa ha=>?_
 refine RH 0 ha hs hH hC λa ha=>?_
 refine CL1 0 ha hs (prog22 hs) λadQ2 a w ha hs=>?_
 replace hC:=hH.at w (hs.rdAll (b:=b13))
 refine RH 0 ha hs hH hC λa ha=>?_
 refine CL1 0 ha hs (mu_newY (cf:=cg) (tb:=[]) hmb hs rfl (by decide) (by decide) (by decide) (λw' h=>RdB.nil)) λN a w ha ⟨hgt,hs⟩=>?_
 refine RN 5 ha hs λa ha=>?_
 have t0:Two sumP 12 0 [[],[]] (newP sumP cf):=Two.new (id:=0) hma.1 hcf
 have u0:Two sumP 12 0 [[],[]] (newP sumP cg):=Two.new (id:=0) hmb.1 hcg
 have hgg:N.B.gs=M.B.gs:=by rw[hgs,hgt,hg2,ho1,hh2,hp1]
 generalize newP sumP cf=s0 at hs t0
 generalize newP sumP cg=v0 at hs u0
 refine RN 5 ha hs λa ha=>?_
 replace ha:=ha.isF 72
 refine RN 3 ha hs λa ha=>?_
 replace ha:=ha.isF 75
 refine RN 4 ha hs λa ha=>?_
 refine wp_loop_ghost (λμ a w=>∃ (i:Nat) (s v:Pl),(μ=10-i∧i≤10∧Two sumP 12 0 [P.take i,O.take i] s∧Two sumP 12 0 [P.take i,O.take i] v)∧Fr a 211 [(2,.slice aP P.length cP),(3,.slice aO O.length cO),(4,.slice a4 len4 cap4),(12,pt b12),(13,pt b13),(14,pt M.mb),(16,pt N.mb),(18,.int .i64 i)]∧St W w (MuJ W M sumP cf (8*i) s::MuJ W N sumP cg (8*i) v::blk b13 27 (cfC cg)::blk b12 27 (cfC cf)::[])) (10) (⟨0,s0,v0,⟨rfl,by omega,t0,u0⟩,ha.keep [2,3,4,12,13,14,16,18],hs.sub⟩) ?_
 clear ha hs
 rintro μ a w ⟨i,s,v,⟨rfl,hi,t,u⟩,ha,hs⟩
 refine wp_seq_cut (M:=λa w=>i<10∧Fr a 211 [(2,.slice aP P.length cP),(3,.slice aO O.length cO),(4,.slice a4 len4 cap4),(12,pt b12),(13,pt b13),(14,pt M.mb),(16,pt N.mb),(18,.int .i64 i)]∧St W w (MuJ W M sumP cf (8*i) s::MuJ W N sumP cg (8*i) v::blk b13 27 (cfC cg)::blk b12 27 (cfC cf)::[])) ?_ ?_
 ·
  refine BY 6 ha hs (λhg4 a ha=>?_) λhg4 a ha=>?_
  ·
   refine RN 6 ha hs λa ha=>?_
   exact⟨by omega,ha.keep [2,3,4,12,13,14,16,18],hs⟩
  refine IF 5 ha hs (λhc2 a ha=>?_) λhc2 a ha=>?_
  ·
   refine RN 0 ha hs λa ha=>?_
   exact⟨by omega,ha.keep [2,3,4,12,13,14,16,18],hs⟩
  refine RT 2 ha hs ?_
  exact⟨rfl,hs.below⟩
 clear ha;(try clear hs)
 rintro a w ⟨hi10,ha,hs⟩
 refine RN 1 ha hs λa ha=>?_
 refine wp_seq_cut (M:=λa w=>∃ s v:Pl,(Two sumP 12 0 [P.take (i+1),O.take i] s∧Two sumP 12 0 [P.take (i+1),O.take i] v)∧Fr a 211 [(2,.slice aP P.length cP),(3,.slice aO O.length cO),(4,.slice a4 len4 cap4),(12,pt b12),(13,pt b13),(14,pt M.mb),(16,pt N.mb),(18,.int .i64 i)]∧St W w (MuJ W M sumP cf (8*i+1) s::MuJ W N sumP cg (8*i+1) v::blk b13 27 (cfC cg)::blk b12 27 (cfC cf)::[])) ?_ ?_
 ·
  refine DWC 1 (λw0 w'=>RdB w' aP P.length P) [10,15] [0,1,2,3,4,5,6,7,8,11,12,13,14,3009,3015,1010,1016,17,18] ha hs λa w ha hs hH=>?_
  have hC:=hH.at w (hrP.old hs)
  refine RH 5 ha hs hH hC λa ha=>?_
  refine ha.by (s:=92) (λhg4 ha=>?_) (λhg4 ha=>?_)
  ·
   obtain⟨bp,op,hade,_⟩:=hrP.get (by omega)
   have hip:i<P.length:=by omega
   have htl:(P.take i).length=i:=by rw[List.length_take];omega
   have hol:(O.take i).length≤i:=by rw[List.length_take];omega
   obtain⟨e1,t2⟩:=t.press (P.getD i 0) (by show (P.take i).length<1000;omega) (by show (P.take i).length<_;omega)
   obtain⟨e2,u2⟩:=u.press (P.getD i 0) (by show (P.take i).length<1000;omega) (by show (P.take i).length<_;omega)
   have hpt:P.take i++[P.getD i 0]=P.take (i+1):=by rw[List.getD_eq_getElem?_getD,List.getElem?_eq_getElem hip];exact List.take_append_getElem ..
   replace t2:Two sumP 12 0 [P.take i++[P.getD i 0],O.take i] (pressP sumP (P.getD i 0) s).2:=t2
   replace u2:Two sumP 12 0 [P.take i++[P.getD i 0],O.take i] (pressP sumP (P.getD i 0) v).2:=u2
   rw[hpt]at t2 u2
   refine RH 3 ha hs hH hC λa ha=>?_
   rw[hade]at ha
   refine RH 1 ha hs hH hC λa ha=>?_
   rw[← hade]at ha
   refine RH 3 ha hs hH hC λa ha=>?_
   rw[hade]at ha
   refine RH 1 ha hs hH hC λa ha=>?_
   rw[← hade]at ha
   refine QH ha (λw hc=>ld1 ha (RdB.cellL hc hade hip)) hC λa ha=>?_
   refine QH ha (λw hc=>ld1 ha (RdB.cellL hc hade hip)) hC λa ha=>?_
   refine RH 0 ha hs hH hC λa ha=>?_
   refine CL 0 ha hs ((mu_play (M:=M) (cf:=cf) sumP_ok (by decide)).press _ _ _ s (P.getD i 0) (by omega) t.wf hs) λa w ha hs=>?_
   replace hC:=hH.at w (hrP.old hs)
   rw[e1]at ha
   refine RH 0 ha hs hH hC λa ha=>?_
   refine CL 0 ha hs ((mu_play (M:=N) (cf:=cg) sumP_ok (by decide)).press _ _ _ v (P.getD i 0) (by omega) u.wf (hs.pick (MuJ W N sumP cg (8*i) v))) λa w ha hs=>?_
   rw[e2]at ha
   refine RN 2 ha hs λa ha=>?_
   replace ha:=ha.isF 106
   refine RN 1 ha hs λa ha=>?_
   exact⟨(pressP sumP (P.getD i 0) s).2,(pressP sumP (P.getD i 0) v).2,⟨t2,u2⟩,ha.keep [2,3,4,12,13,14,16,18],hs.sub⟩
  refine RH 14 ha hs hH hC λa ha=>?_
  refine RN 1 ha hs λa ha=>?_
  have hpt:P.take i=P.take (i+1):=by rw[List.take_of_length_le (by omega),List.take_of_length_le (by omega)]
  rw[hpt]at t u
  exact⟨s,v,⟨t,u⟩,ha.keep [2,3,4,12,13,14,16,18],(MuJ.more (j:=8*i+1) ((MuJ.more (j:=8*i+1) hs (by omega)).pick (MuJ W N sumP cg (8*i) v)) (by omega)).sub⟩
 clear ha;(try clear hs)
 rintro a w ⟨s,v,⟨t,u⟩,ha,hs⟩
 refine RN 3 ha hs λa ha=>?_
 refine wp_loop_ghost (λμ a w=>∃ (q:Nat),(μ=6-q∧q≤6)∧Fr a 211 [(2,.slice aP P.length cP),(3,.slice aO O.length cO),(4,.slice a4 len4 cap4),(12,pt b12),(13,pt b13),(14,pt M.mb),(16,pt N.mb),(18,.int .i64 i),(19,.int .i64 q)]∧St W w (MuJ W M sumP cf (8*i+1+q) s::MuJ W N sumP cg (8*i+1+q) v::blk b13 27 (cfC cg)::blk b12 27 (cfC cf)::[])) (6) (⟨0,⟨rfl,by omega⟩,ha.keep [2,3,4,12,13,14,16,18,19],hs.sub⟩) ?_
 clear ha hs
 rintro μ a w ⟨q,⟨rfl,hq⟩,ha,hs⟩
 refine BY 5 ha hs (λhg2 a ha=>?_) λhg2 a ha=>?_
 ·
  refine IF 7 ha hs (λhc4 a ha=>?_) λhc4 a ha=>?_
  ·
   have hi2:i+q<xs.length:=by omega
   obtain⟨bf,of,rfl,hbf,hrf⟩:=(hxr _ _ hs).resolve_left (by omega)
   have hcf:=hrf (i+q) (.int .i64 xs[i+q]) (by rw[List.getElem?_map,List.getElem?_eq_getElem hi2];rfl)
   have hyw:=hxw xs[i+q] (List.getElem_mem _)
   generalize xs[i+q]=y at hcf hyw
   refine RN 7 ha hs λa ha=>?_
   rw[show (i:Int)+(q:Int)=((i+q:Nat):Int) from by omega]at ha
   refine RN 1 ha hs λa ha=>?_
   refine SS ha (ld1 ha (hcf)) λa ha=>?_
   refine CL1 0 ha hs (small_nat (k:=4) hs (by decide)) λr3 a w ha ⟨hr3,hs⟩=>?_
   refine CL1 0 ha hs (mu_workJ (y:=r3) hs sumP_ok (by decide) (by omega)) λz a w ha ⟨_,hs⟩=>?_
   refine RN 0 ha hs λa ha=>?_
   have hcf2:=(hxr _ _ hs).resolve_left (by omega)
   obtain⟨bg,og,he9,_,hrg⟩:=hcf2
   cases he9
   have hcg2:=hrg (i+q) (.int .i64 xs[i+q]) (by rw[List.getElem?_map,List.getElem?_eq_getElem hi2];rfl)
   have hyw2:=(Lit.wf_int_iff .i64 _).1 (hxw xs[i+q] (List.getElem_mem _))
   generalize xs[i+q]=y2 at hcg2 hyw2
   have hq4:IntKind.i64.wrap (y2.tdiv 4)=y2.tdiv 4:=by
     have h1:(y2.tdiv 4).natAbs=y2.natAbs/4:=Int.natAbs_tdiv y2 4
     have h3:(-9223372036854775808:Int)≤y2∧y2≤9223372036854775807:=hyw2
     generalize y2.tdiv 4=t9 at h1
     exact wrap_in (by omega) (by omega)
   refine RN 5 ha hs λa ha=>?_
   rw[show (i:Int)+(q:Int)=((i+q:Nat):Int) from by omega]at ha
   refine RN 1 ha hs λa ha=>?_
   refine SS ha (ld1 ha (hcg2)) λa ha=>?_
   refine RN 0 ha hs λa ha=>?_
   refine SS ha (ex_quo ha (by decide) hq4) λa ha=>?_
   refine CL1 0 ha hs (small_nat (k:=4) hs (by decide)) λr5 a w ha ⟨hr5,hs⟩=>?_
   refine CL1 0 ha hs (mu_workJ (y:=r5) (hs.pick (MuJ W N sumP cg (8*i+1+q) v)) sumP_ok (by decide) (by omega)) λz2 a w ha ⟨_,hs⟩=>?_
   refine RN 3 ha hs λa ha=>?_
   exact⟨6-(q+1),by omega,q+1,⟨rfl,by omega⟩,ha.keep [2,3,4,12,13,14,16,18,19],hs.sub⟩
  refine RN 0 ha hs λa ha=>?_
  refine wp_seq_cut (M:=λa w=>∃ s v:Pl,(Two sumP 12 0 [P.take (i+1),O.take (i+1)] s∧Two sumP 12 0 [P.take (i+1),O.take (i+1)] v)∧Fr a 211 [(2,.slice aP P.length cP),(3,.slice aO O.length cO),(4,.slice a4 len4 cap4),(12,pt b12),(13,pt b13),(14,pt M.mb),(16,pt N.mb),(18,.int .i64 i)]∧St W w (MuJ W M sumP cf (8*i+8) s::MuJ W N sumP cg (8*i+8) v::blk b13 27 (cfC cg)::blk b12 27 (cfC cf)::[])) ?_ ?_
  ·
   refine RN 1 ha hs λa ha=>?_
   replace hs:=(MuJ.more (j:=8*i+7) ((MuJ.more (j:=8*i+7) hs (by omega)).pick (MuJ W N sumP cg (8*i+1+q) v)) (by omega))
   refine IF 4 ha hs (λhc5 a ha=>?_) λhc5 a ha=>?_
   ·
    have hio:i<O.length:=by omega
    have hte:(O.drop i).take 1=[O[i]]:=by rw[List.drop_eq_getElem_cons hio];rfl
    obtain⟨e3,t3⟩:=t.recv (f:=i) (bs:=[O[i]]) (by omega) (by simp)
    obtain⟨e4,u3⟩:=u.recv (f:=i) (bs:=[O[i]]) (by omega) (by simp)
    replace e3:(recvP sumP (encO (pkT i [O[i]])) s).1=0:=e3
    replace e4:(recvP sumP (encO (pkT i [O[i]])) v).1=0:=e4
    replace t3:Two sumP 12 0 [P.take (i+1),putLn (O.take i) i [O[i]]] (recvP sumP (encO (pkT i [O[i]])) s).2:=t3
    replace u3:Two sumP 12 0 [P.take (i+1),putLn (O.take i) i [O[i]]] (recvP sumP (encO (pkT i [O[i]])) v).2:=u3
    rw[putLn_one hio (by omega)]at t3 u3
    refine RN 6 ha hs λa ha=>?_
    rw[show (i:Int)+1=((i+1:Nat):Int) from by omega]at ha
    refine RN 1 ha hs λa ha=>?_
    rw[show i+1-i=1 from by omega]at ha
    refine CL2 1 ha hs (refPacket_spec (p:=pkT i [O[i]]) (ad:=cutAd aO i cO 1) (c:=cO-i) hs (by show 0<4294967296;decide) (λw' hw=>by
      have h:=(hrO.old hw).cutLH (c:=cO) (lo:=i) (n:=1) (by omega) hcO
      rw[hte]at h;exact h)) λadE cE a w ha hs=>?_
    have hEl:=encO_len (pkT i [O[i]])
    generalize encO (pkT i [O[i]])=E at ha hs hEl e3 e4 t3 u3
    have hEc:=(hs.sl adE).2
    refine CL 4 ha hs ((mu_play (M:=M) (cf:=cf) sumP_ok (by decide)).recv _ _ _ s E adE cE (by omega) t.wf (by omega) hEc (λw' hw'=>(hw'.pick (Sl 5 1 adE E.length cE (bc E))).rdB adE _ rfl rfl) (hs.pick (MuJ W M sumP cf (8*i+7) s))) λa w ha hs=>?_
    rw[e3]at ha
    refine CL 2 ha hs ((mu_play (M:=N) (cf:=cg) sumP_ok (by decide)).recv _ _ _ v E adE cE (by omega) u.wf (by omega) hEc (λw' hw'=>(hw'.pick (Sl 5 1 adE E.length cE (bc E))).rdB adE _ rfl rfl) (hs.pick (MuJ W N sumP cg (8*i+7) v))) λa w ha hs=>?_
    rw[e4]at ha
    refine RN 1 ha hs λa ha=>?_
    replace ha:=ha.isF 156
    refine RN 1 ha hs λa ha=>?_
    exact⟨(recvP sumP E s).2,(recvP sumP E v).2,⟨t3,u3⟩,ha.keep [2,3,4,12,13,14,16,18],hs.sub⟩
   refine RN 0 ha hs λa ha=>?_
   have hpt:O.take i=O.take (i+1):=by rw[List.take_of_length_le (by omega),List.take_of_length_le (by omega)]
   rw[hpt]at t u
   exact⟨s,v,⟨t,u⟩,ha.keep [2,3,4,12,13,14,16,18],(MuJ.more (j:=8*i+8) ((MuJ.more (j:=8*i+8) (hs.pick (MuJ W M sumP cf (8*i+7) s)) (by omega)).pick (MuJ W N sumP cg (8*i+7) v)) (by omega)).sub⟩
  clear ha;(try clear hs)
  rintro a w ⟨s,v,⟨t,u⟩,ha,hs⟩
  refine CL2 2 ha hs ((mu_play (M:=M) (cf:=cf) sumP_ok (by decide)).disp _ _ _ s (by omega) t.wf hs) λad1 c1 a w ha hs=>?_
  refine CL2 7 ha hs ((mu_play (M:=N) (cf:=cg) sumP_ok (by decide)).disp _ _ _ v (by omega) u.wf (hs.pick (MuJ W N sumP cg (8*i+8) v))) λad2 c2 a w ha hs=>?_
  refine CL2 7 ha hs ((mu_play (M:=M) (cf:=cf) sumP_ok (by decide)).conf _ _ _ s (by omega) t.wf (hs.pick (MuJ W M sumP cf (8*i+8) s))) λad3 c3 a w ha hs=>?_
  refine CL2 7 ha hs ((mu_play (M:=N) (cf:=cg) sumP_ok (by decide)).conf _ _ _ v (by omega) u.wf (hs.pick (MuJ W N sumP cg (8*i+8) v))) λad4 c4 a w ha hs=>?_
  refine RN 5 ha hs λa ha=>?_
  rw[hgg,← t.disp_eq u,u.conf]at ha hs
  rw[t.conf]at ha hs
  have hdl:(dispG sumP M.B.gs s).1.length=128:=by
    rw[dispG];split
    · exact gameB_len _
    · exact gameB_len _
  generalize dispG sumP M.B.gs s=d at ha hs hdl
  have hcl:(gameB (gameAt sumP [P.take (i+1),O.take (i+1)] (frontL [P.take (i+1),O.take (i+1)]))).length=128:=gameB_len _
  generalize gameB (gameAt sumP [P.take (i+1),O.take (i+1)] (frontL [P.take (i+1),O.take (i+1)]))=g at ha hs hcl
  refine RN 5 ha hs λa ha=>?_
  rw[decide_eq_false (by omega)]at ha
  refine RN 1 ha hs λa ha=>?_
  refine st_set ha (wgT ha rfl (s:=180)) (ex_toString ha Tryz.underlying22 Tryz.underlying5 Tryz.underlying9 ((hs.rdB ad1 _ rfl hdl))) rfl λa ha=>?_
  refine RN 1 ha hs λa ha=>?_
  refine st_set ha (wgT ha rfl (s:=180)) (ex_toString ha Tryz.underlying22 Tryz.underlying5 Tryz.underlying9 ((hs.rdB ad2 _ rfl hdl))) rfl λa ha=>?_
  refine RN 0 ha hs λa ha=>?_
  refine st_set ha (wgT ha rfl (s:=180)) (ex_neqS ha) rfl λa ha=>?_
  rw[str_beq,beq_self_eq_true,Bool.not_true]at ha
  refine RN 2 ha hs λa ha=>?_
  replace ha:=ha.isF 187
  refine RN 5 ha hs λa ha=>?_
  rw[decide_eq_false (by omega)]at ha
  refine RN 1 ha hs λa ha=>?_
  refine st_set ha (wgT ha rfl (s:=192)) (ex_toString ha Tryz.underlying22 Tryz.underlying5 Tryz.underlying9 ((hs.rdB ad3 _ rfl hcl))) rfl λa ha=>?_
  refine RN 1 ha hs λa ha=>?_
  refine st_set ha (wgT ha rfl (s:=192)) (ex_toString ha Tryz.underlying22 Tryz.underlying5 Tryz.underlying9 ((hs.rdB ad4 _ rfl hcl))) rfl λa ha=>?_
  refine RN 0 ha hs λa ha=>?_
  refine st_set ha (wgT ha rfl (s:=192)) (ex_neqS ha) rfl λa ha=>?_
  rw[str_beq,beq_self_eq_true,Bool.not_true]at ha
  refine RN 2 ha hs λa ha=>?_
  replace ha:=ha.isF 199
  refine CL 2 ha hs (boundsJ (hs.pick (MuJ W M sumP cf (8*i+8) s))) λa w ha hs=>?_
  refine RN 3 ha hs λa ha=>?_
  replace ha:=ha.isF 205
  refine CL 2 ha hs (boundsJ (hs.pick (MuJ W N sumP cg (8*i+8) v))) λa w ha hs=>?_
  refine RN 2 ha hs λa ha=>?_
  replace ha:=ha.isF 210
  refine RN 4 ha hs λa ha=>?_
  exact⟨10-(i+1),by omega,i+1,s,v,⟨rfl,by omega,t,u⟩,ha.keep [2,3,4,12,13,14,16,18],by rw[show 8*(i+1)=8*i+8 from by omega];exact hs.sub⟩
 refine RN 8 ha hs λa ha=>?_
 refine wp_seq_cut (M:=λa w=>∃ s v:Pl,(Two sumP 12 0 [P.take (i+1),O.take (i+1)] s∧Two sumP 12 0 [P.take (i+1),O.take (i+1)] v)∧Fr a 211 [(2,.slice aP P.length cP),(3,.slice aO O.length cO),(4,.slice a4 len4 cap4),(12,pt b12),(13,pt b13),(14,pt M.mb),(16,pt N.mb),(18,.int .i64 i)]∧St W w (MuJ W M sumP cf (8*i+8) s::MuJ W N sumP cg (8*i+8) v::blk b13 27 (cfC cg)::blk b12 27 (cfC cf)::[])) ?_ ?_
 ·
  refine RN 1 ha hs λa ha=>?_
  replace hs:=(MuJ.more (j:=8*i+7) ((MuJ.more (j:=8*i+7) hs (by omega)).pick (MuJ W N sumP cg (8*i+1+q) v)) (by omega))
  refine IF 4 ha hs (λhc5 a ha=>?_) λhc5 a ha=>?_
  ·
   have hio:i<O.length:=by omega
   have hte:(O.drop i).take 1=[O[i]]:=by rw[List.drop_eq_getElem_cons hio];rfl
   obtain⟨e3,t3⟩:=t.recv (f:=i) (bs:=[O[i]]) (by omega) (by simp)
   obtain⟨e4,u3⟩:=u.recv (f:=i) (bs:=[O[i]]) (by omega) (by simp)
   replace e3:(recvP sumP (encO (pkT i [O[i]])) s).1=0:=e3
   replace e4:(recvP sumP (encO (pkT i [O[i]])) v).1=0:=e4
   replace t3:Two sumP 12 0 [P.take (i+1),putLn (O.take i) i [O[i]]] (recvP sumP (encO (pkT i [O[i]])) s).2:=t3
   replace u3:Two sumP 12 0 [P.take (i+1),putLn (O.take i) i [O[i]]] (recvP sumP (encO (pkT i [O[i]])) v).2:=u3
   rw[putLn_one hio (by omega)]at t3 u3
   refine RN 6 ha hs λa ha=>?_
   rw[show (i:Int)+1=((i+1:Nat):Int) from by omega]at ha
   refine RN 1 ha hs λa ha=>?_
   rw[show i+1-i=1 from by omega]at ha
   refine CL2 1 ha hs (refPacket_spec (p:=pkT i [O[i]]) (ad:=cutAd aO i cO 1) (c:=cO-i) hs (by show 0<4294967296;decide) (λw' hw=>by
     have h:=(hrO.old hw).cutLH (c:=cO) (lo:=i) (n:=1) (by omega) hcO
     rw[hte]at h;exact h)) λadE cE a w ha hs=>?_
   have hEl:=encO_len (pkT i [O[i]])
   generalize encO (pkT i [O[i]])=E at ha hs hEl e3 e4 t3 u3
   have hEc:=(hs.sl adE).2
   refine CL 4 ha hs ((mu_play (M:=M) (cf:=cf) sumP_ok (by decide)).recv _ _ _ s E adE cE (by omega) t.wf (by omega) hEc (λw' hw'=>(hw'.pick (Sl 5 1 adE E.length cE (bc E))).rdB adE _ rfl rfl) (hs.pick (MuJ W M sumP cf (8*i+7) s))) λa w ha hs=>?_
   rw[e3]at ha
   refine CL 2 ha hs ((mu_play (M:=N) (cf:=cg) sumP_ok (by decide)).recv _ _ _ v E adE cE (by omega) u.wf (by omega) hEc (λw' hw'=>(hw'.pick (Sl 5 1 adE E.length cE (bc E))).rdB adE _ rfl rfl) (hs.pick (MuJ W N sumP cg (8*i+7) v))) λa w ha hs=>?_
   rw[e4]at ha
   refine RN 1 ha hs λa ha=>?_
   replace ha:=ha.isF 156
   refine RN 1 ha hs λa ha=>?_
   exact⟨(recvP sumP E s).2,(recvP sumP E v).2,⟨t3,u3⟩,ha.keep [2,3,4,12,13,14,16,18],hs.sub⟩
  refine RN 0 ha hs λa ha=>?_
  have hpt:O.take i=O.take (i+1):=by rw[List.take_of_length_le (by omega),List.take_of_length_le (by omega)]
  rw[hpt]at t u
  exact⟨s,v,⟨t,u⟩,ha.keep [2,3,4,12,13,14,16,18],(MuJ.more (j:=8*i+8) ((MuJ.more (j:=8*i+8) (hs.pick (MuJ W M sumP cf (8*i+7) s)) (by omega)).pick (MuJ W N sumP cg (8*i+7) v)) (by omega)).sub⟩
 clear ha;(try clear hs)
 rintro a w ⟨s,v,⟨t,u⟩,ha,hs⟩
 refine CL2 2 ha hs ((mu_play (M:=M) (cf:=cf) sumP_ok (by decide)).disp _ _ _ s (by omega) t.wf hs) λad1 c1 a w ha hs=>?_
 refine CL2 7 ha hs ((mu_play (M:=N) (cf:=cg) sumP_ok (by decide)).disp _ _ _ v (by omega) u.wf (hs.pick (MuJ W N sumP cg (8*i+8) v))) λad2 c2 a w ha hs=>?_
 refine CL2 7 ha hs ((mu_play (M:=M) (cf:=cf) sumP_ok (by decide)).conf _ _ _ s (by omega) t.wf (hs.pick (MuJ W M sumP cf (8*i+8) s))) λad3 c3 a w ha hs=>?_
 refine CL2 7 ha hs ((mu_play (M:=N) (cf:=cg) sumP_ok (by decide)).conf _ _ _ v (by omega) u.wf (hs.pick (MuJ W N sumP cg (8*i+8) v))) λad4 c4 a w ha hs=>?_
 refine RN 5 ha hs λa ha=>?_
 rw[hgg,← t.disp_eq u,u.conf]at ha hs
 rw[t.conf]at ha hs
 have hdl:(dispG sumP M.B.gs s).1.length=128:=by
   rw[dispG];split
   · exact gameB_len _
   · exact gameB_len _
 generalize dispG sumP M.B.gs s=d at ha hs hdl
 have hcl:(gameB (gameAt sumP [P.take (i+1),O.take (i+1)] (frontL [P.take (i+1),O.take (i+1)]))).length=128:=gameB_len _
 generalize gameB (gameAt sumP [P.take (i+1),O.take (i+1)] (frontL [P.take (i+1),O.take (i+1)]))=g at ha hs hcl
 refine RN 5 ha hs λa ha=>?_
 rw[decide_eq_false (by omega)]at ha
 refine RN 1 ha hs λa ha=>?_
 refine st_set ha (wgT ha rfl (s:=180)) (ex_toString ha Tryz.underlying22 Tryz.underlying5 Tryz.underlying9 ((hs.rdB ad1 _ rfl hdl))) rfl λa ha=>?_
 refine RN 1 ha hs λa ha=>?_
 refine st_set ha (wgT ha rfl (s:=180)) (ex_toString ha Tryz.underlying22 Tryz.underlying5 Tryz.underlying9 ((hs.rdB ad2 _ rfl hdl))) rfl λa ha=>?_
 refine RN 0 ha hs λa ha=>?_
 refine st_set ha (wgT ha rfl (s:=180)) (ex_neqS ha) rfl λa ha=>?_
 rw[str_beq,beq_self_eq_true,Bool.not_true]at ha
 refine RN 2 ha hs λa ha=>?_
 replace ha:=ha.isF 187
 refine RN 5 ha hs λa ha=>?_
 rw[decide_eq_false (by omega)]at ha
 refine RN 1 ha hs λa ha=>?_
 refine st_set ha (wgT ha rfl (s:=192)) (ex_toString ha Tryz.underlying22 Tryz.underlying5 Tryz.underlying9 ((hs.rdB ad3 _ rfl hcl))) rfl λa ha=>?_
 refine RN 1 ha hs λa ha=>?_
 refine st_set ha (wgT ha rfl (s:=192)) (ex_toString ha Tryz.underlying22 Tryz.underlying5 Tryz.underlying9 ((hs.rdB ad4 _ rfl hcl))) rfl λa ha=>?_
 refine RN 0 ha hs λa ha=>?_
 refine st_set ha (wgT ha rfl (s:=192)) (ex_neqS ha) rfl λa ha=>?_
 rw[str_beq,beq_self_eq_true,Bool.not_true]at ha
 refine RN 2 ha hs λa ha=>?_
 replace ha:=ha.isF 199
 refine CL 2 ha hs (boundsJ (hs.pick (MuJ W M sumP cf (8*i+8) s))) λa w ha hs=>?_
 refine RN 3 ha hs λa ha=>?_
 replace ha:=ha.isF 205
 refine CL 2 ha hs (boundsJ (hs.pick (MuJ W N sumP cg (8*i+8) v))) λa w ha hs=>?_
 refine RN 2 ha hs λa ha=>?_
 replace ha:=ha.isF 210
 refine RN 4 ha hs λa ha=>?_
 exact⟨10-(i+1),by omega,i+1,s,v,⟨rfl,by omega,t,u⟩,ha.keep [2,3,4,12,13,14,16,18],by rw[show 8*(i+1)=8*i+8 from by omega];exact hs.sub⟩
end
section
set_option maxRecDepth 100000
theorem and2 {x y:Bool}(h:x=true)(k:y=true):(x&&y)=true:=by rw[h,k];rfl
theorem joined_of {P:Program}{f:FuncId}{fn:Func}{s:ChangeSpec}{c:OpenClaim}(k1:c.wf (OpenSpec.ofChange s)=true)(k2:laidOutB P=true)(k3:mapsRowed P=true)(k4:fn.params.all (P.readableRec ·)=true)(k5:namedTie P c.named s.vars=true)
   (k6:(c.stops==[])=true) (k7:(P.stops==[])=true) (k8:(c.knobs==[])=true) (k9:(P.stopKnobs==[])=true) (k10:(c.inPlace==P.inPlace f)=true) (k11:(c.unfollowed==P.unfollowed f)=true) (k12:(c.recurses==P.recurses f)=true) (k13:(c.named==P.varsNamed f)=true)
   (k14:(c.maps==(fn.params.toList++s.plain.varTypes P).any (P.mapsRec ·))=true) (k15:(c.ifaces==(fn.params.toList++s.plain.varTypes P).any (P.ifacesRec ·))=true) (k16:(c.mapsOut==P.mapsAmong fn.resultTypes.toList)=true)
   (k17:(c.loops==(fn.params.toList++s.plain.varTypes P).any (P.loopsFrom ·))=true) (k18:(c.wideKeys==(fn.params.toList++s.plain.varTypes P++fn.resultTypes.toList).any (P.wideKeysFrom ·))=true) (k19:s.vars.all (P.varReadable ·)=true) (k20:fn.resultTypes.all (λt=>P.readableRec t&&decide (t<P.types.size))=true)
   (k21:(c.ifacesOut==fn.resultTypes.toList.any (P.ifacesRec ·))=true) (k22:(c.loopsOut==fn.resultTypes.toList.any (P.loopsFrom ·))=true) (k23:(c.plainKeys==P.plainKeys)=true) (k24:c.shortTexts.isNone=true) (k25:P.stopsHeard=true) (k26:P.mayEnter=true) (k27:(c.lifted==P.liftsFinal)=true) (k28:(P.make==some c.make)=true)
   (k29:(c.kinds==(if c.domain.isEmpty then [] else fn.params.toList.map λt=>match P.underlying t with | some (.int k)=>some k | _=>none))=true) (k30:(c.pinned==c.pinnedBy)=true) (k31:(c.veiled==(fn.params.toList++s.plain.varTypes P++fn.resultTypes.toList).any (P.veiledRec ·))=true) (k32:c.veiledFits P fn.params.toList (fn.params.toList++s.plain.varTypes P++fn.resultTypes.toList)=true):joinedFacts P f fn s c=true:=by
 unfold joinedFacts
 exact and2 (and2 (and2 (and2 (and2 (and2 (and2 (and2 (and2 (and2 (and2 (and2 (and2 (and2 (and2 (and2 (and2 (and2 (and2 (and2 (and2 (and2 (and2 (and2 (and2 (and2 (and2 (and2 (and2 (and2 (and2 k1 k2) k3) k4) k5) k6) k7) k8) k9) k10) k11) k12) k13) k14) k15) k16) k17) k18) k19) k20) k21) k22) k23) k24) k25) k26) k27) k28) k29) k30) k31) k32
theorem fLaid:laidOutB Tryz.prog=true:=by kernel_rfl
theorem fMaps:mapsRowed Tryz.prog=true:=by kernel_rfl
theorem fHeard:Tryz.prog.stopsHeard=true:=by kernel_rfl
theorem fEnter:Tryz.prog.mayEnter=true:=by kernel_rfl
theorem fKeys (c:OpenClaim)(h:c.plainKeys=Rows.multiNoneRow.plainKeys):(c.plainKeys==Tryz.prog.plainKeys)=true:=by
 rw[h];kernel_rfl
theorem fLift (c:OpenClaim)(h:c.lifted=Rows.multiNoneRow.lifted):(c.lifted==Tryz.prog.liftsFinal)=true:=by
 rw[h];kernel_rfl
theorem fMake (c:OpenClaim)(h:c.make=Rows.multiNoneRow.make):(Tryz.prog.make==some c.make)=true:=by
 rw[h];kernel_rfl
end
end Go.Proofs.YtdilfdkendjjhaaGreat
