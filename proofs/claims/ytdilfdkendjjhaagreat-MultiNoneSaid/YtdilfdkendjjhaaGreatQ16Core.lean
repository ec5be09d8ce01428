/- What a player knows, in memory: core.May, New, Conf, Queue, Head, Closed, Press, note, hold, Mark, Marks, Events. -/
import Derived.Test.YtdilfdkendjjhaaGreatQ15Que
import Derived.Test.YtdilfdkendjjhaaGreatQ14Byt
import Derived.Test.YtdilfdkendjjhaaGreatQ12Vm
import Derived.Test.YtdilfdkendjjhaaGreatQ13Wk
import Derived.ChangeSame
import Derived.Test.YtdilfdkendjjhaaGreatQ04Ty
namespace Go.Proofs.YtdilfdkendjjhaaGreat
open Go.RowKit
set_option linter.unusedVariables false
set_option linter.unusedSimpArgs false
set_option maxRecDepth 10000
set_option synthInstance.maxSize 4000
set_option synthInstance.maxHeartbeats 400000
section
abbrev peC (p:Pe):List Value:=[.int .i64 p.has,.int .i64 p.heard,.int .i64 p.frame,.int .u32 p.sum,.bool p.apart]
theorem peC_len (p:Pe):(peC p).length=5:=rfl
theorem peC_one (p:Pe):∀ v∈peC p,v.oneCell'=true:=by
 intro v hv
 simp[peC]at hv
 rcases hv with rfl | rfl | rfl | rfl | rfl <;> rfl
def mrC (l:List Nat):List Value:=l.map λs:Nat=>Value.int .u32 (s:Int)
structure CoB where
 cb:Nat
 qb:Nat
 lbs:List Nat
 bp:Nat
 op:Nat
structure CoA where
 cP:Nat
 adM:Option Addr
 cM:Nat
 adE:Option Addr
 cE:Nat
abbrev coC (k:Ks)(B:CoB)(A:CoA):List Value:=[.int .i64 k.n,.int .i64 k.me,.int .i64 k.id,.int .i64 k.delay,.int .i64 k.window,.int .i64 k.guess,.int .i64 k.order,.int .i64 k.branches,.int .i64 k.workers,.int .i64 k.room,
 pt B.qb,.slice (some ⟨B.bp,B.op,none⟩) k.ps.length A.cP,.slice A.adM k.mr.length A.cM,.slice A.adE k.ev.length A.cE,.int .i64 k.now,.bool k.cl]
def CoreS (B:CoB)(k:Ks):SP:=λh=>∃ A:CoA,sepL [blk B.cb 231 (coC k B A),Sl 261 5 (some ⟨B.bp,B.op,none⟩) k.ps.length A.cP (rows peC k.ps),Sl 68 1 A.adM k.mr.length A.cM (mrC k.mr),Sl 256 1 A.adE k.ev.length A.cE (k.ev.map evV),Qu B.qb B.lbs k.ls] h
section
variable {W w:World}{L L' R:List SP}{n c cb qb i:Nat}{ad:Option Addr}{lbs:List Nat}{k:Ks}{A:CoA}{B:CoB}{cf:Cf}{e:Evt}
theorem CoreS.open (hs:St W w (CoreS B k::L)):∃ A:CoA,St W w (blk B.cb 231 (coC k B A)::Sl 261 5 (some ⟨B.bp,B.op,none⟩) k.ps.length A.cP (rows peC k.ps)::Sl 68 1 A.adM k.mr.length A.cM (mrC k.mr)::Sl 256 1 A.adE k.ev.length A.cE (k.ev.map evV)::Qu B.qb B.lbs k.ls::L):=by
 obtain⟨A,_,hs⟩:=hs.exi (ι:=CoA) (p:=λ_=>True) (B:=λA h=>sepL [blk B.cb 231 (coC k B A),Sl 261 5 (some ⟨B.bp,B.op,none⟩) k.ps.length A.cP (rows peC k.ps),Sl 68 1 A.adM k.mr.length A.cM (mrC k.mr),Sl 256 1 A.adE k.ev.length A.cE (k.ev.map evV),Qu B.qb B.lbs k.ls] h) λ_ ⟨A,h⟩=>⟨A,trivial,h⟩
 exact⟨A,hs.open (M:=[_,_,_,_,_]) λ_ h=>h⟩
theorem CoreS.close (hs:St W w (blk B.cb 231 (coC k B A)::Sl 261 5 (some ⟨B.bp,B.op,none⟩) k.ps.length A.cP (rows peC k.ps)::Sl 68 1 A.adM k.mr.length A.cM (mrC k.mr)::Sl 256 1 A.adE k.ev.length A.cE (k.ev.map evV)::Qu B.qb B.lbs k.ls::L)):St W w (CoreS B k::L) :=
 St.shut (M:=[_,_,_,_,_]) hs λ_ h=>⟨A,h⟩
theorem CoreS.mk' (hs:St W w L)(A:CoA)[kk:Arr L (blk B.cb 231 (coC k B A)::Sl 261 5 (some ⟨B.bp,B.op,none⟩) k.ps.length A.cP (rows peC k.ps)::Sl 68 1 A.adM k.mr.length A.cM (mrC k.mr)::Sl 256 1 A.adE k.ev.length A.cE (k.ev.map evV)::Qu B.qb B.lbs k.ls::L') R]:St W w (CoreS B k::L'):=CoreS.close (A:=A) hs.sub
theorem core_in {x lo hi:Int}(hs:St W w L):Calls Tryz.prog 220 #[.int .i64 x,.int .i64 lo,.int .i64 hi] w λe w'=>∃ r:Bool,e=.returned (.bool r)∧(r=true↔inI x lo hi)∧St W w' L:=by
 refine EN Tryz.func220 Tryz.ntmps220 rfl rfl λa ha=>?_
 refine BY 7 ha hs (λhg3 a ha=>?_) λhg3 a ha=>?_
 ·
  refine RT 5 ha hs ?_
  exact⟨_,rfl,⟨λh=>⟨hg3,of_decide_eq_true h⟩,λh=>decide_eq_true h.2⟩,hs⟩
 refine RT 5 ha hs ?_
 exact⟨_,rfl,⟨λh=>(by cases h),λh=>by have:=h.1;omega⟩,hs⟩
theorem core_may (hs:St W w L):Calls Tryz.prog 169 #[.agg (cfC cf).toArray] w λe w'=>∃ r:Bool,e=.returned (.bool r)∧(r=true↔mayCf cf)∧St W w' L:=by
 refine EN Tryz.func169 Tryz.ntmps169 rfl rfl λa ha=>?_
 refine BX 1 ha hs λb1 a w ha hs=>?_
 change St W w (blk b1 27 (cfC cf)::_) at hs
 refine RN 1 ha hs λa ha=>?_
 refine wp_seq_cut (M:=λa w=>∃ z:Bool,(z=true↔(inI cf.n 2 8∧inI cf.me 0 (cf.n-1)∧inI cf.id 0 1099511627776))∧Fr a 73 [(1,pt b1),(3,.bool z)]∧St W w (blk b1 27 (cfC cf)::L)) ?_ ?_
 ·
  refine CL1 2 ha hs (core_in hs) λr1 a w ha ⟨hr1,hs⟩=>?_
  refine BY 1 ha hs (λhg3 a ha=>?_) λhg3 a ha=>?_
  ·
   refine RN 4 ha hs λa ha=>?_
   refine SK (st_set ha (wgT ha rfl (s:=8)) (ex_sub ha) rfl ?_);clear ha a;intro a ha
   have hn1:IntKind.i64.wrap (cf.n-1)=cf.n-1:=wrap_in (by have:=(hr1.1 hg3).1;omega) (by have:=(hr1.1 hg3).2;omega)
   rw[hn1]at ha
   refine CL1 0 ha hs (core_in hs) λr2 a w ha ⟨hr2,hs⟩=>?_
   refine BY 2 ha hs (λhg11 a ha=>?_) λhg11 a ha=>?_
   ·
    refine BY 5 ha hs (λhg16 a ha=>?_) λhg16 a ha=>?_
    ·
     refine RN 5 ha hs λa ha=>?_
     exact⟨_,⟨λh=>⟨hr1.1 hg3,hr2.1 hg11,hg16,of_decide_eq_true h⟩,λh=>decide_eq_true h.2.2.2⟩,ha.keep [1,3],hs⟩
    refine RN 5 ha hs λa ha=>?_
    exact⟨_,⟨λh=>(by cases h),λh=>by have:=h.2.2.1;omega⟩,ha.keep [1,3],hs⟩
   refine RN 10 ha hs λa ha=>?_
   exact⟨_,⟨λh=>(by cases h),λh=>by have:=hr2.2 h.2.1;rw[hg11]at this;cases this⟩,ha.keep [1,3],hs⟩
  refine RN 18 ha hs λa ha=>?_
  exact⟨_,⟨λh=>(by cases h),λh=>by have:=hr1.2 h.1;rw[hg3]at this;cases this⟩,ha.keep [1,3],hs⟩
 clear ha;(try clear hs)
 rintro a w ⟨z1,hz1,ha,hs⟩
 refine wp_seq_cut (M:=λa w=>∃ z:Bool,(z=true↔(inI cf.delay 0 8∧inI cf.window 1 16∧inI cf.guess 1 3∧inI cf.order 0 3))∧Fr a 73 [(1,pt b1),(3,.bool z1),(4,.bool z)]∧St W w (blk b1 27 (cfC cf)::L)) ?_ ?_
 ·
  refine CL1 2 ha hs (core_in hs) λr1 a w ha ⟨hr1,hs⟩=>?_
  refine BY 1 ha hs (λhg3 a ha=>?_) λhg3 a ha=>?_
  ·
   refine CL1 2 ha hs (core_in hs) λr2 a w ha ⟨hr2,hs⟩=>?_
   refine BY 2 ha hs (λhg8 a ha=>?_) λhg8 a ha=>?_
   ·
    refine CL1 2 ha hs (core_in hs) λr3 a w ha ⟨hr3,hs⟩=>?_
    refine BY 2 ha hs (λhg13 a ha=>?_) λhg13 a ha=>?_
    ·
     refine CL1 2 ha hs (core_in hs) λr4 a w ha ⟨hr4,hs⟩=>?_
     refine RN 2 ha hs λa ha=>?_
     exact⟨_,⟨λh=>⟨hr1.1 hg3,hr2.1 hg8,hr3.1 hg13,hr4.1 h⟩,λh=>hr4.2 h.2.2.2⟩,ha.keep [1,3,4],hs⟩
    refine RN 5 ha hs λa ha=>?_
    exact⟨_,⟨λh=>(by cases h),λh=>by have:=hr3.2 h.2.2.1;rw[hg13]at this;cases this⟩,ha.keep [1,3,4],hs⟩
   refine RN 10 ha hs λa ha=>?_
   exact⟨_,⟨λh=>(by cases h),λh=>by have:=hr2.2 h.2.1;rw[hg8]at this;cases this⟩,ha.keep [1,3,4],hs⟩
  refine RN 15 ha hs λa ha=>?_
  exact⟨_,⟨λh=>(by cases h),λh=>by have:=hr1.2 h.1;rw[hg3]at this;cases this⟩,ha.keep [1,3,4],hs⟩
 clear ha;(try clear hs)
 rintro a w ⟨z2,hz2,ha,hs⟩
 refine BY 3 ha hs (λhg1 a ha=>?_) λhg1 a ha=>?_
 ·
  refine BY 3 ha hs (λhg4 a ha=>?_) λhg4 a ha=>?_
  ·
   refine BY 4 ha hs (λhg8 a ha=>?_) λhg8 a ha=>?_
   ·
    have hog:cf.order=0∨cf.guess=2:=.inl hg8
    refine CL1 8 ha hs (core_in hs) λr1 a w ha ⟨hr1,hs⟩=>?_
    refine BY 2 ha hs (λhg19 a ha=>?_) λhg19 a ha=>?_
    ·
     refine CL1 2 ha hs (core_in hs) λr2 a w ha ⟨hr2,hs⟩=>?_
     refine BY 2 ha hs (λhg24 a ha=>?_) λhg24 a ha=>?_
     ·
      refine CL1 2 ha hs (core_in hs) λr3 a w ha ⟨hr3,hs⟩=>?_
      refine RT 2 ha hs ?_
      exact⟨_,rfl,⟨λh=>⟨hz1.1 hg1,hz2.1 hg4,hog,hr1.1 hg19,hr2.1 hg24,hr3.1 h⟩,λh=>hr3.2 h.2.2.2.2.2⟩,hs.sub⟩
     refine RT 5 ha hs ?_
     exact⟨_,rfl,⟨λh=>(by cases h),λh=>by have:=hr2.2 h.2.2.2.2.1;rw[hg24]at this;cases this⟩,hs.sub⟩
    refine RT 10 ha hs ?_
    exact⟨_,rfl,⟨λh=>(by cases h),λh=>by have:=hr1.2 h.2.2.2.1;rw[hg19]at this;cases this⟩,hs.sub⟩
   refine BY 6 ha hs (λhg14 a ha=>?_) λhg14 a ha=>?_
   ·
    have hog:cf.order=0∨cf.guess=2:=.inr hg14
    refine CL1 2 ha hs (core_in hs) λr1 a w ha ⟨hr1,hs⟩=>?_
    refine BY 2 ha hs (λhg19 a ha=>?_) λhg19 a ha=>?_
    ·
     refine CL1 2 ha hs (core_in hs) λr2 a w ha ⟨hr2,hs⟩=>?_
     refine BY 2 ha hs (λhg24 a ha=>?_) λhg24 a ha=>?_
     ·
      refine CL1 2 ha hs (core_in hs) λr3 a w ha ⟨hr3,hs⟩=>?_
      refine RT 2 ha hs ?_
      exact⟨_,rfl,⟨λh=>⟨hz1.1 hg1,hz2.1 hg4,hog,hr1.1 hg19,hr2.1 hg24,hr3.1 h⟩,λh=>hr3.2 h.2.2.2.2.2⟩,hs.sub⟩
     refine RT 5 ha hs ?_
     exact⟨_,rfl,⟨λh=>(by cases h),λh=>by have:=hr2.2 h.2.2.2.2.1;rw[hg24]at this;cases this⟩,hs.sub⟩
    refine RT 10 ha hs ?_
    exact⟨_,rfl,⟨λh=>(by cases h),λh=>by have:=hr1.2 h.2.2.2.1;rw[hg19]at this;cases this⟩,hs.sub⟩
   refine RT 15 ha hs ?_
   exact⟨_,rfl,⟨λh=>(by cases h),λh=>by have:=h.2.2.1;omega⟩,hs.sub⟩
  refine RT 25 ha hs ?_
  exact⟨_,rfl,⟨λh=>(by cases h),λh=>by have:=hz2.2 h.2.1;rw[hg4]at this;cases this⟩,hs.sub⟩
 refine RT 28 ha hs ?_
 exact⟨_,rfl,⟨λh=>(by cases h),λh=>by have:=hz1.2 h.1;rw[hg1]at this;cases this⟩,hs.sub⟩
theorem core_new {n me delay window:Nat}{id guess order branches workers room:Int}(hs:St W w L)(h:mayCf ⟨n,me,id,delay,window,guess,order,branches,workers,room⟩) :
   Calls Tryz.prog 110 #[.agg (cfC ⟨n,me,id,delay,window,guess,order,branches,workers,room⟩).toArray] w λe w'=>∃ B,e=.returned (.tuple #[pt B.cb,.int .i64 0])∧St W w' (CoreS B (newK ⟨n,me,id,delay,window,guess,order,branches,workers,room⟩)::L):=by
 have hh:=h
 obtain⟨⟨h1,h2,h3⟩,⟨h4,h5,h6,h7⟩,h8,h9,h10,h11⟩:=hh
 simp only[inI] at *
 refine EN Tryz.func110 Tryz.ntmps110 rfl rfl λa ha=>?_
 refine BX 1 ha hs λb1 a w ha hs=>?_
 change St W w (blk b1 27 (cfC ⟨n,me,id,delay,window,guess,order,branches,workers,room⟩)::_) at hs
 refine CL1 5 ha hs (core_may hs) λr a w ha ⟨hr,hs⟩=>?_
 rw[hr.2 h]at ha
 refine RN 1 ha hs λa ha=>?_
 replace ha:=ha.isF 7
 refine RN 1 ha hs λa ha=>?_
 refine wp_seq_cut (M:=λa w=>∃ cb qb lbs,Fr a 34 [(1,pt b1),(4,pt cb)]∧St W w (blk cb 231 [.int .i64 n,.int .i64 me,.int .i64 id,.int .i64 delay,.int .i64 window,.int .i64 guess,.int .i64 order,.int .i64 branches,.int .i64 workers,.int .i64 room,pt qb,.slice none 0 0,.slice none 0 0,.slice none 0 0,.int .i64 0,.bool false]::Qu qb lbs (List.replicate n (List.replicate delay 0))::blk b1 27 (cfC ⟨n,me,id,delay,window,guess,order,branches,workers,room⟩)::L)) ?_ ?_
 ·
  refine DWC 0 (λw0 w'=>Rd w' b1 0 (cfC ⟨n,me,id,delay,window,guess,order,branches,workers,room⟩)) [2,4,5] [1,3,3000,3002,1004,1005,6,1007,8] ha hs λa w ha hs hH=>?_
  have hC:=hH.at w hs.rdAll
  refine RH 2 ha hs hH hC λa ha=>?_
  refine QH ha (λw hc=>ex_loadN ha Tryz.underlying27 rfl Ty.t27 (hc)) hC λa ha=>?_
  simp only[cfC]at ha
  refine RH 0 ha hs hH hC λa ha=>?_
  refine QH ha (λw hc=>ld1 ha (hc 0 _ rfl)) hC λa ha=>?_
  refine RH 0 ha hs hH hC λa ha=>?_
  refine SS ha (ld1 ha (hC 3 _ rfl)) λa ha=>?_
  refine RH 0 ha hs hH hC λa ha=>?_
  refine CL2 0 ha hs (queue_new (n:=n) (d:=delay) hs (by omega) (by omega)) λqb lbs a w ha hs=>?_
  replace hC:=hH.at w hs.rdAll
  refine RH 1 ha hs hH hC λa ha=>?_
  refine st_box ha rfl hs rfl λb15 a w ha hs ho=>?_
  clear ho
  refine RN 1 ha hs λa ha=>?_
  exact⟨_,qb,lbs,ha.keep [1,4],hs⟩
 clear ha;(try clear hs)
 rintro a w ⟨cb,qb,lbs,ha,hs⟩
 refine RN 5 ha hs λa ha=>?_
 replace hs:=hs.sl0 261 5 none
 refine wp_loop_ghost (λμ a w=>∃ (i:Nat) (ad:Option Addr) (c:Nat),(μ=n-i∧i≤n)∧Fr a 34 [(1,pt b1),(4,pt cb),(17,.int .i64 n),(18,.int .i64 i)]∧St W w (blk cb 231 [.int .i64 n,.int .i64 me,.int .i64 id,.int .i64 delay,.int .i64 window,.int .i64 guess,.int .i64 order,.int .i64 branches,.int .i64 workers,.int .i64 room,pt qb,.slice ad i c,.slice none 0 0,.slice none 0 0,.int .i64 0,.bool false]::Sl 261 5 ad i c (rows peC (List.replicate i (pe0 delay)))::Qu qb lbs (List.replicate n (List.replicate delay 0))::blk b1 27 (cfC ⟨n,me,id,delay,window,guess,order,branches,workers,room⟩)::L)) (n) (⟨0,none,0,⟨rfl,by omega⟩,ha.keep [1,4,17,18],(hs.perm (List.Perm.swap _ _ _):St W w (blk cb 231 _::Sl 261 5 none 0 0 []::_))⟩) ?_
 clear ha hs
 rintro μ a w ⟨i,ad,c,⟨rfl,hi⟩,ha,hs⟩
 refine IF 3 ha hs (λhc1 a ha=>?_) λhc1 a ha=>?_
 ·
  refine DWO 1 [6,7,8] [0,1,2,3,5,3004,1006,1007,1008,1009,10,11,1012] ha hs λa w ha hs hH hC=>?_
  refine RH 8 ha hs hH hC λa ha=>?_
  refine st_buildSlice ha rfl hs Tryz.underlying229 Ty.t261 rfl rfl rfl rfl (by decide) (by decide) λb28 a w ha hs ho=>?_
  replace hC:=hC.trans ho
  clear ho
  refine RH 0 ha hs hH hC λa ha=>?_
  refine st_append ha rfl hs Tryz.underlying229 Ty.t261 rfl rfl hs.rdAll rfl (peC_one (pe0 delay)) (by decide) (by decide) (by omega) λad29 c29 a w ha hs=>?_
  rw[show rows peC (List.replicate i (pe0 delay))++_=rows peC (List.replicate (i+1) (pe0 delay)) from by rw[List.replicate_succ',rows_app];rfl]at hs
  refine ST 2 ha hs (λa w ha hs=>?_)
  refine RN 2 ha hs λa ha=>?_
  exact⟨n-(i+1),by omega,i+1,ad29,c29,⟨rfl,by omega⟩,ha.keep [1,4,17,18],hs.sub⟩
 obtain rfl:i=n:=by omega
 replace hs:=hs.sl0 68 1 none
 replace hs:=hs.sl0 256 1 none
 refine RT 4 ha hs ?_
 obtain⟨bp,op,rfl,_⟩:=(hs.pick (Sl 261 5 ad i c (rows peC (List.replicate i (pe0 delay))))).slRd ad (by omega)
 refine⟨⟨cb,qb,lbs,bp,op⟩,rfl,?_⟩
 refine CoreS.close (A:=⟨c,none,0,none,0⟩) ?_
 have hl:(newK ⟨i,me,id,delay,window,guess,order,branches,workers,room⟩).ps.length=i:=by simp[newK]
 rw[coC,hl]
 exact hs.sub (M:=blk cb 231 [.int .i64 i,.int .i64 me,.int .i64 id,.int .i64 delay,.int .i64 window,.int .i64 guess,.int .i64 order,.int .i64 branches,.int .i64 workers,.int .i64 room,pt qb,.slice (some ⟨bp,op,none⟩) i c,.slice none 0 0,.slice none 0 0,.int .i64 0,.bool false]::Sl 261 5 (some ⟨bp,op,none⟩) i c (rows peC (List.replicate i (pe0 delay)))::Sl 68 1 none 0 0 []::Sl 256 1 none 0 0 []::Qu qb lbs (List.replicate i (List.replicate delay 0))::L)
theorem core_conf (hs:St W w (CoreS B k::L)):Calls Tryz.prog 147 #[pt B.cb] w λe w'=>e=.returned (.agg (cfC (ksCf k)).toArray)∧St W w' (CoreS B k::L):=by
 obtain⟨A,hs⟩:=CoreS.open hs
 refine EN Tryz.func147 Tryz.ntmps147 rfl rfl λa ha=>?_
 refine AL 1 ha hs λb2 a w ha hs=>?_
 refine RN 4 ha hs λa ha=>?_
 replace ha:=ha.isF 4
 refine SA 6 ha hs λa w ha hs=>?_
 refine RT 0 ha hs ?_
 exact⟨rfl,CoreS.close hs.tail⟩
theorem core_queue (hs:St W w (CoreS B k::L)):Calls Tryz.prog 83 #[pt B.cb] w λe w'=>e=.returned (pt B.qb)∧St W w' (CoreS B k::L):=by
 obtain⟨A,hs⟩:=CoreS.open hs
 refine EN Tryz.func83 Tryz.ntmps83 rfl rfl λa ha=>?_
 refine RN 6 ha hs λa ha=>?_
 replace ha:=ha.isF 4
 refine RT 7 ha hs ?_
 exact⟨rfl,CoreS.close hs⟩
theorem CoreS.quX (hs:St W w (CoreS B k::L)):∃ D:SP,St W w (Qu B.qb B.lbs k.ls::D::L)∧∀ (w':World)(L':List SP)(ls':List (List UInt8)),St W w' (Qu B.qb B.lbs ls'::D::L')→St W w' (CoreS B { k with ls:=ls' }::L'):=by
 obtain⟨A,hs⟩:=CoreS.open hs
 refine⟨λh=>sepL [blk B.cb 231 (coC k B A),Sl 261 5 (some ⟨B.bp,B.op,none⟩) k.ps.length A.cP (rows peC k.ps),Sl 68 1 A.adM k.mr.length A.cM (mrC k.mr),Sl 256 1 A.adE k.ev.length A.cE (k.ev.map evV)] h,?_,λw' L' ls' hs=>?_⟩
 · refine St.perm (L:=(λh=>sepL [blk B.cb 231 (coC k B A),Sl 261 5 (some ⟨B.bp,B.op,none⟩) k.ps.length A.cP (rows peC k.ps),Sl 68 1 A.adM k.mr.length A.cM (mrC k.mr),Sl 256 1 A.adE k.ev.length A.cE (k.ev.map evV)] h)::Qu B.qb B.lbs k.ls::L) ?_ (List.Perm.swap _ _ _)
   exact St.shut (M:=[_,_,_,_]) hs λ_ h=>h
 · have h1:=(hs.perm (List.Perm.swap _ _ _)).open (M:=[_,_,_,_]) λ_ h=>h
   exact CoreS.close (k:={ k with ls:=ls' }) (A:=A) h1
theorem CoreS.qu (hs:St W w (CoreS B k::L)):∃ D:SP,St W w (Qu B.qb B.lbs k.ls::D::L)∧∀ (w':World)(L':List SP),St W w' (Qu B.qb B.lbs k.ls::D::L')→St W w' (CoreS B k::L'):=by
 obtain⟨D,h1,h2⟩:=CoreS.quX hs
 exact⟨D,h1,λw' L' h=>h2 w' L' k.ls h⟩
theorem core_head (hs:St W w (CoreS B k::L))(hk:WC k):Calls Tryz.prog 82 #[pt B.cb] w λe w'=>e=.returned (.int .i64 (headK k))∧St W w' (CoreS B k::L):=by
 have hme:k.me<k.ls.length:=by rw[hk.ls];exact hk.me
 refine EN Tryz.func82 Tryz.ntmps82 rfl rfl λa ha=>?_
 refine CL 4 ha hs (core_queue hs) λa w ha hs=>?_
 refine CL 1 ha hs (core_conf hs) λa w ha hs=>?_
 refine RN 0 ha hs λa ha=>?_
 refine SS ha (ex_field1 ha Tryz.underlying27 rfl Tryz.underlying3 rfl rfl) λa ha=>?_
 obtain⟨D,hs,hD⟩:=CoreS.qu hs
 refine CL 0 ha hs (queue_line hs hme) λa w ha hs=>?_
 refine CL 0 ha hs (q_len hs hme) λa w ha hs=>?_
 refine RT 1 ha hs ?_
 exact⟨rfl,hD _ _ hs⟩
theorem core_closed (hs:St W w (CoreS B k::L)):Calls Tryz.prog 143 #[pt B.cb] w λe w'=>e=.returned (.bool k.cl)∧St W w' (CoreS B k::L):=by
 obtain⟨A,hs⟩:=CoreS.open hs
 refine EN Tryz.func143 Tryz.ntmps143 rfl rfl λa ha=>?_
 refine RN 6 ha hs λa ha=>?_
 replace ha:=ha.isF 5
 refine RT 6 ha hs ?_
 exact⟨rfl,CoreS.close hs⟩
theorem core_marks (hs:St W w (CoreS B k::L)):Calls Tryz.prog 172 #[pt B.cb] w λe w'=>e=.returned (.int .i64 k.mr.length)∧St W w' (CoreS B k::L):=by
 obtain⟨A,hs⟩:=CoreS.open hs
 refine EN Tryz.func172 Tryz.ntmps172 rfl rfl λa ha=>?_
 refine RN 6 ha hs λa ha=>?_
 replace ha:=ha.isF 4
 refine RT 8 ha hs ?_
 exact⟨rfl,CoreS.close hs⟩
theorem core_note (hs:St W w (CoreS B k::L))(he:evOk e)(hl:k.ev.length≤100):Calls Tryz.prog 201 #[pt B.cb,.agg (rawC e).toArray] w λr w'=>r=.returned (.tuple #[])∧St W w' (CoreS B { k with ev:=k.ev++[e] }::L):=by
 obtain⟨A,hs⟩:=CoreS.open hs
 refine EN Tryz.func201 Tryz.ntmps201 rfl rfl λa ha=>?_
 refine BX 1 ha hs λb3 a w ha hs=>?_
 change St W w (blk b3 223 (rawC e)::_) at hs
 refine CL 2 ha hs (event_of hs he) λa w ha hs=>?_
 refine AL 3 ha hs λb4 a w ha hs=>?_
 refine SA 0 ha hs λa w ha hs=>?_
 refine RN 3 ha hs λa ha=>?_
 replace ha:=ha.isT 11
 refine DWO 1 [5,6] [0,1,2,3,3004,1005,1006,1007,8,9,1010] ha hs λa w ha hs hH hC=>?_
 refine RH 6 ha hs hH hC λa ha=>?_
 refine st_buildSlice ha rfl hs Tryz.underlying87 Ty.t256 rfl rfl rfl rfl (by decide) (by decide) λb18 a w ha hs ho=>?_
 replace hC:=hC.trans ho
 clear ho
 refine RH 0 ha hs hH hC λa ha=>?_
 refine st_append ha rfl hs Tryz.underlying87 Ty.t256 rfl rfl hs.rdAll rfl (by simpa using evV_one e) (by decide) (by decide) (by omega) λad19 c19 a w ha hs=>?_
 rw[show List.map evV k.ev++_=List.map evV (k.ev++[e]) from by rw[List.map_append];rfl,show k.ev.length+1=(k.ev++[e]).length from by simp]at hs
 rw[show k.ev.length+1=(k.ev++[e]).length from by simp]at ha
 refine ST 2 ha hs (λa w ha hs=>?_)
 refine RT 0 ha hs ?_
 exact⟨rfl,CoreS.mk' (k:={ k with ev:=k.ev++[e] }) hs { A with adE:=ad19,cE:=c19 }⟩
structure CoR (w:World)(B:CoB)(k:Ks):Prop where
 cf:Rd w B.cb 0 [.int .i64 k.n,.int .i64 k.me,.int .i64 k.id,.int .i64 k.delay,.int .i64 k.window,.int .i64 k.guess,.int .i64 k.order,.int .i64 k.branches,.int .i64 k.workers,.int .i64 k.room,pt B.qb]
 now:w.cell? ⟨B.cb,14,none⟩=some (.int .i64 k.now)
 cl:w.cell? ⟨B.cb,15,none⟩=some (.bool k.cl)
 pe:∀ (i:Nat) (p:Pe),k.ps[i]?=some p→Rd w B.bp (B.op+i*5) (peC p)
 ml:∃ ad c,w.cell? ⟨B.cb,12,none⟩=some (.slice ad k.mr.length c)
 pl:∃ c,w.cell? ⟨B.cb,11,none⟩=some (.slice (some ⟨B.bp,B.op,none⟩) k.ps.length c)
theorem rows_part {α:Type}{f:α→List Value}{sz:Nat}(hf:∀ x,(f x).length=sz){l:List α}{i:Nat}{x:α}{b o:Nat}(h:Rd w b o (rows f l))(hx:l[i]?=some x):Rd w b (o+i*sz) (f x):=by
 obtain⟨hi,rfl⟩:=List.getElem?_eq_some_iff.1 hx
 have h1:=h.part (i*sz) sz
 rwa [rows_at hf l i hi]at h1
theorem CoreS.rd (hs:St W w (CoreS B k::L)):CoR w B k:=by
 obtain⟨A,hs⟩:=CoreS.open hs
 refine⟨hs.rdN 11,hs.rd1 rfl,hs.rd1 rfl,λi p hp=>?_,⟨_,_,hs.rd1 rfl⟩,⟨_,hs.rd1 rfl⟩⟩
 have hi:=(List.getElem?_eq_some_iff.1 hp).1
 exact rows_part peC_len (hs.slRdAt B.bp B.op (by omega)) hp
end
theorem mrC_get {l:List Nat}{i:Nat}(h:i<l.length):(mrC l)[i]?=some (.int .u32 (l.getD i 0:Nat)):=by
 rw[mrC,List.getElem?_map,List.getElem?_eq_getElem h,List.getD_eq_getElem?_getD,List.getElem?_eq_getElem h];rfl
theorem peK_at {k:Ks}{i:Nat}(h:i<k.ps.length):k.ps[i]?=some (peK k i):=by
 rw[peK,List.getD_eq_getElem?_getD,List.getElem?_eq_getElem h];rfl
theorem peK_el {k:Ks}{i:Nat}(h:i<k.ps.length):k.ps[i]=peK k i:=by
 rw[peK,List.getD_eq_getElem?_getD,List.getElem?_eq_getElem h];rfl
section
variable {W w:World}{L L':List SP}{n i:Nat}{k:Ks}{A:CoA}{B:CoB}{x:UInt8}
theorem core_hold (hs:St W w (CoreS B k::L))(hk:WC k):Calls Tryz.prog 206 #[pt B.cb] w λr w'=>r=.returned (.tuple #[])∧St W w' (CoreS B (holdK k)::L):=by
 have hpl:k.ps.length=k.n:=hk.ps
 obtain⟨A0,hs⟩:=CoreS.open hs
 refine EN Tryz.func206 Tryz.ntmps206 rfl rfl λa ha=>?_
 refine RN 7 ha hs λa ha=>?_
 replace hs:=CoreS.close hs
 refine wp_loop_ghost (λμ a w=>∃ (i:Nat),(μ=k.ps.length-i∧i≤k.ps.length)∧Fr a 71 [(0,pt B.cb),(8,.int .i64 k.ps.length),(9,.int .i64 i)]∧St W w (CoreS B (holdN k i)::L)) (k.ps.length) (⟨0,⟨rfl,by omega⟩,ha.keep [0,8,9],hs⟩) ?_
 clear ha hs
 rintro μ a w ⟨i,⟨rfl,hi⟩,ha,hs⟩
 refine IF 3 ha hs (λhc0 a ha=>?_) λhc0 a ha=>?_
 ·
  have hil:i<k.ps.length:=by omega
  have hkk:=hk.holdN (i:=i) (by omega)
  have hkl:=holdN_len k i
  have hnx:holdN k (i+1)=hold1 (holdN k i) i:=rfl
  rw[hold1]at hnx
  generalize holdN k i=kk at hs hkk hkl hnx
  rw[← hkl]at hil
  have hpt:=hkk.pet (i:=i) (by rw[← hkk.ps];exact hil)
  have hat:=peK_at hil
  have hi8:i<8:=by have:=hkk.n;have:=hkk.ps;omega
  obtain⟨A,hs⟩:=CoreS.open hs
  have hrp:=rows_part peC_len (hs.slRdAt B.bp B.op (by omega)) hat
  refine RN 14 ha hs λa ha=>?_
  have hrp:Rd w.drew B.bp (B.op+i*5) (peC (peK kk i)):=hrp
  have hrc:Rd w.drew B.cb 0 (coC kk B A):=hs.drew.rdAll
  refine DWG 0 (Old w.drew) [13,14,31,35,36,37,38] [0,1,2,1003,4,5,6,7,8,10,11,12,3009,1013,1014,15,16,17,18,19,20,1021,22,23,24,25,26,28,29,30,32,33,34,3027,3031,1035,1036,1037,1038,39,40] ha hs λa ha=>?_
  replace hs:=hs.drew
  have hH:=Hd.old hs
  have hC:=Old.refl w.drew
  generalize w.drew=w at hs hH hC hrp hrc ⊢
  refine RH 3 ha hs hH hC λa ha=>?_
  refine SS ha (ld1 ha (hrp 2 _ rfl)) λa ha=>?_
  refine RH 2 ha hs hH hC λa ha=>?_
  refine ha.by (s:=23) (λhg5 ha=>?_) (λhg5 ha=>?_)
  ·
   refine RH 35 ha hs hH hC λa ha=>?_
   refine RN 3 ha hs λa ha=>?_
   rw[if_neg (λh=>by have:=h.2.1;omega)]at hnx
   exact⟨k.ps.length-(i+1),by omega,i+1,⟨rfl,by omega⟩,ha.keep [0,8,9],by rw[hnx];exact CoreS.close hs⟩
  refine RH 6 ha hs hH hC λa ha=>?_
  refine QH ha (λw hc=>ld1 ha (hc.cell (hrp 2 _ rfl))) hC λa ha=>?_
  refine RH 0 ha hs hH hC λa ha=>?_
  refine st_set ha (wgT ha rfl (s:=23)) (ld1 ha (hrc 12 _ rfl)) rfl λa ha=>?_
  refine RH 4 ha hs hH hC λa ha=>?_
  refine ha.by (s:=35) (λhg17 ha=>?_) (λhg17 ha=>?_)
  ·
   refine RH 23 ha hs hH hC λa ha=>?_
   refine RN 3 ha hs λa ha=>?_
   rw[if_neg (λh=>by have:=h.2.2.1;omega)]at hnx
   exact⟨k.ps.length-(i+1),by omega,i+1,⟨rfl,by omega⟩,ha.keep [0,8,9],by rw[hnx];exact CoreS.close hs⟩
  refine RH 3 ha hs hH hC λa ha=>?_
  refine st_set ha (wgT ha rfl (s:=35)) (ld1 ha (hrp 4 _ rfl)) rfl λa ha=>?_
  refine RH 2 ha hs hH hC λa ha=>?_
  refine ha.by (s:=41) (λhg23 ha=>?_) (λhg23 ha=>?_)
  ·
   refine RH 17 ha hs hH hC λa ha=>?_
   refine RN 3 ha hs λa ha=>?_
   rw[if_neg (λh=>by have:=h.1;rw[hg23]at this;cases this)]at hnx
   exact⟨k.ps.length-(i+1),by omega,i+1,⟨rfl,by omega⟩,ha.keep [0,8,9],by rw[hnx];exact CoreS.close hs⟩
  have hml:(peK kk i).frame-1<kk.mr.length:=by omega
  obtain⟨bm,om,hme,hrm⟩:=hs.slRd A.adM (by omega)
  have hrc2:=hrc 12 _ rfl
  rw[hme]at hrc2
  refine RH 9 ha hs hH hC λa ha=>?_
  refine QH ha (λw hc=>ld1 ha (hc.cell (hrp 3 _ rfl))) hC λa ha=>?_
  refine QH ha (λw hc=>ld1 ha (hc.cell (hrc2))) hC λa ha=>?_
  refine RH 0 ha hs hH hC λa ha=>?_
  refine st_set ha (wgT ha rfl (s:=41)) (ld1 ha (hrp 2 _ rfl)) rfl λa ha=>?_
  refine RH 1 ha hs hH hC λa ha=>?_
  rw[show (((peK kk i).frame:Nat):Int)-1=(((peK kk i).frame-1:Nat):Int) from by omega]at ha
  refine RH 1 ha hs hH hC λa ha=>?_
  refine st_set ha (wgT ha rfl (s:=41)) (ld1 ha (hrm ((peK kk i).frame-1) _ (mrC_get hml))) rfl λa ha=>?_
  refine RH 2 ha hs hH hC λa ha=>?_
  refine IF 0 ha hs (λhc1 a ha=>?_) λhc1 a ha=>?_
  ·
   refine RN 2 ha hs λa ha=>?_
   rw[if_neg (λh=>by have:=h.2.2.2;omega)]at hnx
   exact⟨k.ps.length-(i+1),by omega,i+1,⟨rfl,by omega⟩,ha.keep [0,8,9],by rw[hnx];exact CoreS.close hs⟩
  refine RN 1 ha hs λa ha=>?_
  rw[if_pos ⟨hg23,by omega,by omega,by omega⟩]at hnx
  refine RN 3 ha hs λa ha=>?_
  refine st_storeS (off:=B.op) (k:=i*5+4) ha rfl hs Ty.t4 rfl (by omega) (by rw[rows_len peC_len];omega) λa w ha hs=>?_
  rw[rows_set1 peC_len kk.ps { peK kk i with apart:=true } hil (by decide) (by rw[peK_el hil];rfl)]at hs
  have hll:(kk.ps.set i { peK kk i with apart:=true }).length=kk.ps.length:=List.length_set
  rw[show coC kk B A=coC { kk with ps:=kk.ps.set i { peK kk i with apart:=true } } B A from by simp only[coC,hll],← hll]at hs
  replace hs:=CoreS.mk' (L':=L) (B:=B) (k:={ kk with ps:=kk.ps.set i { peK kk i with apart:=true } }) hs A
  refine RN 5 ha hs λa ha=>?_
  refine SS ha (ld1 ha (((CoreS.rd hs).pe i { peK kk i with apart:=true } (by rw[List.getElem?_set_self hil])) 2 _ rfl)) λa ha=>?_
  refine CL 1 ha hs (core_note (e:=(3,i,(peK kk i).frame)) hs ⟨by simp,by simp,by have:=hkk.n;have:=hkk.ps;show i<8;omega,hpt.2.2.1,.inl rfl⟩ (by have:=hkk.evl;show kk.ev.length≤100;omega)) λa w ha hs=>?_
  refine RN 2 ha hs λa ha=>?_
  exact⟨k.ps.length-(i+1),by omega,i+1,⟨rfl,by omega⟩,ha.keep [0,8,9],by rw[hnx];exact hs⟩
 refine RT 0 ha hs ?_
 obtain rfl:i=k.ps.length:=by omega
 exact⟨rfl,hs⟩
theorem core_mark {s:Nat}(hs:St W w (CoreS B k::L))(hk:WC k)(hl:k.mr.length<1000)(hss:s<4294967296):Calls Tryz.prog 174 #[pt B.cb,.int .u32 s] w λr w'=>r=.returned (.tuple #[])∧St W w' (CoreS B (markK k s)::L):=by
 have hkm : WC { k with mr := k.mr ++ [s] } := { hk with
     mr:=by show (k.mr++[s]).length≤1000;rw[List.length_append,List.length_singleton];omega
     mrs:=λx hx=>by
       rcases List.mem_append.1 hx with hx | hx
       · exact hk.mrs x hx
       · rw[List.mem_singleton]at hx;rw[hx];exact hss }
 obtain⟨A,hs⟩:=CoreS.open hs
 refine EN Tryz.func174 Tryz.ntmps174 rfl rfl λa ha=>?_
 refine RN 5 ha hs λa ha=>?_
 replace ha:=ha.isF 6
 refine RN 7 ha hs λa ha=>?_
 rw[decide_eq_false (by omega)]at ha
 refine RN 8 ha hs λa ha=>?_
 refine st_buildSlice ha rfl hs Tryz.underlying80 Ty.t68 rfl rfl rfl rfl (by decide) (by decide) λb20 a w ha hs ho=>?_
 clear ho
 refine RN 0 ha hs λa ha=>?_
 refine st_append ha rfl hs Tryz.underlying80 Ty.t68 rfl rfl hs.rdAll rfl (by simp[Value.oneCell']) (by decide) (by decide) (by omega) λad21 c21 a w ha hs=>?_
 rw[show mrC k.mr++_=mrC (k.mr++[s]) from by rw[mrC,mrC,List.map_append];rfl,show k.mr.length+1=(k.mr++[s]).length from by simp]at hs
 rw[show k.mr.length+1=(k.mr++[s]).length from by simp]at ha
 refine ST 2 ha hs (λa w ha hs=>?_)
 refine RN 0 ha hs λa ha=>?_
 replace hs:=CoreS.mk' (B:=B) (L':=L) (k:={ k with mr:=k.mr++[s] }) hs { A with adM:=ad21,cM:=c21 }
 refine CL 1 ha hs (core_hold hs hkm) λa w ha hs=>?_
 refine RT 0 ha hs ?_
 exact⟨rfl,by rw[markK,if_pos hl];exact hs⟩
theorem core_press (hs:St W w (CoreS B k::L))(hk:WC k):Calls Tryz.prog 120 #[pt B.cb,.int .u8 (x.toNat:Nat)] w λr w'=>r=.returned (.int .i64 (pressK x k).1)∧St W w' (CoreS B (pressK x k).2::L):=by
 have hme:k.me<k.ls.length:=by rw[hk.ls];exact hk.me
 have hhd:=hk.headt
 have hfr:frontL k.ls≤headK k:=hk.frontt
 refine EN Tryz.func120 Tryz.ntmps120 rfl rfl λa ha=>?_
 refine CL 5 ha hs (core_closed hs) λa w ha hs=>?_
 refine IF 1 ha hs (λhc0 a ha=>?_) λhc0 a ha=>?_
 ·
  refine RT 2 ha hs ?_
  exact⟨by rw[pressK,if_pos hc0],by rw[pressK,if_pos hc0];exact hs⟩
 have hcl:¬ k.cl=true:=by rw[hc0];decide
 refine CL 2 ha hs (core_head hs hk) λa w ha hs=>?_
 refine IF 2 ha hs (λhc1 a ha=>?_) λhc1 a ha=>?_
 ·
  refine RT 2 ha hs ?_
  exact⟨by rw[pressK,if_neg hcl,if_pos (by omega)],by rw[pressK,if_neg hcl,if_pos (by omega)];exact hs⟩
 refine DWC 1 (λw0 w'=>CoR w' B k) [1,6,7,12] [0,2,3,4,8,9,10,11,3005,3012,1001,1006,1007,13,14] ha hs λa w ha hs hH=>?_
 have hC:=hH.at w (CoreS.rd hs)
 refine RH 8 ha hs hH hC λa ha=>?_
 refine QH ha (λw hc=>ld1 ha (hc.cf 10 _ rfl)) hC λa ha=>?_
 refine QH ha (λw hc=>ld1 ha (hc.cf 4 _ rfl)) hC λa ha=>?_
 refine RH 0 ha hs hH hC λa ha=>?_
 refine CL 0 ha hs (core_head hs hk) λa w ha hs=>?_
 replace hC:=hH.at w (CoreS.rd hs)
 obtain⟨D,hs,hD⟩:=CoreS.qu hs
 refine RH 0 ha hs hH hC λa ha=>?_
 refine CL 0 ha hs (queue_front hs hk.lne (by rw[hk.ls];exact hk.n.2)) λa w ha hs=>?_
 replace hC:=hH.at w (CoreS.rd (hD _ _ hs))
 replace hs:=hD _ _ hs
 refine RH 3 ha hs hH hC λa ha=>?_
 refine IF 0 ha hs (λhc2 a ha=>?_) λhc2 a ha=>?_
 ·
  refine RT 2 ha hs ?_
  exact⟨by rw[pressK,if_neg hcl,if_neg (by omega),if_pos (by rw[frontK];omega)],by rw[pressK,if_neg hcl,if_neg (by omega),if_pos (by rw[frontK];omega)];exact hs⟩
 refine DWC 1 (λw0 w'=>CoR w' B k) [8] [0,1,2,4,5,6,7,10,3003,1008,1009,1011,12] ha hs λa w ha hs hH=>?_
 have hC:=hH.at w (CoreS.rd hs)
 refine RH 8 ha hs hH hC λa ha=>?_
 refine QH ha (λw hc=>ld1 ha (hc.cf 10 _ rfl)) hC λa ha=>?_
 refine RH 0 ha hs hH hC λa ha=>?_
 refine SS ha (ld1 ha (hC.cf 1 _ rfl)) λa ha=>?_
 obtain⟨D,hs,hD⟩:=CoreS.quX hs
 refine RH 0 ha hs hH hC λa ha=>?_
 refine CL 0 ha hs (queue_line hs hme) λa w ha hs=>?_
 refine CL 0 ha hs (q_add hs hme (by simp only[headK]at hc1;omega)) λa w ha hs=>?_
 refine RN 1 ha hs λa ha=>?_
 refine RT 0 ha hs ?_
 have hpk:pressK x k=(0,{ k with ls:=k.ls.set k.me (k.ls.getD k.me []++[x]) }):=by rw[pressK,if_neg hcl,if_neg (by omega),if_neg (by rw[frontK];omega)]
 rw[hpk]
 exact⟨rfl,hD _ _ _ hs⟩
end
end
section
section
variable {W w:World}{L:List SP}{c cO cP q:Nat}{adO adP:Option Addr}{b:List UInt8}{g:Nat→Int}{p:Pr}{fr:Int}{bad:Bool}
def Jv (q:Nat)(g:Nat→Int)(bad:Bool):SP:=λh=>(gOk g∧bad=false)∧blk q 302 (ints .i32 32 g) h
theorem Jv.open (hs:St W w (Jv q g bad::L)):(gOk g∧bad=false)∧St W w (blk q 302 (ints .i32 32 g)::L):=by
 obtain⟨_,h1,h2⟩:=hs.exi (ι:=Unit) (p:=λ_=>gOk g∧bad=false) (B:=λ_=>blk q 302 (ints .i32 32 g)) (λh ⟨h1,h2⟩=>⟨(),h1,h2⟩)
 exact⟨h1,h2⟩
theorem Jv.close (hs:St W w (blk q 302 (ints .i32 32 g)::L))(h1:gOk g):St W w (Jv q g false::L) :=
 St.shut (M:=[_]) hs (λ_ ⟨_,_,_,a,b,x,_⟩=>⟨⟨h1,rfl⟩,a _ _ x⟩)
theorem vcells_get {c:Nat}(hc:c<32)(hs:St W w (Jv q g bad::L)):Calls Tryz.prog 319 (List.toArray [pt q,.int .i64 c]) w λe w'=>e=.returned (.int .i32 (g c))∧St W w' (Jv q g bad::L):=by
 have hj:=Jv.open hs
 clear hs
 obtain⟨⟨h1,rfl⟩,hs⟩:=hj
 refine EN Tryz.func319 Tryz.ntmps319 rfl rfl λa ha=>?_
 refine RN 8 ha hs λa ha=>?_
 refine SS ha (ld1 ha (hs.rd1 (ints_get _ hc))) λa ha=>?_
 refine RT 1 ha hs ?_
 exact⟨rfl,Jv.close hs h1⟩
theorem vcells_set {c:Nat}{v:Int}(hc:c<32)(hv:i32P v)(hs:St W w (Jv q g bad::L)):Calls Tryz.prog 320 (List.toArray [pt q,.int .i64 c,.int .i32 v]) w λe w' =>
   ∃ (g':Nat→Int) (bad':Bool),e=.returned (.tuple #[])∧((bad'=true∧g'=g)∨(bad'=false∧bad=false∧g'=upd g c v))∧St W w' (Jv q g' bad'::L):=by
 have hj:=Jv.open hs
 clear hs
 obtain⟨⟨h1,rfl⟩,hs⟩:=hj
 refine EN Tryz.func320 Tryz.ntmps320 rfl rfl λa ha=>?_
 refine ST 6 ha hs (λa w ha hs=>?_) (hlt:=(by rw[ints_len];exact hc))
 rw[ints_set]at hs
 refine RT 0 ha hs ?_
 exact⟨upd g c v,false,rfl,.inr ⟨rfl,rfl,rfl⟩,Jv.close hs (upd_ok h1 hv)⟩
theorem vcells_mem:MemS W 300 ⟨q,0,none⟩ 319 320 (Jv q) where
 mG:=λad w=>by kernel_rfl
 cG:=(by kernel_rfl)
 mS:=λad w=>by kernel_rfl
 cS:=(by kernel_rfl)
 ok:=λw L g bad h=>(Jv.open h).1.1
 get:=λw L g bad c hc h=>vcells_get hc h
 set:=λw L g bad c v hc hv h=>vcells_set hc hv h
theorem vm_step (hs:St W w (RoP W p adO cO::L))(hpr:prOk p)(hsz:p.title.size≤1000000000)(hg:gOk g)(hb:b.length≤1099511627776)(hp:∀ w',St W w' L→RdB w' adP b.length b) :
   Calls Tryz.prog 153 #[.agg (prV p adO cO).toArray,.agg (ints .i32 32 g).toArray,.int .i64 fr,.slice adP b.length cP] w λe w'=>e=.returned (.agg (ints .i32 32 (frameI p fr b g)).toArray)∧St W w' (RoP W p adO cO::L):=by
 refine EN Tryz.func153 Tryz.ntmps153 rfl rfl λa ha=>?_
 refine BX 1 ha hs λb4 a w ha hs=>?_
 change St W w (blk b4 34 (prV p adO cO)::_) at hs
 refine BX 0 ha hs λb5 a w ha hs=>?_
 refine AL 0 ha hs λb8 a w ha hs=>?_
 change St W w (blk b8 116 (ints .i32 32 (λ_=>0))::_) at hs
 refine RN 2 ha hs λa ha=>?_
 refine SK (st_set ha rfl (ex_build ha Ty.b302 Ty.t302 (cs:=ints .i32 32 g) rfl) rfl ?_);clear ha a;intro a ha
 refine BX 0 ha hs λb12 a w ha hs=>?_
 refine RN 7 ha hs λa ha=>?_
 replace hs:=Jv.close (hs.bring b12) hg
 refine CL3 0 ha hs (run_spec (M:=vcells_mem (q:=b12)) (L:=blk b8 116 (ints .i32 32 (λ_=>0))::L) (hs.sub (M:=Jv b12 g false::RoP W p adO cO::blk b8 116 (ints .i32 32 (λ_=>0))::L)) hpr hsz hb (λw' hw=>hp w' hw.tail)) λg' bad' nn a w ha ⟨hgb,hs⟩=>?_
 refine RN 1 ha hs λa ha=>?_
 have hj:=Jv.open hs
 clear hs
 obtain⟨⟨hg',rfl⟩,hs⟩:=hj
 obtain⟨_,rfl⟩:=hgb rfl
 refine SA 4 ha hs λa w ha hs=>?_
 refine RT 0 ha hs ?_
 exact⟨rfl,hs.sub⟩
theorem fold_from {P:List (List UInt8)}{zs:List BBx}(hs:St W w (RoP W p adO cO::L))(hpr:prOk p)(hsz:p.title.size≤1000000000)(hg:gOk g)(hP:P.length≤65536∧∀ b∈P,b.length≤1099511627776)(hf:-1099511627776≤fr∧fr≤1099511627776)(hz:zs.map (·.2.2)=P)(hp:∀ w',St W w' L→RdX w' adP zs) :
   Calls Tryz.prog 90 #[.agg (prV p adO cO).toArray,.agg (ints .i32 32 g).toArray,.int .i64 fr,.slice adP P.length cP] w λe w'=>e=.returned (.agg (ints .i32 32 (foldI p fr g P)).toArray)∧St W w' (RoP W p adO cO::L):=by
 have hzl:zs.length=P.length:=by rw[← hz,List.length_map]
 have hPl:=hP.1
 refine EN Tryz.func90 Tryz.ntmps90 rfl rfl λa ha=>?_
 refine BX 1 ha hs λb4 a w ha hs=>?_
 change St W w (blk b4 34 (prV p adO cO)::_) at hs
 refine BX 0 ha hs λb5 a w ha hs=>?_
 refine AL 0 ha hs λb8 a w ha hs=>?_
 change St W w (blk b8 116 (ints .i32 32 (λ_=>0))::_) at hs
 refine RN 5 ha hs λa ha=>?_
 refine wp_loop_ghost (λμ a w=>∃ (i:Nat) (g':Nat→Int),(μ=P.length-i∧i≤P.length∧gOk g'∧foldI p fr g P=foldI p (fr+i) g' (P.drop i))∧Fr a 27 [(2,.int .i64 fr),(4,pt b4),(5,pt b5),(8,pt b8),(11,.slice adP P.length cP),(12,.int .i64 P.length),(13,.int .i64 i)]∧St W w (blk b5 116 (ints .i32 32 g')::blk b4 34 (prV p adO cO)::blk b8 116 (ints .i32 32 (λ_=>0))::RoP W p adO cO::L)) (P.length) (⟨0,g,⟨by simp,by simp,hg,by simp⟩,ha.keep [2,4,5,8,11,12,13],hs.sub⟩) ?_
 clear ha hs
 rintro μ a w ⟨i,g',⟨rfl,hi,hgo,hfo⟩,ha,hs⟩
 refine IF 3 ha hs (λhc0 a ha=>?_) λhc0 a ha=>?_
 ·
  obtain⟨z,hzi⟩:∃ z,zs[i]?=some z:=⟨_,List.getElem?_eq_getElem (by omega)⟩
  have hbs:P[i]?=some z.2.2:=by rw[← hz,List.getElem?_map,hzi];rfl
  obtain⟨bp,op,rfl,hrd⟩:=(hp _ (hs.sub (M:=L))).1 (by omega)
  have hcb:=hrd i (bbv z) (by rw[List.getElem?_map,hzi];rfl)
  have hbm:=hP.2 _ (List.mem_of_getElem? hbs)
  have hfo2:foldI p fr g P=foldI p (fr+(i+1:Nat)) (frameI p (fr+i) z.2.2 g') (P.drop (i+1)):=by
    rw[hfo,List.drop_eq_getElem_cons (by omega),foldI]
    have:P[i]'(by omega)=z.2.2:=by rw[List.getElem?_eq_getElem (by omega)]at hbs;exact Option.some.inj hbs
    rw[this]
    congr 1
    omega
  refine RN 4 ha hs λa ha=>?_
  refine SS ha (ld1 ha (hcb)) λa ha=>?_
  rw[bbv]at ha
  refine CL 8 ha hs (vm_step (hs.pick (RoP W p adO cO)) hpr hsz hgo hbm (λw' hw=>(hp w' hw.sub).2 z (List.mem_of_getElem? hzi))) λa w ha hs=>?_
  refine SA 0 ha hs λa w ha hs=>?_
  refine RN 2 ha hs λa ha=>?_
  exact⟨P.length-(i+1),by omega,i+1,_,⟨rfl,by omega,frameI_ok hpr hgo,hfo2⟩,ha.keep [2,4,5,8,11,12,13],hs.sub⟩
 refine RN 1 ha hs λa ha=>?_
 obtain rfl:i=P.length:=by omega
 rw[List.drop_length,foldI]at hfo
 refine SA 1 ha hs λa w ha hs=>?_
 refine RT 0 ha hs ?_
 exact⟨by rw[hfo],hs.sub⟩
end
end
end Go.Proofs.YtdilfdkendjjhaaGreat
