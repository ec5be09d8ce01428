/- What a player knows, in memory: core.May, New, Conf, Queue, Head, Closed, Press, note, hold, Mark, Marks, Events. -/
import Derived.Test.YteoldcfapaiobaaGreatA12Pkt3
import Derived.Test.YteoldcfapaiobaaGreatA13CoQ
namespace Go.Proofs.YteoldcfapaiobaaGreat
open Go.RowKit
set_option linter.unusedVariables false
set_option linter.unusedSimpArgs false
set_option maxRecDepth 10000
set_option synthInstance.maxSize 4000
set_option synthInstance.maxHeartbeats 400000
section
abbrev peC (p:Pe):List Value:=[.int .i64 p.has,.int .i64 p.heard,.int .i64 p.frame,.int .u32 p.sum,.bool p.apart]
theorem peC_len (p:Pe):(peC p).length=5:=rfl
theorem peC_one (p:Pe):∀ v∈peC p,v.oneCell'=true:=by
 intro v hv
 simp[peC]at hv
 rcases hv with rfl | rfl | rfl | rfl | rfl <;> rfl
def mrC (l:List Nat):List Value:=l.map λs:Nat=>Value.int .u32 (s:Int)
structure CoB where
 cb:Nat
 qb:Nat
 lbs:List Nat
 bp:Nat
 op:Nat
structure CoA where
 cP:Nat
 adM:Option Addr
 cM:Nat
 adE:Option Addr
 cE:Nat
abbrev coC (k:Ks)(B:CoB)(A:CoA):List Value:=[.int .i64 k.n,.int .i64 k.me,.int .i64 k.id,.int .i64 k.delay,.int .i64 k.window,.int .i64 k.guess,.int .i64 k.order,.int .i64 k.branches,.int .i64 k.workers,.int .i64 k.room,
 pt B.qb,.slice (some ⟨B.bp,B.op,none⟩) k.ps.length A.cP,.slice A.adM k.mr.length A.cM,.slice A.adE k.ev.length A.cE,.int .i64 k.now,.bool k.cl]
def CoreS (B:CoB)(k:Ks):SP:=λh=>∃ A:CoA,sepL [blk B.cb 257 (coC k B A),Sl 259 5 (some ⟨B.bp,B.op,none⟩) k.ps.length A.cP (rows peC k.ps),Sl 100 1 A.adM k.mr.length A.cM (mrC k.mr),Sl 135 1 A.adE k.ev.length A.cE (k.ev.map evV),Qu B.qb B.lbs k.ls] h
section
variable {W w:World}{L L' R:List SP}{n c cb qb i:Nat}{ad:Option Addr}{lbs:List Nat}{k:Ks}{A:CoA}{B:CoB}{cf:Cf}{e:Evt}
theorem CoreS.open (hs:St W w (CoreS B k::L)):∃ A:CoA,St W w (blk B.cb 257 (coC k B A)::Sl 259 5 (some ⟨B.bp,B.op,none⟩) k.ps.length A.cP (rows peC k.ps)::Sl 100 1 A.adM k.mr.length A.cM (mrC k.mr)::Sl 135 1 A.adE k.ev.length A.cE (k.ev.map evV)::Qu B.qb B.lbs k.ls::L):=by
 obtain⟨A,_,hs⟩:=hs.exi (ι:=CoA) (p:=λ_=>True) (B:=λA h=>sepL [blk B.cb 257 (coC k B A),Sl 259 5 (some ⟨B.bp,B.op,none⟩) k.ps.length A.cP (rows peC k.ps),Sl 100 1 A.adM k.mr.length A.cM (mrC k.mr),Sl 135 1 A.adE k.ev.length A.cE (k.ev.map evV),Qu B.qb B.lbs k.ls] h) λ_ ⟨A,h⟩=>⟨A,trivial,h⟩
 exact⟨A,hs.open (M:=[_,_,_,_,_]) λ_ h=>h⟩
theorem CoreS.close (hs:St W w (blk B.cb 257 (coC k B A)::Sl 259 5 (some ⟨B.bp,B.op,none⟩) k.ps.length A.cP (rows peC k.ps)::Sl 100 1 A.adM k.mr.length A.cM (mrC k.mr)::Sl 135 1 A.adE k.ev.length A.cE (k.ev.map evV)::Qu B.qb B.lbs k.ls::L)):St W w (CoreS B k::L) :=
 St.shut (M:=[_,_,_,_,_]) hs λ_ h=>⟨A,h⟩
theorem CoreS.mk' (hs:St W w L)(A:CoA)[kk:Arr L (blk B.cb 257 (coC k B A)::Sl 259 5 (some ⟨B.bp,B.op,none⟩) k.ps.length A.cP (rows peC k.ps)::Sl 100 1 A.adM k.mr.length A.cM (mrC k.mr)::Sl 135 1 A.adE k.ev.length A.cE (k.ev.map evV)::Qu B.qb B.lbs k.ls::L') R]:St W w (CoreS B k::L'):=CoreS.close (A:=A) hs.sub
theorem CoreS.fold (hs:St W w L)(B:CoB)(k:Ks)(A:CoA)[kk:Arr L [blk B.cb 257 (coC k B A),Sl 259 5 (some ⟨B.bp,B.op,none⟩) k.ps.length A.cP (rows peC k.ps),Sl 100 1 A.adM k.mr.length A.cM (mrC k.mr),Sl 135 1 A.adE k.ev.length A.cE (k.ev.map evV),Qu B.qb B.lbs k.ls] R]:St W w (CoreS B k::R):=CoreS.close (A:=A) (hs.perm kk.perm)
theorem core_in {x lo hi:Int}(hs:St W w L):Calls Tryz.prog 167 #[.int .i64 x,.int .i64 lo,.int .i64 hi] w λe w'=>∃ r:Bool,e=.returned (.bool r)∧(r=true↔inI x lo hi)∧St W w' L:=by
 refine EN Tryz.func167 Tryz.ntmps167 rfl rfl λa ha=>?_
 refine BY 7 ha hs (λhg3 a ha=>?_) λhg3 a ha=>?_
 ·
  refine RT 5 ha hs ?_
  exact⟨_,rfl,⟨λh=>⟨hg3,of_decide_eq_true h⟩,λh=>decide_eq_true h.2⟩,hs⟩
 refine RT 5 ha hs ?_
 exact⟨_,rfl,⟨λh=>(by cases h),λh=>by have:=h.1;omega⟩,hs⟩
theorem core_may (hs:St W w L):Calls Tryz.prog 130 #[.agg (cfC cf).toArray] w λe w'=>∃ r:Bool,e=.returned (.bool r)∧(r=true↔mayCf cf)∧St W w' L:=by
 refine EN Tryz.func130 Tryz.ntmps130 rfl rfl λa ha=>?_
 refine BX 1 ha hs λb1 a w ha hs=>?_
 change St W w (blk b1 28 (cfC cf)::_) at hs
 refine RN 1 ha hs λa ha=>?_
 refine wp_seq_cut (M:=λa w=>∃ z:Bool,(z=true↔(inI cf.n 2 8∧inI cf.me 0 (cf.n-1)∧inI cf.id 0 1099511627776))∧Fr a 73 [(1,pt b1),(3,.bool z)]∧St W w (blk b1 28 (cfC cf)::L)) ?_ ?_
 ·
  refine CL1 2 ha hs (core_in hs) λr1 a w ha ⟨hr1,hs⟩=>?_
  refine BY 1 ha hs (λhg3 a ha=>?_) λhg3 a ha=>?_
  ·
   refine RN 4 ha hs λa ha=>?_
   refine SK (st_set ha (wgT ha rfl (s:=8)) (ex_sub ha) rfl ?_);clear ha a;intro a ha
   have hn1:IntKind.i64.wrap (cf.n-1)=cf.n-1:=wrap_in (by have:=(hr1.1 hg3).1;omega) (by have:=(hr1.1 hg3).2;omega)
   rw[hn1]at ha
   refine CL1 0 ha hs (core_in hs) λr2 a w ha ⟨hr2,hs⟩=>?_
   refine BY 2 ha hs (λhg11 a ha=>?_) λhg11 a ha=>?_
   ·
    refine BY 5 ha hs (λhg16 a ha=>?_) λhg16 a ha=>?_
    ·
     refine RN 5 ha hs λa ha=>?_
     exact⟨_,⟨λh=>⟨hr1.1 hg3,hr2.1 hg11,hg16,of_decide_eq_true h⟩,λh=>decide_eq_true h.2.2.2⟩,ha.keep [1,3],hs⟩
    refine RN 5 ha hs λa ha=>?_
    exact⟨_,⟨λh=>(by cases h),λh=>by have:=h.2.2.1;omega⟩,ha.keep [1,3],hs⟩
   refine RN 10 ha hs λa ha=>?_
   exact⟨_,⟨λh=>(by cases h),λh=>by have:=hr2.2 h.2.1;rw[hg11]at this;cases this⟩,ha.keep [1,3],hs⟩
  refine RN 18 ha hs λa ha=>?_
  exact⟨_,⟨λh=>(by cases h),λh=>by have:=hr1.2 h.1;rw[hg3]at this;cases this⟩,ha.keep [1,3],hs⟩
 clear ha;(try clear hs)
 rintro a w ⟨z1,hz1,ha,hs⟩
 refine wp_seq_cut (M:=λa w=>∃ z:Bool,(z=true↔(inI cf.delay 0 8∧inI cf.window 1 16∧inI cf.guess 1 3∧inI cf.order 0 3))∧Fr a 73 [(1,pt b1),(3,.bool z1),(4,.bool z)]∧St W w (blk b1 28 (cfC cf)::L)) ?_ ?_
 ·
  refine CL1 2 ha hs (core_in hs) λr1 a w ha ⟨hr1,hs⟩=>?_
  refine BY 1 ha hs (λhg3 a ha=>?_) λhg3 a ha=>?_
  ·
   refine CL1 2 ha hs (core_in hs) λr2 a w ha ⟨hr2,hs⟩=>?_
   refine BY 2 ha hs (λhg8 a ha=>?_) λhg8 a ha=>?_
   ·
    refine CL1 2 ha hs (core_in hs) λr3 a w ha ⟨hr3,hs⟩=>?_
    refine BY 2 ha hs (λhg13 a ha=>?_) λhg13 a ha=>?_
    ·
     refine CL1 2 ha hs (core_in hs) λr4 a w ha ⟨hr4,hs⟩=>?_
     refine RN 2 ha hs λa ha=>?_
     exact⟨_,⟨λh=>⟨hr1.1 hg3,hr2.1 hg8,hr3.1 hg13,hr4.1 h⟩,λh=>hr4.2 h.2.2.2⟩,ha.keep [1,3,4],hs⟩
    refine RN 5 ha hs λa ha=>?_
    exact⟨_,⟨λh=>(by cases h),λh=>by have:=hr3.2 h.2.2.1;rw[hg13]at this;cases this⟩,ha.keep [1,3,4],hs⟩
   refine RN 10 ha hs λa ha=>?_
   exact⟨_,⟨λh=>(by cases h),λh=>by have:=hr2.2 h.2.1;rw[hg8]at this;cases this⟩,ha.keep [1,3,4],hs⟩
  refine RN 15 ha hs λa ha=>?_
  exact⟨_,⟨λh=>(by cases h),λh=>by have:=hr1.2 h.1;rw[hg3]at this;cases this⟩,ha.keep [1,3,4],hs⟩
 clear ha;(try clear hs)
 rintro a w ⟨z2,hz2,ha,hs⟩
 refine BY 3 ha hs (λhg1 a ha=>?_) λhg1 a ha=>?_
 ·
  refine BY 3 ha hs (λhg4 a ha=>?_) λhg4 a ha=>?_
  ·
   refine BY 4 ha hs (λhg8 a ha=>?_) λhg8 a ha=>?_
   ·
    have hog:cf.order=0∨cf.guess=2:=.inl hg8
    refine CL1 8 ha hs (core_in hs) λr1 a w ha ⟨hr1,hs⟩=>?_
    refine BY 2 ha hs (λhg19 a ha=>?_) λhg19 a ha=>?_
    ·
     refine CL1 2 ha hs (core_in hs) λr2 a w ha ⟨hr2,hs⟩=>?_
     refine BY 2 ha hs (λhg24 a ha=>?_) λhg24 a ha=>?_
     ·
      refine CL1 2 ha hs (core_in hs) λr3 a w ha ⟨hr3,hs⟩=>?_
      refine RT 2 ha hs ?_
      exact⟨_,rfl,⟨λh=>⟨hz1.1 hg1,hz2.1 hg4,hog,hr1.1 hg19,hr2.1 hg24,hr3.1 h⟩,λh=>hr3.2 h.2.2.2.2.2⟩,hs.sub⟩
     refine RT 5 ha hs ?_
     exact⟨_,rfl,⟨λh=>(by cases h),λh=>by have:=hr2.2 h.2.2.2.2.1;rw[hg24]at this;cases this⟩,hs.sub⟩
    refine RT 10 ha hs ?_
    exact⟨_,rfl,⟨λh=>(by cases h),λh=>by have:=hr1.2 h.2.2.2.1;rw[hg19]at this;cases this⟩,hs.sub⟩
   refine BY 6 ha hs (λhg14 a ha=>?_) λhg14 a ha=>?_
   ·
    have hog:cf.order=0∨cf.guess=2:=.inr hg14
    refine CL1 2 ha hs (core_in hs) λr1 a w ha ⟨hr1,hs⟩=>?_
    refine BY 2 ha hs (λhg19 a ha=>?_) λhg19 a ha=>?_
    ·
     refine CL1 2 ha hs (core_in hs) λr2 a w ha ⟨hr2,hs⟩=>?_
     refine BY 2 ha hs (λhg24 a ha=>?_) λhg24 a ha=>?_
     ·
      refine CL1 2 ha hs (core_in hs) λr3 a w ha ⟨hr3,hs⟩=>?_
      refine RT 2 ha hs ?_
      exact⟨_,rfl,⟨λh=>⟨hz1.1 hg1,hz2.1 hg4,hog,hr1.1 hg19,hr2.1 hg24,hr3.1 h⟩,λh=>hr3.2 h.2.2.2.2.2⟩,hs.sub⟩
     refine RT 5 ha hs ?_
     exact⟨_,rfl,⟨λh=>(by cases h),λh=>by have:=hr2.2 h.2.2.2.2.1;rw[hg24]at this;cases this⟩,hs.sub⟩
    refine RT 10 ha hs ?_
    exact⟨_,rfl,⟨λh=>(by cases h),λh=>by have:=hr1.2 h.2.2.2.1;rw[hg19]at this;cases this⟩,hs.sub⟩
   refine RT 15 ha hs ?_
   exact⟨_,rfl,⟨λh=>(by cases h),λh=>by have:=h.2.2.1;omega⟩,hs.sub⟩
  refine RT 25 ha hs ?_
  exact⟨_,rfl,⟨λh=>(by cases h),λh=>by have:=hz2.2 h.2.1;rw[hg4]at this;cases this⟩,hs.sub⟩
 refine RT 28 ha hs ?_
 exact⟨_,rfl,⟨λh=>(by cases h),λh=>by have:=hz1.2 h.1;rw[hg1]at this;cases this⟩,hs.sub⟩
theorem core_new_no (hs:St W w L)(h:¬ mayCf cf):Calls Tryz.prog 96 #[.agg (cfC cf).toArray] w λe w'=>e=.returned (.tuple #[.pointer none,.int .i64 1])∧St W w' L:=by
 refine EN Tryz.func96 Tryz.ntmps96 rfl rfl λa ha=>?_
 refine BX 1 ha hs λb1 a w ha hs=>?_
 change St W w (blk b1 28 (cfC cf)::_) at hs
 refine CL1 5 ha hs (core_may hs) λr a w ha ⟨hr,hs⟩=>?_
 rw[show r=false from by cases hh:r with | false=>rfl | true=>exact absurd (hr.1 hh) h]at ha
 refine RN 1 ha hs λa ha=>?_
 replace ha:=ha.isT 7
 refine RT 4 ha hs ?_
 exact⟨rfl,hs.sub⟩
theorem core_new {n me delay window:Nat}{id guess order branches workers room:Int}(hs:St W w L)(h:mayCf ⟨n,me,id,delay,window,guess,order,branches,workers,room⟩) :
   Calls Tryz.prog 96 #[.agg (cfC ⟨n,me,id,delay,window,guess,order,branches,workers,room⟩).toArray] w λe w'=>∃ B,e=.returned (.tuple #[pt B.cb,.int .i64 0])∧St W w' (CoreS B (newK ⟨n,me,id,delay,window,guess,order,branches,workers,room⟩)::L):=by
 have hh:=h
 obtain⟨⟨h1,h2,h3⟩,⟨h4,h5,h6,h7⟩,h8,h9,h10,h11⟩:=hh
 simp only[inI] at *
 refine EN Tryz.func96 Tryz.ntmps96 rfl rfl λa ha=>?_
 refine BX 1 ha hs λb1 a w ha hs=>?_
 change St W w (blk b1 28 (cfC ⟨n,me,id,delay,window,guess,order,branches,workers,room⟩)::_) at hs
 refine CL1 5 ha hs (core_may hs) λr a w ha ⟨hr,hs⟩=>?_
 rw[hr.2 h]at ha
 refine RN 1 ha hs λa ha=>?_
 replace ha:=ha.isF 7
 refine RN 1 ha hs λa ha=>?_
 refine wp_seq_cut (M:=λa w=>∃ cb qb lbs,Fr a 34 [(1,pt b1),(4,pt cb)]∧St W w (blk cb 257 [.int .i64 n,.int .i64 me,.int .i64 id,.int .i64 delay,.int .i64 window,.int .i64 guess,.int .i64 order,.int .i64 branches,.int .i64 workers,.int .i64 room,pt qb,.slice none 0 0,.slice none 0 0,.slice none 0 0,.int .i64 0,.bool false]::Qu qb lbs (List.replicate n (List.replicate delay 0))::blk b1 28 (cfC ⟨n,me,id,delay,window,guess,order,branches,workers,room⟩)::L)) ?_ ?_
 ·
  refine DWC 0 (λw0 w'=>Rd w' b1 0 (cfC ⟨n,me,id,delay,window,guess,order,branches,workers,room⟩)) [2,4,5] [1,3,3000,3002,1004,1005,6,1007,8] ha hs λa w ha hs hH=>?_
  have hC:=hH.at w hs.rdAll
  refine RH 2 ha hs hH hC λa ha=>?_
  refine QH ha (λw hc=>ex_loadN ha Tryz.underlying28 rfl Ty.t28 (hc)) hC λa ha=>?_
  simp only[cfC]at ha
  refine RH 0 ha hs hH hC λa ha=>?_
  refine QH ha (λw hc=>ld1 ha (hc 0 _ rfl)) hC λa ha=>?_
  refine RH 0 ha hs hH hC λa ha=>?_
  refine SS ha (ld1 ha (hC 3 _ rfl)) λa ha=>?_
  refine RH 0 ha hs hH hC λa ha=>?_
  refine CL2 0 ha hs (queue_new (n:=n) (d:=delay) hs (by omega) (by omega)) λqb lbs a w ha hs=>?_
  replace hC:=hH.at w hs.rdAll
  refine RH 1 ha hs hH hC λa ha=>?_
  refine st_box ha rfl hs rfl λb15 a w ha hs ho=>?_
  clear ho
  refine RN 1 ha hs λa ha=>?_
  exact⟨_,qb,lbs,ha.keep [1,4],hs⟩
 clear ha;(try clear hs)
 rintro a w ⟨cb,qb,lbs,ha,hs⟩
 refine RN 5 ha hs λa ha=>?_
 replace hs:=hs.sl0 259 5 none
 refine wp_loop_ghost (λμ a w=>∃ (i:Nat) (ad:Option Addr) (c:Nat),(μ=n-i∧i≤n)∧Fr a 34 [(1,pt b1),(4,pt cb),(17,.int .i64 n),(18,.int .i64 i)]∧St W w (blk cb 257 [.int .i64 n,.int .i64 me,.int .i64 id,.int .i64 delay,.int .i64 window,.int .i64 guess,.int .i64 order,.int .i64 branches,.int .i64 workers,.int .i64 room,pt qb,.slice ad i c,.slice none 0 0,.slice none 0 0,.int .i64 0,.bool false]::Sl 259 5 ad i c (rows peC (List.replicate i (pe0 delay)))::Qu qb lbs (List.replicate n (List.replicate delay 0))::blk b1 28 (cfC ⟨n,me,id,delay,window,guess,order,branches,workers,room⟩)::L)) (n) (⟨0,none,0,⟨rfl,by omega⟩,ha.keep [1,4,17,18],(hs.perm (List.Perm.swap _ _ _):St W w (blk cb 257 _::Sl 259 5 none 0 0 []::_))⟩) ?_
 clear ha hs
 rintro μ a w ⟨i,ad,c,⟨rfl,hi⟩,ha,hs⟩
 refine IF 3 ha hs (λhc1 a ha=>?_) λhc1 a ha=>?_
 ·
  refine DWO 1 [6,7,8] [0,1,2,3,5,3004,1006,1007,1008,1009,10,11,1012] ha hs λa w ha hs hH hC=>?_
  refine RH 8 ha hs hH hC λa ha=>?_
  refine st_buildSlice ha rfl hs Tryz.underlying255 Ty.t259 rfl rfl rfl rfl (by decide) (by decide) λb28 a w ha hs ho=>?_
  replace hC:=hC.trans ho
  clear ho
  refine RH 0 ha hs hH hC λa ha=>?_
  refine st_append ha rfl hs Tryz.underlying255 Ty.t259 rfl rfl hs.rdAll rfl (peC_one (pe0 delay)) (by decide) (by decide) (by omega) λad29 c29 a w ha hs=>?_
  rw[show rows peC (List.replicate i (pe0 delay))++_=rows peC (List.replicate (i+1) (pe0 delay)) from by rw[List.replicate_succ',rows_app];rfl]at hs
  refine ST 2 ha hs (λa w ha hs=>?_)
  refine RN 2 ha hs λa ha=>?_
  exact⟨n-(i+1),by omega,i+1,ad29,c29,⟨rfl,by omega⟩,ha.keep [1,4,17,18],hs.sub⟩
 obtain rfl:i=n:=by omega
 replace hs:=hs.sl0 100 1 none
 replace hs:=hs.sl0 135 1 none
 refine RT 4 ha hs ?_
 obtain⟨bp,op,rfl,_⟩:=(hs.pick (Sl 259 5 ad i c (rows peC (List.replicate i (pe0 delay))))).slRd ad (by omega)
 refine⟨⟨cb,qb,lbs,bp,op⟩,rfl,?_⟩
 refine CoreS.close (A:=⟨c,none,0,none,0⟩) ?_
 have hl:(newK ⟨i,me,id,delay,window,guess,order,branches,workers,room⟩).ps.length=i:=by simp[newK]
 rw[coC,hl]
 exact hs.sub (M:=blk cb 257 [.int .i64 i,.int .i64 me,.int .i64 id,.int .i64 delay,.int .i64 window,.int .i64 guess,.int .i64 order,.int .i64 branches,.int .i64 workers,.int .i64 room,pt qb,.slice (some ⟨bp,op,none⟩) i c,.slice none 0 0,.slice none 0 0,.int .i64 0,.bool false]::Sl 259 5 (some ⟨bp,op,none⟩) i c (rows peC (List.replicate i (pe0 delay)))::Sl 100 1 none 0 0 []::Sl 135 1 none 0 0 []::Qu qb lbs (List.replicate i (List.replicate delay 0))::L)
theorem core_conf (hs:St W w (CoreS B k::L)):Calls Tryz.prog 292 #[pt B.cb] w λe w'=>e=.returned (.agg (cfC (ksCf k)).toArray)∧St W w' (CoreS B k::L):=by
 obtain⟨A,hs⟩:=CoreS.open hs
 refine EN Tryz.func292 Tryz.ntmps292 rfl rfl λa ha=>?_
 refine AL 1 ha hs λb2 a w ha hs=>?_
 refine RN 4 ha hs λa ha=>?_
 replace ha:=ha.isF 4
 refine SA 6 ha hs λa w ha hs=>?_
 refine RT 0 ha hs ?_
 exact⟨rfl,CoreS.close hs.tail⟩
theorem core_queue (hs:St W w (CoreS B k::L)):Calls Tryz.prog 134 #[pt B.cb] w λe w'=>e=.returned (pt B.qb)∧St W w' (CoreS B k::L):=by
 obtain⟨A,hs⟩:=CoreS.open hs
 refine EN Tryz.func134 Tryz.ntmps134 rfl rfl λa ha=>?_
 refine RN 6 ha hs λa ha=>?_
 replace ha:=ha.isF 4
 refine RT 7 ha hs ?_
 exact⟨rfl,CoreS.close hs⟩
theorem CoreS.quX (hs:St W w (CoreS B k::L)):∃ D:SP,St W w (Qu B.qb B.lbs k.ls::D::L)∧∀ (w':World) (L':List SP) (ls':List (List UInt8)),St W w' (Qu B.qb B.lbs ls'::D::L')→St W w' (CoreS B { k with ls:=ls' }::L'):=by
 obtain⟨A,hs⟩:=CoreS.open hs
 refine⟨λh=>sepL [blk B.cb 257 (coC k B A),Sl 259 5 (some ⟨B.bp,B.op,none⟩) k.ps.length A.cP (rows peC k.ps),Sl 100 1 A.adM k.mr.length A.cM (mrC k.mr),Sl 135 1 A.adE k.ev.length A.cE (k.ev.map evV)] h,?_,λw' L' ls' hs=>?_⟩
 · refine St.perm (L:=(λh=>sepL [blk B.cb 257 (coC k B A),Sl 259 5 (some ⟨B.bp,B.op,none⟩) k.ps.length A.cP (rows peC k.ps),Sl 100 1 A.adM k.mr.length A.cM (mrC k.mr),Sl 135 1 A.adE k.ev.length A.cE (k.ev.map evV)] h)::Qu B.qb B.lbs k.ls::L) ?_ (List.Perm.swap _ _ _)
   exact St.shut (M:=[_,_,_,_]) hs λ_ h=>h
 · have h1:=(hs.perm (List.Perm.swap _ _ _)).open (M:=[_,_,_,_]) λ_ h=>h
   exact CoreS.close (k:={ k with ls:=ls' }) (A:=A) h1
theorem CoreS.qu (hs:St W w (CoreS B k::L)):∃ D:SP,St W w (Qu B.qb B.lbs k.ls::D::L)∧∀ (w':World) (L':List SP),St W w' (Qu B.qb B.lbs k.ls::D::L')→St W w' (CoreS B k::L'):=by
 obtain⟨D,h1,h2⟩:=CoreS.quX hs
 exact⟨D,h1,λw' L' h=>h2 w' L' k.ls h⟩
theorem core_head (hs:St W w (CoreS B k::L))(hk:WC k):Calls Tryz.prog 275 #[pt B.cb] w λe w'=>e=.returned (.int .i64 (headK k))∧St W w' (CoreS B k::L):=by
 have hme:k.me<k.ls.length:=by rw[hk.ls];exact hk.me
 refine EN Tryz.func275 Tryz.ntmps275 rfl rfl λa ha=>?_
 refine CL 4 ha hs (core_queue hs) λa w ha hs=>?_
 refine CL 1 ha hs (core_conf hs) λa w ha hs=>?_
 refine RN 0 ha hs λa ha=>?_
 refine SS ha (ex_field1 ha Tryz.underlying28 rfl Tryz.underlying3 rfl rfl) λa ha=>?_
 obtain⟨D,hs,hD⟩:=CoreS.qu hs
 refine CL 0 ha hs (queue_line hs hme) λa w ha hs=>?_
 refine CL 0 ha hs (q_len hs hme) λa w ha hs=>?_
 refine RT 1 ha hs ?_
 exact⟨rfl,hD _ _ hs⟩
theorem core_closed (hs:St W w (CoreS B k::L)):Calls Tryz.prog 179 #[pt B.cb] w λe w'=>e=.returned (.bool k.cl)∧St W w' (CoreS B k::L):=by
 obtain⟨A,hs⟩:=CoreS.open hs
 refine EN Tryz.func179 Tryz.ntmps179 rfl rfl λa ha=>?_
 refine RN 6 ha hs λa ha=>?_
 replace ha:=ha.isF 5
 refine RT 6 ha hs ?_
 exact⟨rfl,CoreS.close hs⟩
theorem core_marks (hs:St W w (CoreS B k::L)):Calls Tryz.prog 133 #[pt B.cb] w λe w'=>e=.returned (.int .i64 k.mr.length)∧St W w' (CoreS B k::L):=by
 obtain⟨A,hs⟩:=CoreS.open hs
 refine EN Tryz.func133 Tryz.ntmps133 rfl rfl λa ha=>?_
 refine RN 6 ha hs λa ha=>?_
 replace ha:=ha.isF 4
 refine RT 8 ha hs ?_
 exact⟨rfl,CoreS.close hs⟩
theorem core_note (hs:St W w (CoreS B k::L))(he:evOk e)(hl:k.ev.length≤100):Calls Tryz.prog 204 #[pt B.cb,.agg (rawC e).toArray] w λr w'=>r=.returned (.tuple #[])∧St W w' (CoreS B { k with ev:=k.ev++[e] }::L):=by
 obtain⟨A,hs⟩:=CoreS.open hs
 refine EN Tryz.func204 Tryz.ntmps204 rfl rfl λa ha=>?_
 refine BX 1 ha hs λb3 a w ha hs=>?_
 change St W w (blk b3 102 (rawC e)::_) at hs
 refine CL 2 ha hs (event_of hs he) λa w ha hs=>?_
 refine AL 3 ha hs λb4 a w ha hs=>?_
 refine SA 0 ha hs λa w ha hs=>?_
 refine RN 3 ha hs λa ha=>?_
 replace ha:=ha.isT 11
 refine DWO 1 [5,6] [0,1,2,3,3004,1005,1006,1007,8,9,1010] ha hs λa w ha hs hH hC=>?_
 refine RH 6 ha hs hH hC λa ha=>?_
 refine st_buildSlice ha rfl hs Tryz.underlying90 Ty.t135 rfl rfl rfl rfl (by decide) (by decide) λb18 a w ha hs ho=>?_
 replace hC:=hC.trans ho
 clear ho
 refine RH 0 ha hs hH hC λa ha=>?_
 refine st_append ha rfl hs Tryz.underlying90 Ty.t135 rfl rfl hs.rdAll rfl (by simpa using evV_one e) (by decide) (by decide) (by omega) λad19 c19 a w ha hs=>?_
 rw[show List.map evV k.ev++_=List.map evV (k.ev++[e]) from by rw[List.map_append];rfl,show k.ev.length+1=(k.ev++[e]).length from by simp]at hs
 rw[show k.ev.length+1=(k.ev++[e]).length from by simp]at ha
 refine ST 2 ha hs (λa w ha hs=>?_)
 refine RT 0 ha hs ?_
 exact⟨rfl,CoreS.mk' (k:={ k with ev:=k.ev++[e] }) hs { A with adE:=ad19,cE:=c19 }⟩
structure CoR (w:World)(B:CoB)(k:Ks):Prop where
 cf:Rd w B.cb 0 [.int .i64 k.n,.int .i64 k.me,.int .i64 k.id,.int .i64 k.delay,.int .i64 k.window,.int .i64 k.guess,.int .i64 k.order,.int .i64 k.branches,.int .i64 k.workers,.int .i64 k.room,pt B.qb]
 now:w.cell? ⟨B.cb,14,none⟩=some (.int .i64 k.now)
 cl:w.cell? ⟨B.cb,15,none⟩=some (.bool k.cl)
 pe:∀ (i:Nat) (p:Pe),k.ps[i]?=some p→Rd w B.bp (B.op+i*5) (peC p)
 ml:∃ ad c,w.cell? ⟨B.cb,12,none⟩=some (.slice ad k.mr.length c)
 pl:∃ c,w.cell? ⟨B.cb,11,none⟩=some (.slice (some ⟨B.bp,B.op,none⟩) k.ps.length c)
theorem rows_part {α:Type}{f:α→List Value}{sz:Nat}(hf:∀ x,(f x).length=sz){l:List α}{i:Nat}{x:α}{b o:Nat}(h:Rd w b o (rows f l))(hx:l[i]?=some x):Rd w b (o+i*sz) (f x):=by
 obtain⟨hi,rfl⟩:=List.getElem?_eq_some_iff.1 hx
 have h1:=h.part (i*sz) sz
 rwa [rows_at hf l i hi]at h1
theorem CoreS.rd (hs:St W w (CoreS B k::L)):CoR w B k:=by
 obtain⟨A,hs⟩:=CoreS.open hs
 refine⟨hs.rdN 11,hs.rd1 rfl,hs.rd1 rfl,λi p hp=>?_,⟨_,_,hs.rd1 rfl⟩,⟨_,hs.rd1 rfl⟩⟩
 have hi:=(List.getElem?_eq_some_iff.1 hp).1
 exact rows_part peC_len (hs.slRdAt B.bp B.op (by omega)) hp
end
theorem mrC_get {l:List Nat}{i:Nat}(h:i<l.length):(mrC l)[i]?=some (.int .u32 (l.getD i 0:Nat)):=by
 rw[mrC,List.getElem?_map,List.getElem?_eq_getElem h,List.getD_eq_getElem?_getD,List.getElem?_eq_getElem h];rfl
theorem peK_at {k:Ks}{i:Nat}(h:i<k.ps.length):k.ps[i]?=some (peK k i):=by
 rw[peK,List.getD_eq_getElem?_getD,List.getElem?_eq_getElem h];rfl
theorem peK_el {k:Ks}{i:Nat}(h:i<k.ps.length):k.ps[i]=peK k i:=by
 rw[peK,List.getD_eq_getElem?_getD,List.getElem?_eq_getElem h];rfl
section
variable {W w:World}{L L':List SP}{n c i:Nat}{ad:Option Addr}{k:Ks}{A:CoA}{B:CoB}{x:UInt8}
theorem core_hold (hs:St W w (CoreS B k::L))(hk:WC k):Calls Tryz.prog 175 #[pt B.cb] w λr w'=>r=.returned (.tuple #[])∧St W w' (CoreS B (holdK k)::L):=by
 have hpl:k.ps.length=k.n:=hk.ps
 obtain⟨A0,hs⟩:=CoreS.open hs
 refine EN Tryz.func175 Tryz.ntmps175 rfl rfl λa ha=>?_
 refine RN 7 ha hs λa ha=>?_
 replace hs:=CoreS.close hs
 refine wp_loop_ghost (λμ a w=>∃ (i:Nat),(μ=k.ps.length-i∧i≤k.ps.length)∧Fr a 71 [(0,pt B.cb),(8,.int .i64 k.ps.length),(9,.int .i64 i)]∧St W w (CoreS B (holdN k i)::L)) (k.ps.length) (⟨0,⟨rfl,by omega⟩,ha.keep [0,8,9],hs⟩) ?_
 clear ha hs
 rintro μ a w ⟨i,⟨rfl,hi⟩,ha,hs⟩
 refine IF 3 ha hs (λhc0 a ha=>?_) λhc0 a ha=>?_
 ·
  have hil:i<k.ps.length:=by omega
  have hkk:=hk.holdN (i:=i) (by omega)
  have hkl:=holdN_len k i
  have hnx:holdN k (i+1)=hold1 (holdN k i) i:=rfl
  rw[hold1]at hnx
  generalize holdN k i=kk at hs hkk hkl hnx
  rw[← hkl]at hil
  have hpt:=hkk.pet (i:=i) (by rw[← hkk.ps];exact hil)
  have hat:=peK_at hil
  have hi8:i<8:=by have:=hkk.n;have:=hkk.ps;omega
  obtain⟨A,hs⟩:=CoreS.open hs
  have hrp:=rows_part peC_len (hs.slRdAt B.bp B.op (by omega)) hat
  refine RN 14 ha hs λa ha=>?_
  have hrp:Rd w.drew B.bp (B.op+i*5) (peC (peK kk i)):=hrp
  have hrc:Rd w.drew B.cb 0 (coC kk B A):=hs.drew.rdAll
  refine DWG 0 (Old w.drew) [13,14,31,35,36,37,38] [0,1,2,1003,4,5,6,7,8,10,11,12,3009,1013,1014,15,16,17,18,19,20,1021,22,23,24,25,26,28,29,30,32,33,34,3027,3031,1035,1036,1037,1038,39,40] ha hs λa ha=>?_
  replace hs:=hs.drew
  have hH:=Hd.old hs
  have hC:=Old.refl w.drew
  generalize w.drew=w at hs hH hC hrp hrc ⊢
  refine RH 3 ha hs hH hC λa ha=>?_
  refine SS ha (ld1 ha (hrp 2 _ rfl)) λa ha=>?_
  refine RH 2 ha hs hH hC λa ha=>?_
  refine ha.by (s:=23) (λhg5 ha=>?_) (λhg5 ha=>?_)
  ·
   refine RH 35 ha hs hH hC λa ha=>?_
   refine RN 3 ha hs λa ha=>?_
   rw[if_neg (λh=>by have:=h.2.1;omega)]at hnx
   exact⟨k.ps.length-(i+1),by omega,i+1,⟨rfl,by omega⟩,ha.keep [0,8,9],by rw[hnx];exact CoreS.close hs⟩
  refine RH 6 ha hs hH hC λa ha=>?_
  refine QH ha (λw hc=>ld1 ha (hc.cell (hrp 2 _ rfl))) hC λa ha=>?_
  refine RH 0 ha hs hH hC λa ha=>?_
  refine st_set ha (wgT ha rfl (s:=23)) (ld1 ha (hrc 12 _ rfl)) rfl λa ha=>?_
  refine RH 4 ha hs hH hC λa ha=>?_
  refine ha.by (s:=35) (λhg17 ha=>?_) (λhg17 ha=>?_)
  ·
   refine RH 23 ha hs hH hC λa ha=>?_
   refine RN 3 ha hs λa ha=>?_
   rw[if_neg (λh=>by have:=h.2.2.1;omega)]at hnx
   exact⟨k.ps.length-(i+1),by omega,i+1,⟨rfl,by omega⟩,ha.keep [0,8,9],by rw[hnx];exact CoreS.close hs⟩
  refine RH 3 ha hs hH hC λa ha=>?_
  refine st_set ha (wgT ha rfl (s:=35)) (ld1 ha (hrp 4 _ rfl)) rfl λa ha=>?_
  refine RH 2 ha hs hH hC λa ha=>?_
  refine ha.by (s:=41) (λhg23 ha=>?_) (λhg23 ha=>?_)
  ·
   refine RH 17 ha hs hH hC λa ha=>?_
   refine RN 3 ha hs λa ha=>?_
   rw[if_neg (λh=>by have:=h.1;rw[hg23]at this;cases this)]at hnx
   exact⟨k.ps.length-(i+1),by omega,i+1,⟨rfl,by omega⟩,ha.keep [0,8,9],by rw[hnx];exact CoreS.close hs⟩
  have hml:(peK kk i).frame-1<kk.mr.length:=by omega
  obtain⟨bm,om,hme,hrm⟩:=hs.slRd A.adM (by omega)
  have hrc2:=hrc 12 _ rfl
  rw[hme]at hrc2
  refine RH 9 ha hs hH hC λa ha=>?_
  refine QH ha (λw hc=>ld1 ha (hc.cell (hrp 3 _ rfl))) hC λa ha=>?_
  refine QH ha (λw hc=>ld1 ha (hc.cell (hrc2))) hC λa ha=>?_
  refine RH 0 ha hs hH hC λa ha=>?_
  refine st_set ha (wgT ha rfl (s:=41)) (ld1 ha (hrp 2 _ rfl)) rfl λa ha=>?_
  refine RH 1 ha hs hH hC λa ha=>?_
  rw[show (((peK kk i).frame:Nat):Int)-1=(((peK kk i).frame-1:Nat):Int) from by omega]at ha
  refine RH 1 ha hs hH hC λa ha=>?_
  refine st_set ha (wgT ha rfl (s:=41)) (ld1 ha (hrm ((peK kk i).frame-1) _ (mrC_get hml))) rfl λa ha=>?_
  refine RH 2 ha hs hH hC λa ha=>?_
  refine IF 0 ha hs (λhc1 a ha=>?_) λhc1 a ha=>?_
  ·
   refine RN 2 ha hs λa ha=>?_
   rw[if_neg (λh=>by have:=h.2.2.2;omega)]at hnx
   exact⟨k.ps.length-(i+1),by omega,i+1,⟨rfl,by omega⟩,ha.keep [0,8,9],by rw[hnx];exact CoreS.close hs⟩
  refine RN 1 ha hs λa ha=>?_
  rw[if_pos ⟨hg23,by omega,by omega,by omega⟩]at hnx
  refine RN 3 ha hs λa ha=>?_
  refine st_storeS (off:=B.op) (k:=i*5+4) ha rfl hs Ty.t4 rfl (by omega) (by rw[rows_len peC_len];omega) λa w ha hs=>?_
  rw[rows_set1 peC_len kk.ps { peK kk i with apart:=true } hil (by decide) (by rw[peK_el hil];rfl)]at hs
  have hll:(kk.ps.set i { peK kk i with apart:=true }).length=kk.ps.length:=List.length_set
  rw[show coC kk B A=coC { kk with ps:=kk.ps.set i { peK kk i with apart:=true } } B A from by simp only[coC,hll],← hll]at hs
  replace hs:=CoreS.mk' (L':=L) (B:=B) (k:={ kk with ps:=kk.ps.set i { peK kk i with apart:=true } }) hs A
  refine RN 5 ha hs λa ha=>?_
  refine SS ha (ld1 ha (((CoreS.rd hs).pe i { peK kk i with apart:=true } (by rw[List.getElem?_set_self hil])) 2 _ rfl)) λa ha=>?_
  refine CL 1 ha hs (core_note (e:=(3,i,(peK kk i).frame)) hs ⟨by simp,by simp,by have:=hkk.n;have:=hkk.ps;show i<8;omega,hpt.2.2.1,.inl rfl⟩ (by have:=hkk.evl;show kk.ev.length≤100;omega)) λa w ha hs=>?_
  refine RN 2 ha hs λa ha=>?_
  exact⟨k.ps.length-(i+1),by omega,i+1,⟨rfl,by omega⟩,ha.keep [0,8,9],by rw[hnx];exact hs⟩
 refine RT 0 ha hs ?_
 obtain rfl:i=k.ps.length:=by omega
 exact⟨rfl,hs⟩
theorem core_mark {s:Nat}(hs:St W w (CoreS B k::L))(hk:WC k)(hl:k.mr.length<1000)(hss:s<4294967296):Calls Tryz.prog 138 #[pt B.cb,.int .u32 s] w λr w'=>r=.returned (.tuple #[])∧St W w' (CoreS B (markK k s)::L):=by
 have hkm : WC { k with mr := k.mr ++ [s] } := { hk with
     mr:=by show (k.mr++[s]).length≤1000;rw[List.length_append,List.length_singleton];omega
     mrs:=λx hx=>by
       rcases List.mem_append.1 hx with hx | hx
       · exact hk.mrs x hx
       · rw[List.mem_singleton]at hx;rw[hx];exact hss }
 obtain⟨A,hs⟩:=CoreS.open hs
 refine EN Tryz.func138 Tryz.ntmps138 rfl rfl λa ha=>?_
 refine RN 5 ha hs λa ha=>?_
 replace ha:=ha.isF 6
 refine RN 7 ha hs λa ha=>?_
 rw[decide_eq_false (by omega)]at ha
 refine RN 8 ha hs λa ha=>?_
 refine st_buildSlice ha rfl hs Tryz.underlying69 Ty.t100 rfl rfl rfl rfl (by decide) (by decide) λb20 a w ha hs ho=>?_
 clear ho
 refine RN 0 ha hs λa ha=>?_
 refine st_append ha rfl hs Tryz.underlying69 Ty.t100 rfl rfl hs.rdAll rfl (by simp[Value.oneCell']) (by decide) (by decide) (by omega) λad21 c21 a w ha hs=>?_
 rw[show mrC k.mr++_=mrC (k.mr++[s]) from by rw[mrC,mrC,List.map_append];rfl,show k.mr.length+1=(k.mr++[s]).length from by simp]at hs
 rw[show k.mr.length+1=(k.mr++[s]).length from by simp]at ha
 refine ST 2 ha hs (λa w ha hs=>?_)
 refine RN 0 ha hs λa ha=>?_
 replace hs:=CoreS.mk' (B:=B) (L':=L) (k:={ k with mr:=k.mr++[s] }) hs { A with adM:=ad21,cM:=c21 }
 refine CL 1 ha hs (core_hold hs hkm) λa w ha hs=>?_
 refine RT 0 ha hs ?_
 exact⟨rfl,by rw[markK,if_pos hl];exact hs⟩
theorem core_events (hs:St W w (CoreS B k::L)):Calls Tryz.prog 296 #[pt B.cb] w λr w'=>∃ ad c,r=.returned (.slice ad k.ev.length c)∧St W w' (Sl 135 1 ad k.ev.length c (k.ev.map evV)::CoreS B { k with ev:=[] }::L):=by
 obtain⟨A,hs⟩:=CoreS.open hs
 refine EN Tryz.func296 Tryz.ntmps296 rfl rfl λa ha=>?_
 refine RN 6 ha hs λa ha=>?_
 replace ha:=ha.isF 5
 refine ST 11 ha hs (λa w ha hs=>?_)
 refine RT 3 ha hs ?_
 refine⟨A.adE,A.cE,rfl,?_⟩
 replace hs:=hs.sl0 135 1 none
 refine St.perm (L:=CoreS B { k with ev:=[] }::Sl 135 1 A.adE k.ev.length A.cE (k.ev.map evV)::L) ?_ (List.Perm.swap _ _ _)
 refine CoreS.close (A:=⟨A.cP,A.adM,A.cM,none,0⟩) ?_
 exact hs.sub (M:=blk B.cb 257 [.int .i64 k.n,.int .i64 k.me,.int .i64 k.id,.int .i64 k.delay,.int .i64 k.window,.int .i64 k.guess,.int .i64 k.order,.int .i64 k.branches,.int .i64 k.workers,.int .i64 k.room,pt B.qb,.slice (some ⟨B.bp,B.op,none⟩) k.ps.length A.cP,.slice A.adM k.mr.length A.cM,.slice none 0 0,.int .i64 k.now,.bool k.cl]::Sl 259 5 (some ⟨B.bp,B.op,none⟩) k.ps.length A.cP (rows peC k.ps)::Sl 100 1 A.adM k.mr.length A.cM (mrC k.mr)::Sl 135 1 none 0 0 []::Qu B.qb B.lbs k.ls::Sl 135 1 A.adE k.ev.length A.cE (k.ev.map evV)::L)
theorem core_press (hs:St W w (CoreS B k::L))(hk:WC k):Calls Tryz.prog 297 #[pt B.cb,.int .u8 (x.toNat:Nat)] w λr w'=>r=.returned (.int .i64 (pressK x k).1)∧St W w' (CoreS B (pressK x k).2::L):=by
 have hme:k.me<k.ls.length:=by rw[hk.ls];exact hk.me
 have hhd:=hk.headt
 have hfr:frontL k.ls≤headK k:=hk.frontt
 refine EN Tryz.func297 Tryz.ntmps297 rfl rfl λa ha=>?_
 refine CL 5 ha hs (core_closed hs) λa w ha hs=>?_
 refine IF 1 ha hs (λhc0 a ha=>?_) λhc0 a ha=>?_
 ·
  refine RT 2 ha hs ?_
  exact⟨by rw[pressK,if_pos hc0],by rw[pressK,if_pos hc0];exact hs⟩
 have hcl:¬ k.cl=true:=by rw[hc0];decide
 refine CL 2 ha hs (core_head hs hk) λa w ha hs=>?_
 refine IF 2 ha hs (λhc1 a ha=>?_) λhc1 a ha=>?_
 ·
  refine RT 2 ha hs ?_
  exact⟨by rw[pressK,if_neg hcl,if_pos (by omega)],by rw[pressK,if_neg hcl,if_pos (by omega)];exact hs⟩
 refine DWC 1 (λw0 w'=>CoR w' B k) [1,6,7,12] [0,2,3,4,8,9,10,11,3005,3012,1001,1006,1007,13,14] ha hs λa w ha hs hH=>?_
 have hC:=hH.at w (CoreS.rd hs)
 refine RH 8 ha hs hH hC λa ha=>?_
 refine QH ha (λw hc=>ld1 ha (hc.cf 10 _ rfl)) hC λa ha=>?_
 refine QH ha (λw hc=>ld1 ha (hc.cf 4 _ rfl)) hC λa ha=>?_
 refine RH 0 ha hs hH hC λa ha=>?_
 refine CL 0 ha hs (core_head hs hk) λa w ha hs=>?_
 replace hC:=hH.at w (CoreS.rd hs)
 obtain⟨D,hs,hD⟩:=CoreS.qu hs
 refine RH 0 ha hs hH hC λa ha=>?_
 refine CL 0 ha hs (queue_front hs hk.lne (by rw[hk.ls];exact hk.n.2)) λa w ha hs=>?_
 replace hC:=hH.at w (CoreS.rd (hD _ _ hs))
 replace hs:=hD _ _ hs
 refine RH 3 ha hs hH hC λa ha=>?_
 refine IF 0 ha hs (λhc2 a ha=>?_) λhc2 a ha=>?_
 ·
  refine RT 2 ha hs ?_
  exact⟨by rw[pressK,if_neg hcl,if_neg (by omega),if_pos (by rw[frontK];omega)],by rw[pressK,if_neg hcl,if_neg (by omega),if_pos (by rw[frontK];omega)];exact hs⟩
 refine DWC 1 (λw0 w'=>CoR w' B k) [8] [0,1,2,4,5,6,7,10,3003,1008,1009,1011,12] ha hs λa w ha hs hH=>?_
 have hC:=hH.at w (CoreS.rd hs)
 refine RH 8 ha hs hH hC λa ha=>?_
 refine QH ha (λw hc=>ld1 ha (hc.cf 10 _ rfl)) hC λa ha=>?_
 refine RH 0 ha hs hH hC λa ha=>?_
 refine SS ha (ld1 ha (hC.cf 1 _ rfl)) λa ha=>?_
 obtain⟨D,hs,hD⟩:=CoreS.quX hs
 refine RH 0 ha hs hH hC λa ha=>?_
 refine CL 0 ha hs (queue_line hs hme) λa w ha hs=>?_
 refine CL 0 ha hs (q_add hs hme (by simp only[headK]at hc1;omega)) λa w ha hs=>?_
 refine RN 1 ha hs λa ha=>?_
 refine RT 0 ha hs ?_
 have hpk:pressK x k=(0,{ k with ls:=k.ls.set k.me (k.ls.getD k.me []++[x]) }):=by rw[pressK,if_neg hcl,if_neg (by omega),if_neg (by rw[frontK];omega)]
 rw[hpk]
 exact⟨rfl,hD _ _ _ hs⟩
end
def ivn (l:List Nat):List Value:=l.map λi:Nat=>Value.int .i64 (i:Int)
theorem ivn_at {l:List Nat}{i j:Nat}(h:l[i]?=some j):(ivn l)[i]?=some (.int .i64 (j:Int)):=by rw[ivn,List.getElem?_map,h];rfl
def othN (k:Ks)(i:Nat):List Nat:=(List.range i).filter (·≠k.me)
theorem othN_succ (k:Ks)(i:Nat):othN k (i+1)=if i=k.me then othN k i else othN k i++[i]:=by
 rw[othN,List.range_succ,List.filter_append]
 by_cases h:i=k.me
 · rw[if_pos h];simp[h,othN]
 · rw[if_neg h];simp[h,othN]
theorem othN_le (k:Ks):∀ i,(othN k i).length≤i:=λi=>by
 have:=List.length_filter_le (λx=>decide (x≠k.me)) (List.range i)
 rw[List.length_range]at this
 exact this
abbrev Mx:=Option Addr×Nat×Ml
abbrev mlC (x:Mx):List Value:=[.int .i64 x.2.2.1,.int .i64 x.2.2.2.1,.slice x.1 x.2.2.2.2.length x.2.1]
theorem mlC_len (x:Mx):(mlC x).length=3:=rfl
def mlo (x:Mx):SP:=Sl 5 1 x.1 x.2.2.2.2.length x.2.1 (bc x.2.2.2.2)
def OwnMl (e:TypeId)(ad:Option Addr)(n c:Nat)(ms:List Ml):SP:=λh=>∃ xs:List Mx,(xs.map (·.2.2)=ms∧ms.length=n)∧sepL [Sl e 3 ad n c (rows mlC xs),All mlo xs] h
section
variable {W w:World}{L L':List SP}{n c i e to:Nat}{ad adP:Option Addr}{k:Ks}{A:CoA}{B:CoB}{x:UInt8}{ms:List Ml}{p:Pk}
theorem OwnMl.open (hs:St W w (OwnMl e ad n c ms::L)):∃ xs:List Mx,xs.map (·.2.2)=ms∧ms.length=n∧St W w (Sl e 3 ad n c (rows mlC xs)::All mlo xs::L):=by
 obtain⟨xs,⟨h1,h2⟩,hs⟩:=hs.exi (ι:=List Mx) (p:=λxs=>xs.map (·.2.2)=ms∧ms.length=n) (B:=λxs h=>sepL [Sl e 3 ad n c (rows mlC xs),All mlo xs] h) λ_ ⟨xs,h1,h2⟩=>⟨xs,h1,h2⟩
 exact⟨xs,h1,h2,hs.open (M:=[_,_]) λ_ h=>h⟩
theorem OwnMl.close {xs:List Mx}(hs:St W w (Sl e 3 ad n c (rows mlC xs)::All mlo xs::L))(h1:xs.map (·.2.2)=ms)(h2:ms.length=n):St W w (OwnMl e ad n c ms::L) :=
 St.shut (M:=[_,_]) hs λ_ h=>⟨xs,⟨h1,h2⟩,h⟩
theorem OwnMl.nil (hs:St W w L):St W w (OwnMl e none 0 0 []::L):=OwnMl.close (xs:=[]) (St.sl0 (St.allNil hs) e 3 none) rfl rfl
theorem core_others (hs:St W w (CoreS B k::L))(hk:WC k):Calls Tryz.prog 315 #[pt B.cb] w λr w'=>∃ ad c,r=.returned (.slice ad (othersK k).length c)∧St W w' (Sl 3 1 ad (othersK k).length c (ivn (othersK k))::CoreS B k::L):=by
 have hps:=hk.ps
 have hn:=hk.n
 obtain⟨A,hs⟩:=CoreS.open hs
 refine EN Tryz.func315 Tryz.ntmps315 rfl rfl λa ha=>?_
 refine RN 12 ha hs λa ha=>?_
 rw[hps]at ha
 replace hs:=CoreS.close hs
 replace hs:=hs.sl0 3 1 none
 refine wp_loop_ghost (λμ a w=>∃ (i:Nat) (ad:Option Addr) (c:Nat),(μ=k.n-i∧i≤k.n)∧Fr a 26 [(0,pt B.cb),(3,.slice ad (othN k i).length c),(9,.int .i64 k.n),(10,.int .i64 i)]∧St W w (Sl 3 1 ad (othN k i).length c (ivn (othN k i))::CoreS B k::L)) (k.n) (⟨0,none,0,⟨rfl,by omega⟩,ha.keep [0,3,9,10],hs⟩) ?_
 clear ha hs
 rintro μ a w ⟨i,ad,c,⟨rfl,hi⟩,ha,hs⟩
 refine IF 3 ha hs (λhc0 a ha=>?_) λhc0 a ha=>?_
 ·
  have hol:=othN_le k i
  have hsu:=othN_succ k i
  refine RN 10 ha hs λa ha=>?_
  refine SS ha (ld1 ha (((CoreS.rd hs.tail).cf 1 _ rfl))) λa ha=>?_
  refine IF 1 ha hs (λhc1 a ha=>?_) λhc1 a ha=>?_
  ·
   rw[if_neg (by omega)]at hsu
   refine RN 2 ha hs λa ha=>?_
   refine st_buildSlice ha rfl hs Tryz.underlying53 Ty.t3 rfl rfl rfl rfl (by decide) (by decide) λb22 a w ha hs ho=>?_
   clear ho
   refine RN 0 ha hs λa ha=>?_
   refine st_append ha rfl hs Tryz.underlying53 Ty.t3 rfl rfl hs.rdAll rfl (by simp[Value.oneCell']) (by decide) (by decide) (by omega) λad23 c23 a w ha hs=>?_
   rw[show ivn (othN k i)++_=ivn (othN k (i+1)) from by rw[hsu,ivn,ivn,List.map_append];rfl,show (othN k i).length+1=(othN k (i+1)).length from by rw[hsu,List.length_append];rfl]at hs
   rw[show (othN k i).length+1=(othN k (i+1)).length from by rw[hsu,List.length_append];rfl]at ha
   refine RN 3 ha hs λa ha=>?_
   exact⟨k.n-(i+1),by omega,i+1,ad23,c23,⟨rfl,by omega⟩,ha.keep [0,3,9,10],hs.sub⟩
  rw[if_pos (by omega)]at hsu
  refine RN 2 ha hs λa ha=>?_
  exact⟨k.n-(i+1),by omega,i+1,ad,c,⟨rfl,by omega⟩,by rw[hsu];exact ha.keep [0,3,9,10],by rw[hsu];exact hs⟩
 refine RT 3 ha hs ?_
 obtain rfl:i=k.n:=by omega
 exact⟨ad,c,rfl,hs⟩
def sent (k:Ks)(to:Nat)(p:Pk):Pk:={ p with from':=k.me,to:=to,id:=k.id }
theorem core_mail (hs:St W w (CoreS B k::L))(hsum:p.sum<4294967296)(hp:∀ w',St W w' (CoreS B k::L)→RdB w' adP p.press.length p.press) :
   Calls Tryz.prog 316 #[pt B.cb,.agg (pkC p adP c).toArray,.int .i64 to] w λr w'=>∃ ad' c',r=.returned (.agg (mlC (ad',c',(k.me,to,encO (sent k to p)))).toArray)∧St W w' (mlo (ad',c',(k.me,to,encO (sent k to p)))::CoreS B k::L):=by
 refine EN Tryz.func316 Tryz.ntmps316 rfl rfl λa ha=>?_
 refine BX 1 ha hs λb4 a w ha hs=>?_
 simp only[pkC]at hs
 refine AL 0 ha hs λb6 a w ha hs=>?_
 refine DWC 1 (λw0 w'=>CoR w' B k) [10,12,13,14] [0,1,2,3,5,6,7,8,9,3004,11,3010,1012,1013,1014,15,1016] ha hs λa w ha hs hH=>?_
 have hC:=hH.at w (CoreS.rd (hs.pick (CoreS B k)))
 refine RH 9 ha hs hH hC λa ha=>?_
 refine QH ha (λw hc=>ld1 ha (hc.cf 1 _ rfl)) hC λa ha=>?_
 refine RH 1 ha hs hH hC λa ha=>?_
 refine QH ha (λw hc=>ld1 ha (hc.cf 2 _ rfl)) hC λa ha=>?_
 refine RH 0 ha hs hH hC λa ha=>?_
 refine ST 0 ha hs (λa w ha hs=>?_)
 replace hC:=hH.at w (CoreS.rd (hs.pick (CoreS B k)))
 refine RH 1 ha hs hH hC λa ha=>?_
 refine ST 0 ha hs (λa w ha hs=>?_)
 replace hC:=hH.at w (CoreS.rd (hs.pick (CoreS B k)))
 refine RH 1 ha hs hH hC λa ha=>?_
 refine ST 0 ha hs (λa w ha hs=>?_)
 refine DWC 1 (λw0 w'=>Rd w' b4 0 (pkC (sent k to p) adP c)) [3,4,5] [0,2,3001,3003,1004,1005,6,1007] ha hs λa w ha hs hH=>?_
 have hC:=hH.at w (hs.rdAll (b:=b4))
 refine RH 2 ha hs hH hC λa ha=>?_
 refine QH ha (λw hc=>ld1 ha (hc 1 _ rfl)) hC λa ha=>?_
 refine QH ha (λw hc=>ld1 ha (hc 2 _ rfl)) hC λa ha=>?_
 refine RH 0 ha hs hH hC λa ha=>?_
 refine SS ha (ex_loadN ha Tryz.underlying203 rfl Ty.t203 (hC)) λa ha=>?_
 refine RH 0 ha hs hH hC λa ha=>?_
 refine CL2 0 ha hs (packet_enc (p:=sent k to p) (ad:=adP) (c:=c) hs hsum (λw' hw=>hp w' hw.sub)) λad2 c2 a w ha hs=>?_
 replace hC:=hH.at w (hs.rdAll (b:=b4))
 refine RH 1 ha hs hH hC λa ha=>?_
 refine SA 0 ha hs λa w ha hs=>?_
 refine RT 0 ha hs ?_
 exact⟨ad2,c2,rfl,hs.sub (M:=Sl 5 1 ad2 (encO (sent k to p)).length c2 (bc (encO (sent k to p)))::CoreS B k::L)⟩
theorem lastD_get {l:List Nat}(h:0<l.length):l.getD (l.length-1) 0=l.getLastD 0:=by
 rw[List.getLastD_eq_getLast?,List.getLast?_eq_getElem?,List.getD_eq_getElem?_getD]
theorem sent_mail (k:Ks)(to:Nat):sent k to ⟨1,0,0,0,(peK k to).has,(k.ls.getD to []).length,k.mr.length,k.mr.getLastD 0,((k.ls.getD k.me []).drop (peK k to).has).take 32⟩=mailPk k to:=rfl
set_option maxHeartbeats 1000000 in
theorem core_input (hs:St W w (CoreS B k::L))(hk:WC k)(hto:to<k.n):Calls Tryz.prog 319 #[pt B.cb,.int .i64 to] w λr w'=>∃ ad' c',r=.returned (.agg (mlC (ad',c',(k.me,to,encO (mailPk k to)))).toArray)∧St W w' (mlo (ad',c',(k.me,to,encO (mailPk k to)))::CoreS B k::L):=by
 have hme:k.me<k.ls.length:=by rw[hk.ls];exact hk.me
 have htl:to<k.ls.length:=by rw[hk.ls];exact hto
 have htp:to<k.ps.length:=by rw[hk.ps];exact hto
 have hpt:=hk.pet hto
 have hml:=hk.lnt hk.me
 have hat:=peK_at htp
 have hn:=hk.n
 have hmr:=hk.mr
 obtain⟨A,hs⟩:=CoreS.open hs
 refine EN Tryz.func319 Tryz.ntmps319 rfl rfl λa ha=>?_
 refine AL 1 ha hs λb4 a w ha hs=>?_
 refine RN 0 ha hs λa ha=>?_
 refine wp_seq_cut (M:=λa w=>∃ b5:Nat,Fr a 62 [(0,pt B.cb),(1,.int .i64 to),(4,pt b4),(5,pt b5)]∧St W w (blk b5 203 [.int .i64 1,.int .i64 0,.int .i64 0,.int .i64 0,.int .i64 (peK k to).has,.slice none 0 0,.int .i64 (k.ls.getD to []).length,.int .i64 k.mr.length,.int .u32 0]::blk b4 124 [.int .i64 0,.int .i64 0,.slice none 0 0]::blk B.cb 257 (coC k B A)::Sl 259 5 (some ⟨B.bp,B.op,none⟩) k.ps.length A.cP (rows peC k.ps)::Sl 100 1 A.adM k.mr.length A.cM (mrC k.mr)::Sl 135 1 A.adE k.ev.length A.cE (k.ev.map evV)::Qu B.qb B.lbs k.ls::L)) ?_ ?_
 ·
  refine DWC 0 (λw0 w'=>Rd w' B.cb 0 (coC k B A)∧Rd w' B.bp (B.op+to*5) (peC (peK k to))) [11,13,14,18,19,21] [0,1,2,4,8,9,10,12,15,16,17,3003,5,6,3007,3011,3018,3019,2013,2014,20,1021,1022] ha hs λa w ha hs hH=>?_
  have hC:=hH.at w ⟨hs.rdAll (b:=B.cb),rows_part peC_len (hs.slRdAt B.bp B.op (by omega)) hat⟩
  refine RH 11 ha hs hH hC λa ha=>?_
  refine QH ha (λw hc=>ld1 ha (hc.1 11 _ rfl)) hC λa ha=>?_
  refine RH 2 ha hs hH hC λa ha=>?_
  refine QH ha (λw hc=>ld1 ha (hc.2 0 _ rfl)) hC λa ha=>?_
  refine QH ha (λw hc=>ld1 ha (hc.1 10 _ rfl)) hC λa ha=>?_
  refine QH ha (λw hc=>ld1 ha (hc.1 12 _ rfl)) hC λa ha=>?_
  refine RH 1 ha hs hH hC λa ha=>?_
  refine DN [(13,[2014,20,1021,1022]),(21,[1013,1014,20,1022])] (by kernel_rfl) rfl ⟨⟨_,rfl,?_⟩,⟨_,rfl,?_⟩,trivial⟩
  ·
   refine RH 0 ha hs hH hC λa ha=>?_
   refine CL 0 ha hs (queue_line (hs.pick (Qu B.qb B.lbs k.ls)) htl) λa w ha hs=>?_
   replace hC:=hH.at w ⟨hs.rdAll (b:=B.cb),rows_part peC_len (hs.slRdAt B.bp B.op (by omega)) hat⟩
   refine RH 0 ha hs hH hC λa ha=>?_
   refine DN [(14,[20,1021,1022]),(21,[1014,20,1022])] (by kernel_rfl) rfl ⟨⟨_,rfl,?_⟩,⟨_,rfl,?_⟩,trivial⟩
   ·
    refine RH 0 ha hs hH hC λa ha=>?_
    refine CL 0 ha hs (q_len (hs.pick (Qu B.qb B.lbs k.ls)) htl) λa w ha hs=>?_
    replace hC:=hH.at w ⟨hs.rdAll (b:=B.cb),rows_part peC_len (hs.slRdAt B.bp B.op (by omega)) hat⟩
    refine RH 1 ha hs hH hC λa ha=>?_
    refine st_alloc ha rfl hs Ty.t203 rfl λb5 a w ha hs ho=>?_
    clear ho
    replace hC:=hH.at w ⟨hs.rdAll (b:=B.cb),rows_part peC_len (hs.slRdAt B.bp B.op (by omega)) hat⟩
    refine RH 0 ha hs hH hC λa ha=>?_
    refine SA 0 ha hs λa w ha hs=>?_
    refine RN 0 ha hs λa ha=>?_
    exact⟨_,ha.keep [0,1,4,5],hs.sub⟩
   refine RH 0 ha hs hH hC λa ha=>?_
   refine st_alloc ha rfl hs Ty.t203 rfl λb5 a w ha hs ho=>?_
   clear ho
   replace hC:=hH.at w ⟨hs.rdAll (b:=B.cb),rows_part peC_len (hs.slRdAt B.bp B.op (by omega)) hat⟩
   refine RH 0 ha hs hH hC λa ha=>?_
   refine CL 0 ha hs (q_len (hs.pick (Qu B.qb B.lbs k.ls)) htl) λa w ha hs=>?_
   replace hC:=hH.at w ⟨hs.rdAll (b:=B.cb),rows_part peC_len (hs.slRdAt B.bp B.op (by omega)) hat⟩
   refine RH 1 ha hs hH hC λa ha=>?_
   refine SA 0 ha hs λa w ha hs=>?_
   refine RN 0 ha hs λa ha=>?_
   exact⟨_,ha.keep [0,1,4,5],hs.sub⟩
  refine RH 0 ha hs hH hC λa ha=>?_
  refine st_alloc ha rfl hs Ty.t203 rfl λb5 a w ha hs ho=>?_
  clear ho
  replace hC:=hH.at w ⟨hs.rdAll (b:=B.cb),rows_part peC_len (hs.slRdAt B.bp B.op (by omega)) hat⟩
  refine RH 0 ha hs hH hC λa ha=>?_
  refine CL 0 ha hs (queue_line (hs.pick (Qu B.qb B.lbs k.ls)) htl) λa w ha hs=>?_
  replace hC:=hH.at w ⟨hs.rdAll (b:=B.cb),rows_part peC_len (hs.slRdAt B.bp B.op (by omega)) hat⟩
  refine RH 0 ha hs hH hC λa ha=>?_
  refine CL 0 ha hs (q_len (hs.pick (Qu B.qb B.lbs k.ls)) htl) λa w ha hs=>?_
  replace hC:=hH.at w ⟨hs.rdAll (b:=B.cb),rows_part peC_len (hs.slRdAt B.bp B.op (by omega)) hat⟩
  refine RH 1 ha hs hH hC λa ha=>?_
  refine SA 0 ha hs λa w ha hs=>?_
  refine RN 0 ha hs λa ha=>?_
  exact⟨_,ha.keep [0,1,4,5],hs.sub⟩
 clear ha;(try clear hs)
 rintro a w ⟨b5,ha,hs⟩
 refine wp_seq_cut (M:=λa w=>∃ (adp:Option Addr) (cp:Nat),Fr a 62 [(0,pt B.cb),(1,.int .i64 to),(4,pt b4),(5,pt b5)]∧St W w (blk b5 203 [.int .i64 1,.int .i64 0,.int .i64 0,.int .i64 0,.int .i64 (peK k to).has,.slice adp (((k.ls.getD k.me []).drop (peK k to).has).take 32).length cp,.int .i64 (k.ls.getD to []).length,.int .i64 k.mr.length,.int .u32 0]::Sl 5 1 adp (((k.ls.getD k.me []).drop (peK k to).has).take 32).length cp (bc (((k.ls.getD k.me []).drop (peK k to).has).take 32))::blk b4 124 [.int .i64 0,.int .i64 0,.slice none 0 0]::blk B.cb 257 (coC k B A)::Sl 259 5 (some ⟨B.bp,B.op,none⟩) k.ps.length A.cP (rows peC k.ps)::Sl 100 1 A.adM k.mr.length A.cM (mrC k.mr)::Sl 135 1 A.adE k.ev.length A.cE (k.ev.map evV)::Qu B.qb B.lbs k.ls::L)) ?_ ?_
 ·
  refine DWC 0 (λw0 w'=>Rd w' B.cb 0 (coC k B A)∧Rd w' b5 0 [.int .i64 1,.int .i64 0,.int .i64 0,.int .i64 0,.int .i64 (peK k to).has,.slice none 0 0,.int .i64 (k.ls.getD to []).length,.int .i64 k.mr.length,.int .u32 0]) [8,9,11] [0,1,2,4,5,6,7,10,3003,3008,3011,1009,1012,13,1014] ha hs λa w ha hs hH=>?_
  have hC:=hH.at w ⟨hs.rdAll (b:=B.cb),hs.rdAll (b:=b5)⟩
  refine RH 8 ha hs hH hC λa ha=>?_
  refine QH ha (λw hc=>ld1 ha (hc.1 10 _ rfl)) hC λa ha=>?_
  refine QH ha (λw hc=>ld1 ha (hc.1 1 _ rfl)) hC λa ha=>?_
  refine QH ha (λw hc=>ld1 ha (hc.2 4 _ rfl)) hC λa ha=>?_
  refine RH 0 ha hs hH hC λa ha=>?_
  refine CL 0 ha hs (queue_line (hs.pick (Qu B.qb B.lbs k.ls)) hme) λa w ha hs=>?_
  replace hC:=hH.at w ⟨hs.rdAll (b:=B.cb),hs.rdAll (b:=b5)⟩
  refine RH 0 ha hs hH hC λa ha=>?_
  refine CL2 0 ha hs (q_from (k:=32) (hs.pick (Qu B.qb B.lbs k.ls)) hme hml hpt.1 (by decide)) λadp cp a w ha hs=>?_
  refine ST 1 ha hs (λa w ha hs=>?_)
  refine RN 0 ha hs λa ha=>?_
  exact⟨adp,cp,ha.keep [0,1,4,5],hs.sub⟩
 clear ha;(try clear hs)
 rintro a w ⟨adp,cp,ha,hs⟩
 refine wp_seq_cut (M:=λa w=>Fr a 62 [(0,pt B.cb),(1,.int .i64 to),(4,pt b4),(5,pt b5)]∧St W w (blk b5 203 [.int .i64 1,.int .i64 0,.int .i64 0,.int .i64 0,.int .i64 (peK k to).has,.slice adp (((k.ls.getD k.me []).drop (peK k to).has).take 32).length cp,.int .i64 (k.ls.getD to []).length,.int .i64 k.mr.length,.int .u32 (k.mr.getLastD 0:Nat)]::Sl 5 1 adp (((k.ls.getD k.me []).drop (peK k to).has).take 32).length cp (bc (((k.ls.getD k.me []).drop (peK k to).has).take 32))::blk b4 124 [.int .i64 0,.int .i64 0,.slice none 0 0]::CoreS B k::L)) ?_ ?_
 ·
  refine IF 10 ha hs (λhc0 a ha=>?_) λhc0 a ha=>?_
  ·
   obtain⟨bm,om,hme2,hrm⟩:=(hs.pick (Sl 100 1 A.adM k.mr.length A.cM (mrC k.mr))).slRd A.adM (by omega)
   refine RN 4 ha hs λa ha=>?_
   rw[hme2]at ha
   refine RN 2 ha hs λa ha=>?_
   rw[show ((k.mr.length:Nat):Int)-1=((k.mr.length-1:Nat):Int) from by omega]at ha
   refine RN 1 ha hs λa ha=>?_
   refine SS ha (ld1 ha (hrm (k.mr.length-1) _ (mrC_get (by omega)))) λa ha=>?_
   refine ST 1 ha hs (λa w ha hs=>?_)
   refine RN 0 ha hs λa ha=>?_
   rw[lastD_get (by omega)]at hs
   exact⟨ha.keep [0,1,4,5],(CoreS.fold hs B k A).sub⟩
  refine RN 0 ha hs λa ha=>?_
  have h0:k.mr.getLastD 0=0:=by rw[List.eq_nil_of_length_eq_zero (l:=k.mr) (by omega)];rfl
  exact⟨ha.keep [0,1,4,5],by rw[h0];exact (CoreS.fold hs B k A).sub⟩
 clear ha;(try clear hs)
 rintro a w ⟨ha,hs⟩
 refine CL2 4 ha hs (core_mail (p:=⟨1,0,0,0,(peK k to).has,(k.ls.getD to []).length,k.mr.length,k.mr.getLastD 0,((k.ls.getD k.me []).drop (peK k to).has).take 32⟩) (adP:=adp) (c:=cp) (hs.pick (CoreS B k)) (by
   show k.mr.getLastD 0<4294967296
   rw[List.getLastD_eq_getLast?]
   cases hl:k.mr.getLast? with
   | none=>decide
   | some s=>exact hk.mrs s (List.mem_of_getLast? hl)) (λw' hw=>(hw.pick (Sl 5 1 adp (((k.ls.getD k.me []).drop (peK k to).has).take 32).length cp (bc (((k.ls.getD k.me []).drop (peK k to).has).take 32)))).rdB adp _ rfl rfl)) λad2 c2 a w ha hs=>?_
 rw[sent_mail]at ha hs
 refine SA 0 ha hs λa w ha hs=>?_
 refine RT 0 ha hs ?_
 exact⟨ad2,c2,rfl,hs.sub⟩
def mailsT (k:Ks)(j:Nat):List Ml:=((othersK k).take j).map λi=>(k.me,i,encO (mailPk k i))
def mailsQ (k:Ks)(j:Nat):List Ml:=((othersK k).take j).map λi=>(k.me,i,encO (quitPk k i))
theorem othersK_le (k:Ks):(othersK k).length≤k.n:=othN_le k k.n
theorem core_quit (hs:St W w (CoreS B k::L))(hk:WC k):Calls Tryz.prog 298 #[pt B.cb] w λr w'=>∃ ad c,r=.returned (.slice ad (quitK k).1.length c)∧St W w' (OwnMl 124 ad (quitK k).1.length c (quitK k).1::CoreS B (quitK k).2::L):=by
 have hn:=hk.n
 have hol:=othersK_le k
 refine EN Tryz.func298 Tryz.ntmps298 rfl rfl λa ha=>?_
 refine CL 5 ha hs (core_closed hs) λa w ha hs=>?_
 refine IF 0 ha hs (λhc0 a ha=>?_) λhc0 a ha=>?_
 ·
  refine RT 2 ha hs ?_
  exact⟨none,0,by rw[quitK,if_pos hc0];rfl,by rw[quitK,if_pos hc0];exact OwnMl.nil hs⟩
 have hq:quitK k=((othersK k).map λi=>(k.me,i,encO (quitPk k i)),{ k with cl:=true }):=by rw[quitK,if_neg (by rw[hc0];decide)]
 obtain⟨A,hs⟩:=CoreS.open hs
 refine ST 4 ha hs (λa w ha hs=>?_)
 refine RN 0 ha hs λa ha=>?_
 replace hs:=CoreS.mk' (B:=B) (L':=L) (k:={ k with cl:=true }) hs A
 refine CL2 5 ha hs (core_others hs (by exact (hk.quit).1 |> λh=>by rw[hq]at h;exact h)) λado co a w ha hs=>?_
 refine RN 2 ha hs λa ha=>?_
 replace hs:=St.sl0 (St.allNil (f:=mlo) hs) 124 3 none
 replace ha:Fr a 27 ((14,.int .i64 (0:Nat))::(13,.int .i64 (othersK k).length)::(12,.slice ado (othersK k).length co)::(3,.slice none 0 0)::(0,pt B.cb)::[]):=ha.keep [14,13,12,3,0]
 refine wp_loop_ghost (λμ a w=>∃ (j:Nat) (xs:List Mx) (ad:Option Addr) (c:Nat),(μ=(othersK k).length-j∧j≤(othersK k).length∧xs.map (·.2.2)=mailsQ k j∧xs.length=j)∧Fr a 27 [(0,pt B.cb),(3,.slice ad j c),(12,.slice ado (othersK k).length co),(13,.int .i64 (othersK k).length),(14,.int .i64 j)]∧St W w (Sl 124 3 ad j c (rows mlC xs)::All mlo xs::Sl 3 1 ado (othersK k).length co (ivn (othersK k))::CoreS B { k with cl:=true }::L)) ((othersK k).length) (⟨0,[],none,0,⟨rfl,by omega,rfl,rfl⟩,ha.keep [0,3,12,13,14],hs⟩) ?_
 clear ha hs
 rintro μ a w ⟨j,xs,ad,c,⟨rfl,hj,hxm,hxl⟩,ha,hs⟩
 refine IF 3 ha hs (λhc1 a ha=>?_) λhc1 a ha=>?_
 ·
  obtain⟨i,hi⟩:∃ i,(othersK k)[j]?=some i:=⟨_,List.getElem?_eq_getElem (by omega)⟩
  obtain⟨bo,oo,rfl,hro⟩:=(hs.pick (Sl 3 1 ado (othersK k).length co (ivn (othersK k)))).slRd ado (by omega)
  refine RN 3 ha hs λa ha=>?_
  refine SS ha (ld1 ha (hro j _ (ivn_at hi))) λa ha=>?_
  refine CL2 5 ha hs (core_mail (k:={ k with cl:=true }) (to:=i) (p:=⟨2,0,0,0,0,0,0,0,[]⟩) (adP:=none) (c:=0) (hs.pick (CoreS B { k with cl:=true })) (by decide) (λw' hw=>RdB.nil)) λad2 c2 a w ha hs=>?_
  rw[show sent { k with cl:=true } i ⟨2,0,0,0,0,0,0,0,[]⟩=quitPk k i from rfl]at ha hs
  refine RN 0 ha hs λa ha=>?_
  refine st_buildSlice ha rfl hs Tryz.underlying108 Ty.t124 rfl rfl rfl rfl (by decide) (by decide) λb23 a w ha hs ho=>?_
  clear ho
  refine RN 0 ha hs λa ha=>?_
  refine st_append ha rfl hs Tryz.underlying108 Ty.t124 rfl rfl hs.rdAll rfl (by simp[Value.oneCell']) (by decide) (by decide) (by omega) λad24 c24 a w ha hs=>?_
  rw[show rows mlC xs++_=rows mlC (xs++[(ad2,c2,(k.me,i,encO (quitPk k i)))]) from by rw[rows_app];rfl]at hs
  refine RN 3 ha hs λa ha=>?_
  have hs2:=St.allPush (f:=mlo) (x:=(ad2,c2,(k.me,i,encO (quitPk k i)))) (hs.sub (M:=mlo (ad2,c2,(k.me,i,encO (quitPk k i)))::All mlo xs::Sl 124 3 ad24 (j+1) c24 (rows mlC (xs++[(ad2,c2,(k.me,i,encO (quitPk k i)))]))::Sl 3 1 (some ⟨bo,oo,none⟩) (othersK k).length co (ivn (othersK k))::CoreS B { k with cl:=true }::L))
  exact⟨(othersK k).length-(j+1),by omega,j+1,xs++[(ad2,c2,(k.me,i,encO (quitPk k i)))],ad24,c24,⟨rfl,by omega,by
    have hjl:j<(othersK k).length:=by omega
    rw[List.map_append,hxm,mailsQ,mailsQ,List.take_succ_eq_append_getElem hjl,List.map_append,(List.getElem?_eq_some_iff.1 hi).2];rfl,by rw[List.length_append,hxl];rfl⟩,ha.keep [0,3,12,13,14],hs2.sub⟩
 refine RT 3 ha hs ?_
 obtain rfl:j=(othersK k).length:=by omega
 rw[mailsQ,List.take_length]at hxm
 have hll:((othersK k).map λi=>(k.me,i,encO (quitPk k i))).length=(othersK k).length:=List.length_map _
 rw[hq]
 refine⟨ad,c,by rw[hll],?_⟩
 rw[hll]
 exact OwnMl.close (xs:=xs) hs.sub hxm hll
end
theorem find_atK {α:Type}{p:α→Bool}:∀ {l:List α} {j:Nat} {x:α},(∀ y∈l.take j,p y=false)→l[j]?=some x→p x=true→l.find? p=some x
 | [],j,x,_,h,_=>by simp at h
 | y::l,0,x,_,h,hp=>by
   obtain rfl:y=x:=by simpa using h
   rw[List.find?_cons,hp]
 | y::l,j+1,x,ha,h,hp=>by
   rw[List.find?_cons,ha y (by simp)]
   exact find_atK (j:=j) (λz hz=>ha z (by rw[List.take_succ_cons];exact List.mem_cons_of_mem _ hz)) (by simpa using h) hp
theorem find_no {α:Type}{p:α→Bool}{l:List α}(h:∀ y∈l,p y=false):l.find? p=none:=by
 rw[List.find?_eq_none]
 intro y hy hp
 rw[h y hy]at hp;cases hp
section
variable {W w:World}{L L' R:List SP}{n c i e to:Nat}{ad adP:Option Addr}{k:Ks}{A:CoA}{B:CoB}{x:UInt8}{p:Pk}{bs:List UInt8}
theorem core_tick (hs:St W w (CoreS B k::L))(hk:WC k)(hnw:k.now≤1000000):Calls Tryz.prog 300 #[pt B.cb] w λr w'=>∃ ad c,r=.returned (.slice ad (tickK k).1.length c)∧St W w' (OwnMl 124 ad (tickK k).1.length c (tickK k).1::CoreS B (tickK k).2::L):=by
 have hn:=hk.n
 refine EN Tryz.func300 Tryz.ntmps300 rfl rfl λa ha=>?_
 refine CL 5 ha hs (core_closed hs) λa w ha hs=>?_
 refine IF 0 ha hs (λhc0 a ha=>?_) λhc0 a ha=>?_
 ·
  refine RT 2 ha hs ?_
  exact⟨none,0,by rw[tickK,if_pos hc0];rfl,by rw[tickK,if_pos hc0];exact OwnMl.nil hs⟩
 have hq:tickK k=(match (othersK { k with now:=k.now+1 }).find? (λi=>decide (lateP { k with now:=k.now+1 } i)) with
   | some i=>([],{ k with now:=k.now+1,ev:=k.ev++[(2,i,0)],cl:=true })
   | none=>((othersK { k with now:=k.now+1 }).map λi=>(k.me,i,encO (mailPk { k with now:=k.now+1 } i)),{ k with now:=k.now+1 })):=by rw[tickK,if_neg (by rw[hc0];decide)];rfl
 obtain⟨A,hs⟩:=CoreS.open hs
 refine RN 6 ha hs λa ha=>?_
 rw[show ((k.now:Nat):Int)+1=((k.now+1:Nat):Int) from by omega]at ha
 refine ST 2 ha hs (λa w ha hs=>?_)
 refine RN 0 ha hs λa ha=>?_
 replace hs:=CoreS.fold hs B { k with now:=k.now+1 } A
 have hk':WC { k with now:=k.now+1 }:=hk.nowUp
 have hev:=hk.evl
 have hnw':({ k with now:=k.now+1 }:Ks).now≤1000001:=by show k.now+1≤_;omega
 have hev':({ k with now:=k.now+1 }:Ks).ev.length≤9:=hev
 have hq2:tickK k=(match (othersK { k with now:=k.now+1 }).find? (λi=>decide (lateP { k with now:=k.now+1 } i)) with
   | some i=>([],{ ({ k with now:=k.now+1 }:Ks) with ev:=({ k with now:=k.now+1 }:Ks).ev++[(2,i,0)],cl:=true })
   | none=>((othersK { k with now:=k.now+1 }).map λi=>(({ k with now:=k.now+1 }:Ks).me,i,encO (mailPk { k with now:=k.now+1 } i)),{ k with now:=k.now+1 })):=hq
 clear hq
 have hn':2≤({ k with now:=k.now+1 }:Ks).n∧({ k with now:=k.now+1 }:Ks).n≤8:=hn
 generalize ({ k with now:=k.now+1 }:Ks)=k1 at hs hk' hq2 hnw' hev' hn'
 have hol:=othersK_le k1
 refine CL2 5 ha hs (core_others hs hk') λado co a w ha hs=>?_
 refine RN 2 ha hs λa ha=>?_
 replace ha:Fr a 61 ((20,.int .i64 (0:Nat))::(19,.int .i64 (othersK k1).length)::(18,.slice ado (othersK k1).length co)::(3,.slice none 0 0)::(0,pt B.cb)::[]):=ha.keep [20,19,18,3,0]
 refine wp_loop_ghost (λμ a w=>∃ (j:Nat),(μ=(othersK k1).length-j∧j≤(othersK k1).length∧∀ y∈(othersK k1).take j,decide (lateP k1 y)=false)∧Fr a 61 [(0,pt B.cb),(3,.slice none 0 0),(18,.slice ado (othersK k1).length co),(19,.int .i64 (othersK k1).length),(20,.int .i64 j)]∧St W w (Sl 3 1 ado (othersK k1).length co (ivn (othersK k1))::CoreS B k1::L)) ((othersK k1).length) (⟨0,⟨rfl,by omega,λy hy=>by simp at hy⟩,ha.keep [0,3,18,19,20],hs⟩) ?_
 clear ha hs
 rintro μ a w ⟨j,⟨rfl,hj,hno⟩,ha,hs⟩
 refine IF 3 ha hs (λhc1 a ha=>?_) λhc1 a ha=>?_
 ·
  have hjl:j<(othersK k1).length:=by omega
  obtain⟨i,hi⟩:∃ i,(othersK k1)[j]?=some i:=⟨_,List.getElem?_eq_getElem hjl⟩
  obtain⟨bo,oo,rfl,hro⟩:=hs.slRd ado (by omega)
  have hin:=(othersK_mem.1 (List.mem_of_getElem? hi)).1
  have hpt:=hk'.pet hin
  have hil:i<k1.ps.length:=by rw[hk'.ps];exact hin
  have hcr:=CoreS.rd (hs.tail)
  obtain⟨cP,hpl⟩:=hcr.pl
  refine RN 3 ha hs λa ha=>?_
  refine SS ha (ld1 ha (hro j _ (ivn_at hi))) λa ha=>?_
  refine RN 2 ha hs λa ha=>?_
  have hcw:CoR w.drew B k1:=CoreS.rd (hs.drew.tail)
  have hpw:w.drew.cell? ⟨B.cb,11,none⟩=some (.slice (some ⟨B.bp,B.op,none⟩) k1.ps.length cP):=hpl
  refine DWG 0 (Old w.drew) [7,9,10,11] [0,1,2,4,5,6,8,3003,1007,1009,1010,1011,12,13] ha hs λa ha=>?_
  replace hs:=hs.drew
  have hH:=Hd.old hs
  have hC:=Old.refl w.drew
  generalize w.drew=w at hs hH hC hcw hpw ⊢
  refine RH 7 ha hs hH hC λa ha=>?_
  refine QH ha (λw hc=>ld1 ha (hc.cell (hcw.now))) hC λa ha=>?_
  refine RH 0 ha hs hH hC λa ha=>?_
  refine SS ha (ld1 ha (hpw)) λa ha=>?_
  refine RH 2 ha hs hH hC λa ha=>?_
  refine SS ha (ld1 ha (hcw.pe i _ (peK_at hil) 1 _ rfl)) λa ha=>?_
  refine RH 2 ha hs hH hC λa ha=>?_
  refine IF 0 ha hs (λhc2 a ha=>?_) λhc2 a ha=>?_
  ·
   have hlt:lateP k1 i:=by rw[lateP];omega
   rw[find_atK hno hi (decide_eq_true hlt)]at hq2
   refine CL 4 ha hs (core_note (e:=(2,i,0)) (hs.pick (CoreS B k1)) ⟨by simp,by simp,by show i<8;omega,by simp,.inr rfl⟩ (by omega)) λa w ha hs=>?_
   refine RN 1 ha hs λa ha=>?_
   obtain⟨A2,hs⟩:=CoreS.open hs
   refine ST 3 ha hs (λa w ha hs=>?_)
   refine RN 0 ha hs λa ha=>?_
   replace hs:=CoreS.fold hs B { k1 with ev:=k1.ev++[(2,i,0)],cl:=true } A2
   refine RT 2 ha hs ?_
   rw[hq2]
   exact⟨none,0,rfl,OwnMl.nil hs.sub⟩
  have hlt:¬ lateP k1 i:=by rw[lateP];omega
  refine RN 2 ha hs λa ha=>?_
  exact⟨(othersK k1).length-(j+1),by omega,j+1,⟨rfl,by omega,λy hy=>by
    rw[List.take_succ_eq_append_getElem hjl,List.mem_append,List.mem_singleton]at hy
    rcases hy with hy | rfl
    · exact hno y hy
    · rw[(List.getElem?_eq_some_iff.1 hi).2];exact decide_eq_false hlt⟩,ha.keep [0,3,18,19,20],hs⟩
 obtain rfl:j=(othersK k1).length:=by omega
 rw[List.take_length]at hno
 rw[find_no hno]at hq2
 clear hno
 refine CL2 3 ha hs (core_others (hs.tail) hk') λado2 co2 a w ha hs=>?_
 refine RN 2 ha hs λa ha=>?_
 replace hs:=St.sl0 (St.allNil (f:=mlo) hs) 124 3 none
 replace ha:Fr a 61 ((49,.int .i64 (0:Nat))::(48,.int .i64 (othersK k1).length)::(47,.slice ado2 (othersK k1).length co2)::(3,.slice none 0 0)::(0,pt B.cb)::[]):=ha.keep [49,48,47,3,0]
 refine wp_loop_ghost (λμ a w=>∃ (j:Nat) (xs:List Mx) (ad:Option Addr) (c:Nat),(μ=(othersK k1).length-j∧j≤(othersK k1).length∧xs.map (·.2.2)=mailsT k1 j∧xs.length=j)∧Fr a 61 [(0,pt B.cb),(3,.slice ad j c),(47,.slice ado2 (othersK k1).length co2),(48,.int .i64 (othersK k1).length),(49,.int .i64 j)]∧St W w (Sl 124 3 ad j c (rows mlC xs)::All mlo xs::Sl 3 1 ado2 (othersK k1).length co2 (ivn (othersK k1))::CoreS B k1::L)) ((othersK k1).length) (⟨0,[],none,0,⟨rfl,by omega,rfl,rfl⟩,ha.keep [0,3,47,48,49],hs⟩) ?_
 clear ha hs
 rintro μ a w ⟨j,xs,ad,c,⟨rfl,hj,hxm,hxl⟩,ha,hs⟩
 refine IF 3 ha hs (λhc3 a ha=>?_) λhc3 a ha=>?_
 ·
  obtain⟨i,hi⟩:∃ i,(othersK k1)[j]?=some i:=⟨_,List.getElem?_eq_getElem (by omega)⟩
  obtain⟨bo,oo,rfl,hro⟩:=(hs.pick (Sl 3 1 ado2 (othersK k1).length co2 (ivn (othersK k1)))).slRd ado2 (by omega)
  have hin:=(othersK_mem.1 (List.mem_of_getElem? hi)).1
  refine RN 3 ha hs λa ha=>?_
  refine SS ha (ld1 ha (hro j _ (ivn_at hi))) λa ha=>?_
  refine CL2 4 ha hs (core_input (to:=i) (hs.pick (CoreS B k1)) hk' hin) λad2 c2 a w ha hs=>?_
  refine RN 0 ha hs λa ha=>?_
  refine st_buildSlice ha rfl hs Tryz.underlying108 Ty.t124 rfl rfl rfl rfl (by decide) (by decide) λb57 a w ha hs ho=>?_
  clear ho
  refine RN 0 ha hs λa ha=>?_
  refine st_append ha rfl hs Tryz.underlying108 Ty.t124 rfl rfl hs.rdAll rfl (by simp[Value.oneCell']) (by decide) (by decide) (by omega) λad58 c58 a w ha hs=>?_
  rw[show rows mlC xs++_=rows mlC (xs++[(ad2,c2,(k1.me,i,encO (mailPk k1 i)))]) from by rw[rows_app];rfl]at hs
  refine RN 3 ha hs λa ha=>?_
  have hs2:=St.allPush (f:=mlo) (x:=(ad2,c2,(k1.me,i,encO (mailPk k1 i)))) (hs.sub (M:=mlo (ad2,c2,(k1.me,i,encO (mailPk k1 i)))::All mlo xs::Sl 124 3 ad58 (j+1) c58 (rows mlC (xs++[(ad2,c2,(k1.me,i,encO (mailPk k1 i)))]))::Sl 3 1 (some ⟨bo,oo,none⟩) (othersK k1).length co2 (ivn (othersK k1))::CoreS B k1::L))
  exact⟨(othersK k1).length-(j+1),by omega,j+1,xs++[(ad2,c2,(k1.me,i,encO (mailPk k1 i)))],ad58,c58,⟨rfl,by omega,by
    have hjl:j<(othersK k1).length:=by omega
    rw[List.map_append,hxm,mailsT,mailsT,List.take_succ_eq_append_getElem hjl,List.map_append,(List.getElem?_eq_some_iff.1 hi).2];rfl,by rw[List.length_append,hxl];rfl⟩,ha.keep [0,3,47,48,49],hs2.sub⟩
 refine RT 3 ha hs ?_
 obtain rfl:j=(othersK k1).length:=by omega
 rw[mailsT,List.take_length]at hxm
 have hll:((othersK k1).map λi=>(k1.me,i,encO (mailPk k1 i))).length=(othersK k1).length:=List.length_map _
 rw[hq2]
 refine⟨ad,c,by rw[hll],?_⟩
 rw[hll]
 exact OwnMl.close (xs:=xs) hs.sub hxm hll
theorem WC.peer (h:WC k){q:Pe}(hi:i<k.n)(hq:q.has≤1000∧q.frame≤1000∧q.sum<4294967296)(hh:q.heard≤k.now)(ha:q.apart=(peK k i).apart):WC { k with ps:=k.ps.set i q } :=
 h.peSet (ev:=k.ev) (cl:=k.cl) hq hh h.evs (by rw[count_same (by rw[h.ps];exact hi) ha];exact h.evn)
theorem WC.line (h:WC k){l:List UInt8}(hl:l.length≤1000):WC { k with ls:=k.ls.set i l } :=
 { h with
   ls:=by show (k.ls.set i l).length=_;rw[List.length_set];exact h.ls
   ln:=λy hy=>by
     rcases mem_set hy with hy | rfl
     · exact h.ln y hy
     · exact hl }
theorem getD_ne {ls:List (List UInt8)}{i j:Nat}{l:List UInt8}(h:i≠j):(ls.set i l).getD j []=ls.getD j []:=by
 rw[List.getD_eq_getElem?_getD,List.getElem?_set_ne h,← List.getD_eq_getElem?_getD]
theorem CoreS.foldP (hs:St W w L)(B:CoB)(k:Ks)(A:CoA)(q1 q2:Pe)[kk:Arr L [blk B.cb 257 (coC { k with ps:=k.ps.set i q1 } B A),Sl 259 5 (some ⟨B.bp,B.op,none⟩) (k.ps.set i q1).length A.cP (rows peC (k.ps.set i q2)),Sl 100 1 A.adM k.mr.length A.cM (mrC k.mr),Sl 135 1 A.adE k.ev.length A.cE (k.ev.map evV),Qu B.qb B.lbs k.ls] R]:St W w (CoreS B { k with ps:=k.ps.set i q2 }::R):=by
 have h1:=hs.perm kk.perm
 rw[show coC { k with ps:=k.ps.set i q1 } B A=coC { k with ps:=k.ps.set i q2 } B A from by simp only[coC,List.length_set],show (k.ps.set i q1).length=(k.ps.set i q2).length from by simp only[List.length_set]]at h1
 exact CoreS.close (A:=A) h1
theorem CoreS.foldQ (hs:St W w L)(B:CoB)(k:Ks)(A:CoA)(q2:Pe)[kk:Arr L [blk B.cb 257 (coC k B A),Sl 259 5 (some ⟨B.bp,B.op,none⟩) k.ps.length A.cP (rows peC (k.ps.set i q2)),Sl 100 1 A.adM k.mr.length A.cM (mrC k.mr),Sl 135 1 A.adE k.ev.length A.cE (k.ev.map evV),Qu B.qb B.lbs k.ls] R]:St W w (CoreS B { k with ps:=k.ps.set i q2 }::R):=by
 have h1:=hs.perm kk.perm
 rw[show coC k B A=coC { k with ps:=k.ps.set i q2 } B A from by simp only[coC,List.length_set],show k.ps.length=(k.ps.set i q2).length from by simp only[List.length_set]]at h1
 exact CoreS.close (A:=A) h1
theorem recv_cl (h:k.cl=true):recvK bs k=(6,k):=by rw[recvK,if_pos h]
theorem recv_none (h:k.cl=false)(hd:decO bs=none):recvK bs k=(1,k):=by rw[recvK,if_neg (by rw[h];decide),hd]
theorem recv_other (h:k.cl=false)(hd:decO bs=some p)(hx:p.to≠k.me∨(k.n:Int)≤p.from'∨p.id≠k.id):recvK bs k=(1,k):=by
 rw[recvK,if_neg (by rw[h];decide),hd]
 show (if _ then _ else _)=_
 rw[if_pos hx]
theorem recv_yes (h:k.cl=false)(hd:decO bs=some p)(hx:¬ (p.to≠k.me∨(k.n:Int)≤p.from'∨p.id≠k.id)):recvK bs k=(0,hearK k p):=by
 rw[recvK,if_neg (by rw[h];decide),hd]
 show (if _ then _ else _)=_
 rw[if_neg hx]
set_option maxHeartbeats 2000000 in
theorem core_receive (hs:St W w (CoreS B k::L))(hk:WC k)(hb:bs.length≤65536)(hc:bs.length≤c)(hp:∀ w',St W w' L→RdB w' ad bs.length bs) :
   Calls Tryz.prog 299 #[pt B.cb,.slice ad bs.length c] w λr w'=>r=.returned (.int .i64 (recvK bs k).1)∧St W w' (CoreS B (recvK bs k).2::L):=by
 have hn:=hk.n
 refine EN Tryz.func299 Tryz.ntmps299 rfl rfl λa ha=>?_
 refine CL 5 ha hs (core_closed hs) λa w ha hs=>?_
 refine IF 0 ha hs (λhc0 a ha=>?_) λhc0 a ha=>?_
 ·
  refine RT 2 ha hs ?_
  exact⟨by rw[recv_cl hc0],by rw[recv_cl hc0];exact hs⟩
 refine CLX 2 ha hs (packet_dec hs hb hc (λw' hw=>hp w' hw.tail)) ?_
 clear ha hs
 rintro e w ⟨p,adP,cP,ok,rfl,hd,hs⟩
 refine⟨_,rfl,λa ha=>?_⟩
 refine AL 3 ha hs λb5 a w ha hs=>?_
 refine SA 0 ha hs λa w ha hs=>?_
 refine RN 3 ha hs λa ha=>?_
 obtain⟨A,hs⟩:=CoreS.open (hs.pick (CoreS B k))
 refine DWO 0 [9,19,29] [0,1,2,3,5,6,7,8,3004,1009,10,11,12,13,15,16,17,18,3014,1019,20,21,22,23,25,26,27,28,3024,1029,30,31] ha hs λa w ha hs hH hC=>?_
 refine RH 3 ha hs hH hC λa ha=>?_
 refine ha.by (s:=17) (λhg2 ha=>?_) (λhg2 ha=>?_)
 ·
  have hok:ok=false:=by cases ok with | false=>rfl | true=>exact absurd rfl hg2
  have hdn:decO bs=none:=by
    rcases hd with ⟨h,_⟩ | ⟨_,h,_⟩
    · rw[hok]at h;cases h
    · exact h
  refine RH 29 ha hs hH hC λa ha=>?_
  refine RT 3 ha hs ?_
  rw[recv_none hc0 hdn];exact⟨rfl,(CoreS.fold hs B k A).sub⟩
 have hok:ok=true:=by cases ok with | true=>rfl | false=>exact absurd hg2 (by decide)
 have hds:decO bs=some p:=by
   rcases hd with ⟨_,h⟩ | ⟨h,_⟩
   · exact h
   · rw[hok]at h;cases h
 obtain⟨hmay,hps,_⟩:=decO_is hds
 have hfr0:=hmay.1
 refine RH 10 ha hs hH hC λa ha=>?_
 refine ha.by (s:=27) (λhg12 ha=>?_) (λhg12 ha=>?_)
 ·
  refine RH 19 ha hs hH hC λa ha=>?_
  refine RT 3 ha hs ?_
  rw[recv_other hc0 hds (.inl hg12)];exact⟨rfl,(CoreS.fold hs B k A).sub⟩
 refine RH 10 ha hs hH hC λa ha=>?_
 refine ha.by (s:=37) (λhg22 ha=>?_) (λhg22 ha=>?_)
 ·
  refine RH 9 ha hs hH hC λa ha=>?_
  refine RT 3 ha hs ?_
  rw[recv_other hc0 hds (.inr (.inl hg22))];exact⟨rfl,(CoreS.fold hs B k A).sub⟩
 refine RH 9 ha hs hH hC λa ha=>?_
 refine IF 0 ha hs (λhc1 a ha=>?_) λhc1 a ha=>?_
 ·
  refine RT 2 ha hs ?_
  rw[recv_other hc0 hds (.inr (.inr hc1))];exact⟨rfl,(CoreS.fold hs B k A).sub⟩
 have hno:¬ (p.to≠k.me∨(k.n:Int)≤p.from'∨p.id≠k.id):=by
   rintro (h | h | h)
   · exact h hg12
   · omega
   · exact h hc1
 rw[recv_yes hc0 hds hno]
 clear hd hok
 obtain⟨fr,hfr⟩:=Int.eq_ofNat_of_zero_le hfr0.1
 have hfn:fr<k.n:=by omega
 have hfl:fr<k.ls.length:=by rw[hk.ls];exact hfn
 have hfp:fr<k.ps.length:=by rw[hk.ps];exact hfn
 have hfm:fr≠k.me:=by have:=hmay.2.2.1;omega
 have hpt:=hk.pet hfn
 have hft:p.from'.toNat=fr:=by omega
 refine DWO 1 [5] [0,1,2,4,3003,1005,6,7] ha hs λa w ha hs hH hC=>?_
 refine RH 6 ha hs hH hC λa ha=>?_
 rw[hfr]at ha
 refine RH 2 ha hs hH hC λa ha=>?_
 refine RN 8 ha hs λa ha=>?_
 refine st_storeS (off:=B.op) (k:=fr*5+1) ha rfl hs Ty.t3 rfl (by omega) (by rw[rows_len peC_len];omega) λa w ha hs=>?_
 rw[rows_set1 peC_len k.ps { peK k fr with heard:=k.now } hfp (by decide) (by rw[peK_el hfp];rfl)]at hs
 have hk2:=hk.peer (q:={ peK k fr with heard:=k.now }) hfn ⟨hpt.1,hpt.2.2⟩ (Nat.le_refl _) rfl
 replace hs:=CoreS.foldQ (i:=fr) hs B k A { peK k fr with heard:=k.now }
 refine IF 5 ha hs (λhc2 a ha=>?_) λhc2 a ha=>?_
 ·
  refine RN 4 ha hs λa ha=>?_
  rw[hfr]at ha
  refine CL 1 ha hs (core_note (e:=(1,fr,0)) hs ⟨by simp,by simp,by show fr<8;omega,by simp,.inr rfl⟩ (by have:=hk.evl;show k.ev.length≤100;omega)) λa w ha hs=>?_
  refine RN 1 ha hs λa ha=>?_
  obtain⟨A2,hs⟩:=CoreS.open hs
  refine ST 3 ha hs (λa w ha hs=>?_)
  refine RN 0 ha hs λa ha=>?_
  replace hs:=CoreS.fold hs B { k with ps:=k.ps.set fr { peK k fr with heard:=k.now },ev:=k.ev++[(1,fr,0)],cl:=true } A2
  refine RT 2 ha hs ?_
  refine⟨rfl,?_⟩
  rw[hearK,if_pos hc2,hft]
  exact hs.sub
 refine RN 1 ha hs λa ha=>?_
 have hk1:frP p.first∧frP p.ack∧frP p.frame∧p.press.length≤32:=by
   rcases hmay.2.2.2.2 with h | h
   · exact h.2
   · exact absurd h.1 hc2
 simp only[frP]at hk1
 obtain⟨fi,hfi⟩:=Int.eq_ofNat_of_zero_le hk1.1.1
 obtain⟨ak,hak⟩:=Int.eq_ofNat_of_zero_le hk1.2.1.1
 obtain⟨fm,hfm2⟩:=Int.eq_ofNat_of_zero_le hk1.2.2.1.1
 obtain⟨D,hs,hD⟩:=CoreS.quX hs
 have hqr:∀ w' L',St W w' (Qu B.qb B.lbs k.ls::D::L')→CoR w' B { k with ps:=k.ps.set fr { peK k fr with heard:=k.now } }:=λw' L' h=>CoreS.rd (hD w' L' _ h)
 refine DWC 0 (λw0 w'=>Rd w' b5 0 (pkC p adP cP)∧CoR w' B { k with ps:=k.ps.set fr { peK k fr with heard:=k.now } }) [5,6,8,10] [0,1,2,4,7,9,3003,3005,3008,3010,1006,1011] ha hs λa w ha hs hH=>?_
 have hC:=hH.at w ⟨hs.rdAll (b:=b5),hqr _ _ hs⟩
 refine RH 6 ha hs hH hC λa ha=>?_
 refine QH ha (λw hc=>ld1 ha (hc.2.cf 10 _ rfl)) hC λa ha=>?_
 refine QH ha (λw hc=>ld1 ha (hc.1 1 _ rfl)) hC λa ha=>?_
 rw[hfr]at ha
 refine RH 0 ha hs hH hC λa ha=>?_
 refine QH ha (λw hc=>ld1 ha (hc.1 4 _ rfl)) hC λa ha=>?_
 rw[hfi]at ha
 refine RH 0 ha hs hH hC λa ha=>?_
 refine QH ha (λw hc=>ld1 ha (hc.1 5 _ rfl)) hC λa ha=>?_
 refine RH 0 ha hs hH hC λa ha=>?_
 refine CL 0 ha hs (queue_line hs hfl) λa w ha hs=>?_
 replace hC:=hH.at w ⟨hs.rdAll (b:=b5),hqr _ _ hs⟩
 refine RH 0 ha hs hH hC λa ha=>?_
 refine CL2 0 ha hs (q_put (fr:=fi) (bs:=p.press) hs hfl (hk.lnt hfn) (by omega) (λw' hw=>(hw.pick (Sl 5 1 adP p.press.length cP (bc p.press))).rdB adP p.press rfl rfl)) λnn er a w ha hs=>?_
 refine RN 0 ha hs λa ha=>?_
 replace hs:=hD _ _ _ hs
 have hk3:=hk2.line (i:=fr) (l:=putLn (k.ls.getD fr []) fi p.press) (putLn_len (hk.lnt hfn)).2
 have hhd:headK ({ k with ls:=k.ls.set fr (putLn (k.ls.getD fr []) fi p.press),ps:=k.ps.set fr { peK k fr with heard:=k.now } }:Ks)=headK k:=by
   show ((k.ls.set fr _).getD k.me []).length=_
   rw[getD_ne hfm];rfl
 have hpe3:(k.ps.set fr { peK k fr with heard:=k.now })[fr]?=some { peK k fr with heard:=k.now }:=List.getElem?_set_self hfp
 refine wp_seq_cut (M:=λa w=>∃ hh:Nat,hh=(if (peK k fr).has<ak∧ak≤headK k then ak else (peK k fr).has)∧Fr a 127 [(0,pt B.cb),(5,pt b5),(7,.pointer (some ⟨B.bp,B.op+fr*5,none⟩))]∧St W w (CoreS B { k with ls:=k.ls.set fr (putLn (k.ls.getD fr []) fi p.press),ps:=k.ps.set fr { peK k fr with heard:=k.now,has:=hh } }::blk b5 203 (pkC p adP cP)::L)) ?_ ?_
 ·
  refine DWC 1 (λw0 w'=>Rd w' b5 0 (pkC p adP cP)∧CoR w' B { k with ls:=k.ls.set fr (putLn (k.ls.getD fr []) fi p.press),ps:=k.ps.set fr { peK k fr with heard:=k.now } }) [5,11] [0,2,3,4,3001,1005,6,7,8,10,3009,1011,12,13] ha hs λa w ha hs hH=>?_
  have hC:=hH.at w ⟨hs.rdAll (b:=b5),CoreS.rd hs⟩
  refine RH 4 ha hs hH hC λa ha=>?_
  refine QH ha (λw hc=>ld1 ha (hc.1 6 _ rfl)) hC λa ha=>?_
  refine RH 0 ha hs hH hC λa ha=>?_
  refine SS ha (ld1 ha (hC.2.pe fr _ hpe3 0 (.int .i64 (peK k fr).has) rfl)) λa ha=>?_
  refine RH 2 ha hs hH hC λa ha=>?_
  refine ha.by (s:=91) (λhg7 ha=>?_) (λhg7 ha=>?_)
  ·
   refine RH 2 ha hs hH hC λa ha=>?_
   refine QH ha (λw hc=>ld1 ha (hc.1 6 _ rfl)) hC λa ha=>?_
   refine RH 0 ha hs hH hC λa ha=>?_
   refine CL 0 ha hs (core_head hs hk3) λa w ha hs=>?_
   replace hC:=hH.at w ⟨hs.rdAll (b:=b5),CoreS.rd hs⟩
   rw[hhd]at ha
   refine RH 2 ha hs hH hC λa ha=>?_
   refine IF 0 ha hs (λhc3 a ha=>?_) λhc3 a ha=>?_
   ·
    obtain⟨A2,hs⟩:=CoreS.open hs
    refine RN 3 ha hs λa ha=>?_
    rw[hak]at ha
    refine RN 2 ha hs λa ha=>?_
    refine st_storeS (off:=B.op) (k:=fr*5+0) ha rfl hs Ty.t3 rfl (by omega) (by rw[rows_len peC_len,List.length_set];omega) λa w ha hs=>?_
    rw[rows_set1 peC_len (k.ps.set fr { peK k fr with heard:=k.now }) { peK k fr with heard:=k.now,has:=ak } (by rw[List.length_set];exact hfp) (by decide) (by rw[List.getElem_set_self];rfl),List.set_set]at hs
    replace hs:=CoreS.foldP (i:=fr) hs B { k with ls:=k.ls.set fr (putLn (k.ls.getD fr []) fi p.press) } A2 { peK k fr with heard:=k.now } { peK k fr with heard:=k.now,has:=ak }
    refine RN 0 ha hs λa ha=>?_
    exact⟨ak,by rw[if_pos ⟨by omega,by omega⟩],ha.keep [0,5,7],hs.sub⟩
   refine RN 0 ha hs λa ha=>?_
   exact⟨_,by rw[if_neg (by omega)],ha.keep [0,5,7],hs.sub⟩
  refine RH 6 ha hs hH hC λa ha=>?_
  refine RN 1 ha hs λa ha=>?_
  exact⟨_,by rw[if_neg (by omega)],ha.keep [0,5,7],hs.sub⟩
 clear ha;(try clear hs)
 rintro a w ⟨hh,hhe,ha,hs⟩
 refine wp_seq_cut (M:=λa w=>∃ q:Pe,(q=hearP k.now (headK k) p (peK k fr)∧WC { k with ls:=k.ls.set fr (putLn (k.ls.getD fr []) fi p.press),ps:=k.ps.set fr q })∧Fr a 127 [(0,pt B.cb)]∧St W w (CoreS B { k with ls:=k.ls.set fr (putLn (k.ls.getD fr []) fi p.press),ps:=k.ps.set fr q }::blk b5 203 (pkC p adP cP)::L)) ?_ ?_
 ·
  refine DWO 1 [9] [0,1001,2,3,4,6,7,8,3005,1009,10,11] ha hs λa w ha hs hH hC=>?_
  have hpe4:(k.ps.set fr { peK k fr with heard:=k.now,has:=hh })[fr]?=some { peK k fr with heard:=k.now,has:=hh }:=List.getElem?_set_self hfp
  have hcr:CoR w B { k with ls:=k.ls.set fr (putLn (k.ls.getD fr []) fi p.press),ps:=k.ps.set fr { peK k fr with heard:=k.now,has:=hh } }:=CoreS.rd hs
  have hak2:p.ack.toNat=ak:=by omega
  have hfm3:p.frame.toNat=fm:=by omega
  have hP:hearP k.now (headK k) p (peK k fr)=(if 0<p.frame∧((peK k fr).frame:Int)≤p.frame then { peK k fr with heard:=k.now,has:=hh,frame:=fm,sum:=p.sum } else { peK k fr with heard:=k.now,has:=hh }):=by
    rw[hearP,hak2,hfm3,hhe]
  have hhb:hh≤1000:=by rw[hhe];split <;> omega
  refine RH 4 ha hs hH hC λa ha=>?_
  refine ha.by (s:=106) (λhg3 ha=>?_) (λhg3 ha=>?_)
  ·
   refine RH 5 ha hs hH hC λa ha=>?_
   refine st_set ha (wgT ha rfl (s:=106)) (ld1 ha (hcr.pe fr _ hpe4 2 (.int .i64 (peK k fr).frame) rfl)) rfl λa ha=>?_
   refine RH 2 ha hs hH hC λa ha=>?_
   refine IF 0 ha hs (λhc4 a ha=>?_) λhc4 a ha=>?_
   ·
    refine RN 0 ha hs λa ha=>?_
    obtain⟨A3,hs⟩:=CoreS.open hs
    refine DWC 0 (λw0 w'=>Rd w' b5 0 (pkC p adP cP)) [5,8] [0,1,2,4,3003,6,7,3005,1008,9,10,1011] ha hs λa w ha hs hH=>?_
    have hC:=hH.at w (hs.rdAll (b:=b5))
    refine RH 4 ha hs hH hC λa ha=>?_
    refine QH ha (λw hc=>ld1 ha (hc 7 _ rfl)) hC λa ha=>?_
    rw[hfm2]at ha
    refine RH 2 ha hs hH hC λa ha=>?_
    refine QH ha (λw hc=>ld1 ha (hc 8 _ rfl)) hC λa ha=>?_
    refine RH 0 ha hs hH hC λa ha=>?_
    refine st_storeS (off:=B.op) (k:=fr*5+2) ha rfl hs Ty.t3 rfl (by omega) (by rw[rows_len peC_len,List.length_set];omega) λa w ha hs=>?_
    replace hC:=hH.at w (hs.rdAll (b:=b5))
    rw[rows_set1 peC_len (k.ps.set fr { peK k fr with heard:=k.now,has:=hh }) { peK k fr with heard:=k.now,has:=hh,frame:=fm } (by rw[List.length_set];exact hfp) (by decide) (by rw[List.getElem_set_self];rfl),List.set_set]at hs
    refine RH 2 ha hs hH hC λa ha=>?_
    refine st_storeS (off:=B.op) (k:=fr*5+3) ha rfl hs Ty.t100 rfl (by omega) (by rw[rows_len peC_len,List.length_set];omega) λa w ha hs=>?_
    rw[rows_set1 peC_len (k.ps.set fr { peK k fr with heard:=k.now,has:=hh,frame:=fm }) { peK k fr with heard:=k.now,has:=hh,frame:=fm,sum:=p.sum } (by rw[List.length_set];exact hfp) (by decide) (by rw[List.getElem_set_self];rfl),List.set_set]at hs
    replace hs:=CoreS.foldP (i:=fr) hs B { k with ls:=k.ls.set fr (putLn (k.ls.getD fr []) fi p.press) } A3 { peK k fr with heard:=k.now,has:=hh } { peK k fr with heard:=k.now,has:=hh,frame:=fm,sum:=p.sum }
    refine RN 0 ha hs λa ha=>?_
    exact⟨_,⟨by rw[hP,if_pos (by omega)],(hk.peer (q:={ peK k fr with heard:=k.now,has:=hh,frame:=fm,sum:=p.sum }) hfn ⟨hhb,by show fm≤1000;omega,hps⟩ (Nat.le_refl _) rfl).line (putLn_len (hk.lnt hfn)).2⟩,ha.keep [0],hs.sub⟩
   refine RN 0 ha hs λa ha=>?_
   exact⟨_,⟨by rw[hP,if_neg (by omega)],(hk.peer (q:={ peK k fr with heard:=k.now,has:=hh }) hfn ⟨hhb,hpt.2.2⟩ (Nat.le_refl _) rfl).line (putLn_len (hk.lnt hfn)).2⟩,ha.keep [0],hs⟩
  refine RH 8 ha hs hH hC λa ha=>?_
  refine RN 1 ha hs λa ha=>?_
  exact⟨_,⟨by rw[hP,if_neg (by omega)],(hk.peer (q:={ peK k fr with heard:=k.now,has:=hh }) hfn ⟨hhb,hpt.2.2⟩ (Nat.le_refl _) rfl).line (putLn_len (hk.lnt hfn)).2⟩,ha.keep [0],hs⟩
 clear ha;(try clear hs)
 rintro a w ⟨q,⟨hqe,hk4⟩,ha,hs⟩
 refine CL 2 ha hs (core_hold hs hk4) λa w ha hs=>?_
 refine RT 2 ha hs ?_
 refine⟨rfl,?_⟩
 have hfi2:p.first.toNat=fi:=by omega
 rw[hearK,if_neg hc2,hft,hfi2,← hqe]
 exact hs.sub
end
end
end Go.Proofs.YteoldcfapaiobaaGreat
