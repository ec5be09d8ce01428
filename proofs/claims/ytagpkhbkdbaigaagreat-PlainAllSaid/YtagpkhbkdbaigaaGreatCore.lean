/- What a player knows, in memory: core.May, New, Conf, Queue, Head, Closed, Press, note, hold, Mark, Marks, Events. -/
import Derived.Test.YtagpkhbkdbaigaaGreatQue
import Derived.Test.YtagpkhbkdbaigaaGreatEv
import Derived.Test.YtagpkhbkdbaigaaGreatCoQ
import Derived.Test.YtagpkhbkdbaigaaGreatPkt4
namespace Go.Proofs.YtagpkhbkdbaigaaGreat
open Go.RowKit
set_option linter.unusedVariables false
set_option linter.unusedSimpArgs false
set_option maxRecDepth 10000
set_option synthInstance.maxSize 4000
set_option synthInstance.maxHeartbeats 400000
def peC (p : Pe) : List Value:=[.int .i64 p.has,.int .i64 p.heard,.int .i64 p.frame,.int .u32 p.sum,.bool p.apart]
theorem peC_len (p : Pe) : (peC p).length=5:=rfl
theorem peC_one (p : Pe) : ∀ v∈peC p,v.oneCell'=true:=by
 intro v hv
 simp [peC] at hv
 rcases hv with rfl | rfl | rfl | rfl | rfl <;> rfl
def mrC (l : List Nat) : List Value:=l.map fun s : Nat=>Value.int .u32 (s : Int)
structure CoB where
 cb : Nat
 qb : Nat
 lbs : List Nat
 bp : Nat
 op : Nat
structure CoA where
 cP : Nat
 adM : Option Addr
 cM : Nat
 adE : Option Addr
 cE : Nat
abbrev coC (k : Ks) (B : CoB) (A : CoA) : List Value:=[.int .i64 k.n,.int .i64 k.me,.int .i64 k.id,.int .i64 k.delay,.int .i64 k.window,.int .i64 k.guess,.int .i64 k.order,.int .i64 k.branches,.int .i64 k.workers,.int .i64 k.room,
 .pointer (some ⟨B.qb,0,none⟩),.slice (some ⟨B.bp,B.op,none⟩) k.ps.length A.cP,.slice A.adM k.mr.length A.cM,.slice A.adE k.ev.length A.cE,.int .i64 k.now,.bool k.cl]
def CoreS (B : CoB) (k : Ks) : SP:=fun h=>∃ A : CoA,sepL [blk B.cb 111 (coC k B A),Sl 133 5 (some ⟨B.bp,B.op,none⟩) k.ps.length A.cP (rows peC k.ps),Sl 38 1 A.adM k.mr.length A.cM (mrC k.mr),Sl 184 1 A.adE k.ev.length A.cE (k.ev.map evV),Qu B.qb B.lbs k.ls] h
section
variable {W w : World} {L L' R : List SP} {n c m cb qb i : Nat} {ad : Option Addr} {lbs : List Nat} {k : Ks} {A : CoA} {B : CoB} {cf : Cf} {e : Evt}
theorem CoreS.open (hs : St W w (CoreS B k::L)) : ∃ A : CoA,St W w (blk B.cb 111 (coC k B A)::Sl 133 5 (some ⟨B.bp,B.op,none⟩) k.ps.length A.cP (rows peC k.ps)::Sl 38 1 A.adM k.mr.length A.cM (mrC k.mr)::Sl 184 1 A.adE k.ev.length A.cE (k.ev.map evV)::Qu B.qb B.lbs k.ls::L):=by
 obtain ⟨A,_,hs⟩:=hs.exi (ι:=CoA) (p:=fun _=>True) (B:=fun A h=>sepL [blk B.cb 111 (coC k B A),Sl 133 5 (some ⟨B.bp,B.op,none⟩) k.ps.length A.cP (rows peC k.ps),Sl 38 1 A.adM k.mr.length A.cM (mrC k.mr),Sl 184 1 A.adE k.ev.length A.cE (k.ev.map evV),Qu B.qb B.lbs k.ls] h) fun _ ⟨A,h⟩=>⟨A,trivial,h⟩
 exact ⟨A,hs.open (M:=[_,_,_,_,_]) fun _ h=>h⟩
theorem CoreS.close (hs : St W w (blk B.cb 111 (coC k B A)::Sl 133 5 (some ⟨B.bp,B.op,none⟩) k.ps.length A.cP (rows peC k.ps)::Sl 38 1 A.adM k.mr.length A.cM (mrC k.mr)::Sl 184 1 A.adE k.ev.length A.cE (k.ev.map evV)::Qu B.qb B.lbs k.ls::L)) : St W w (CoreS B k::L) :=
 St.shut (M:=[_,_,_,_,_]) hs fun _ h=>⟨A,h⟩
theorem CoreS.mk' (hs : St W w L) (A : CoA) [kk : Arr L (blk B.cb 111 (coC k B A)::Sl 133 5 (some ⟨B.bp,B.op,none⟩) k.ps.length A.cP (rows peC k.ps)::Sl 38 1 A.adM k.mr.length A.cM (mrC k.mr)::Sl 184 1 A.adE k.ev.length A.cE (k.ev.map evV)::Qu B.qb B.lbs k.ls::L') R] : St W w (CoreS B k::L'):=CoreS.close (A:=A) hs.sub
theorem CoreS.fold (hs : St W w L) (B : CoB) (k : Ks) (A : CoA) [kk : Arr L [blk B.cb 111 (coC k B A),Sl 133 5 (some ⟨B.bp,B.op,none⟩) k.ps.length A.cP (rows peC k.ps),Sl 38 1 A.adM k.mr.length A.cM (mrC k.mr),Sl 184 1 A.adE k.ev.length A.cE (k.ev.map evV),Qu B.qb B.lbs k.ls] R] : St W w (CoreS B k::R):=CoreS.close (A:=A) (hs.perm kk.perm)
theorem core_in {x lo hi : Int} (hs : St W w L) : Calls Tryz.prog 121 #[.int .i64 x,.int .i64 lo,.int .i64 hi] w fun e w'=>∃ r : Bool,e=.returned (.bool r)∧(r=true ↔ inI x lo hi)∧St W w' L:=by
 refine calls_enter Tryz.func121 rfl Tryz.ntmps121 (Nat.le_of_ble_eq_true rfl) ?_
 intro a ha
 replace ha : Fr a 15 [(0,_),(1,_),(2,_)]:=ha
 refine WS<|WR ?_
 refine S1 ha fun a ha=>?_
 refine LN<|TN<|WS<|WR ?_
 iterate 4 (refine S1 ha fun a ha=>?_)
 refine ha.by (s:=10) (fun hg3 ha=>?_) (fun hg3 ha=>?_)
 ·
  iterate 3 (refine S1g (s:=10) ha fun a ha=>?_)
  refine PT ha fun a ha=>?_
  refine S1d ha fun a ha=>?_
  refine LN<|TN<|wp_ret ?_
  refine ret1 ha rfl ?_
  exact ⟨_,rfl,⟨fun h=>⟨hg3,of_decide_eq_true h⟩,fun h=>decide_eq_true h.2⟩,hs⟩
 ·
  iterate 3 (refine SO (s:=10) ha fun a ha=>?_)
  refine PF ha fun a ha=>?_
  refine S1d ha fun a ha=>?_
  refine LN<|TN<|wp_ret ?_
  refine ret1 ha rfl ?_
  exact ⟨_,rfl,⟨fun h=>(by cases h),fun h=>by have:=h.1; omega⟩,hs⟩
theorem core_may (hs : St W w L) : Calls Tryz.prog 81 #[.agg (cfC cf).toArray] w fun e w'=>∃ r : Bool,e=.returned (.bool r)∧(r=true ↔ mayCf cf)∧St W w' L:=by
 refine calls_enter Tryz.func81 rfl Tryz.ntmps81 (Nat.le_of_ble_eq_true rfl) ?_
 intro a ha
 replace ha : Fr a 73 [(0,_)]:=ha
 refine WS<|WR ?_
 refine SK (st_box ha rfl hs rfl fun b1 a w ha hs ho=>?_)
 clear ho
 change St W w (blk b1 30 (cfC cf)::_) at hs
 refine S1 ha fun a ha=>?_
 refine LN<|TN ?_
 refine wp_seq_cut (M:=fun a w=>∃ z : Bool,(z=true ↔ (inI cf.n 2 8∧inI cf.me 0 (cf.n - 1)∧inI cf.id 0 1099511627776))∧Fr a 73 [(1,.pointer (some ⟨b1,0,none⟩)),(3,.bool z)]∧St W w (blk b1 30 (cfC cf)::L)) ?_ ?_
 ·
  refine WR ?_
  refine S1 ha fun a ha=>?_
  refine SL ha (hs.rd1 rfl) fun a ha=>?_
  refine SK (st_call ha rfl Ty.c121 rfl (core_in hs) ?_); clear ha hs
  rintro e w ⟨r1,rfl,hr1,hs⟩
  refine ⟨_,rfl,?_⟩
  intro a ha
  refine S1 ha fun a ha=>?_
  refine ha.by (s:=8) (fun hg3 ha=>?_) (fun hg3 ha=>?_)
  ·
   refine S1g (s:=8) ha fun a ha=>?_
   refine SLg (s:=8) ha (hs.rd1 rfl) fun a ha=>?_
   refine S1g (s:=8) ha fun a ha=>?_
   refine SLg (s:=8) ha (hs.rd1 rfl) fun a ha=>?_
   refine SK (st_set ha (wgT ha rfl (s:=8)) (ex_sub ha) rfl fun a ha=>?_)
   have hn1 : IntKind.i64.wrap (cf.n - 1)=cf.n - 1:=wrap_in (by have:=(hr1.1 hg3).1; omega) (by have:=(hr1.1 hg3).2; omega)
   rw [hn1] at ha
   refine SK (st_call ha (wgT ha rfl (s:=8)) Ty.c121 rfl (core_in hs) ?_); clear ha hs
   rintro e w ⟨r2,rfl,hr2,hs⟩
   refine ⟨_,rfl,?_⟩
   intro a ha
   refine PT ha fun a ha=>?_
   refine S1 ha fun a ha=>?_
   refine ha.by (s:=16) (fun hg11 ha=>?_) (fun hg11 ha=>?_)
   ·
    refine S1g (s:=16) ha fun a ha=>?_
    refine SLg (s:=16) ha (hs.rd1 rfl) fun a ha=>?_
    refine S1g (s:=16) ha fun a ha=>?_
    refine PT ha fun a ha=>?_
    refine S1 ha fun a ha=>?_
    refine ha.by (s:=21) (fun hg16 ha=>?_) (fun hg16 ha=>?_)
    ·
     refine S1g (s:=21) ha fun a ha=>?_
     refine SLg (s:=21) ha (hs.rd1 rfl) fun a ha=>?_
     refine S1g (s:=21) ha fun a ha=>?_
     refine PT ha fun a ha=>?_
     refine S1 ha fun a ha=>?_
     refine LN<|TN ?_
     exact ⟨_,⟨fun h=>⟨hr1.1 hg3,hr2.1 hg11,hg16,of_decide_eq_true h⟩,fun h=>decide_eq_true h.2.2.2⟩,ha.keep [1,3],hs⟩
    ·
     iterate 3 (refine SO (s:=21) ha fun a ha=>?_)
     refine PF ha fun a ha=>?_
     refine S1 ha fun a ha=>?_
     refine LN<|TN ?_
     exact ⟨_,⟨fun h=>(by cases h),fun h=>by have:=h.2.2.1; omega⟩,ha.keep [1,3],hs⟩
   ·
    iterate 3 (refine SO (s:=16) ha fun a ha=>?_)
    refine PF ha fun a ha=>?_
    refine S1 ha fun a ha=>?_
    iterate 3 (refine SO (s:=21) ha fun a ha=>?_)
    refine PF ha fun a ha=>?_
    refine S1 ha fun a ha=>?_
    refine LN<|TN ?_
    exact ⟨_,⟨fun h=>(by cases h),fun h=>by have:=hr2.2 h.2.1; rw [hg11] at this; cases this⟩,ha.keep [1,3],hs⟩
  ·
   iterate 6 (refine SO (s:=8) ha fun a ha=>?_)
   refine PF ha fun a ha=>?_
   refine S1 ha fun a ha=>?_
   iterate 3 (refine SO (s:=16) ha fun a ha=>?_)
   refine PF ha fun a ha=>?_
   refine S1 ha fun a ha=>?_
   iterate 3 (refine SO (s:=21) ha fun a ha=>?_)
   refine PF ha fun a ha=>?_
   refine S1 ha fun a ha=>?_
   refine LN<|TN ?_
   exact ⟨_,⟨fun h=>(by cases h),fun h=>by have:=hr1.2 h.1; rw [hg3] at this; cases this⟩,ha.keep [1,3],hs⟩
 ·
  clear ha; (try clear hs)
  intro a w hcut
  obtain ⟨z1,hz1,ha,hs⟩:=hcut
  refine wp_seq_cut (M:=fun a w=>∃ z : Bool,(z=true ↔ (inI cf.delay 0 8∧inI cf.window 1 16∧inI cf.guess 1 3∧inI cf.order 0 3))∧Fr a 73 [(1,.pointer (some ⟨b1,0,none⟩)),(3,.bool z1),(4,.bool z)]∧St W w (blk b1 30 (cfC cf)::L)) ?_ ?_
  ·
   refine WR ?_
   refine S1 ha fun a ha=>?_
   refine SL ha (hs.rd1 rfl) fun a ha=>?_
   refine SK (st_call ha rfl Ty.c121 rfl (core_in hs) ?_); clear ha hs
   rintro e w ⟨r1,rfl,hr1,hs⟩
   refine ⟨_,rfl,?_⟩
   intro a ha
   refine S1 ha fun a ha=>?_
   refine ha.by (s:=29) (fun hg3 ha=>?_) (fun hg3 ha=>?_)
   ·
    refine S1g (s:=29) ha fun a ha=>?_
    refine SLg (s:=29) ha (hs.rd1 rfl) fun a ha=>?_
    refine SK (st_call ha (wgT ha rfl (s:=29)) Ty.c121 rfl (core_in hs) ?_); clear ha hs
    rintro e w ⟨r2,rfl,hr2,hs⟩
    refine ⟨_,rfl,?_⟩
    intro a ha
    refine PT ha fun a ha=>?_
    refine S1 ha fun a ha=>?_
    refine ha.by (s:=34) (fun hg8 ha=>?_) (fun hg8 ha=>?_)
    ·
     refine S1g (s:=34) ha fun a ha=>?_
     refine SLg (s:=34) ha (hs.rd1 rfl) fun a ha=>?_
     refine SK (st_call ha (wgT ha rfl (s:=34)) Ty.c121 rfl (core_in hs) ?_); clear ha hs
     rintro e w ⟨r3,rfl,hr3,hs⟩
     refine ⟨_,rfl,?_⟩
     intro a ha
     refine PT ha fun a ha=>?_
     refine S1 ha fun a ha=>?_
     refine ha.by (s:=39) (fun hg13 ha=>?_) (fun hg13 ha=>?_)
     ·
      refine S1g (s:=39) ha fun a ha=>?_
      refine SLg (s:=39) ha (hs.rd1 rfl) fun a ha=>?_
      refine SK (st_call ha (wgT ha rfl (s:=39)) Ty.c121 rfl (core_in hs) ?_); clear ha hs
      rintro e w ⟨r4,rfl,hr4,hs⟩
      refine ⟨_,rfl,?_⟩
      intro a ha
      refine PT ha fun a ha=>?_
      refine S1 ha fun a ha=>?_
      refine LN<|TN ?_
      exact ⟨_,⟨fun h=>⟨hr1.1 hg3,hr2.1 hg8,hr3.1 hg13,hr4.1 h⟩,fun h=>hr4.2 h.2.2.2⟩,ha.keep [1,3,4],hs⟩
     ·
      iterate 3 (refine SO (s:=39) ha fun a ha=>?_)
      refine PF ha fun a ha=>?_
      refine S1 ha fun a ha=>?_
      refine LN<|TN ?_
      exact ⟨_,⟨fun h=>(by cases h),fun h=>by have:=hr3.2 h.2.2.1; rw [hg13] at this; cases this⟩,ha.keep [1,3,4],hs⟩
    ·
     iterate 3 (refine SO (s:=34) ha fun a ha=>?_)
     refine PF ha fun a ha=>?_
     refine S1 ha fun a ha=>?_
     iterate 3 (refine SO (s:=39) ha fun a ha=>?_)
     refine PF ha fun a ha=>?_
     refine S1 ha fun a ha=>?_
     refine LN<|TN ?_
     exact ⟨_,⟨fun h=>(by cases h),fun h=>by have:=hr2.2 h.2.1; rw [hg8] at this; cases this⟩,ha.keep [1,3,4],hs⟩
   ·
    iterate 3 (refine SO (s:=29) ha fun a ha=>?_)
    refine PF ha fun a ha=>?_
    refine S1 ha fun a ha=>?_
    iterate 3 (refine SO (s:=34) ha fun a ha=>?_)
    refine PF ha fun a ha=>?_
    refine S1 ha fun a ha=>?_
    iterate 3 (refine SO (s:=39) ha fun a ha=>?_)
    refine PF ha fun a ha=>?_
    refine S1 ha fun a ha=>?_
    refine LN<|TN ?_
    exact ⟨_,⟨fun h=>(by cases h),fun h=>by have:=hr1.2 h.1; rw [hg3] at this; cases this⟩,ha.keep [1,3,4],hs⟩
  ·
   clear ha; (try clear hs)
   intro a w hcut
   obtain ⟨z2,hz2,ha,hs⟩:=hcut
   refine WS<|WR ?_
   iterate 2 (refine S1 ha fun a ha=>?_)
   refine ha.by (s:=45) (fun hg1 ha=>?_) (fun hg1 ha=>?_)
   ·
    refine S1g (s:=45) ha fun a ha=>?_
    refine PT ha fun a ha=>?_
    refine S1 ha fun a ha=>?_
    refine ha.by (s:=48) (fun hg4 ha=>?_) (fun hg4 ha=>?_)
    ·
     refine S1g (s:=48) ha fun a ha=>?_
     refine SLg (s:=48) ha (hs.rd1 rfl) fun a ha=>?_
     iterate 2 (refine S1g (s:=48) ha fun a ha=>?_)
     refine ha.by (s:=52) (fun hg8 ha=>?_) (fun hg8 ha=>?_)
     ·
      have hog : cf.order=0∨cf.guess=2:=.inl hg8
      iterate 3 (refine SO (s:=52) ha fun a ha=>?_)
      refine PTg (s:=48) ha fun a ha=>?_
      refine PT ha fun a ha=>?_
      refine S1 ha fun a ha=>?_
      refine S1g (s:=58) ha fun a ha=>?_
      refine SLg (s:=58) ha (hs.rd1 rfl) fun a ha=>?_
      refine SK (st_call ha (wgT ha rfl (s:=58)) Ty.c121 rfl (core_in hs) ?_); clear ha hs
      rintro e w ⟨r1,rfl,hr1,hs⟩
      refine ⟨_,rfl,?_⟩
      intro a ha
      refine PT ha fun a ha=>?_
      refine S1 ha fun a ha=>?_
      refine ha.by (s:=63) (fun hg19 ha=>?_) (fun hg19 ha=>?_)
      ·
       refine S1g (s:=63) ha fun a ha=>?_
       refine SLg (s:=63) ha (hs.rd1 rfl) fun a ha=>?_
       refine SK (st_call ha (wgT ha rfl (s:=63)) Ty.c121 rfl (core_in hs) ?_); clear ha hs
       rintro e w ⟨r2,rfl,hr2,hs⟩
       refine ⟨_,rfl,?_⟩
       intro a ha
       refine PT ha fun a ha=>?_
       refine S1 ha fun a ha=>?_
       refine ha.by (s:=68) (fun hg24 ha=>?_) (fun hg24 ha=>?_)
       ·
        refine S1g (s:=68) ha fun a ha=>?_
        refine SLg (s:=68) ha (hs.rd1 rfl) fun a ha=>?_
        refine SK (st_call ha (wgT ha rfl (s:=68)) Ty.c121 rfl (core_in hs) ?_); clear ha hs
        rintro e w ⟨r3,rfl,hr3,hs⟩
        refine ⟨_,rfl,?_⟩
        intro a ha
        refine PT ha fun a ha=>?_
        refine S1 ha fun a ha=>?_
        refine LN<|TN<|wp_ret ?_
        refine ret1 ha rfl ?_
        exact ⟨_,rfl,⟨fun h=>⟨hz1.1 hg1,hz2.1 hg4,hog,hr1.1 hg19,hr2.1 hg24,hr3.1 h⟩,fun h=>hr3.2 h.2.2.2.2.2⟩,hs.sub⟩
       ·
        iterate 3 (refine SO (s:=68) ha fun a ha=>?_)
        refine PF ha fun a ha=>?_
        refine S1 ha fun a ha=>?_
        refine LN<|TN<|wp_ret ?_
        refine ret1 ha rfl ?_
        exact ⟨_,rfl,⟨fun h=>(by cases h),fun h=>by have:=hr2.2 h.2.2.2.2.1; rw [hg24] at this; cases this⟩,hs.sub⟩
      ·
       iterate 3 (refine SO (s:=63) ha fun a ha=>?_)
       refine PF ha fun a ha=>?_
       refine S1 ha fun a ha=>?_
       iterate 3 (refine SO (s:=68) ha fun a ha=>?_)
       refine PF ha fun a ha=>?_
       refine S1 ha fun a ha=>?_
       refine LN<|TN<|wp_ret ?_
       refine ret1 ha rfl ?_
       exact ⟨_,rfl,⟨fun h=>(by cases h),fun h=>by have:=hr1.2 h.2.2.2.1; rw [hg19] at this; cases this⟩,hs.sub⟩
     ·
      refine S1g (s:=52) ha fun a ha=>?_
      refine SLg (s:=52) ha (hs.rd1 rfl) fun a ha=>?_
      refine S1g (s:=52) ha fun a ha=>?_
      refine PFg (s:=48) ha fun a ha=>?_
      refine PT ha fun a ha=>?_
      refine S1 ha fun a ha=>?_
      refine ha.by (s:=58) (fun hg14 ha=>?_) (fun hg14 ha=>?_)
      ·
       have hog : cf.order=0∨cf.guess=2:=.inr hg14
       refine S1g (s:=58) ha fun a ha=>?_
       refine SLg (s:=58) ha (hs.rd1 rfl) fun a ha=>?_
       refine SK (st_call ha (wgT ha rfl (s:=58)) Ty.c121 rfl (core_in hs) ?_); clear ha hs
       rintro e w ⟨r1,rfl,hr1,hs⟩
       refine ⟨_,rfl,?_⟩
       intro a ha
       refine PT ha fun a ha=>?_
       refine S1 ha fun a ha=>?_
       refine ha.by (s:=63) (fun hg19 ha=>?_) (fun hg19 ha=>?_)
       ·
        refine S1g (s:=63) ha fun a ha=>?_
        refine SLg (s:=63) ha (hs.rd1 rfl) fun a ha=>?_
        refine SK (st_call ha (wgT ha rfl (s:=63)) Ty.c121 rfl (core_in hs) ?_); clear ha hs
        rintro e w ⟨r2,rfl,hr2,hs⟩
        refine ⟨_,rfl,?_⟩
        intro a ha
        refine PT ha fun a ha=>?_
        refine S1 ha fun a ha=>?_
        refine ha.by (s:=68) (fun hg24 ha=>?_) (fun hg24 ha=>?_)
        ·
         refine S1g (s:=68) ha fun a ha=>?_
         refine SLg (s:=68) ha (hs.rd1 rfl) fun a ha=>?_
         refine SK (st_call ha (wgT ha rfl (s:=68)) Ty.c121 rfl (core_in hs) ?_); clear ha hs
         rintro e w ⟨r3,rfl,hr3,hs⟩
         refine ⟨_,rfl,?_⟩
         intro a ha
         refine PT ha fun a ha=>?_
         refine S1 ha fun a ha=>?_
         refine LN<|TN<|wp_ret ?_
         refine ret1 ha rfl ?_
         exact ⟨_,rfl,⟨fun h=>⟨hz1.1 hg1,hz2.1 hg4,hog,hr1.1 hg19,hr2.1 hg24,hr3.1 h⟩,fun h=>hr3.2 h.2.2.2.2.2⟩,hs.sub⟩
        ·
         iterate 3 (refine SO (s:=68) ha fun a ha=>?_)
         refine PF ha fun a ha=>?_
         refine S1 ha fun a ha=>?_
         refine LN<|TN<|wp_ret ?_
         refine ret1 ha rfl ?_
         exact ⟨_,rfl,⟨fun h=>(by cases h),fun h=>by have:=hr2.2 h.2.2.2.2.1; rw [hg24] at this; cases this⟩,hs.sub⟩
       ·
        iterate 3 (refine SO (s:=63) ha fun a ha=>?_)
        refine PF ha fun a ha=>?_
        refine S1 ha fun a ha=>?_
        iterate 3 (refine SO (s:=68) ha fun a ha=>?_)
        refine PF ha fun a ha=>?_
        refine S1 ha fun a ha=>?_
        refine LN<|TN<|wp_ret ?_
        refine ret1 ha rfl ?_
        exact ⟨_,rfl,⟨fun h=>(by cases h),fun h=>by have:=hr1.2 h.2.2.2.1; rw [hg19] at this; cases this⟩,hs.sub⟩
      ·
       iterate 3 (refine SO (s:=58) ha fun a ha=>?_)
       refine PF ha fun a ha=>?_
       refine S1 ha fun a ha=>?_
       iterate 3 (refine SO (s:=63) ha fun a ha=>?_)
       refine PF ha fun a ha=>?_
       refine S1 ha fun a ha=>?_
       iterate 3 (refine SO (s:=68) ha fun a ha=>?_)
       refine PF ha fun a ha=>?_
       refine S1 ha fun a ha=>?_
       refine LN<|TN<|wp_ret ?_
       refine ret1 ha rfl ?_
       exact ⟨_,rfl,⟨fun h=>(by cases h),fun h=>by have:=h.2.2.1; omega⟩,hs.sub⟩
    ·
     iterate 3 (refine SO (s:=48) ha fun a ha=>?_)
     refine SK (st_offU ha (wgF ha rfl (s:=48) rfl) rfl fun a ha=>?_)
     iterate 3 (refine SK (st_off ha (wgU ha rfl (s:=52)) rfl fun a ha=>?_))
     refine SO (s:=48) ha fun a ha=>?_
     refine PF ha fun a ha=>?_
     refine S1 ha fun a ha=>?_
     iterate 3 (refine SO (s:=58) ha fun a ha=>?_)
     refine PF ha fun a ha=>?_
     refine S1 ha fun a ha=>?_
     iterate 3 (refine SO (s:=63) ha fun a ha=>?_)
     refine PF ha fun a ha=>?_
     refine S1 ha fun a ha=>?_
     iterate 3 (refine SO (s:=68) ha fun a ha=>?_)
     refine PF ha fun a ha=>?_
     refine S1 ha fun a ha=>?_
     refine LN<|TN<|wp_ret ?_
     refine ret1 ha rfl ?_
     exact ⟨_,rfl,⟨fun h=>(by cases h),fun h=>by have:=hz2.2 h.2.1; rw [hg4] at this; cases this⟩,hs.sub⟩
   ·
    refine SO (s:=45) ha fun a ha=>?_
    refine PF ha fun a ha=>?_
    refine S1 ha fun a ha=>?_
    iterate 3 (refine SO (s:=48) ha fun a ha=>?_)
    refine SK (st_offU ha (wgF ha rfl (s:=48) rfl) rfl fun a ha=>?_)
    iterate 3 (refine SK (st_off ha (wgU ha rfl (s:=52)) rfl fun a ha=>?_))
    refine SO (s:=48) ha fun a ha=>?_
    refine PF ha fun a ha=>?_
    refine S1 ha fun a ha=>?_
    iterate 3 (refine SO (s:=58) ha fun a ha=>?_)
    refine PF ha fun a ha=>?_
    refine S1 ha fun a ha=>?_
    iterate 3 (refine SO (s:=63) ha fun a ha=>?_)
    refine PF ha fun a ha=>?_
    refine S1 ha fun a ha=>?_
    iterate 3 (refine SO (s:=68) ha fun a ha=>?_)
    refine PF ha fun a ha=>?_
    refine S1 ha fun a ha=>?_
    refine LN<|TN<|wp_ret ?_
    refine ret1 ha rfl ?_
    exact ⟨_,rfl,⟨fun h=>(by cases h),fun h=>by have:=hz1.2 h.1; rw [hg1] at this; cases this⟩,hs.sub⟩
theorem core_new_no (hs : St W w L) (h : ¬ mayCf cf) : Calls Tryz.prog 36 #[.agg (cfC cf).toArray] w fun e w'=>e=.returned (.tuple #[.pointer none,.int .i64 1])∧St W w' L:=by
 refine calls_enter Tryz.func36 rfl Tryz.ntmps36 (Nat.le_of_ble_eq_true rfl) ?_
 intro a ha
 replace ha : Fr a 34 [(0,_)]:=ha
 refine WS<|WR ?_
 refine SK (st_box ha rfl hs rfl fun b1 a w ha hs ho=>?_)
 clear ho
 change St W w (blk b1 30 (cfC cf)::_) at hs
 iterate 2 (refine S1 ha fun a ha=>?_)
 refine LN<|TN<|WS<|WS<|WR ?_
 refine SK (st_set ha rfl (ex_loadN ha Tryz.underlying30 rfl Ty.t30 (hs.rdAll)) rfl fun a ha=>?_)
 refine SK (st_call ha rfl Ty.c81 rfl (core_may hs) ?_); clear ha hs
 rintro e w ⟨r,rfl,hr,hs⟩
 refine ⟨_,rfl,?_⟩
 intro a ha
 rw [show r=false from by cases hh : r with | false=>rfl | true=>exact absurd (hr.1 hh) h] at ha
 refine S1 ha fun a ha=>?_
 refine LN<|TN<|WTr ha<|WS<|WR ?_
 iterate 2 (refine S1d ha fun a ha=>?_)
 refine LN<|TN<|wp_ret<|TR ?_
 refine ret2 ha rfl ?_
 exact ⟨rfl,hs.sub⟩
theorem core_new {n me delay window : Nat} {id guess order branches workers room : Int} (hs : St W w L) (h : mayCf ⟨n,me,id,delay,window,guess,order,branches,workers,room⟩) :
   Calls Tryz.prog 36 #[.agg (cfC ⟨n,me,id,delay,window,guess,order,branches,workers,room⟩).toArray] w fun e w'=>∃ B,e=.returned (.tuple #[.pointer (some ⟨B.cb,0,none⟩),.int .i64 0])∧St W w' (CoreS B (newK ⟨n,me,id,delay,window,guess,order,branches,workers,room⟩)::L):=by
 have hh:=h
 obtain ⟨⟨h1,h2,h3⟩,⟨h4,h5,h6,h7⟩,h8,h9,h10,h11⟩:=hh
 simp only [inI] at *
 refine calls_enter Tryz.func36 rfl Tryz.ntmps36 (Nat.le_of_ble_eq_true rfl) ?_
 intro a ha
 replace ha : Fr a 34 [(0,_)]:=ha
 refine WS<|WR ?_
 refine SK (st_box ha rfl hs rfl fun b1 a w ha hs ho=>?_)
 clear ho
 change St W w (blk b1 30 (cfC ⟨n,me,id,delay,window,guess,order,branches,workers,room⟩)::_) at hs
 iterate 2 (refine S1 ha fun a ha=>?_)
 refine LN<|TN<|WS<|WS<|WR ?_
 refine SK (st_set ha rfl (ex_loadN ha Tryz.underlying30 rfl Ty.t30 (hs.rdAll)) rfl fun a ha=>?_)
 refine SK (st_call ha rfl Ty.c81 rfl (core_may hs) ?_); clear ha hs
 rintro e w ⟨r,rfl,hr,hs⟩
 refine ⟨_,rfl,?_⟩
 intro a ha
 rw [hr.2 h] at ha
 refine S1 ha fun a ha=>?_
 refine LN<|TN<|WFa ha<|WK<|TN ?_
 refine wp_seq_cut (M:=fun a w=>∃ cb qb lbs,Fr a 34 [(1,.pointer (some ⟨b1,0,none⟩)),(4,.pointer (some ⟨cb,0,none⟩))]∧St W w (blk cb 111 [.int .i64 n,.int .i64 me,.int .i64 id,.int .i64 delay,.int .i64 window,.int .i64 guess,.int .i64 order,.int .i64 branches,.int .i64 workers,.int .i64 room,.pointer (some ⟨qb,0,none⟩),.slice none 0 0,.slice none 0 0,.slice none 0 0,.int .i64 0,.bool false]::Qu qb lbs (List.replicate n (List.replicate delay 0))::blk b1 30 (cfC ⟨n,me,id,delay,window,guess,order,branches,workers,room⟩)::L)) ?_ ?_
 ·
  refine DW (m:=9) (fun w'=>Rd w' b1 0 (cfC ⟨n,me,id,delay,window,guess,order,branches,workers,room⟩)) [2,4,5] [1,3,0,2,4,5,6,7,8] Ty.mixed (pk_then pk_body) (fun hpk=>?_)
  replace hs:=hs.drew
  generalize w.drew=w at hs hpk ⊢
  have hC : Rd w b1 0 (cfC ⟨n,me,id,delay,window,guess,order,branches,workers,room⟩):=hs.rdAll
  iterate 2 (refine DP hpk ha rfl fun a ha=>?_)
  refine DH hpk ha rfl rfl (fun w hc=>ex_loadN ha Tryz.underlying30 rfl Ty.t30 (hc)) hC fun a ha=>?_
  simp only [cfC] at ha
  refine DL hpk ha rfl (fun w hc=>hc 0 _ rfl) hC fun a ha=>?_
  refine D1 rfl (st_set ha rfl (ex_load1 ha Tryz.underlying3 rfl (hC 3 _ rfl)) rfl fun a ha=>?_)
  refine ⟨fun _=>hC,?_⟩
  refine D1 rfl (st_call ha rfl Ty.c82 rfl (queue_new (n:=n) (d:=delay) hs (by omega) (by omega)) ?_); clear ha hs
  rintro e w ⟨qb,lbs,rfl,hs⟩
  refine ⟨_,rfl,?_⟩
  intro a ha
  replace hC : (fun w'=>Rd w' b1 0 (cfC ⟨n,me,id,delay,window,guess,order,branches,workers,room⟩)) w:=hs.rdAll
  refine ⟨fun _=>hC,?_⟩
  refine DQ hpk ha rfl rfl (fun w=>ex_build ha Ty.b111 Ty.t111 rfl) fun a ha=>?_
  refine D1 rfl (st_box ha rfl hs rfl fun b15 a w ha hs ho=>?_)
  (try replace hC:=hC.trans ho); clear ho
  refine ⟨fun h=>absurd h (by decide),?_⟩
  refine DP hpk ha rfl fun a ha=>?_
  refine DD<|TN ?_
  exact ⟨_,qb,lbs,ha.keep [1,4],hs⟩
 ·
  clear ha; (try clear hs)
  intro a w hcut
  obtain ⟨cb,qb,lbs,ha,hs⟩:=hcut
  refine WS<|WS<|WR ?_
  refine S1 ha fun a ha=>?_
  refine SL ha (hs.rd1 rfl) fun a ha=>?_
  refine S1 ha fun a ha=>?_
  refine LN ?_
  replace hs:=hs.sl0 133 5 none
  refine TN<|wp_block ?_
  refine wp_loop_ghost (fun μ a w=>∃ (i : Nat) (ad : Option Addr) (c : Nat),(μ=n - i∧i≤n)∧Fr a 34 [(1,.pointer (some ⟨b1,0,none⟩)),(4,.pointer (some ⟨cb,0,none⟩)),(17,.int .i64 n),(18,.int .i64 i)]∧St W w (blk cb 111 [.int .i64 n,.int .i64 me,.int .i64 id,.int .i64 delay,.int .i64 window,.int .i64 guess,.int .i64 order,.int .i64 branches,.int .i64 workers,.int .i64 room,.pointer (some ⟨qb,0,none⟩),.slice ad i c,.slice none 0 0,.slice none 0 0,.int .i64 0,.bool false]::Sl 133 5 ad i c (rows peC (List.replicate i (pe0 delay)))::Qu qb lbs (List.replicate n (List.replicate delay 0))::blk b1 30 (cfC ⟨n,me,id,delay,window,guess,order,branches,workers,room⟩)::L)) (n) ?_ ?_
  · exact ⟨0,none,0,⟨rfl,by omega⟩,ha.keep [1,4,17,18],(hs.perm (List.Perm.swap _ _ _) : St W w (blk cb 111 _::Sl 133 5 none 0 0 []::_))⟩
  ·
   clear ha hs
   rintro μ a w ⟨i,ad,c,⟨rfl,hi⟩,ha,hs⟩
   refine WS<|WR ?_
   refine S1 ha fun a ha=>?_
   refine LN<|TN<|WS ?_
   refine WI ha (fun hc1=>?_) (fun hc1=>?_)
   ·
    refine WK<|TN<|WS<|wp_block ?_
    refine DW (m:=13) (Old w.drew) [6,7,8] [0,1,2,3,5,4,6,7,8,9,10,11,12] Ty.mixed (pk_blk (pk_then (pk_then (pk_blk (pk_then pk_body))))) (fun hpk=>?_)
    replace hs:=hs.drew
    have hC:=Old.refl w.drew
    generalize w.drew=w at hs hC hpk ⊢
    iterate 5 (refine DP hpk ha rfl fun a ha=>?_)
    refine DL hpk ha rfl (fun w hc=>hc.cell (hs.rd1 rfl)) hC fun a ha=>?_
    refine D1 rfl (st_set ha rfl (ex_load1 ha Tryz.underlying3 rfl (hs.rd1 rfl)) rfl fun a ha=>?_)
    refine ⟨fun _=>hC,?_⟩
    refine D1 rfl (st_set ha rfl (ex_build ha Ty.b133 Ty.t133 rfl) rfl fun a ha=>?_)
    refine ⟨fun _=>hC,?_⟩
    refine D1 rfl (st_buildSlice ha rfl hs Tryz.underlying108 Ty.t133 rfl rfl rfl rfl (by decide) (by decide) fun b28 a w ha hs ho=>?_)
    (try replace hC:=hC.trans ho); clear ho
    refine ⟨fun _=>hC,?_⟩
    refine D1 rfl (st_append ha rfl hs Tryz.underlying108 Ty.t133 rfl rfl hs.rdAll rfl (peC_one (pe0 delay)) (by decide) (by decide) (by omega) fun ad29 c29 a w ha hs=>?_)
    refine ⟨fun h=>absurd h (by decide),?_⟩
    rw [show rows peC (List.replicate i (pe0 delay))++_=rows peC (List.replicate (i+1) (pe0 delay)) from by rw [List.replicate_succ',rows_app]; rfl] at hs
    iterate 2 (refine DP hpk ha rfl fun a ha=>?_)
    refine D1 rfl (st_store ha rfl hs Ty.t108 rfl (by simp) fun a w ha hs=>?_)
    refine ⟨fun h=>absurd h (by decide),?_⟩
    refine DD<|BN<|TN<|WR ?_
    refine SK (st_set ha rfl (ex_addI ha (by omega) (by omega)) rfl fun a ha=>?_)
    refine S1d ha fun a ha=>?_
    refine LN<|TN ?_
    exact ⟨n - (i+1),by omega,i+1,ad29,c29,⟨rfl,by omega⟩,ha.keep [1,4,17,18],hs.sub⟩
   ·
    obtain rfl : i=n:=by omega
    replace hs:=hs.sl0 38 1 none
    replace hs:=hs.sl0 184 1 none
    refine wp_exit<|TE<|TE<|blk_e<|TN<|WS<|WR ?_
    iterate 3 (refine S1 ha fun a ha=>?_)
    refine LN<|TN<|wp_ret ?_
    refine ret2 ha rfl ?_
    obtain ⟨bp,op,rfl,_⟩:=(hs.pick (Sl 133 5 ad i c (rows peC (List.replicate i (pe0 delay))))).slRd ad (by omega)
    refine ⟨⟨cb,qb,lbs,bp,op⟩,rfl,?_⟩
    refine CoreS.close (A:=⟨c,none,0,none,0⟩) ?_
    have hl : (newK ⟨i,me,id,delay,window,guess,order,branches,workers,room⟩).ps.length=i:=by simp [newK]
    rw [coC,hl]
    exact hs.sub (M:=blk cb 111 [.int .i64 i,.int .i64 me,.int .i64 id,.int .i64 delay,.int .i64 window,.int .i64 guess,.int .i64 order,.int .i64 branches,.int .i64 workers,.int .i64 room,.pointer (some ⟨qb,0,none⟩),.slice (some ⟨bp,op,none⟩) i c,.slice none 0 0,.slice none 0 0,.int .i64 0,.bool false]::Sl 133 5 (some ⟨bp,op,none⟩) i c (rows peC (List.replicate i (pe0 delay)))::Sl 38 1 none 0 0 []::Sl 184 1 none 0 0 []::Qu qb lbs (List.replicate i (List.replicate delay 0))::L)
theorem core_conf (hs : St W w (CoreS B k::L)) : Calls Tryz.prog 61 #[.pointer (some ⟨B.cb,0,none⟩)] w fun e w'=>e=.returned (.agg (cfC (ksCf k)).toArray)∧St W w' (CoreS B k::L):=by
 obtain ⟨A,hs⟩:=CoreS.open hs
 refine calls_enter Tryz.func61 rfl Tryz.ntmps61 (Nat.le_of_ble_eq_true rfl) ?_
 intro a ha
 replace ha : Fr a 10 [(0,_)]:=ha
 refine WS<|WR ?_
 refine SK (st_alloc ha rfl hs Ty.t30 rfl fun b2 a w ha hs ho=>?_)
 clear ho
 refine LN<|TN<|WS<|WS<|WR ?_
 iterate 2 (refine S1 ha fun a ha=>?_)
 refine LN<|TN<|WFa ha<|WK<|TN<|WS<|WR ?_
 iterate 3 (refine S1 ha fun a ha=>?_)
 refine SK (st_set ha rfl (ex_loadN ha Tryz.underlying30 rfl Ty.t30 (hs.rdN 10)) rfl fun a ha=>?_)
 refine SK (st_storeAll ha rfl hs Ty.t30 (by simp [Value.oneCell']) (by rfl) fun a w ha hs=>?_)
 refine LN<|TN<|wp_ret ?_
 refine retC1 ha rfl (run_loadN Tryz.underlying30 rfl Ty.t30 (hs.rdAll)) ?_
 exact ⟨rfl,CoreS.close hs.tail⟩
theorem core_queue (hs : St W w (CoreS B k::L)) : Calls Tryz.prog 48 #[.pointer (some ⟨B.cb,0,none⟩)] w fun e w'=>e=.returned (.pointer (some ⟨B.qb,0,none⟩))∧St W w' (CoreS B k::L):=by
 obtain ⟨A,hs⟩:=CoreS.open hs
 refine calls_enter Tryz.func48 rfl Tryz.ntmps48 (Nat.le_of_ble_eq_true rfl) ?_
 intro a ha
 replace ha : Fr a 9 [(0,_)]:=ha
 refine WS<|WR ?_
 refine S1 ha fun a ha=>?_
 refine LN<|TN<|WS<|WS<|WR ?_
 iterate 2 (refine S1 ha fun a ha=>?_)
 refine LN<|TN<|WFa ha<|WK<|TN<|WS<|WR ?_
 iterate 3 (refine S1 ha fun a ha=>?_)
 refine SL ha (hs.rd1 rfl) fun a ha=>?_
 refine S1d ha fun a ha=>?_
 refine LN<|TN<|wp_ret ?_
 refine ret1 ha rfl ?_
 exact ⟨rfl,CoreS.close hs⟩
theorem CoreS.quX (hs : St W w (CoreS B k::L)) : ∃ D : SP,St W w (Qu B.qb B.lbs k.ls::D::L)∧∀ (w' : World) (L' : List SP) (ls' : List (List UInt8)),St W w' (Qu B.qb B.lbs ls'::D::L')→St W w' (CoreS B { k with ls:=ls' }::L'):=by
 obtain ⟨A,hs⟩:=CoreS.open hs
 refine ⟨fun h=>sepL [blk B.cb 111 (coC k B A),Sl 133 5 (some ⟨B.bp,B.op,none⟩) k.ps.length A.cP (rows peC k.ps),Sl 38 1 A.adM k.mr.length A.cM (mrC k.mr),Sl 184 1 A.adE k.ev.length A.cE (k.ev.map evV)] h,?_,fun w' L' ls' hs=>?_⟩
 · refine St.perm (L:=(fun h=>sepL [blk B.cb 111 (coC k B A),Sl 133 5 (some ⟨B.bp,B.op,none⟩) k.ps.length A.cP (rows peC k.ps),Sl 38 1 A.adM k.mr.length A.cM (mrC k.mr),Sl 184 1 A.adE k.ev.length A.cE (k.ev.map evV)] h)::Qu B.qb B.lbs k.ls::L) ?_ (List.Perm.swap _ _ _)
   exact St.shut (M:=[_,_,_,_]) hs fun _ h=>h
 · have h1:=(hs.perm (List.Perm.swap _ _ _)).open (M:=[_,_,_,_]) fun _ h=>h
   exact CoreS.close (k:={ k with ls:=ls' }) (A:=A) h1
theorem CoreS.qu (hs : St W w (CoreS B k::L)) : ∃ D : SP,St W w (Qu B.qb B.lbs k.ls::D::L)∧∀ (w' : World) (L' : List SP),St W w' (Qu B.qb B.lbs k.ls::D::L')→St W w' (CoreS B k::L'):=by
 obtain ⟨D,h1,h2⟩:=CoreS.quX hs
 exact ⟨D,h1,fun w' L' h=>h2 w' L' k.ls h⟩
theorem core_head (hs : St W w (CoreS B k::L)) (hk : WC k) : Calls Tryz.prog 26 #[.pointer (some ⟨B.cb,0,none⟩)] w fun e w'=>e=.returned (.int .i64 (headK k))∧St W w' (CoreS B k::L):=by
 have hme : k.me < k.ls.length:=by rw [hk.ls]; exact hk.me
 refine calls_enter Tryz.func26 rfl Tryz.ntmps26 (Nat.le_of_ble_eq_true rfl) ?_
 intro a ha
 replace ha : Fr a 10 [(0,_)]:=ha
 refine WS<|WR ?_
 refine S1 ha fun a ha=>?_
 refine LN<|TN<|WS<|WR ?_
 refine S1 ha fun a ha=>?_
 refine SK (st_call ha rfl Ty.c48 rfl (core_queue hs) ?_); clear ha hs
 rintro e w ⟨rfl,hs⟩
 refine ⟨_,rfl,?_⟩
 intro a ha
 refine S1 ha fun a ha=>?_
 refine SK (st_call ha rfl Ty.c61 rfl (core_conf hs) ?_); clear ha hs
 rintro e w ⟨rfl,hs⟩
 refine ⟨_,rfl,?_⟩
 intro a ha
 refine SK (st_set ha rfl (ex_field1 ha Tryz.underlying30 rfl Tryz.underlying3 rfl rfl) rfl fun a ha=>?_)
 obtain ⟨D,hs,hD⟩:=CoreS.qu hs
 refine SK (st_call ha rfl Ty.c60 rfl (queue_line hs hme) ?_); clear ha hs
 rintro e w ⟨rfl,hs⟩
 refine ⟨_,rfl,?_⟩
 intro a ha
 refine SK (st_call ha rfl Ty.c62 rfl (q_len hs hme) ?_); clear ha hs
 rintro e w ⟨rfl,hs⟩
 refine ⟨_,rfl,?_⟩
 intro a ha
 refine S1d ha fun a ha=>?_
 refine LN<|TN<|wp_ret ?_
 refine ret1 ha rfl ?_
 exact ⟨rfl,hD _ _ hs⟩
theorem core_closed (hs : St W w (CoreS B k::L)) : Calls Tryz.prog 66 #[.pointer (some ⟨B.cb,0,none⟩)] w fun e w'=>e=.returned (.bool k.cl)∧St W w' (CoreS B k::L):=by
 obtain ⟨A,hs⟩:=CoreS.open hs
 refine calls_enter Tryz.func66 rfl Tryz.ntmps66 (Nat.le_of_ble_eq_true rfl) ?_
 intro a ha
 replace ha : Fr a 11 [(0,_)]:=ha
 refine WS<|WR ?_
 refine S1 ha fun a ha=>?_
 refine LN<|TN<|WS<|WR ?_
 iterate 3 (refine S1 ha fun a ha=>?_)
 iterate 3 (refine S1g (s:=5) ha fun a ha=>?_)
 refine SLg (s:=5) ha (hs.rd1 rfl) fun a ha=>?_
 refine PF ha fun a ha=>?_
 refine S1d ha fun a ha=>?_
 refine LN<|TN<|wp_ret ?_
 refine ret1 ha rfl ?_
 exact ⟨rfl,CoreS.close hs⟩
theorem core_marks (hs : St W w (CoreS B k::L)) : Calls Tryz.prog 27 #[.pointer (some ⟨B.cb,0,none⟩)] w fun e w'=>e=.returned (.int .i64 k.mr.length)∧St W w' (CoreS B k::L):=by
 obtain ⟨A,hs⟩:=CoreS.open hs
 refine calls_enter Tryz.func27 rfl Tryz.ntmps27 (Nat.le_of_ble_eq_true rfl) ?_
 intro a ha
 replace ha : Fr a 10 [(0,_)]:=ha
 refine WS<|WR ?_
 refine S1 ha fun a ha=>?_
 refine LN<|TN<|WS<|WS<|WR ?_
 iterate 2 (refine S1 ha fun a ha=>?_)
 refine LN<|TN<|WFa ha<|WK<|TN<|WS<|WR ?_
 iterate 3 (refine S1 ha fun a ha=>?_)
 refine SL ha (hs.rd1 rfl) fun a ha=>?_
 refine S1 ha fun a ha=>?_
 refine S1d ha fun a ha=>?_
 refine LN<|TN<|wp_ret ?_
 refine ret1 ha rfl ?_
 exact ⟨rfl,CoreS.close hs⟩
theorem core_note (hs : St W w (CoreS B k::L)) (he : evOk e) (hl : k.ev.length≤100) : Calls Tryz.prog 90 #[.pointer (some ⟨B.cb,0,none⟩),.agg (rawC e).toArray] w fun r w'=>r=.returned (.tuple #[])∧St W w' (CoreS B { k with ev:=k.ev++[e] }::L):=by
 obtain ⟨A,hs⟩:=CoreS.open hs
 refine calls_enter Tryz.func90 rfl Tryz.ntmps90 (Nat.le_of_ble_eq_true rfl) ?_
 intro a ha
 replace ha : Fr a 22 [(0,_),(1,_)]:=ha
 refine WS<|WR ?_
 refine SK (st_box ha rfl hs rfl fun b3 a w ha hs ho=>?_)
 clear ho
 change St W w (blk b3 144 (rawC e)::_) at hs
 refine LN<|TN<|WS<|WR ?_
 refine SK (st_set ha rfl (ex_loadN ha Tryz.underlying144 rfl Ty.t144 (hs.rdAll (b:=b3))) rfl fun a ha=>?_)
 refine SK (st_call ha rfl Ty.c133 rfl (event_of hs he) ?_); clear ha hs
 rintro e w ⟨rfl,hs⟩
 refine ⟨_,rfl,?_⟩
 intro a ha
 iterate 3 (refine S1 ha fun a ha=>?_)
 refine SK (st_alloc ha rfl hs Ty.t184 rfl fun b4 a w ha hs ho=>?_)
 clear ho
 refine SK (st_storeAll ha rfl hs Ty.t184 (by simpa using evV_one e) (by rfl) fun a w ha hs=>?_)
 refine S1 ha fun a ha=>?_
 refine LN<|TN<|WS<|WR ?_
 refine S1 ha fun a ha=>?_
 refine LN<|TN<|WTr ha ?_
 refine DW (m:=11) (Old w.drew) [5,6] [0,1,2,3,4,5,6,7,8,9,10] Ty.mixed pk_body (fun hpk=>?_)
 replace hs:=hs.drew
 have hC:=Old.refl w.drew
 generalize w.drew=w at hs hC hpk ⊢
 iterate 4 (refine DP hpk ha rfl fun a ha=>?_)
 refine DL hpk ha rfl (fun w hc=>hc.cell (hs.rd1 rfl)) hC fun a ha=>?_
 refine D1 rfl (st_set ha rfl (ex_loadN ha Tryz.underlying184 rfl Ty.t184 (hs.rdN 1)) rfl fun a ha=>?_)
 refine ⟨fun _=>hC,?_⟩
 refine D1 rfl (st_buildSlice ha rfl hs Tryz.underlying67 Ty.t184 rfl rfl rfl rfl (by decide) (by decide) fun b18 a w ha hs ho=>?_)
 (try replace hC:=hC.trans ho); clear ho
 refine ⟨fun _=>hC,?_⟩
 refine D1 rfl (st_append ha rfl hs Tryz.underlying67 Ty.t184 rfl rfl hs.rdAll rfl (by simpa using evV_one e) (by decide) (by decide) (by omega) fun ad19 c19 a w ha hs=>?_)
 refine ⟨fun h=>absurd h (by decide),?_⟩
 rw [show List.map evV k.ev++_=List.map evV (k.ev++[e]) from by rw [List.map_append]; rfl,show k.ev.length+1=(k.ev++[e]).length from by simp] at hs
 rw [show k.ev.length+1=(k.ev++[e]).length from by simp] at ha
 iterate 2 (refine DP hpk ha rfl fun a ha=>?_)
 refine D1 rfl (st_store ha rfl hs Ty.t67 rfl (by simp) fun a w ha hs=>?_)
 refine ⟨fun h=>absurd h (by decide),?_⟩
 refine DD ?_
 refine end0 ha rfl ?_
 exact ⟨rfl,CoreS.mk' (k:={ k with ev:=k.ev++[e] }) hs { A with adE:=ad19,cE:=c19 }⟩
structure CoR (w : World) (B : CoB) (k : Ks) : Prop where
 cf : Rd w B.cb 0 [.int .i64 k.n,.int .i64 k.me,.int .i64 k.id,.int .i64 k.delay,.int .i64 k.window,.int .i64 k.guess,.int .i64 k.order,.int .i64 k.branches,.int .i64 k.workers,.int .i64 k.room,.pointer (some ⟨B.qb,0,none⟩)]
 now : w.cell? ⟨B.cb,14,none⟩=some (.int .i64 k.now)
 cl : w.cell? ⟨B.cb,15,none⟩=some (.bool k.cl)
 pe : ∀ (i : Nat) (p : Pe),k.ps[i]?=some p→Rd w B.bp (B.op+i*5) (peC p)
 ml : ∃ ad c,w.cell? ⟨B.cb,12,none⟩=some (.slice ad k.mr.length c)
 pl : ∃ c,w.cell? ⟨B.cb,11,none⟩=some (.slice (some ⟨B.bp,B.op,none⟩) k.ps.length c)
theorem rows_part {α : Type} {f : α→List Value} {sz : Nat} (hf : ∀ x,(f x).length=sz) {l : List α} {i : Nat} {x : α} {b o : Nat} (h : Rd w b o (rows f l)) (hx : l[i]?=some x) : Rd w b (o+i*sz) (f x):=by
 obtain ⟨hi,rfl⟩:=List.getElem?_eq_some_iff.1 hx
 have h1:=h.part (i*sz) sz
 rwa [rows_at hf l i hi] at h1
theorem CoreS.rd (hs : St W w (CoreS B k::L)) : CoR w B k:=by
 obtain ⟨A,hs⟩:=CoreS.open hs
 refine ⟨hs.rdN 11,hs.rd1 rfl,hs.rd1 rfl,fun i p hp=>?_,⟨_,_,hs.rd1 rfl⟩,⟨_,hs.rd1 rfl⟩⟩
 have hi:=(List.getElem?_eq_some_iff.1 hp).1
 exact rows_part peC_len (hs.slRdAt B.bp B.op (by omega)) hp
end
end Go.Proofs.YtagpkhbkdbaigaaGreat
/- core.hold, Press, Mark, Events. -/
namespace Go.Proofs.YtagpkhbkdbaigaaGreat
open Go.RowKit
set_option linter.unusedVariables false
set_option linter.unusedSimpArgs false
set_option maxRecDepth 10000
set_option synthInstance.maxSize 4000
set_option synthInstance.maxHeartbeats 400000
theorem mrC_get {l : List Nat} {i : Nat} (h : i < l.length) : (mrC l)[i]?=some (.int .u32 (l.getD i 0 : Nat)):=by
 rw [mrC,List.getElem?_map,List.getElem?_eq_getElem h,List.getD_eq_getElem?_getD,List.getElem?_eq_getElem h]; rfl
theorem peK_at {k : Ks} {i : Nat} (h : i < k.ps.length) : k.ps[i]?=some (peK k i):=by
 rw [peK,List.getD_eq_getElem?_getD,List.getElem?_eq_getElem h]; rfl
theorem peK_el {k : Ks} {i : Nat} (h : i < k.ps.length) : k.ps[i]=peK k i:=by
 rw [peK,List.getD_eq_getElem?_getD,List.getElem?_eq_getElem h]; rfl
section
variable {W w : World} {L L' R : List SP} {n c m i : Nat} {ad : Option Addr} {k : Ks} {A : CoA} {B : CoB} {x : UInt8}
theorem core_hold (hs : St W w (CoreS B k::L)) (hk : WC k) : Calls Tryz.prog 92 #[.pointer (some ⟨B.cb,0,none⟩)] w fun r w'=>r=.returned (.tuple #[])∧St W w' (CoreS B (holdK k)::L):=by
 have hpl : k.ps.length=k.n:=hk.ps
 obtain ⟨A0,hs⟩:=CoreS.open hs
 refine calls_enter Tryz.func92 rfl Tryz.ntmps92 (Nat.le_of_ble_eq_true rfl) ?_
 intro a ha
 replace ha : Fr a 71 [(0,_)]:=ha
 refine WS<|WR ?_
 iterate 3 (refine S1 ha fun a ha=>?_)
 refine SL ha (hs.rd1 rfl) fun a ha=>?_
 iterate 2 (refine S1 ha fun a ha=>?_)
 refine LN ?_
 replace hs:=CoreS.close hs
 refine TN<|wp_block ?_
 refine wp_loop_ghost (fun μ a w=>∃ (i : Nat),(μ=k.ps.length - i∧i≤k.ps.length)∧Fr a 71 [(0,.pointer (some ⟨B.cb,0,none⟩)),(8,.int .i64 k.ps.length),(9,.int .i64 i)]∧St W w (CoreS B (holdN k i)::L)) (k.ps.length) ?_ ?_
 · exact ⟨0,⟨rfl,by omega⟩,ha.keep [0,8,9],hs⟩
 ·
  clear ha hs
  rintro μ a w ⟨i,⟨rfl,hi⟩,ha,hs⟩
  refine WS<|WR ?_
  refine S1 ha fun a ha=>?_
  refine LN<|TN<|WS ?_
  refine WI ha (fun hc0=>?_) (fun hc0=>?_)
  ·
   have hil : i < k.ps.length:=by omega
   have hkk:=hk.holdN (i:=i) (by omega)
   have hkl:=holdN_len k i
   have hnx : holdN k (i+1)=hold1 (holdN k i) i:=rfl
   rw [hold1] at hnx
   generalize holdN k i=kk at hs hkk hkl hnx
   rw [← hkl] at hil
   have hpt:=hkk.pet (i:=i) (by rw [← hkk.ps]; exact hil)
   have hat:=peK_at hil
   have hi8 : i < 8:=by have:=hkk.n; have:=hkk.ps; omega
   obtain ⟨A,hs⟩:=CoreS.open hs
   have hrp:=rows_part peC_len (hs.slRdAt B.bp B.op (by omega)) hat
   refine WK<|TN<|WS<|wp_block<|WS<|WR ?_
   iterate 2 (refine S1 ha fun a ha=>?_)
   refine LN<|TN<|WS<|WR ?_
   iterate 3 (refine S1 ha fun a ha=>?_)
   refine SL ha (hs.rd1 rfl) fun a ha=>?_
   refine S1 ha fun a ha=>?_
   refine SK (st_set ha rfl (ex_indexAddr ha Tryz.underlying108 Ty.t133 (by omega)) rfl fun a ha=>?_)
   refine S1 ha fun a ha=>?_
   refine LN<|TN<|WS<|WS ?_
   have hrp : Rd w.drew B.bp (B.op+i*5) (peC (peK kk i)):=hrp
   have hrc : Rd w.drew B.cb 0 (coC kk B A):=hs.drew.rdAll
   refine DW (m:=41) (Old w.drew) [13,14,31,35,36,37,38] [0,1,2,3,4,5,6,7,8,10,11,12,9,13,14,15,16,17,18,19,20,21,22,23,24,25,26,28,29,30,32,33,34,27,31,35,36,37,38,39,40] Ty.mixed (pk_then (pk_then (pk_blk (pk_then (pk_then (pk_blk pk_body)))))) (fun hpk=>?_)
   replace hs:=hs.drew
   have hC:=Old.refl w.drew
   generalize w.drew=w at hs hC hpk hrp hrc ⊢
   iterate 3 (refine DP hpk ha rfl fun a ha=>?_)
   refine D1 rfl (st_set ha rfl (ex_load1 ha Tryz.underlying3 rfl (hrp 2 _ rfl)) rfl fun a ha=>?_)
   refine ⟨fun h=>absurd h (by decide),?_⟩
   iterate 2 (refine DP hpk ha rfl fun a ha=>?_)
   refine ha.by (s:=23) (fun hg5 ha=>?_) (fun hg5 ha=>?_)
   ·
    iterate 6 (refine DO (s:=23) hpk ha rfl fun a ha=>?_)
    iterate 3 (refine DOH (s:=23) hpk ha rfl hC fun a ha=>?_)
    refine DO (s:=23) hpk ha rfl fun a ha=>?_
    refine DT hpk ha rfl fun a ha=>?_
    refine DP hpk ha rfl fun a ha=>?_
    iterate 4 (refine DO (s:=35) hpk ha rfl fun a ha=>?_)
    refine DT hpk ha rfl fun a ha=>?_
    refine DP hpk ha rfl fun a ha=>?_
    iterate 9 (refine DO (s:=41) hpk ha rfl fun a ha=>?_)
    iterate 6 (refine DOH (s:=41) hpk ha rfl hC fun a ha=>?_)
    refine DO (s:=41) hpk ha rfl fun a ha=>?_
    refine DT hpk ha rfl fun a ha=>?_
    refine DD<|TN<|WTr ha<|wp_exit<|TE<|blk_e<|TN<|WR ?_
    refine SK (st_set ha rfl (ex_addI ha (by omega) (by omega)) rfl fun a ha=>?_)
    refine S1d ha fun a ha=>?_
    refine LN<|TN ?_
    rw [if_neg (fun h=>by have:=h.2.1; omega)] at hnx
    exact ⟨k.ps.length - (i+1),by omega,i+1,⟨rfl,by omega⟩,ha.keep [0,8,9],by rw [hnx]; exact CoreS.close hs⟩
   ·
    iterate 6 (refine DPg (s:=23) hpk ha rfl fun a ha=>?_)
    refine DH hpk ha rfl (wgT ha rfl (s:=23)) (fun w hc=>ex_load1 ha Tryz.underlying3 rfl (hc.cell (hrp 2 _ rfl))) hC fun a ha=>?_
    refine D1 rfl (st_set ha (wgT ha rfl (s:=23)) (ex_load1 ha Tryz.underlying109 rfl (hrc 12 _ rfl)) rfl fun a ha=>?_)
    refine ⟨fun _=>hC,?_⟩
    refine D1 rfl (st_set ha (wgT ha rfl (s:=23)) (ex_len ha Tryz.underlying109) rfl fun a ha=>?_)
    refine ⟨fun _=>hC,?_⟩
    refine DPg (s:=23) hpk ha rfl fun a ha=>?_
    refine DF hpk ha rfl fun a ha=>?_
    refine DP hpk ha rfl fun a ha=>?_
    refine ha.by (s:=35) (fun hg17 ha=>?_) (fun hg17 ha=>?_)
    ·
     iterate 4 (refine DO (s:=35) hpk ha rfl fun a ha=>?_)
     refine DT hpk ha rfl fun a ha=>?_
     refine DP hpk ha rfl fun a ha=>?_
     iterate 9 (refine DO (s:=41) hpk ha rfl fun a ha=>?_)
     iterate 6 (refine DOH (s:=41) hpk ha rfl hC fun a ha=>?_)
     refine DO (s:=41) hpk ha rfl fun a ha=>?_
     refine DT hpk ha rfl fun a ha=>?_
     refine DD<|TN<|WTr ha<|wp_exit<|TE<|blk_e<|TN<|WR ?_
     refine SK (st_set ha rfl (ex_addI ha (by omega) (by omega)) rfl fun a ha=>?_)
     refine S1d ha fun a ha=>?_
     refine LN<|TN ?_
     rw [if_neg (fun h=>by have:=h.2.2.1; omega)] at hnx
     exact ⟨k.ps.length - (i+1),by omega,i+1,⟨rfl,by omega⟩,ha.keep [0,8,9],by rw [hnx]; exact CoreS.close hs⟩
    ·
     iterate 3 (refine DPg (s:=35) hpk ha rfl fun a ha=>?_)
     refine D1 rfl (st_set ha (wgT ha rfl (s:=35)) (ex_load1 ha Tryz.underlying4 rfl (hrp 4 _ rfl)) rfl fun a ha=>?_)
     refine ⟨fun h=>absurd h (by decide),?_⟩
     refine DF hpk ha rfl fun a ha=>?_
     refine DP hpk ha rfl fun a ha=>?_
     refine ha.by (s:=41) (fun hg23 ha=>?_) (fun hg23 ha=>?_)
     ·
      iterate 9 (refine DO (s:=41) hpk ha rfl fun a ha=>?_)
      iterate 6 (refine DOH (s:=41) hpk ha rfl hC fun a ha=>?_)
      refine DO (s:=41) hpk ha rfl fun a ha=>?_
      refine DT hpk ha rfl fun a ha=>?_
      refine DD<|TN<|WTr ha<|wp_exit<|TE<|blk_e<|TN<|WR ?_
      refine SK (st_set ha rfl (ex_addI ha (by omega) (by omega)) rfl fun a ha=>?_)
      refine S1d ha fun a ha=>?_
      refine LN<|TN ?_
      rw [if_neg (fun h=>by have:=h.1; rw [hg23] at this; cases this)] at hnx
      exact ⟨k.ps.length - (i+1),by omega,i+1,⟨rfl,by omega⟩,ha.keep [0,8,9],by rw [hnx]; exact CoreS.close hs⟩
     ·
      have hml : (peK kk i).frame - 1 < kk.mr.length:=by omega
      obtain ⟨bm,om,hme,hrm⟩:=hs.slRd A.adM (by omega)
      have hrc2:=hrc 12 _ rfl
      rw [hme] at hrc2
      iterate 9 (refine DPg (s:=41) hpk ha rfl fun a ha=>?_)
      refine DH hpk ha rfl (wgT ha rfl (s:=41)) (fun w hc=>ex_load1 ha Tryz.underlying38 rfl (hc.cell (hrp 3 _ rfl))) hC fun a ha=>?_
      refine DH hpk ha rfl (wgT ha rfl (s:=41)) (fun w hc=>ex_load1 ha Tryz.underlying109 rfl (hc.cell (hrc2))) hC fun a ha=>?_
      refine D1 rfl (st_set ha (wgT ha rfl (s:=41)) (ex_load1 ha Tryz.underlying3 rfl (hrp 2 _ rfl)) rfl fun a ha=>?_)
      refine ⟨fun _=>hC,?_⟩
      refine D1 rfl (st_set ha (wgT ha rfl (s:=41)) (ex_subI ha (by omega) (by omega)) rfl fun a ha=>?_)
      refine ⟨fun _=>hC,?_⟩
      rw [show (((peK kk i).frame : Nat) : Int) - 1=(((peK kk i).frame - 1 : Nat) : Int) from by omega] at ha
      refine D1 rfl (st_set ha (wgT ha rfl (s:=41)) (ex_indexAddr ha Tryz.underlying109 Ty.t38 hml) rfl fun a ha=>?_)
      refine ⟨fun _=>hC,?_⟩
      rw [Nat.mul_one] at ha
      refine D1 rfl (st_set ha (wgT ha rfl (s:=41)) (ex_load1 ha Tryz.underlying38 rfl (hrm ((peK kk i).frame - 1) _ (mrC_get hml))) rfl fun a ha=>?_)
      refine ⟨fun _=>hC,?_⟩
      refine DPg (s:=41) hpk ha rfl fun a ha=>?_
      refine DF hpk ha rfl fun a ha=>?_
      refine DD<|TN ?_
      refine WI ha (fun hc1=>?_) (fun hc1=>?_)
      ·
       refine wp_exit<|TE<|blk_e<|TN<|WR ?_
       refine SK (st_set ha rfl (ex_addI ha (by omega) (by omega)) rfl fun a ha=>?_)
       refine S1d ha fun a ha=>?_
       refine LN<|TN ?_
       rw [if_neg (fun h=>by have:=h.2.2.2; omega)] at hnx
       exact ⟨k.ps.length - (i+1),by omega,i+1,⟨rfl,by omega⟩,ha.keep [0,8,9],by rw [hnx]; exact CoreS.close hs⟩
      ·
       refine WK<|TN<|WS ?_
       rw [if_pos ⟨hg23,by omega,by omega,by omega⟩] at hnx
       refine WR ?_
       iterate 3 (refine S1 ha fun a ha=>?_)
       refine SK (st_storeS (off:=B.op) (k:=i*5+4) ha rfl hs Ty.t4 rfl (by omega) (by rw [rows_len peC_len]; omega) fun a w ha hs=>?_)
       rw [rows_set1 peC_len kk.ps { peK kk i with apart:=true } hil (by decide) (by rw [peK_el hil]; rfl)] at hs
       have hll : (kk.ps.set i { peK kk i with apart:=true }).length=kk.ps.length:=List.length_set
       rw [show coC kk B A=coC { kk with ps:=kk.ps.set i { peK kk i with apart:=true } } B A from by simp only [coC,hll],← hll] at hs
       replace hs:=CoreS.mk' (L':=L) (B:=B) (k:={ kk with ps:=kk.ps.set i { peK kk i with apart:=true } }) hs A
       refine LN<|TN<|WR ?_
       iterate 5 (refine S1 ha fun a ha=>?_)
       refine SL ha (((CoreS.rd hs).pe i { peK kk i with apart:=true } (by rw [List.getElem?_set_self hil])) 2 _ rfl) fun a ha=>?_
       refine SK (st_set ha rfl (ex_build ha Ty.b144 Ty.t144 rfl) rfl fun a ha=>?_)
       refine SK (st_call ha rfl Ty.c90 rfl (core_note (e:=(3,i,(peK kk i).frame)) hs ⟨by simp,by simp,by have:=hkk.n; have:=hkk.ps; show i < 8; omega,hpt.2.2.1,.inl rfl⟩ (by have:=hkk.evl; show kk.ev.length≤100; omega)) ?_); clear ha hs
       rintro e w ⟨rfl,hs⟩
       refine ⟨_,rfl,?_⟩
       intro a ha
       refine LN<|BN<|TN<|WR ?_
       refine SK (st_set ha rfl (ex_addI ha (by omega) (by omega)) rfl fun a ha=>?_)
       refine S1d ha fun a ha=>?_
       refine LN<|TN ?_
       exact ⟨k.ps.length - (i+1),by omega,i+1,⟨rfl,by omega⟩,ha.keep [0,8,9],by rw [hnx]; exact hs⟩
  ·
   refine wp_exit<|TE<|TE<|blk_e ?_
   refine end0 ha rfl ?_
   obtain rfl : i=k.ps.length:=by omega
   exact ⟨rfl,hs⟩
theorem core_mark {s : Nat} (hs : St W w (CoreS B k::L)) (hk : WC k) (hl : k.mr.length < 1000) (hss : s < 4294967296) : Calls Tryz.prog 86 #[.pointer (some ⟨B.cb,0,none⟩),.int .u32 s] w fun r w'=>r=.returned (.tuple #[])∧St W w' (CoreS B (markK k s)::L):=by
 have hkm : WC { k with mr := k.mr ++ [s] } := { hk with
     mr:=by show (k.mr++[s]).length≤1000; rw [List.length_append,List.length_singleton]; omega
     mrs:=fun x hx=>by
       rcases List.mem_append.1 hx with hx | hx
       · exact hk.mrs x hx
       · rw [List.mem_singleton] at hx; rw [hx]; exact hss }
 obtain ⟨A,hs⟩:=CoreS.open hs
 refine calls_enter Tryz.func86 rfl Tryz.ntmps86 (Nat.le_of_ble_eq_true rfl) ?_
 intro a ha
 replace ha : Fr a 26 [(0,_),(1,_)]:=ha
 refine WS<|WS<|WR ?_
 iterate 3 (refine S1 ha fun a ha=>?_)
 iterate 3 (refine S1g (s:=6) ha fun a ha=>?_)
 refine SLg (s:=6) ha (hs.rd1 rfl) fun a ha=>?_
 iterate 2 (refine S1g (s:=6) ha fun a ha=>?_)
 refine PF ha fun a ha=>?_
 refine LN<|TN ?_
 rw [decide_eq_false (by omega)] at ha
 refine WFa ha<|WK<|TN<|WS<|WR ?_
 iterate 4 (refine S1 ha fun a ha=>?_)
 refine SL ha (hs.rd1 rfl) fun a ha=>?_
 refine S1 ha fun a ha=>?_
 refine SK (st_buildSlice ha rfl hs Tryz.underlying109 Ty.t38 rfl rfl rfl rfl (by decide) (by decide) fun b20 a w ha hs ho=>?_)
 clear ho
 refine SK (st_append ha rfl hs Tryz.underlying109 Ty.t38 rfl rfl hs.rdAll rfl (by simp [Value.oneCell']) (by decide) (by decide) (by omega) fun ad21 c21 a w ha hs=>?_)
 rw [show mrC k.mr++_=mrC (k.mr++[s]) from by rw [mrC,mrC,List.map_append]; rfl,show k.mr.length+1=(k.mr++[s]).length from by simp] at hs
 rw [show k.mr.length+1=(k.mr++[s]).length from by simp] at ha
 iterate 2 (refine S1 ha fun a ha=>?_)
 refine SK (st_store ha rfl hs Ty.t109 rfl (by simp) fun a w ha hs=>?_)
 refine LN ?_
 replace hs:=CoreS.mk' (B:=B) (L':=L) (k:={ k with mr:=k.mr++[s] }) hs { A with adM:=ad21,cM:=c21 }
 refine TN<|WR ?_
 refine S1 ha fun a ha=>?_
 refine SK (st_call ha rfl Ty.c92 rfl (core_hold hs hkm) ?_); clear ha hs
 rintro e w ⟨rfl,hs⟩
 refine ⟨_,rfl,?_⟩
 intro a ha
 refine LN ?_
 refine end0 ha rfl ?_
 exact ⟨rfl,by rw [markK,if_pos hl]; exact hs⟩
theorem core_events (hs : St W w (CoreS B k::L)) : Calls Tryz.prog 65 #[.pointer (some ⟨B.cb,0,none⟩)] w fun r w'=>∃ ad c,r=.returned (.slice ad k.ev.length c)∧St W w' (Sl 184 1 ad k.ev.length c (k.ev.map evV)::CoreS B { k with ev:=[] }::L):=by
 obtain ⟨A,hs⟩:=CoreS.open hs
 refine calls_enter Tryz.func65 rfl Tryz.ntmps65 (Nat.le_of_ble_eq_true rfl) ?_
 intro a ha
 replace ha : Fr a 14 [(0,_)]:=ha
 refine WS<|WR ?_
 refine S1 ha fun a ha=>?_
 refine LN<|TN<|WS<|WS<|WR ?_
 iterate 2 (refine S1 ha fun a ha=>?_)
 refine LN<|TN<|WFa ha<|WK<|TN<|WS<|WR ?_
 iterate 3 (refine S1 ha fun a ha=>?_)
 refine SL ha (hs.rd1 rfl) fun a ha=>?_
 refine S1 ha fun a ha=>?_
 refine LN<|TN<|WS<|WR ?_
 iterate 3 (refine S1 ha fun a ha=>?_)
 refine SK (st_store ha rfl hs Ty.t67 rfl (by simp) fun a w ha hs=>?_)
 refine LN<|TN<|WS<|WR ?_
 refine S1 ha fun a ha=>?_
 refine S1d ha fun a ha=>?_
 refine LN<|TN<|wp_ret ?_
 refine ret1 ha rfl ?_
 refine ⟨A.adE,A.cE,rfl,?_⟩
 replace hs:=hs.sl0 184 1 none
 refine St.perm (L:=CoreS B { k with ev:=[] }::Sl 184 1 A.adE k.ev.length A.cE (k.ev.map evV)::L) ?_ (List.Perm.swap _ _ _)
 refine CoreS.close (A:=⟨A.cP,A.adM,A.cM,none,0⟩) ?_
 exact hs.sub (M:=blk B.cb 111 [.int .i64 k.n,.int .i64 k.me,.int .i64 k.id,.int .i64 k.delay,.int .i64 k.window,.int .i64 k.guess,.int .i64 k.order,.int .i64 k.branches,.int .i64 k.workers,.int .i64 k.room,.pointer (some ⟨B.qb,0,none⟩),.slice (some ⟨B.bp,B.op,none⟩) k.ps.length A.cP,.slice A.adM k.mr.length A.cM,.slice none 0 0,.int .i64 k.now,.bool k.cl]::Sl 133 5 (some ⟨B.bp,B.op,none⟩) k.ps.length A.cP (rows peC k.ps)::Sl 38 1 A.adM k.mr.length A.cM (mrC k.mr)::Sl 184 1 none 0 0 []::Qu B.qb B.lbs k.ls::Sl 184 1 A.adE k.ev.length A.cE (k.ev.map evV)::L)
theorem core_press (hs : St W w (CoreS B k::L)) (hk : WC k) : Calls Tryz.prog 40 #[.pointer (some ⟨B.cb,0,none⟩),.int .u8 (x.toNat : Nat)] w fun r w'=>r=.returned (.int .i64 (pressK x k).1)∧St W w' (CoreS B (pressK x k).2::L):=by
 have hme : k.me < k.ls.length:=by rw [hk.ls]; exact hk.me
 have hhd:=hk.headt
 have hfr : frontL k.ls≤headK k:=hk.frontt
 refine calls_enter Tryz.func40 rfl Tryz.ntmps40 (Nat.le_of_ble_eq_true rfl) ?_
 intro a ha
 replace ha : Fr a 39 [(0,_),(1,_)]:=ha
 refine WS<|WR ?_
 refine S1 ha fun a ha=>?_
 refine LN<|TN<|WS<|wp_block<|WS<|WR ?_
 refine S1 ha fun a ha=>?_
 refine SK (st_call ha rfl Ty.c66 rfl (core_closed hs) ?_); clear ha hs
 rintro e w ⟨rfl,hs⟩
 refine ⟨_,rfl,?_⟩
 intro a ha
 refine S1 ha fun a ha=>?_
 refine LN<|TN ?_
 refine WI ha (fun hc0=>?_) (fun hc0=>?_)
 ·
  refine WS<|WR ?_
  refine S1d ha fun a ha=>?_
  refine LN<|TN<|wp_ret<|BR<|TR ?_
  refine ret1 ha rfl ?_
  exact ⟨by rw [pressK,if_pos hc0],by rw [pressK,if_pos hc0]; exact hs⟩
 ·
  have hcl : ¬ k.cl=true:=by rw [hc0]; decide
  refine WS<|WR ?_
  refine S1 ha fun a ha=>?_
  refine SK (st_call ha rfl Ty.c26 rfl (core_head hs hk) ?_); clear ha hs
  rintro e w ⟨rfl,hs⟩
  refine ⟨_,rfl,?_⟩
  intro a ha
  iterate 2 (refine S1 ha fun a ha=>?_)
  refine LN<|TN ?_
  refine WI ha (fun hc1=>?_) (fun hc1=>?_)
  ·
   refine WS<|WR ?_
   refine S1d ha fun a ha=>?_
   refine LN<|TN<|wp_ret<|BR<|TR ?_
   refine ret1 ha rfl ?_
   exact ⟨by rw [pressK,if_neg hcl,if_pos (by omega)],by rw [pressK,if_neg hcl,if_pos (by omega)]; exact hs⟩
  ·
   refine WS ?_
   refine DW (m:=15) (fun w'=>CoR w' B k) [1,6,7,12] [0,2,3,4,8,9,10,11,5,12,1,6,7,13,14] Ty.mixed (pk_then (pk_blk (pk_then pk_body))) (fun hpk=>?_)
   replace hs:=hs.drew
   generalize w.drew=w at hs hpk ⊢
   have hC : CoR w B k:=CoreS.rd hs
   iterate 8 (refine DP hpk ha rfl fun a ha=>?_)
   refine DL hpk ha rfl (fun w hc=>hc.cf 10 _ rfl) hC fun a ha=>?_
   refine DL hpk ha rfl (fun w hc=>hc.cf 4 _ rfl) hC fun a ha=>?_
   refine D1 rfl (st_call ha rfl Ty.c26 rfl (core_head hs hk) ?_); clear ha hs
   rintro e w ⟨rfl,hs⟩
   refine ⟨_,rfl,?_⟩
   intro a ha
   replace hC : (fun w'=>CoR w' B k) w:=CoreS.rd hs
   refine ⟨fun _=>hC,?_⟩
   obtain ⟨D,hs,hD⟩:=CoreS.qu hs
   refine D1 rfl (st_call ha rfl Ty.c49 rfl (queue_front hs hk.lne (by rw [hk.ls]; exact hk.n.2)) ?_); clear ha hs
   rintro e w ⟨rfl,hs⟩
   refine ⟨_,rfl,?_⟩
   intro a ha
   replace hC : (fun w'=>CoR w' B k) w:=CoreS.rd (hD _ _ hs)
   refine ⟨fun _=>hC,?_⟩
   replace hs:=hD _ _ hs
   refine D1 rfl (st_set ha rfl (ex_subI ha (by omega) (by omega)) rfl fun a ha=>?_)
   refine ⟨fun _=>hC,?_⟩
   iterate 2 (refine DP hpk ha rfl fun a ha=>?_)
   refine DD<|TN ?_
   refine WI ha (fun hc2=>?_) (fun hc2=>?_)
   ·
    refine WS<|WR ?_
    refine S1d ha fun a ha=>?_
    refine LN<|TN<|wp_ret<|BR<|TR ?_
    refine ret1 ha rfl ?_
    exact ⟨by rw [pressK,if_neg hcl,if_neg (by omega),if_pos (by rw [frontK]; omega)],by rw [pressK,if_neg hcl,if_neg (by omega),if_pos (by rw [frontK]; omega)]; exact hs⟩
   ·
    refine WK<|BN<|TN<|WS ?_
    refine DW (m:=13) (fun w'=>CoR w' B k) [8] [0,1,2,4,5,6,7,10,3,8,9,11,12] Ty.mixed (pk_then pk_body) (fun hpk=>?_)
    replace hs:=hs.drew
    generalize w.drew=w at hs hpk ⊢
    have hC : CoR w B k:=CoreS.rd hs
    iterate 8 (refine DP hpk ha rfl fun a ha=>?_)
    refine DL hpk ha rfl (fun w hc=>hc.cf 10 _ rfl) hC fun a ha=>?_
    refine D1 rfl (st_set ha rfl (ex_load1 ha Tryz.underlying3 rfl (hC.cf 1 _ rfl)) rfl fun a ha=>?_)
    refine ⟨fun _=>hC,?_⟩
    obtain ⟨D,hs,hD⟩:=CoreS.quX hs
    refine D1 rfl (st_call ha rfl Ty.c60 rfl (queue_line hs hme) ?_); clear ha hs
    rintro e w ⟨rfl,hs⟩
    refine ⟨_,rfl,?_⟩
    intro a ha
    refine ⟨fun h=>absurd h (by decide),?_⟩
    refine D1 rfl (st_call ha rfl Ty.c88 rfl (q_add hs hme (by simp only [headK] at hc1; omega)) ?_); clear ha hs
    rintro e w ⟨rfl,hs⟩
    refine ⟨_,rfl,?_⟩
    intro a ha
    refine ⟨fun h=>absurd h (by decide),?_⟩
    replace ha:=ha.del 4
    refine DP hpk ha rfl fun a ha=>?_
    refine DD<|TN<|wp_ret ?_
    refine ret1 ha rfl ?_
    have hpk : pressK x k=(0,{ k with ls:=k.ls.set k.me (k.ls.getD k.me []++[x]) }):=by rw [pressK,if_neg hcl,if_neg (by omega),if_neg (by rw [frontK]; omega)]
    rw [hpk]
    exact ⟨rfl,hD _ _ _ hs⟩
end
end Go.Proofs.YtagpkhbkdbaigaaGreat
/- core.others, mail, input, Tick, Quit. -/
namespace Go.Proofs.YtagpkhbkdbaigaaGreat
open Go.RowKit
set_option linter.unusedVariables false
set_option linter.unusedSimpArgs false
set_option maxRecDepth 10000
set_option synthInstance.maxSize 4000
set_option synthInstance.maxHeartbeats 400000
def ivn (l : List Nat) : List Value:=l.map fun i : Nat=>Value.int .i64 (i : Int)
theorem ivn_at {l : List Nat} {i j : Nat} (h : l[i]?=some j) : (ivn l)[i]?=some (.int .i64 (j : Int)):=by rw [ivn,List.getElem?_map,h]; rfl
def othN (k : Ks) (i : Nat) : List Nat:=(List.range i).filter (·≠k.me)
theorem othN_succ (k : Ks) (i : Nat) : othN k (i+1)=if i=k.me then othN k i else othN k i++[i]:=by
 rw [othN,List.range_succ,List.filter_append]
 by_cases h : i=k.me
 · rw [if_pos h]; simp [h,othN]
 · rw [if_neg h]; simp [h,othN]
theorem othN_le (k : Ks) : ∀ i,(othN k i).length≤i:=fun i=>by
 have:=List.length_filter_le (fun x=>decide (x≠k.me)) (List.range i)
 rw [List.length_range] at this
 exact this
/-! Mail. -/
abbrev Mx:=Option Addr × Nat × Ml
def mlC (x : Mx) : List Value:=[.int .i64 x.2.2.1,.int .i64 x.2.2.2.1,.slice x.1 x.2.2.2.2.length x.2.1]
theorem mlC_len (x : Mx) : (mlC x).length=3:=rfl
theorem mlC_one (x : Mx) : ∀ v∈mlC x,v.oneCell'=true:=by
 intro v hv
 simp [mlC] at hv
 rcases hv with rfl | rfl | rfl <;> rfl
def mlo (x : Mx) : SP:=Sl 5 1 x.1 x.2.2.2.2.length x.2.1 (bc x.2.2.2.2)
def OwnMl (e : TypeId) (ad : Option Addr) (n c : Nat) (ms : List Ml) : SP:=fun h=>∃ xs : List Mx,(xs.map (·.2.2)=ms∧ms.length=n)∧sepL [Sl e 3 ad n c (rows mlC xs),All mlo xs] h
section
variable {W w : World} {L L' R : List SP} {n c m i e to : Nat} {ad adP : Option Addr} {k : Ks} {A : CoA} {B : CoB} {x : UInt8} {ms : List Ml} {p : Pk}
theorem OwnMl.open (hs : St W w (OwnMl e ad n c ms::L)) : ∃ xs : List Mx,xs.map (·.2.2)=ms∧ms.length=n∧St W w (Sl e 3 ad n c (rows mlC xs)::All mlo xs::L):=by
 obtain ⟨xs,⟨h1,h2⟩,hs⟩:=hs.exi (ι:=List Mx) (p:=fun xs=>xs.map (·.2.2)=ms∧ms.length=n) (B:=fun xs h=>sepL [Sl e 3 ad n c (rows mlC xs),All mlo xs] h) fun _ ⟨xs,h1,h2⟩=>⟨xs,h1,h2⟩
 exact ⟨xs,h1,h2,hs.open (M:=[_,_]) fun _ h=>h⟩
theorem OwnMl.close {xs : List Mx} (hs : St W w (Sl e 3 ad n c (rows mlC xs)::All mlo xs::L)) (h1 : xs.map (·.2.2)=ms) (h2 : ms.length=n) : St W w (OwnMl e ad n c ms::L) :=
 St.shut (M:=[_,_]) hs fun _ h=>⟨xs,⟨h1,h2⟩,h⟩
theorem OwnMl.nil (hs : St W w L) : St W w (OwnMl e none 0 0 []::L):=OwnMl.close (xs:=[]) (St.sl0 (St.allNil hs) e 3 none) rfl rfl
theorem core_others (hs : St W w (CoreS B k::L)) (hk : WC k) : Calls Tryz.prog 108 #[.pointer (some ⟨B.cb,0,none⟩)] w fun r w'=>∃ ad c,r=.returned (.slice ad (othersK k).length c)∧St W w' (Sl 3 1 ad (othersK k).length c (ivn (othersK k))::CoreS B k::L):=by
 have hps:=hk.ps
 have hn:=hk.n
 obtain ⟨A,hs⟩:=CoreS.open hs
 refine calls_enter Tryz.func108 rfl Tryz.ntmps108 (Nat.le_of_ble_eq_true rfl) ?_
 intro a ha
 replace ha : Fr a 26 [(0,_)]:=ha
 refine WS<|WR ?_
 refine S1 ha fun a ha=>?_
 refine LN<|TN<|WS<|WR ?_
 refine S1 ha fun a ha=>?_
 refine LN<|TN<|WS<|WS<|WR ?_
 iterate 3 (refine S1 ha fun a ha=>?_)
 refine SL ha (hs.rd1 rfl) fun a ha=>?_
 iterate 2 (refine S1 ha fun a ha=>?_)
 refine LN ?_
 rw [hps] at ha
 replace hs:=CoreS.close hs
 replace hs:=hs.sl0 3 1 none
 refine TN<|wp_block ?_
 refine wp_loop_ghost (fun μ a w=>∃ (i : Nat) (ad : Option Addr) (c : Nat),(μ=k.n - i∧i≤k.n)∧Fr a 26 [(0,.pointer (some ⟨B.cb,0,none⟩)),(3,.slice ad (othN k i).length c),(9,.int .i64 k.n),(10,.int .i64 i)]∧St W w (Sl 3 1 ad (othN k i).length c (ivn (othN k i))::CoreS B k::L)) (k.n) ?_ ?_
 · exact ⟨0,none,0,⟨rfl,by omega⟩,ha.keep [0,3,9,10],hs⟩
 ·
  clear ha hs
  rintro μ a w ⟨i,ad,c,⟨rfl,hi⟩,ha,hs⟩
  refine WS<|WR ?_
  refine S1 ha fun a ha=>?_
  refine LN<|TN<|WS ?_
  refine WI ha (fun hc0=>?_) (fun hc0=>?_)
  ·
   have hol:=othN_le k i
   have hsu:=othN_succ k i
   refine WK<|TN<|WS<|wp_block<|WS<|WR ?_
   iterate 2 (refine S1 ha fun a ha=>?_)
   refine LN<|TN<|WS<|WR ?_
   iterate 5 (refine S1 ha fun a ha=>?_)
   refine SL ha (((CoreS.rd hs.tail).cf 1 _ rfl)) fun a ha=>?_
   refine S1 ha fun a ha=>?_
   refine LN<|TN ?_
   refine WI ha (fun hc1=>?_) (fun hc1=>?_)
   ·
    rw [if_neg (by omega)] at hsu
    refine WR ?_
    iterate 2 (refine S1 ha fun a ha=>?_)
    refine SK (st_buildSlice ha rfl hs Tryz.underlying63 Ty.t3 rfl rfl rfl rfl (by decide) (by decide) fun b22 a w ha hs ho=>?_)
    clear ho
    refine SK (st_append ha rfl hs Tryz.underlying63 Ty.t3 rfl rfl hs.rdAll rfl (by simp [Value.oneCell']) (by decide) (by decide) (by omega) fun ad23 c23 a w ha hs=>?_)
    rw [show ivn (othN k i)++_=ivn (othN k (i+1)) from by rw [hsu,ivn,ivn,List.map_append]; rfl,show (othN k i).length+1=(othN k (i+1)).length from by rw [hsu,List.length_append]; rfl] at hs
    rw [show (othN k i).length+1=(othN k (i+1)).length from by rw [hsu,List.length_append]; rfl] at ha
    refine S1d ha fun a ha=>?_
    refine LN<|BN<|TN<|WR ?_
    refine SK (st_set ha rfl (ex_addI ha (by omega) (by omega)) rfl fun a ha=>?_)
    refine S1d ha fun a ha=>?_
    refine LN<|TN ?_
    exact ⟨k.n - (i+1),by omega,i+1,ad23,c23,⟨rfl,by omega⟩,ha.keep [0,3,9,10],hs.sub⟩
   ·
    rw [if_pos (by omega)] at hsu
    refine WK<|BN<|TN<|WR ?_
    refine SK (st_set ha rfl (ex_addI ha (by omega) (by omega)) rfl fun a ha=>?_)
    refine S1d ha fun a ha=>?_
    refine LN<|TN ?_
    exact ⟨k.n - (i+1),by omega,i+1,ad,c,⟨rfl,by omega⟩,by rw [hsu]; exact ha.keep [0,3,9,10],by rw [hsu]; exact hs⟩
  ·
   refine wp_exit<|TE<|TE<|blk_e<|TN<|WS<|WR ?_
   iterate 2 (refine S1 ha fun a ha=>?_)
   refine LN<|TN<|wp_ret ?_
   refine ret1 ha rfl ?_
   obtain rfl : i=k.n:=by omega
   exact ⟨ad,c,rfl,hs⟩
def sent (k : Ks) (to : Nat) (p : Pk) : Pk:={ p with from':=k.me,to:=to,id:=k.id }
theorem core_mail (hs : St W w (CoreS B k::L)) (hsum : p.sum < 4294967296) (hp : ∀ w',St W w' (CoreS B k::L)→RdB w' adP p.press.length p.press) :
   Calls Tryz.prog 110 #[.pointer (some ⟨B.cb,0,none⟩),.agg (pkC p adP c).toArray,.int .i64 to] w fun r w'=>∃ ad' c',r=.returned (.agg (mlC (ad',c',(k.me,to,encO (sent k to p)))).toArray)∧St W w' (mlo (ad',c',(k.me,to,encO (sent k to p)))::CoreS B k::L):=by
 refine calls_enter Tryz.func110 rfl Tryz.ntmps110 (Nat.le_of_ble_eq_true rfl) ?_
 intro a ha
 replace ha : Fr a 28 [(0,_),(1,_),(2,_)]:=ha
 refine WS<|WR ?_
 refine SK (st_box ha rfl hs rfl fun b4 a w ha hs ho=>?_)
 clear ho
 simp only [pkC] at hs
 refine SK (st_alloc ha rfl hs Ty.t172 rfl fun b6 a w ha hs ho=>?_)
 clear ho
 refine LN<|TN<|WS ?_
 refine DW (m:=17) (fun w'=>CoR w' B k) [10,12,13,14] [0,1,2,3,5,6,7,8,9,4,11,10,12,13,14,15,16] Ty.mixed (pk_then pk_body) (fun hpk=>?_)
 replace hs:=hs.drew
 generalize w.drew=w at hs hpk ⊢
 have hC : CoR w B k:=CoreS.rd (hs.pick (CoreS B k))
 iterate 9 (refine DP hpk ha rfl fun a ha=>?_)
 refine DL hpk ha rfl (fun w hc=>hc.cf 1 _ rfl) hC fun a ha=>?_
 refine DP hpk ha rfl fun a ha=>?_
 refine DL hpk ha rfl (fun w hc=>hc.cf 2 _ rfl) hC fun a ha=>?_
 refine D1 rfl (st_store ha rfl hs Ty.t3 rfl (by simp) fun a w ha hs=>?_)
 replace hC : (fun w'=>CoR w' B k) w:=CoreS.rd (hs.pick (CoreS B k))
 refine ⟨fun _=>hC,?_⟩
 refine D1 rfl (st_set ha rfl (ex_fieldAddr (k:=2) ha Tryz.underlying40 rfl Ty.t3 rfl) rfl fun a ha=>?_)
 refine ⟨fun _=>hC,?_⟩
 refine D1 rfl (st_store ha rfl hs Ty.t3 rfl (by simp) fun a w ha hs=>?_)
 replace hC : (fun w'=>CoR w' B k) w:=CoreS.rd (hs.pick (CoreS B k))
 refine ⟨fun _=>hC,?_⟩
 refine DP hpk ha rfl fun a ha=>?_
 refine D1 rfl (st_store ha rfl hs Ty.t2 rfl (by simp) fun a w ha hs=>?_)
 refine ⟨fun h=>absurd h (by decide),?_⟩
 refine DD<|TN<|WS ?_
 refine DW (m:=8) (fun w'=>Rd w' b4 0 (pkC (sent k to p) adP c)) [3,4,5] [0,2,1,3,4,5,6,7] Ty.mixed (pk_then pk_body) (fun hpk=>?_)
 replace hs:=hs.drew
 generalize w.drew=w at hs hpk ⊢
 have hC : Rd w b4 0 (pkC (sent k to p) adP c):=hs.rdAll (b:=b4)
 iterate 2 (refine DP hpk ha rfl fun a ha=>?_)
 refine DL hpk ha rfl (fun w hc=>hc 1 _ rfl) hC fun a ha=>?_
 refine DL hpk ha rfl (fun w hc=>hc 2 _ rfl) hC fun a ha=>?_
 refine D1 rfl (st_set ha rfl (ex_loadN ha Tryz.underlying40 rfl Ty.t40 (hC)) rfl fun a ha=>?_)
 replace hC : (fun w'=>Rd w' b4 0 (pkC (sent k to p) adP c)) w:=hC
 refine ⟨fun _=>hC,?_⟩
 refine D1 rfl (st_call ha rfl Ty.c131 rfl (packet_enc (p:=sent k to p) (ad:=adP) (c:=c) hs hsum (fun w' hw=>hp w' hw.sub)) ?_); clear ha hs
 rintro e w ⟨ad2,c2,rfl,hs⟩
 refine ⟨_,rfl,?_⟩
 intro a ha
 replace hC : (fun w'=>Rd w' b4 0 (pkC (sent k to p) adP c)) w:=hs.rdAll (b:=b4)
 refine ⟨fun _=>hC,?_⟩
 refine DQ hpk ha rfl rfl (fun w=>ex_build ha Ty.b172 Ty.t172 rfl) fun a ha=>?_
 refine D1 rfl (st_storeAll ha rfl hs Ty.t172 (by simp [Value.oneCell']) (by rfl) fun a w ha hs=>?_)
 refine ⟨fun h=>absurd h (by decide),?_⟩
 refine DD<|TN<|wp_ret ?_
 refine retC1 ha rfl (run_loadN Tryz.underlying172 rfl Ty.t172 (hs.rdAll (b:=b6))) ?_
 exact ⟨ad2,c2,rfl,hs.sub (M:=Sl 5 1 ad2 (encO (sent k to p)).length c2 (bc (encO (sent k to p)))::CoreS B k::L)⟩
theorem lastD_get {l : List Nat} (h : 0 < l.length) : l.getD (l.length - 1) 0=l.getLastD 0:=by
 rw [List.getLastD_eq_getLast?,List.getLast?_eq_getElem?,List.getD_eq_getElem?_getD]
theorem sent_mail (k : Ks) (to : Nat) : sent k to ⟨1,0,0,0,(peK k to).has,(k.ls.getD to []).length,k.mr.length,k.mr.getLastD 0,((k.ls.getD k.me []).drop (peK k to).has).take 32⟩=mailPk k to:=rfl
set_option maxHeartbeats 1000000 in
theorem core_input (hs : St W w (CoreS B k::L)) (hk : WC k) (hto : to < k.n) : Calls Tryz.prog 109 #[.pointer (some ⟨B.cb,0,none⟩),.int .i64 to] w fun r w'=>∃ ad' c',r=.returned (.agg (mlC (ad',c',(k.me,to,encO (mailPk k to)))).toArray)∧St W w' (mlo (ad',c',(k.me,to,encO (mailPk k to)))::CoreS B k::L):=by
 have hme : k.me < k.ls.length:=by rw [hk.ls]; exact hk.me
 have htl : to < k.ls.length:=by rw [hk.ls]; exact hto
 have htp : to < k.ps.length:=by rw [hk.ps]; exact hto
 have hpt:=hk.pet hto
 have hml:=hk.lnt hk.me
 have hat:=peK_at htp
 have hn:=hk.n
 have hmr:=hk.mr
 obtain ⟨A,hs⟩:=CoreS.open hs
 refine calls_enter Tryz.func109 rfl Tryz.ntmps109 (Nat.le_of_ble_eq_true rfl) ?_
 intro a ha
 replace ha : Fr a 62 [(0,_),(1,_)]:=ha
 refine WS<|WR ?_
 refine SK (st_alloc ha rfl hs Ty.t172 rfl fun b4 a w ha hs ho=>?_)
 clear ho
 refine LN<|TN ?_
 refine wp_seq_cut (M:=fun a w=>∃ b5 : Nat,Fr a 62 [(0,.pointer (some ⟨B.cb,0,none⟩)),(1,.int .i64 to),(4,.pointer (some ⟨b4,0,none⟩)),(5,.pointer (some ⟨b5,0,none⟩))]∧St W w (blk b5 40 [.int .i64 1,.int .i64 0,.int .i64 0,.int .i64 0,.int .i64 (peK k to).has,.slice none 0 0,.int .i64 (k.ls.getD to []).length,.int .i64 k.mr.length,.int .u32 0]::blk b4 172 [.int .i64 0,.int .i64 0,.slice none 0 0]::blk B.cb 111 (coC k B A)::Sl 133 5 (some ⟨B.bp,B.op,none⟩) k.ps.length A.cP (rows peC k.ps)::Sl 38 1 A.adM k.mr.length A.cM (mrC k.mr)::Sl 184 1 A.adE k.ev.length A.cE (k.ev.map evV)::Qu B.qb B.lbs k.ls::L)) ?_ ?_
 ·
  refine DW (m:=23) (fun w'=>Rd w' B.cb 0 (coC k B A)∧Rd w' B.bp (B.op+to*5) (peC (peK k to))) [11,13,14,18,19,21] [0,1,2,4,8,9,10,12,15,16,17,3,5,6,7,11,18,19,13,14,20,21,22] Ty.mixed (pk_then pk_body) (fun hpk=>?_)
  replace hs:=hs.drew
  generalize w.drew=w at hs hpk ⊢
  have hC : Rd w B.cb 0 (coC k B A)∧Rd w B.bp (B.op+to*5) (peC (peK k to)):=⟨hs.rdAll (b:=B.cb),rows_part peC_len (hs.slRdAt B.bp B.op (by omega)) hat⟩
  iterate 11 (refine DP hpk ha rfl fun a ha=>?_)
  refine DL hpk ha rfl (fun w hc=>hc.1 11 _ rfl) hC fun a ha=>?_
  refine DQ hpk ha rfl rfl (fun w=>ex_indexAddr ha Tryz.underlying108 Ty.t133 (by omega)) fun a ha=>?_
  refine DP hpk ha rfl fun a ha=>?_
  refine DL hpk ha rfl (fun w hc=>hc.2 0 _ rfl) hC fun a ha=>?_
  refine DL hpk ha rfl (fun w hc=>hc.1 10 _ rfl) hC fun a ha=>?_
  refine DL hpk ha rfl (fun w hc=>hc.1 12 _ rfl) hC fun a ha=>?_
  refine DH hpk ha rfl rfl (fun w hc=>ex_len ha Tryz.underlying109) hC fun a ha=>?_
  refine D2 (i:=13) (j:=21) [14,20,21,22] [13,14,20,22] (by kernel_rfl) rfl rfl ?_ ?_
  ·
   refine st_call ha rfl Ty.c60 rfl (queue_line (hs.pick (Qu B.qb B.lbs k.ls)) htl) ?_; clear ha hs
   rintro e w ⟨rfl,hs⟩
   refine ⟨_,rfl,?_⟩
   intro a ha
   replace hC : (fun w'=>Rd w' B.cb 0 (coC k B A)∧Rd w' B.bp (B.op+to*5) (peC (peK k to))) w:=⟨hs.rdAll (b:=B.cb),rows_part peC_len (hs.slRdAt B.bp B.op (by omega)) hat⟩
   refine ⟨fun _=>hC,?_⟩
   refine D2 (i:=14) (j:=21) [20,21,22] [14,20,22] (by kernel_rfl) rfl rfl ?_ ?_
   ·
    refine st_call ha rfl Ty.c62 rfl (q_len (hs.pick (Qu B.qb B.lbs k.ls)) htl) ?_; clear ha hs
    rintro e w ⟨rfl,hs⟩
    refine ⟨_,rfl,?_⟩
    intro a ha
    replace hC : (fun w'=>Rd w' B.cb 0 (coC k B A)∧Rd w' B.bp (B.op+to*5) (peC (peK k to))) w:=⟨hs.rdAll (b:=B.cb),rows_part peC_len (hs.slRdAt B.bp B.op (by omega)) hat⟩
    refine ⟨fun _=>hC,?_⟩
    refine DQ hpk ha rfl rfl (fun w=>ex_build ha Ty.b40 Ty.t40 rfl) fun a ha=>?_
    refine D1 rfl (st_alloc ha rfl hs Ty.t40 rfl fun b5 a w ha hs ho=>?_)
    (try replace hC:=hC.trans ho); clear ho
    replace hC : (fun w'=>Rd w' B.cb 0 (coC k B A)∧Rd w' B.bp (B.op+to*5) (peC (peK k to))) w:=⟨hs.rdAll (b:=B.cb),rows_part peC_len (hs.slRdAt B.bp B.op (by omega)) hat⟩
    refine ⟨fun _=>hC,?_⟩
    refine D1 rfl (st_storeAll ha rfl hs Ty.t40 (by simp [Value.oneCell']) (by rfl) fun a w ha hs=>?_)
    refine ⟨fun h=>absurd h (by decide),?_⟩
    refine DD<|TN ?_
    exact ⟨_,ha.keep [0,1,4,5],hs.sub⟩
   ·
    refine st_alloc ha rfl hs Ty.t40 rfl fun b5 a w ha hs ho=>?_
    (try replace hC:=hC.trans ho); clear ho
    replace hC : (fun w'=>Rd w' B.cb 0 (coC k B A)∧Rd w' B.bp (B.op+to*5) (peC (peK k to))) w:=⟨hs.rdAll (b:=B.cb),rows_part peC_len (hs.slRdAt B.bp B.op (by omega)) hat⟩
    refine ⟨fun _=>hC,?_⟩
    refine D1 rfl (st_call ha rfl Ty.c62 rfl (q_len (hs.pick (Qu B.qb B.lbs k.ls)) htl) ?_); clear ha hs
    rintro e w ⟨rfl,hs⟩
    refine ⟨_,rfl,?_⟩
    intro a ha
    replace hC : (fun w'=>Rd w' B.cb 0 (coC k B A)∧Rd w' B.bp (B.op+to*5) (peC (peK k to))) w:=⟨hs.rdAll (b:=B.cb),rows_part peC_len (hs.slRdAt B.bp B.op (by omega)) hat⟩
    refine ⟨fun _=>hC,?_⟩
    refine DQ hpk ha rfl rfl (fun w=>ex_build ha Ty.b40 Ty.t40 rfl) fun a ha=>?_
    refine D1 rfl (st_storeAll ha rfl hs Ty.t40 (by simp [Value.oneCell']) (by rfl) fun a w ha hs=>?_)
    refine ⟨fun h=>absurd h (by decide),?_⟩
    refine DD<|TN ?_
    exact ⟨_,ha.keep [0,1,4,5],hs.sub⟩
  ·
   refine st_alloc ha rfl hs Ty.t40 rfl fun b5 a w ha hs ho=>?_
   (try replace hC:=hC.trans ho); clear ho
   replace hC : (fun w'=>Rd w' B.cb 0 (coC k B A)∧Rd w' B.bp (B.op+to*5) (peC (peK k to))) w:=⟨hs.rdAll (b:=B.cb),rows_part peC_len (hs.slRdAt B.bp B.op (by omega)) hat⟩
   refine ⟨fun _=>hC,?_⟩
   refine D1 rfl (st_call ha rfl Ty.c60 rfl (queue_line (hs.pick (Qu B.qb B.lbs k.ls)) htl) ?_); clear ha hs
   rintro e w ⟨rfl,hs⟩
   refine ⟨_,rfl,?_⟩
   intro a ha
   replace hC : (fun w'=>Rd w' B.cb 0 (coC k B A)∧Rd w' B.bp (B.op+to*5) (peC (peK k to))) w:=⟨hs.rdAll (b:=B.cb),rows_part peC_len (hs.slRdAt B.bp B.op (by omega)) hat⟩
   refine ⟨fun _=>hC,?_⟩
   refine D1 rfl (st_call ha rfl Ty.c62 rfl (q_len (hs.pick (Qu B.qb B.lbs k.ls)) htl) ?_); clear ha hs
   rintro e w ⟨rfl,hs⟩
   refine ⟨_,rfl,?_⟩
   intro a ha
   replace hC : (fun w'=>Rd w' B.cb 0 (coC k B A)∧Rd w' B.bp (B.op+to*5) (peC (peK k to))) w:=⟨hs.rdAll (b:=B.cb),rows_part peC_len (hs.slRdAt B.bp B.op (by omega)) hat⟩
   refine ⟨fun _=>hC,?_⟩
   refine DQ hpk ha rfl rfl (fun w=>ex_build ha Ty.b40 Ty.t40 rfl) fun a ha=>?_
   refine D1 rfl (st_storeAll ha rfl hs Ty.t40 (by simp [Value.oneCell']) (by rfl) fun a w ha hs=>?_)
   refine ⟨fun h=>absurd h (by decide),?_⟩
   refine DD<|TN ?_
   exact ⟨_,ha.keep [0,1,4,5],hs.sub⟩
 ·
  clear ha; (try clear hs)
  intro a w hcut
  obtain ⟨b5,ha,hs⟩:=hcut
  refine wp_seq_cut (M:=fun a w=>∃ (adp : Option Addr) (cp : Nat),Fr a 62 [(0,.pointer (some ⟨B.cb,0,none⟩)),(1,.int .i64 to),(4,.pointer (some ⟨b4,0,none⟩)),(5,.pointer (some ⟨b5,0,none⟩))]∧St W w (blk b5 40 [.int .i64 1,.int .i64 0,.int .i64 0,.int .i64 0,.int .i64 (peK k to).has,.slice adp (((k.ls.getD k.me []).drop (peK k to).has).take 32).length cp,.int .i64 (k.ls.getD to []).length,.int .i64 k.mr.length,.int .u32 0]::Sl 5 1 adp (((k.ls.getD k.me []).drop (peK k to).has).take 32).length cp (bc (((k.ls.getD k.me []).drop (peK k to).has).take 32))::blk b4 172 [.int .i64 0,.int .i64 0,.slice none 0 0]::blk B.cb 111 (coC k B A)::Sl 133 5 (some ⟨B.bp,B.op,none⟩) k.ps.length A.cP (rows peC k.ps)::Sl 38 1 A.adM k.mr.length A.cM (mrC k.mr)::Sl 184 1 A.adE k.ev.length A.cE (k.ev.map evV)::Qu B.qb B.lbs k.ls::L)) ?_ ?_
  ·
   refine DW (m:=15) (fun w'=>Rd w' B.cb 0 (coC k B A)∧Rd w' b5 0 [.int .i64 1,.int .i64 0,.int .i64 0,.int .i64 0,.int .i64 (peK k to).has,.slice none 0 0,.int .i64 (k.ls.getD to []).length,.int .i64 k.mr.length,.int .u32 0]) [8,9,11] [0,1,2,4,5,6,7,10,3,8,11,9,12,13,14] Ty.mixed (pk_then pk_body) (fun hpk=>?_)
   replace hs:=hs.drew
   generalize w.drew=w at hs hpk ⊢
   have hC : Rd w B.cb 0 (coC k B A)∧Rd w b5 0 [.int .i64 1,.int .i64 0,.int .i64 0,.int .i64 0,.int .i64 (peK k to).has,.slice none 0 0,.int .i64 (k.ls.getD to []).length,.int .i64 k.mr.length,.int .u32 0]:=⟨hs.rdAll (b:=B.cb),hs.rdAll (b:=b5)⟩
   iterate 8 (refine DP hpk ha rfl fun a ha=>?_)
   refine DL hpk ha rfl (fun w hc=>hc.1 10 _ rfl) hC fun a ha=>?_
   refine DL hpk ha rfl (fun w hc=>hc.1 1 _ rfl) hC fun a ha=>?_
   refine DL hpk ha rfl (fun w hc=>hc.2 4 _ rfl) hC fun a ha=>?_
   refine D1 rfl (st_call ha rfl Ty.c60 rfl (queue_line (hs.pick (Qu B.qb B.lbs k.ls)) hme) ?_); clear ha hs
   rintro e w ⟨rfl,hs⟩
   refine ⟨_,rfl,?_⟩
   intro a ha
   replace hC : (fun w'=>Rd w' B.cb 0 (coC k B A)∧Rd w' b5 0 [.int .i64 1,.int .i64 0,.int .i64 0,.int .i64 0,.int .i64 (peK k to).has,.slice none 0 0,.int .i64 (k.ls.getD to []).length,.int .i64 k.mr.length,.int .u32 0]) w:=⟨hs.rdAll (b:=B.cb),hs.rdAll (b:=b5)⟩
   refine ⟨fun _=>hC,?_⟩
   refine D1 rfl (st_call ha rfl Ty.c139 rfl (q_from (k:=32) (hs.pick (Qu B.qb B.lbs k.ls)) hme hml hpt.1 (by decide)) ?_); clear ha hs
   rintro e w ⟨adp,cp,rfl,hs⟩
   refine ⟨_,rfl,?_⟩
   intro a ha
   refine ⟨fun h=>absurd h (by decide),?_⟩
   refine DP hpk ha rfl fun a ha=>?_
   refine D1 rfl (st_store ha rfl hs Ty.t22 rfl (by simp) fun a w ha hs=>?_)
   refine ⟨fun h=>absurd h (by decide),?_⟩
   refine DD<|TN ?_
   exact ⟨adp,cp,ha.keep [0,1,4,5],hs.sub⟩
  ·
   clear ha; (try clear hs)
   intro a w hcut
   obtain ⟨adp,cp,ha,hs⟩:=hcut
   refine wp_seq_cut (M:=fun a w=>Fr a 62 [(0,.pointer (some ⟨B.cb,0,none⟩)),(1,.int .i64 to),(4,.pointer (some ⟨b4,0,none⟩)),(5,.pointer (some ⟨b5,0,none⟩))]∧St W w (blk b5 40 [.int .i64 1,.int .i64 0,.int .i64 0,.int .i64 0,.int .i64 (peK k to).has,.slice adp (((k.ls.getD k.me []).drop (peK k to).has).take 32).length cp,.int .i64 (k.ls.getD to []).length,.int .i64 k.mr.length,.int .u32 (k.mr.getLastD 0 : Nat)]::Sl 5 1 adp (((k.ls.getD k.me []).drop (peK k to).has).take 32).length cp (bc (((k.ls.getD k.me []).drop (peK k to).has).take 32))::blk b4 172 [.int .i64 0,.int .i64 0,.slice none 0 0]::CoreS B k::L)) ?_ ?_
   ·
    refine WS<|WR ?_
    iterate 3 (refine S1 ha fun a ha=>?_)
    refine SL ha (hs.rd1 rfl) fun a ha=>?_
    iterate 2 (refine S1 ha fun a ha=>?_)
    refine LN<|TN<|WS<|WR ?_
    iterate 2 (refine S1 ha fun a ha=>?_)
    refine LN<|TN ?_
    refine WI ha (fun hc0=>?_) (fun hc0=>?_)
    ·
     obtain ⟨bm,om,hme2,hrm⟩:=(hs.pick (Sl 38 1 A.adM k.mr.length A.cM (mrC k.mr))).slRd A.adM (by omega)
     refine WR ?_
     iterate 3 (refine S1 ha fun a ha=>?_)
     refine SL ha (hs.rd1 rfl) fun a ha=>?_
     rw [hme2] at ha
     refine S1 ha fun a ha=>?_
     refine SK (st_set ha rfl (ex_subI ha (by omega) (by omega)) rfl fun a ha=>?_)
     rw [show ((k.mr.length : Nat) : Int) - 1=((k.mr.length - 1 : Nat) : Int) from by omega] at ha
     refine SK (st_set ha rfl (ex_indexAddr ha Tryz.underlying109 Ty.t38 (by omega)) rfl fun a ha=>?_)
     rw [Nat.mul_one] at ha
     refine SL ha (hrm (k.mr.length - 1) _ (mrC_get (by omega))) fun a ha=>?_
     refine S1 ha fun a ha=>?_
     refine SK (st_store ha rfl hs Ty.t38 rfl (by simp) fun a w ha hs=>?_)
     refine LN<|TN ?_
     rw [lastD_get (by omega)] at hs
     exact ⟨ha.keep [0,1,4,5],(CoreS.fold hs B k A).sub⟩
    ·
     refine WK<|TN ?_
     have h0 : k.mr.getLastD 0=0:=by rw [List.eq_nil_of_length_eq_zero (l:=k.mr) (by omega)]; rfl
     exact ⟨ha.keep [0,1,4,5],by rw [h0]; exact (CoreS.fold hs B k A).sub⟩
   ·
    clear ha; (try clear hs)
    intro a w hcut
    obtain ⟨ha,hs⟩:=hcut
    refine WS<|WR ?_
    refine S1 ha fun a ha=>?_
    refine SK (st_set ha rfl (ex_loadN ha Tryz.underlying40 rfl Ty.t40 (hs.rdAll (b:=b5))) rfl fun a ha=>?_)
    refine S1 ha fun a ha=>?_
    refine SK (st_call ha rfl Ty.c110 rfl (core_mail (p:=⟨1,0,0,0,(peK k to).has,(k.ls.getD to []).length,k.mr.length,k.mr.getLastD 0,((k.ls.getD k.me []).drop (peK k to).has).take 32⟩) (adP:=adp) (c:=cp) (hs.pick (CoreS B k)) (by
      show k.mr.getLastD 0 < 4294967296
      rw [List.getLastD_eq_getLast?]
      cases hl : k.mr.getLast? with
      | none=>decide
      | some s=>exact hk.mrs s (List.mem_of_getLast? hl)) (fun w' hw=>(hw.pick (Sl 5 1 adp (((k.ls.getD k.me []).drop (peK k to).has).take 32).length cp (bc (((k.ls.getD k.me []).drop (peK k to).has).take 32)))).rdB adp _ rfl rfl)) ?_); clear ha hs
    rintro e w ⟨ad2,c2,rfl,hs⟩
    refine ⟨_,rfl,?_⟩
    intro a ha
    rw [sent_mail] at ha hs
    refine SK (st_storeAll ha rfl hs Ty.t172 (mlC_one _) (by rfl) fun a w ha hs=>?_)
    refine LN<|TN<|wp_ret ?_
    refine retC1 ha rfl (run_loadN Tryz.underlying172 rfl Ty.t172 (hs.rdAll (b:=b4))) ?_
    exact ⟨ad2,c2,rfl,hs.sub⟩
def mailsT (k : Ks) (j : Nat) : List Ml:=((othersK k).take j).map fun i=>(k.me,i,encO (mailPk k i))
def mailsQ (k : Ks) (j : Nat) : List Ml:=((othersK k).take j).map fun i=>(k.me,i,encO (quitPk k i))
theorem othersK_le (k : Ks) : (othersK k).length≤k.n:=othN_le k k.n
theorem core_quit (hs : St W w (CoreS B k::L)) (hk : WC k) : Calls Tryz.prog 64 #[.pointer (some ⟨B.cb,0,none⟩)] w fun r w'=>∃ ad c,r=.returned (.slice ad (quitK k).1.length c)∧St W w' (OwnMl 172 ad (quitK k).1.length c (quitK k).1::CoreS B (quitK k).2::L):=by
 have hn:=hk.n
 have hol:=othersK_le k
 refine calls_enter Tryz.func64 rfl Tryz.ntmps64 (Nat.le_of_ble_eq_true rfl) ?_
 intro a ha
 replace ha : Fr a 27 [(0,_)]:=ha
 refine WS<|WR ?_
 refine S1 ha fun a ha=>?_
 refine LN<|TN<|WS<|WS<|WR ?_
 refine S1 ha fun a ha=>?_
 refine SK (st_call ha rfl Ty.c66 rfl (core_closed hs) ?_); clear ha hs
 rintro e w ⟨rfl,hs⟩
 refine ⟨_,rfl,?_⟩
 intro a ha
 refine LN<|TN ?_
 refine WI ha (fun hc0=>?_) (fun hc0=>?_)
 ·
  refine WS<|WR ?_
  refine S1d ha fun a ha=>?_
  refine LN<|TN<|wp_ret<|TR ?_
  refine ret1 ha rfl ?_
  exact ⟨none,0,by rw [quitK,if_pos hc0]; rfl,by rw [quitK,if_pos hc0]; exact OwnMl.nil hs⟩
 ·
  have hq : quitK k=((othersK k).map fun i=>(k.me,i,encO (quitPk k i)),{ k with cl:=true }):=by rw [quitK,if_neg (by rw [hc0]; decide)]
  obtain ⟨A,hs⟩:=CoreS.open hs
  refine WK<|TN<|WS<|WR ?_
  iterate 3 (refine S1 ha fun a ha=>?_)
  refine SK (st_store ha rfl hs Ty.t4 rfl (by simp) fun a w ha hs=>?_)
  refine LN ?_
  replace hs:=CoreS.mk' (B:=B) (L':=L) (k:={ k with cl:=true }) hs A
  refine TN<|WS<|WR ?_
  refine S1 ha fun a ha=>?_
  refine LN<|TN<|WS<|WS<|WR ?_
  refine S1 ha fun a ha=>?_
  refine SK (st_call ha rfl Ty.c108 rfl (core_others hs (by exact (hk.quit).1 |> fun h=>by rw [hq] at h; exact h)) ?_); clear ha hs
  rintro e w ⟨ado,co,rfl,hs⟩
  refine ⟨_,rfl,?_⟩
  intro a ha
  iterate 2 (refine S1 ha fun a ha=>?_)
  refine LN ?_
  replace hs:=St.sl0 (St.allNil (f:=mlo) hs) 172 3 none
  replace ha : Fr a 27 ((14,.int .i64 (0 : Nat))::(13,.int .i64 (othersK k).length)::(12,.slice ado (othersK k).length co)::(3,.slice none 0 0)::(0,.pointer (some ⟨B.cb,0,none⟩))::[]):=ha.keep [14,13,12,3,0]
  refine TN<|wp_block ?_
  refine wp_loop_ghost (fun μ a w=>∃ (j : Nat) (xs : List Mx) (ad : Option Addr) (c : Nat),(μ=(othersK k).length - j∧j≤(othersK k).length∧xs.map (·.2.2)=mailsQ k j∧xs.length=j)∧Fr a 27 [(0,.pointer (some ⟨B.cb,0,none⟩)),(3,.slice ad j c),(12,.slice ado (othersK k).length co),(13,.int .i64 (othersK k).length),(14,.int .i64 j)]∧St W w (Sl 172 3 ad j c (rows mlC xs)::All mlo xs::Sl 3 1 ado (othersK k).length co (ivn (othersK k))::CoreS B { k with cl:=true }::L)) ((othersK k).length) ?_ ?_
  · exact ⟨0,[],none,0,⟨rfl,by omega,rfl,rfl⟩,ha.keep [0,3,12,13,14],hs⟩
  ·
   clear ha hs
   rintro μ a w ⟨j,xs,ad,c,⟨rfl,hj,hxm,hxl⟩,ha,hs⟩
   refine WS<|WR ?_
   refine S1 ha fun a ha=>?_
   refine LN<|TN<|WS ?_
   refine WI ha (fun hc1=>?_) (fun hc1=>?_)
   ·
    obtain ⟨i,hi⟩ : ∃ i,(othersK k)[j]?=some i:=⟨_,List.getElem?_eq_getElem (by omega)⟩
    obtain ⟨bo,oo,rfl,hro⟩:=(hs.pick (Sl 3 1 ado (othersK k).length co (ivn (othersK k)))).slRd ado (by omega)
    refine WK<|TN<|WS<|wp_block<|WS<|WR ?_
    refine SK (st_set ha rfl (ex_indexAddr ha Tryz.underlying63 Ty.t3 (by omega)) rfl fun a ha=>?_)
    rw [Nat.mul_one] at ha
    refine SL ha (hro j _ (ivn_at hi)) fun a ha=>?_
    refine S1 ha fun a ha=>?_
    refine LN<|TN<|WR ?_
    iterate 2 (refine S1 ha fun a ha=>?_)
    refine SK (st_set ha rfl (ex_build ha Ty.b40 Ty.t40 rfl) rfl fun a ha=>?_)
    refine S1 ha fun a ha=>?_
    refine SK (st_call ha rfl Ty.c110 rfl (core_mail (k:={ k with cl:=true }) (to:=i) (p:=⟨2,0,0,0,0,0,0,0,[]⟩) (adP:=none) (c:=0) (hs.pick (CoreS B { k with cl:=true })) (by decide) (fun w' hw=>RdB.nil)) ?_); clear ha hs
    rintro e w ⟨ad2,c2,rfl,hs⟩
    refine ⟨_,rfl,?_⟩
    intro a ha
    rw [show sent { k with cl:=true } i ⟨2,0,0,0,0,0,0,0,[]⟩=quitPk k i from rfl] at ha hs
    refine SK (st_buildSlice ha rfl hs Tryz.underlying65 Ty.t172 rfl rfl rfl rfl (by decide) (by decide) fun b23 a w ha hs ho=>?_)
    clear ho
    refine SK (st_append ha rfl hs Tryz.underlying65 Ty.t172 rfl rfl hs.rdAll rfl (by simpa using mlC_one _) (by decide) (by decide) (by omega) fun ad24 c24 a w ha hs=>?_)
    rw [show rows mlC xs++_=rows mlC (xs++[(ad2,c2,(k.me,i,encO (quitPk k i)))]) from by rw [rows_app]; rfl] at hs
    refine S1d ha fun a ha=>?_
    refine LN<|BN<|TN<|WR ?_
    refine SK (st_set ha rfl (ex_addI ha (by omega) (by omega)) rfl fun a ha=>?_)
    refine S1d ha fun a ha=>?_
    refine LN<|TN ?_
    have hs2:=St.allPush (f:=mlo) (x:=(ad2,c2,(k.me,i,encO (quitPk k i)))) (hs.sub (M:=mlo (ad2,c2,(k.me,i,encO (quitPk k i)))::All mlo xs::Sl 172 3 ad24 (j+1) c24 (rows mlC (xs++[(ad2,c2,(k.me,i,encO (quitPk k i)))]))::Sl 3 1 (some ⟨bo,oo,none⟩) (othersK k).length co (ivn (othersK k))::CoreS B { k with cl:=true }::L))
    exact ⟨(othersK k).length - (j+1),by omega,j+1,xs++[(ad2,c2,(k.me,i,encO (quitPk k i)))],ad24,c24,⟨rfl,by omega,by
      have hjl : j < (othersK k).length:=by omega
      rw [List.map_append,hxm,mailsQ,mailsQ,List.take_succ_eq_append_getElem hjl,List.map_append,(List.getElem?_eq_some_iff.1 hi).2]; rfl,by rw [List.length_append,hxl]; rfl⟩,ha.keep [0,3,12,13,14],hs2.sub⟩
   ·
    refine wp_exit<|TE<|TE<|blk_e<|TN<|WS<|WR ?_
    iterate 2 (refine S1 ha fun a ha=>?_)
    refine LN<|TN<|wp_ret ?_
    refine ret1 ha rfl ?_
    obtain rfl : j=(othersK k).length:=by omega
    rw [mailsQ,List.take_length] at hxm
    have hll : ((othersK k).map fun i=>(k.me,i,encO (quitPk k i))).length=(othersK k).length:=List.length_map _
    rw [hq]
    refine ⟨ad,c,by rw [hll],?_⟩
    rw [hll]
    exact OwnMl.close (xs:=xs) hs.sub hxm hll
end
end Go.Proofs.YtagpkhbkdbaigaaGreat
/- core.Tick, Receive. -/
namespace Go.Proofs.YtagpkhbkdbaigaaGreat
open Go.RowKit
set_option linter.unusedVariables false
set_option linter.unusedSimpArgs false
set_option maxRecDepth 10000
set_option synthInstance.maxSize 4000
set_option synthInstance.maxHeartbeats 400000
theorem find_at {α : Type} {p : α→Bool} : ∀ {l : List α} {j : Nat} {x : α},(∀ y∈l.take j,p y=false)→l[j]?=some x→p x=true→l.find? p=some x
 | [],j,x,_,h,_=>by simp at h
 | y::l,0,x,_,h,hp=>by
   obtain rfl : y=x:=by simpa using h
   rw [List.find?_cons,hp]
 | y::l,j+1,x,ha,h,hp=>by
   rw [List.find?_cons,ha y (by simp)]
   exact find_at (j:=j) (fun z hz=>ha z (by rw [List.take_succ_cons]; exact List.mem_cons_of_mem _ hz)) (by simpa using h) hp
theorem find_no {α : Type} {p : α→Bool} {l : List α} (h : ∀ y∈l,p y=false) : l.find? p=none:=by
 rw [List.find?_eq_none]
 intro y hy hp
 rw [h y hy] at hp; cases hp
section
variable {W w : World} {L L' R : List SP} {n c m i e to : Nat} {ad adP : Option Addr} {k : Ks} {A : CoA} {B : CoB} {x : UInt8} {ms : List Ml} {p : Pk} {bs : List UInt8}
theorem core_tick (hs : St W w (CoreS B k::L)) (hk : WC k) (hnw : k.now≤1000000) : Calls Tryz.prog 63 #[.pointer (some ⟨B.cb,0,none⟩)] w fun r w'=>∃ ad c,r=.returned (.slice ad (tickK k).1.length c)∧St W w' (OwnMl 172 ad (tickK k).1.length c (tickK k).1::CoreS B (tickK k).2::L):=by
 have hn:=hk.n
 refine calls_enter Tryz.func63 rfl Tryz.ntmps63 (Nat.le_of_ble_eq_true rfl) ?_
 intro a ha
 replace ha : Fr a 61 [(0,_)]:=ha
 refine WS<|WR ?_
 refine S1 ha fun a ha=>?_
 refine LN<|TN<|WS<|WS<|WR ?_
 refine S1 ha fun a ha=>?_
 refine SK (st_call ha rfl Ty.c66 rfl (core_closed hs) ?_); clear ha hs
 rintro e w ⟨rfl,hs⟩
 refine ⟨_,rfl,?_⟩
 intro a ha
 refine LN<|TN ?_
 refine WI ha (fun hc0=>?_) (fun hc0=>?_)
 ·
  refine WS<|WR ?_
  refine S1d ha fun a ha=>?_
  refine LN<|TN<|wp_ret<|TR ?_
  refine ret1 ha rfl ?_
  exact ⟨none,0,by rw [tickK,if_pos hc0]; rfl,by rw [tickK,if_pos hc0]; exact OwnMl.nil hs⟩
 ·
  have hq : tickK k=(match (othersK { k with now:=k.now+1 }).find? (fun i=>decide (lateP { k with now:=k.now+1 } i)) with
    | some i=>([],{ k with now:=k.now+1,ev:=k.ev++[(2,i,0)],cl:=true })
    | none=>((othersK { k with now:=k.now+1 }).map fun i=>(k.me,i,encO (mailPk { k with now:=k.now+1 } i)),{ k with now:=k.now+1 })):=by rw [tickK,if_neg (by rw [hc0]; decide)]; rfl
  obtain ⟨A,hs⟩:=CoreS.open hs
  refine WK<|TN<|WS<|WR ?_
  iterate 3 (refine S1 ha fun a ha=>?_)
  refine SL ha (hs.rd1 rfl) fun a ha=>?_
  refine SK (st_set ha rfl (ex_addI ha (by omega) (by omega)) rfl fun a ha=>?_)
  rw [show ((k.now : Nat) : Int)+1=((k.now+1 : Nat) : Int) from by omega] at ha
  iterate 2 (refine S1 ha fun a ha=>?_)
  refine SK (st_store ha rfl hs Ty.t3 rfl (by simp) fun a w ha hs=>?_)
  refine LN ?_
  replace hs:=CoreS.fold hs B { k with now:=k.now+1 } A
  have hk' : WC { k with now:=k.now+1 }:=hk.nowUp
  have hev:=hk.evl
  have hnw' : ({ k with now:=k.now+1 } : Ks).now≤1000001:=by show k.now+1≤_; omega
  have hev' : ({ k with now:=k.now+1 } : Ks).ev.length≤9:=hev
  have hq2 : tickK k=(match (othersK { k with now:=k.now+1 }).find? (fun i=>decide (lateP { k with now:=k.now+1 } i)) with
    | some i=>([],{ ({ k with now:=k.now+1 } : Ks) with ev:=({ k with now:=k.now+1 } : Ks).ev++[(2,i,0)],cl:=true })
    | none=>((othersK { k with now:=k.now+1 }).map fun i=>(({ k with now:=k.now+1 } : Ks).me,i,encO (mailPk { k with now:=k.now+1 } i)),{ k with now:=k.now+1 })):=hq
  clear hq
  have hn' : 2≤({ k with now:=k.now+1 } : Ks).n∧({ k with now:=k.now+1 } : Ks).n≤8:=hn
  generalize ({ k with now:=k.now+1 } : Ks)=k1 at hs hk' hq2 hnw' hev' hn'
  have hol:=othersK_le k1
  refine TN<|WS<|WR ?_
  refine S1 ha fun a ha=>?_
  refine LN<|TN<|WS<|WS<|WR ?_
  refine S1 ha fun a ha=>?_
  refine SK (st_call ha rfl Ty.c108 rfl (core_others hs hk') ?_); clear ha hs
  rintro e w ⟨ado,co,rfl,hs⟩
  refine ⟨_,rfl,?_⟩
  intro a ha
  iterate 2 (refine S1 ha fun a ha=>?_)
  refine LN ?_
  replace ha : Fr a 61 ((20,.int .i64 (0 : Nat))::(19,.int .i64 (othersK k1).length)::(18,.slice ado (othersK k1).length co)::(3,.slice none 0 0)::(0,.pointer (some ⟨B.cb,0,none⟩))::[]):=ha.keep [20,19,18,3,0]
  refine TN<|wp_block ?_
  refine wp_loop_ghost (fun μ a w=>∃ (j : Nat),(μ=(othersK k1).length - j∧j≤(othersK k1).length∧∀ y∈(othersK k1).take j,decide (lateP k1 y)=false)∧Fr a 61 [(0,.pointer (some ⟨B.cb,0,none⟩)),(3,.slice none 0 0),(18,.slice ado (othersK k1).length co),(19,.int .i64 (othersK k1).length),(20,.int .i64 j)]∧St W w (Sl 3 1 ado (othersK k1).length co (ivn (othersK k1))::CoreS B k1::L)) ((othersK k1).length) ?_ ?_
  · exact ⟨0,⟨rfl,by omega,fun y hy=>by simp at hy⟩,ha.keep [0,3,18,19,20],hs⟩
  ·
   clear ha hs
   rintro μ a w ⟨j,⟨rfl,hj,hno⟩,ha,hs⟩
   refine WS<|WR ?_
   refine S1 ha fun a ha=>?_
   refine LN<|TN<|WS ?_
   refine WI ha (fun hc1=>?_) (fun hc1=>?_)
   ·
    have hjl : j < (othersK k1).length:=by omega
    obtain ⟨i,hi⟩ : ∃ i,(othersK k1)[j]?=some i:=⟨_,List.getElem?_eq_getElem hjl⟩
    obtain ⟨bo,oo,rfl,hro⟩:=hs.slRd ado (by omega)
    have hin:=(othersK_mem.1 (List.mem_of_getElem? hi)).1
    have hpt:=hk'.pet hin
    have hil : i < k1.ps.length:=by rw [hk'.ps]; exact hin
    have hcr:=CoreS.rd (hs.tail)
    obtain ⟨cP,hpl⟩:=hcr.pl
    refine WK<|TN<|WS<|wp_block<|WS<|WR ?_
    refine SK (st_set ha rfl (ex_indexAddr ha Tryz.underlying63 Ty.t3 (by omega)) rfl fun a ha=>?_)
    rw [Nat.mul_one] at ha
    refine SL ha (hro j _ (ivn_at hi)) fun a ha=>?_
    refine S1 ha fun a ha=>?_
    refine LN<|TN<|WS ?_
    have hcw : CoR w.drew B k1:=CoreS.rd (hs.drew.tail)
    have hpw : w.drew.cell? ⟨B.cb,11,none⟩=some (.slice (some ⟨B.bp,B.op,none⟩) k1.ps.length cP):=hpl
    refine DW (m:=14) (Old w.drew) [7,9,10,11] [0,1,2,4,5,6,8,3,7,9,10,11,12,13] Ty.mixed (pk_then (pk_blk (pk_then (pk_then (pk_blk (pk_then pk_body)))))) (fun hpk=>?_)
    replace hs:=hs.drew
    have hC:=Old.refl w.drew
    generalize w.drew=w at hs hC hpk hcw hpw ⊢
    iterate 7 (refine DP hpk ha rfl fun a ha=>?_)
    refine DL hpk ha rfl (fun w hc=>hc.cell (hcw.now)) hC fun a ha=>?_
    refine D1 rfl (st_set ha rfl (ex_load1 ha Tryz.underlying108 rfl (hpw)) rfl fun a ha=>?_)
    refine ⟨fun _=>hC,?_⟩
    refine D1 rfl (st_set ha rfl (ex_indexAddr ha Tryz.underlying108 Ty.t133 (by omega)) rfl fun a ha=>?_)
    refine ⟨fun _=>hC,?_⟩
    refine D1 rfl (st_set ha rfl (ex_fieldAddr (k:=1) ha Tryz.underlying133 rfl Ty.t3 rfl) rfl fun a ha=>?_)
    refine ⟨fun _=>hC,?_⟩
    refine D1 rfl (st_set ha rfl (ex_load1 ha Tryz.underlying3 rfl (hcw.pe i _ (peK_at hil) 1 _ rfl)) rfl fun a ha=>?_)
    refine ⟨fun _=>hC,?_⟩
    refine DQ hpk ha rfl rfl (fun w=>ex_subI ha (by omega) (by omega)) fun a ha=>?_
    refine DP hpk ha rfl fun a ha=>?_
    refine DD<|TN ?_
    refine WI ha (fun hc2=>?_) (fun hc2=>?_)
    ·
     have hlt : lateP k1 i:=by rw [lateP]; omega
     rw [find_at hno hi (decide_eq_true hlt)] at hq2
     refine WS<|WR ?_
     iterate 2 (refine S1 ha fun a ha=>?_)
     refine SK (st_set ha rfl (ex_build ha Ty.b144 Ty.t144 rfl) rfl fun a ha=>?_)
     refine SK (st_call ha rfl Ty.c90 rfl (core_note (e:=(2,i,0)) (hs.pick (CoreS B k1)) ⟨by simp,by simp,by show i < 8; omega,by simp,.inr rfl⟩ (by omega)) ?_); clear ha hs
     rintro e w ⟨rfl,hs⟩
     refine ⟨_,rfl,?_⟩
     intro a ha
     refine LN<|TN<|WS ?_
     obtain ⟨A2,hs⟩:=CoreS.open hs
     refine WR ?_
     iterate 3 (refine S1 ha fun a ha=>?_)
     refine SK (st_store ha rfl hs Ty.t4 rfl (by simp) fun a w ha hs=>?_)
     refine LN ?_
     replace hs:=CoreS.fold hs B { k1 with ev:=k1.ev++[(2,i,0)],cl:=true } A2
     refine TN<|WS<|WR ?_
     refine S1 ha fun a ha=>?_
     refine LN<|TN<|wp_ret<|BR<|TR<|TR<|BR<|TR ?_
     refine ret1 ha rfl ?_
     rw [hq2]
     exact ⟨none,0,rfl,OwnMl.nil hs.sub⟩
    ·
     have hlt : ¬ lateP k1 i:=by rw [lateP]; omega
     refine WK<|BN<|TN<|WR ?_
     refine SK (st_set ha rfl (ex_addI ha (by omega) (by omega)) rfl fun a ha=>?_)
     refine S1d ha fun a ha=>?_
     refine LN<|TN ?_
     exact ⟨(othersK k1).length - (j+1),by omega,j+1,⟨rfl,by omega,fun y hy=>by
       rw [List.take_succ_eq_append_getElem hjl,List.mem_append,List.mem_singleton] at hy
       rcases hy with hy | rfl
       · exact hno y hy
       · rw [(List.getElem?_eq_some_iff.1 hi).2]; exact decide_eq_false hlt⟩,ha.keep [0,3,18,19,20],hs⟩
   ·
    obtain rfl : j=(othersK k1).length:=by omega
    rw [List.take_length] at hno
    rw [find_no hno] at hq2
    clear hno
    refine wp_exit<|TE<|TE<|blk_e<|TN<|WS<|WS<|WR ?_
    refine S1 ha fun a ha=>?_
    refine SK (st_call ha rfl Ty.c108 rfl (core_others (hs.tail) hk') ?_); clear ha hs
    rintro e w ⟨ado2,co2,rfl,hs⟩
    refine ⟨_,rfl,?_⟩
    intro a ha
    iterate 2 (refine S1 ha fun a ha=>?_)
    refine LN ?_
    replace hs:=St.sl0 (St.allNil (f:=mlo) hs) 172 3 none
    replace ha : Fr a 61 ((49,.int .i64 (0 : Nat))::(48,.int .i64 (othersK k1).length)::(47,.slice ado2 (othersK k1).length co2)::(3,.slice none 0 0)::(0,.pointer (some ⟨B.cb,0,none⟩))::[]):=ha.keep [49,48,47,3,0]
    refine TN<|wp_block ?_
    refine wp_loop_ghost (fun μ a w=>∃ (j : Nat) (xs : List Mx) (ad : Option Addr) (c : Nat),(μ=(othersK k1).length - j∧j≤(othersK k1).length∧xs.map (·.2.2)=mailsT k1 j∧xs.length=j)∧Fr a 61 [(0,.pointer (some ⟨B.cb,0,none⟩)),(3,.slice ad j c),(47,.slice ado2 (othersK k1).length co2),(48,.int .i64 (othersK k1).length),(49,.int .i64 j)]∧St W w (Sl 172 3 ad j c (rows mlC xs)::All mlo xs::Sl 3 1 ado2 (othersK k1).length co2 (ivn (othersK k1))::CoreS B k1::L)) ((othersK k1).length) ?_ ?_
    · exact ⟨0,[],none,0,⟨rfl,by omega,rfl,rfl⟩,ha.keep [0,3,47,48,49],hs⟩
    ·
     clear ha hs
     rintro μ a w ⟨j,xs,ad,c,⟨rfl,hj,hxm,hxl⟩,ha,hs⟩
     refine WS<|WR ?_
     refine S1 ha fun a ha=>?_
     refine LN<|TN<|WS ?_
     refine WI ha (fun hc3=>?_) (fun hc3=>?_)
     ·
      obtain ⟨i,hi⟩ : ∃ i,(othersK k1)[j]?=some i:=⟨_,List.getElem?_eq_getElem (by omega)⟩
      obtain ⟨bo,oo,rfl,hro⟩:=(hs.pick (Sl 3 1 ado2 (othersK k1).length co2 (ivn (othersK k1)))).slRd ado2 (by omega)
      have hin:=(othersK_mem.1 (List.mem_of_getElem? hi)).1
      refine WK<|TN<|WS<|wp_block<|WS<|WR ?_
      refine SK (st_set ha rfl (ex_indexAddr ha Tryz.underlying63 Ty.t3 (by omega)) rfl fun a ha=>?_)
      rw [Nat.mul_one] at ha
      refine SL ha (hro j _ (ivn_at hi)) fun a ha=>?_
      refine S1 ha fun a ha=>?_
      refine LN<|TN<|WR ?_
      iterate 3 (refine S1 ha fun a ha=>?_)
      refine SK (st_call ha rfl Ty.c109 rfl (core_input (to:=i) (hs.pick (CoreS B k1)) hk' hin) ?_); clear ha hs
      rintro e w ⟨ad2,c2,rfl,hs⟩
      refine ⟨_,rfl,?_⟩
      intro a ha
      refine SK (st_buildSlice ha rfl hs Tryz.underlying65 Ty.t172 rfl rfl rfl rfl (by decide) (by decide) fun b57 a w ha hs ho=>?_)
      clear ho
      refine SK (st_append ha rfl hs Tryz.underlying65 Ty.t172 rfl rfl hs.rdAll rfl (by simpa using mlC_one _) (by decide) (by decide) (by omega) fun ad58 c58 a w ha hs=>?_)
      rw [show rows mlC xs++_=rows mlC (xs++[(ad2,c2,(k1.me,i,encO (mailPk k1 i)))]) from by rw [rows_app]; rfl] at hs
      refine S1d ha fun a ha=>?_
      refine LN<|BN<|TN<|WR ?_
      refine SK (st_set ha rfl (ex_addI ha (by omega) (by omega)) rfl fun a ha=>?_)
      refine S1d ha fun a ha=>?_
      refine LN<|TN ?_
      have hs2:=St.allPush (f:=mlo) (x:=(ad2,c2,(k1.me,i,encO (mailPk k1 i)))) (hs.sub (M:=mlo (ad2,c2,(k1.me,i,encO (mailPk k1 i)))::All mlo xs::Sl 172 3 ad58 (j+1) c58 (rows mlC (xs++[(ad2,c2,(k1.me,i,encO (mailPk k1 i)))]))::Sl 3 1 (some ⟨bo,oo,none⟩) (othersK k1).length co2 (ivn (othersK k1))::CoreS B k1::L))
      exact ⟨(othersK k1).length - (j+1),by omega,j+1,xs++[(ad2,c2,(k1.me,i,encO (mailPk k1 i)))],ad58,c58,⟨rfl,by omega,by
        have hjl : j < (othersK k1).length:=by omega
        rw [List.map_append,hxm,mailsT,mailsT,List.take_succ_eq_append_getElem hjl,List.map_append,(List.getElem?_eq_some_iff.1 hi).2]; rfl,by rw [List.length_append,hxl]; rfl⟩,ha.keep [0,3,47,48,49],hs2.sub⟩
     ·
      refine wp_exit<|TE<|TE<|blk_e<|TN<|WS<|WR ?_
      iterate 2 (refine S1 ha fun a ha=>?_)
      refine LN<|TN<|wp_ret ?_
      refine ret1 ha rfl ?_
      obtain rfl : j=(othersK k1).length:=by omega
      rw [mailsT,List.take_length] at hxm
      have hll : ((othersK k1).map fun i=>(k1.me,i,encO (mailPk k1 i))).length=(othersK k1).length:=List.length_map _
      rw [hq2]
      refine ⟨ad,c,by rw [hll],?_⟩
      rw [hll]
      exact OwnMl.close (xs:=xs) hs.sub hxm hll
theorem WC.peer (h : WC k) {q : Pe} (hi : i < k.n) (hq : q.has≤1000∧q.frame≤1000∧q.sum < 4294967296) (hh : q.heard≤k.now) (ha : q.apart=(peK k i).apart) : WC { k with ps:=k.ps.set i q } :=
 h.peSet (ev:=k.ev) (cl:=k.cl) hq hh h.evs (by rw [count_same (by rw [h.ps]; exact hi) ha]; exact h.evn)
theorem WC.line (h : WC k) {l : List UInt8} (hl : l.length≤1000) : WC { k with ls:=k.ls.set i l } :=
 { h with
   ls:=by show (k.ls.set i l).length=_; rw [List.length_set]; exact h.ls
   ln:=fun y hy=>by
     rcases mem_set hy with hy | rfl
     · exact h.ln y hy
     · exact hl }
theorem getD_ne {ls : List (List UInt8)} {i j : Nat} {l : List UInt8} (h : i≠j) : (ls.set i l).getD j []=ls.getD j []:=by
 rw [List.getD_eq_getElem?_getD,List.getElem?_set_ne h,← List.getD_eq_getElem?_getD]
theorem CoreS.foldP (hs : St W w L) (B : CoB) (k : Ks) (A : CoA) (q1 q2 : Pe) [kk : Arr L [blk B.cb 111 (coC { k with ps:=k.ps.set i q1 } B A),Sl 133 5 (some ⟨B.bp,B.op,none⟩) (k.ps.set i q1).length A.cP (rows peC (k.ps.set i q2)),Sl 38 1 A.adM k.mr.length A.cM (mrC k.mr),Sl 184 1 A.adE k.ev.length A.cE (k.ev.map evV),Qu B.qb B.lbs k.ls] R] : St W w (CoreS B { k with ps:=k.ps.set i q2 }::R):=by
 have h1:=hs.perm kk.perm
 rw [show coC { k with ps:=k.ps.set i q1 } B A=coC { k with ps:=k.ps.set i q2 } B A from by simp only [coC,List.length_set],show (k.ps.set i q1).length=(k.ps.set i q2).length from by simp only [List.length_set]] at h1
 exact CoreS.close (A:=A) h1
theorem CoreS.foldQ (hs : St W w L) (B : CoB) (k : Ks) (A : CoA) (q2 : Pe) [kk : Arr L [blk B.cb 111 (coC k B A),Sl 133 5 (some ⟨B.bp,B.op,none⟩) k.ps.length A.cP (rows peC (k.ps.set i q2)),Sl 38 1 A.adM k.mr.length A.cM (mrC k.mr),Sl 184 1 A.adE k.ev.length A.cE (k.ev.map evV),Qu B.qb B.lbs k.ls] R] : St W w (CoreS B { k with ps:=k.ps.set i q2 }::R):=by
 have h1:=hs.perm kk.perm
 rw [show coC k B A=coC { k with ps:=k.ps.set i q2 } B A from by simp only [coC,List.length_set],show k.ps.length=(k.ps.set i q2).length from by simp only [List.length_set]] at h1
 exact CoreS.close (A:=A) h1
theorem recv_cl (h : k.cl=true) : recvK bs k=(6,k):=by rw [recvK,if_pos h]
theorem recv_none (h : k.cl=false) (hd : decO bs=none) : recvK bs k=(1,k):=by rw [recvK,if_neg (by rw [h]; decide),hd]
theorem recv_other (h : k.cl=false) (hd : decO bs=some p) (hx : p.to≠k.me∨(k.n : Int)≤p.from'∨p.id≠k.id) : recvK bs k=(1,k):=by
 rw [recvK,if_neg (by rw [h]; decide),hd]
 show (if _ then _ else _)=_
 rw [if_pos hx]
theorem recv_yes (h : k.cl=false) (hd : decO bs=some p) (hx : ¬ (p.to≠k.me∨(k.n : Int)≤p.from'∨p.id≠k.id)) : recvK bs k=(0,hearK k p):=by
 rw [recvK,if_neg (by rw [h]; decide),hd]
 show (if _ then _ else _)=_
 rw [if_neg hx]
set_option maxHeartbeats 2000000 in
theorem core_receive (hs : St W w (CoreS B k::L)) (hk : WC k) (hb : bs.length≤65536) (hc : bs.length≤c) (hp : ∀ w',St W w' L→RdB w' ad bs.length bs) :
   Calls Tryz.prog 41 #[.pointer (some ⟨B.cb,0,none⟩),.slice ad bs.length c] w fun r w'=>r=.returned (.int .i64 (recvK bs k).1)∧St W w' (CoreS B (recvK bs k).2::L):=by
 have hn:=hk.n
 refine calls_enter Tryz.func41 rfl Tryz.ntmps41 (Nat.le_of_ble_eq_true rfl) ?_
 intro a ha
 replace ha : Fr a 127 [(0,_),(1,_)]:=ha
 refine WS<|WR ?_
 refine S1 ha fun a ha=>?_
 refine LN<|TN<|WS<|WS<|WR ?_
 refine S1 ha fun a ha=>?_
 refine SK (st_call ha rfl Ty.c66 rfl (core_closed hs) ?_); clear ha hs
 rintro e w ⟨rfl,hs⟩
 refine ⟨_,rfl,?_⟩
 intro a ha
 refine LN<|TN ?_
 refine WI ha (fun hc0=>?_) (fun hc0=>?_)
 ·
  refine WS<|WR ?_
  refine S1d ha fun a ha=>?_
  refine LN<|TN<|wp_ret<|TR ?_
  refine ret1 ha rfl ?_
  exact ⟨by rw [recv_cl hc0],by rw [recv_cl hc0]; exact hs⟩
 ·
  refine WK<|TN<|WS<|WR ?_
  refine S1 ha fun a ha=>?_
  refine SK (st_call ha rfl Ty.c89 rfl (packet_dec hs hb hc (fun w' hw=>hp w' hw.tail)) ?_); clear ha hs
  rintro e w ⟨p,adP,cP,ok,rfl,hd,hs⟩
  refine ⟨_,rfl,?_⟩
  intro a ha
  iterate 3 (refine S1 ha fun a ha=>?_)
  refine SK (st_alloc ha rfl hs Ty.t40 rfl fun b5 a w ha hs ho=>?_)
  clear ho
  refine SK (st_storeAll ha rfl hs Ty.t40 (pkC_one p adP cP) (by rfl) fun a w ha hs=>?_)
  refine S1 ha fun a ha=>?_
  refine LN<|TN<|WS<|WS ?_
  obtain ⟨A,hs⟩:=CoreS.open (hs.pick (CoreS B k))
  refine DW (m:=32) (Old w.drew) [9,19,29] [0,1,2,3,5,6,7,8,4,9,10,11,12,13,15,16,17,18,14,19,20,21,22,23,25,26,27,28,24,29,30,31] Ty.mixed (pk_then (pk_then pk_body)) (fun hpk=>?_)
  replace hs:=hs.drew
  have hC:=Old.refl w.drew
  generalize w.drew=w at hs hC hpk ⊢
  iterate 3 (refine DP hpk ha rfl fun a ha=>?_)
  refine ha.by (s:=17) (fun hg2 ha=>?_) (fun hg2 ha=>?_)
  ·
   have hok : ok=false:=by cases ok with | false=>rfl | true=>exact absurd rfl hg2
   have hdn : decO bs=none:=by
     rcases hd with ⟨h,_⟩ | ⟨_,h,_⟩
     · rw [hok] at h; cases h
     · exact h
   iterate 5 (refine DO (s:=17) hpk ha rfl fun a ha=>?_)
   iterate 2 (refine DOH (s:=17) hpk ha rfl hC fun a ha=>?_)
   refine DO (s:=17) hpk ha rfl fun a ha=>?_
   refine DT hpk ha rfl fun a ha=>?_
   refine DP hpk ha rfl fun a ha=>?_
   iterate 5 (refine DO (s:=27) hpk ha rfl fun a ha=>?_)
   iterate 2 (refine DOH (s:=27) hpk ha rfl hC fun a ha=>?_)
   refine DO (s:=27) hpk ha rfl fun a ha=>?_
   refine DT hpk ha rfl fun a ha=>?_
   refine DP hpk ha rfl fun a ha=>?_
   iterate 5 (refine DO (s:=37) hpk ha rfl fun a ha=>?_)
   iterate 2 (refine DOH (s:=37) hpk ha rfl hC fun a ha=>?_)
   refine DO (s:=37) hpk ha rfl fun a ha=>?_
   refine DT hpk ha rfl fun a ha=>?_
   refine DD<|TN<|WTr ha<|WS<|WR ?_
   refine S1d ha fun a ha=>?_
   refine LN<|TN<|wp_ret<|TR ?_
   refine ret1 ha rfl ?_
   rw [recv_none hc0 hdn]; exact ⟨rfl,(CoreS.fold hs B k A).sub⟩
  ·
   have hok : ok=true:=by cases ok with | true=>rfl | false=>exact absurd hg2 (by decide)
   have hds : decO bs=some p:=by
     rcases hd with ⟨_,h⟩ | ⟨h,_⟩
     · exact h
     · rw [hok] at h; cases h
   obtain ⟨hmay,hps,_⟩:=decO_is hds
   have hfr0:=hmay.1
   iterate 5 (refine DPg (s:=17) hpk ha rfl fun a ha=>?_)
   refine DH hpk ha rfl (wgT ha rfl (s:=17)) (fun w hc=>ex_load1 ha Tryz.underlying3 rfl (hc.cell (hs.rd1 rfl))) hC fun a ha=>?_
   refine D1 rfl (st_set ha (wgT ha rfl (s:=17)) (ex_load1 ha Tryz.underlying3 rfl (hs.rd1 rfl)) rfl fun a ha=>?_)
   refine ⟨fun _=>hC,?_⟩
   refine DPg (s:=17) hpk ha rfl fun a ha=>?_
   refine DF hpk ha rfl fun a ha=>?_
   refine DP hpk ha rfl fun a ha=>?_
   refine ha.by (s:=27) (fun hg12 ha=>?_) (fun hg12 ha=>?_)
   ·
    iterate 5 (refine DO (s:=27) hpk ha rfl fun a ha=>?_)
    iterate 2 (refine DOH (s:=27) hpk ha rfl hC fun a ha=>?_)
    refine DO (s:=27) hpk ha rfl fun a ha=>?_
    refine DT hpk ha rfl fun a ha=>?_
    refine DP hpk ha rfl fun a ha=>?_
    iterate 5 (refine DO (s:=37) hpk ha rfl fun a ha=>?_)
    iterate 2 (refine DOH (s:=37) hpk ha rfl hC fun a ha=>?_)
    refine DO (s:=37) hpk ha rfl fun a ha=>?_
    refine DT hpk ha rfl fun a ha=>?_
    refine DD<|TN<|WTr ha<|WS<|WR ?_
    refine S1d ha fun a ha=>?_
    refine LN<|TN<|wp_ret<|TR ?_
    refine ret1 ha rfl ?_
    rw [recv_other hc0 hds (.inl hg12)]; exact ⟨rfl,(CoreS.fold hs B k A).sub⟩
   ·
    iterate 5 (refine DPg (s:=27) hpk ha rfl fun a ha=>?_)
    refine DH hpk ha rfl (wgT ha rfl (s:=27)) (fun w hc=>ex_load1 ha Tryz.underlying3 rfl (hc.cell (hs.rd1 rfl))) hC fun a ha=>?_
    refine D1 rfl (st_set ha (wgT ha rfl (s:=27)) (ex_load1 ha Tryz.underlying3 rfl (hs.rd1 rfl)) rfl fun a ha=>?_)
    refine ⟨fun _=>hC,?_⟩
    refine DPg (s:=27) hpk ha rfl fun a ha=>?_
    refine DF hpk ha rfl fun a ha=>?_
    refine DP hpk ha rfl fun a ha=>?_
    refine ha.by (s:=37) (fun hg22 ha=>?_) (fun hg22 ha=>?_)
    ·
     iterate 5 (refine DO (s:=37) hpk ha rfl fun a ha=>?_)
     iterate 2 (refine DOH (s:=37) hpk ha rfl hC fun a ha=>?_)
     refine DO (s:=37) hpk ha rfl fun a ha=>?_
     refine DT hpk ha rfl fun a ha=>?_
     refine DD<|TN<|WTr ha<|WS<|WR ?_
     refine S1d ha fun a ha=>?_
     refine LN<|TN<|wp_ret<|TR ?_
     refine ret1 ha rfl ?_
     rw [recv_other hc0 hds (.inr (.inl hg22))]; exact ⟨rfl,(CoreS.fold hs B k A).sub⟩
    ·
     iterate 5 (refine DPg (s:=37) hpk ha rfl fun a ha=>?_)
     refine DH hpk ha rfl (wgT ha rfl (s:=37)) (fun w hc=>ex_load1 ha Tryz.underlying2 rfl (hc.cell (hs.rd1 rfl))) hC fun a ha=>?_
     refine D1 rfl (st_set ha (wgT ha rfl (s:=37)) (ex_load1 ha Tryz.underlying2 rfl (hs.rd1 rfl)) rfl fun a ha=>?_)
     refine ⟨fun _=>hC,?_⟩
     refine DPg (s:=37) hpk ha rfl fun a ha=>?_
     refine DF hpk ha rfl fun a ha=>?_
     refine DD<|TN ?_
     refine WI ha (fun hc1=>?_) (fun hc1=>?_)
     ·
      refine WS<|WR ?_
      refine S1d ha fun a ha=>?_
      refine LN<|TN<|wp_ret<|TR ?_
      refine ret1 ha rfl ?_
      rw [recv_other hc0 hds (.inr (.inr hc1))]; exact ⟨rfl,(CoreS.fold hs B k A).sub⟩
     ·
      have hno : ¬ (p.to≠k.me∨(k.n : Int)≤p.from'∨p.id≠k.id):=by
        rintro (h | h | h)
        · exact h hg12
        · omega
        · exact h hc1
      rw [recv_yes hc0 hds hno]
      clear hd hok
      obtain ⟨fr,hfr⟩:=Int.eq_ofNat_of_zero_le hfr0.1
      have hfn : fr < k.n:=by omega
      have hfl : fr < k.ls.length:=by rw [hk.ls]; exact hfn
      have hfp : fr < k.ps.length:=by rw [hk.ps]; exact hfn
      have hfm : fr≠k.me:=by have:=hmay.2.2.1; omega
      have hpt:=hk.pet hfn
      have hft : p.from'.toNat=fr:=by omega
      refine WK<|TN<|WS ?_
      refine DW (m:=8) (Old w.drew) [5] [0,1,2,4,3,5,6,7] Ty.mixed (pk_then pk_body) (fun hpk=>?_)
      replace hs:=hs.drew
      have hC:=Old.refl w.drew
      generalize w.drew=w at hs hC hpk ⊢
      iterate 4 (refine DP hpk ha rfl fun a ha=>?_)
      refine DL hpk ha rfl (fun w hc=>hc.cell (hs.rd1 rfl)) hC fun a ha=>?_
      refine D1 rfl (st_set ha rfl (ex_load1 ha Tryz.underlying3 rfl (hs.rd1 rfl)) rfl fun a ha=>?_)
      refine ⟨fun _=>hC,?_⟩
      rw [hfr] at ha
      refine DQ hpk ha rfl rfl (fun w=>ex_indexAddr ha Tryz.underlying108 Ty.t133 (by omega)) fun a ha=>?_
      refine DP hpk ha rfl fun a ha=>?_
      refine DD<|TN<|WS<|WR ?_
      iterate 4 (refine S1 ha fun a ha=>?_)
      refine SL ha (hs.rd1 rfl) fun a ha=>?_
      iterate 2 (refine S1 ha fun a ha=>?_)
      refine SK (st_storeS (off:=B.op) (k:=fr*5+1) ha rfl hs Ty.t3 rfl (by omega) (by rw [rows_len peC_len]; omega) fun a w ha hs=>?_)
      rw [rows_set1 peC_len k.ps { peK k fr with heard:=k.now } hfp (by decide) (by rw [peK_el hfp]; rfl)] at hs
      have hk2:=hk.peer (q:={ peK k fr with heard:=k.now }) hfn ⟨hpt.1,hpt.2.2⟩ (Nat.le_refl _) rfl
      replace hs:=CoreS.foldQ (i:=fr) hs B k A { peK k fr with heard:=k.now }
      refine LN<|TN<|WS<|WS<|WR ?_
      refine S1 ha fun a ha=>?_
      refine SL ha (hs.rd1 rfl) fun a ha=>?_
      refine S1 ha fun a ha=>?_
      refine LN<|TN ?_
      refine WI ha (fun hc2=>?_) (fun hc2=>?_)
      ·
       refine WS<|WR ?_
       iterate 2 (refine S1 ha fun a ha=>?_)
       refine SL ha (hs.rd1 rfl) fun a ha=>?_
       rw [hfr] at ha
       refine SK (st_set ha rfl (ex_build ha Ty.b144 Ty.t144 rfl) rfl fun a ha=>?_)
       refine SK (st_call ha rfl Ty.c90 rfl (core_note (e:=(1,fr,0)) hs ⟨by simp,by simp,by show fr < 8; omega,by simp,.inr rfl⟩ (by have:=hk.evl; show k.ev.length≤100; omega)) ?_); clear ha hs
       rintro e w ⟨rfl,hs⟩
       refine ⟨_,rfl,?_⟩
       intro a ha
       refine LN<|TN<|WS ?_
       obtain ⟨A2,hs⟩:=CoreS.open hs
       refine WR ?_
       iterate 3 (refine S1 ha fun a ha=>?_)
       refine SK (st_store ha rfl hs Ty.t4 rfl (by simp) fun a w ha hs=>?_)
       refine LN ?_
       replace hs:=CoreS.fold hs B { k with ps:=k.ps.set fr { peK k fr with heard:=k.now },ev:=k.ev++[(1,fr,0)],cl:=true } A2
       refine TN<|WS<|WR ?_
       refine S1d ha fun a ha=>?_
       refine LN<|TN<|wp_ret<|TR ?_
       refine ret1 ha rfl ?_
       refine ⟨rfl,?_⟩
       rw [hearK,if_pos hc2,hft]
       exact hs.sub
      ·
       refine WK<|TN<|WS ?_
       have hk1 : frP p.first∧frP p.ack∧frP p.frame∧p.press.length≤32:=by
         rcases hmay.2.2.2.2 with h | h
         · exact h.2
         · exact absurd h.1 hc2
       simp only [frP] at hk1
       obtain ⟨fi,hfi⟩:=Int.eq_ofNat_of_zero_le hk1.1.1
       obtain ⟨ak,hak⟩:=Int.eq_ofNat_of_zero_le hk1.2.1.1
       obtain ⟨fm,hfm2⟩:=Int.eq_ofNat_of_zero_le hk1.2.2.1.1
       obtain ⟨D,hs,hD⟩:=CoreS.quX hs
       have hqr : ∀ w' L',St W w' (Qu B.qb B.lbs k.ls::D::L')→CoR w' B { k with ps:=k.ps.set fr { peK k fr with heard:=k.now } }:=fun w' L' h=>CoreS.rd (hD w' L' _ h)
       refine DW (m:=12) (fun w'=>Rd w' b5 0 (pkC p adP cP)∧CoR w' B { k with ps:=k.ps.set fr { peK k fr with heard:=k.now } }) [5,6,8,10] [0,1,2,4,7,9,3,5,8,10,6,11] Ty.mixed (pk_then pk_body) (fun hpk=>?_)
       replace hs:=hs.drew
       generalize w.drew=w at hs hpk ⊢
       have hC : Rd w b5 0 (pkC p adP cP)∧CoR w B { k with ps:=k.ps.set fr { peK k fr with heard:=k.now } }:=⟨hs.rdAll (b:=b5),hqr _ _ hs⟩
       iterate 6 (refine DP hpk ha rfl fun a ha=>?_)
       refine DL hpk ha rfl (fun w hc=>hc.2.cf 10 _ rfl) hC fun a ha=>?_
       refine DL hpk ha rfl (fun w hc=>hc.1 1 _ rfl) hC fun a ha=>?_
       rw [hfr] at ha
       refine DL hpk ha rfl (fun w hc=>hc.1 4 _ rfl) hC fun a ha=>?_
       rw [hfi] at ha
       refine DL hpk ha rfl (fun w hc=>hc.1 5 _ rfl) hC fun a ha=>?_
       refine D1 rfl (st_call ha rfl Ty.c60 rfl (queue_line hs hfl) ?_); clear ha hs
       rintro e w ⟨rfl,hs⟩
       refine ⟨_,rfl,?_⟩
       intro a ha
       replace hC : (fun w'=>Rd w' b5 0 (pkC p adP cP)∧CoR w' B { k with ps:=k.ps.set fr { peK k fr with heard:=k.now } }) w:=⟨hs.rdAll (b:=b5),hqr _ _ hs⟩
       refine ⟨fun _=>hC,?_⟩
       refine D1 rfl (st_call ha rfl Ty.c91 rfl (q_put (fr:=fi) (bs:=p.press) hs hfl (hk.lnt hfn) (by omega) (fun w' hw=>(hw.pick (Sl 5 1 adP p.press.length cP (bc p.press))).rdB adP p.press rfl rfl)) ?_); clear ha hs
       rintro e w ⟨nn,er,rfl,hs⟩
       refine ⟨_,rfl,?_⟩
       intro a ha
       refine ⟨fun h=>absurd h (by decide),?_⟩
       refine DD ?_
       replace hs:=hD _ _ _ hs
       have hk3:=hk2.line (i:=fr) (l:=putLn (k.ls.getD fr []) fi p.press) (putLn_len (hk.lnt hfn)).2
       have hhd : headK ({ k with ls:=k.ls.set fr (putLn (k.ls.getD fr []) fi p.press),ps:=k.ps.set fr { peK k fr with heard:=k.now } } : Ks)=headK k:=by
         show ((k.ls.set fr _).getD k.me []).length=_
         rw [getD_ne hfm]; rfl
       have hpe3 : (k.ps.set fr { peK k fr with heard:=k.now })[fr]?=some { peK k fr with heard:=k.now }:=List.getElem?_set_self hfp
       refine TN ?_
       refine wp_seq_cut (M:=fun a w=>∃ hh : Nat,hh=(if (peK k fr).has < ak∧ak≤headK k then ak else (peK k fr).has)∧Fr a 127 [(0,.pointer (some ⟨B.cb,0,none⟩)),(5,.pointer (some ⟨b5,0,none⟩)),(7,.pointer (some ⟨B.bp,B.op+fr*5,none⟩))]∧St W w (CoreS B { k with ls:=k.ls.set fr (putLn (k.ls.getD fr []) fi p.press),ps:=k.ps.set fr { peK k fr with heard:=k.now,has:=hh } }::blk b5 40 (pkC p adP cP)::L)) ?_ ?_
       ·
        refine WS ?_
        refine DW (m:=14) (fun w'=>Rd w' b5 0 (pkC p adP cP)∧CoR w' B { k with ls:=k.ls.set fr (putLn (k.ls.getD fr []) fi p.press),ps:=k.ps.set fr { peK k fr with heard:=k.now } }) [5,11] [0,2,3,4,1,5,6,7,8,10,9,11,12,13] Ty.mixed (pk_then (pk_then pk_body)) (fun hpk=>?_)
        replace hs:=hs.drew
        generalize w.drew=w at hs hpk ⊢
        have hC : Rd w b5 0 (pkC p adP cP)∧CoR w B { k with ls:=k.ls.set fr (putLn (k.ls.getD fr []) fi p.press),ps:=k.ps.set fr { peK k fr with heard:=k.now } }:=⟨hs.rdAll (b:=b5),CoreS.rd hs⟩
        iterate 4 (refine DP hpk ha rfl fun a ha=>?_)
        refine DL hpk ha rfl (fun w hc=>hc.1 6 _ rfl) hC fun a ha=>?_
        refine D1 rfl (st_set ha rfl (ex_load1 ha Tryz.underlying3 rfl (hC.2.pe fr _ hpe3 0 (.int .i64 (peK k fr).has) rfl)) rfl fun a ha=>?_)
        replace hC : (fun w'=>Rd w' b5 0 (pkC p adP cP)∧CoR w' B { k with ls:=k.ls.set fr (putLn (k.ls.getD fr []) fi p.press),ps:=k.ps.set fr { peK k fr with heard:=k.now } }) w:=hC
        refine ⟨fun _=>hC,?_⟩
        iterate 2 (refine DP hpk ha rfl fun a ha=>?_)
        refine ha.by (s:=91) (fun hg7 ha=>?_) (fun hg7 ha=>?_)
        ·
         iterate 2 (refine DPg (s:=91) hpk ha rfl fun a ha=>?_)
         refine DH hpk ha rfl (wgT ha rfl (s:=91)) (fun w hc=>ex_load1 ha Tryz.underlying3 rfl (hc.1 6 _ rfl)) hC fun a ha=>?_
         refine D1 rfl (st_call ha (wgT ha rfl (s:=91)) Ty.c26 rfl (core_head hs hk3) ?_); clear ha hs
         rintro e w ⟨rfl,hs⟩
         refine ⟨_,rfl,?_⟩
         intro a ha
         replace hC : (fun w'=>Rd w' b5 0 (pkC p adP cP)∧CoR w' B { k with ls:=k.ls.set fr (putLn (k.ls.getD fr []) fi p.press),ps:=k.ps.set fr { peK k fr with heard:=k.now } }) w:=⟨hs.rdAll (b:=b5),CoreS.rd hs⟩
         refine ⟨fun _=>hC,?_⟩
         rw [hhd] at ha
         refine DPg (s:=91) hpk ha rfl fun a ha=>?_
         refine DT hpk ha rfl fun a ha=>?_
         refine DD<|TN ?_
         refine WI ha (fun hc3=>?_) (fun hc3=>?_)
         ·
          obtain ⟨A2,hs⟩:=CoreS.open hs
          refine WR ?_
          iterate 2 (refine S1 ha fun a ha=>?_)
          refine SL ha (hs.rd1 (b:=b5) rfl) fun a ha=>?_
          rw [hak] at ha
          iterate 2 (refine S1 ha fun a ha=>?_)
          refine SK (st_storeS (off:=B.op) (k:=fr*5+0) ha rfl hs Ty.t3 rfl (by omega) (by rw [rows_len peC_len,List.length_set]; omega) fun a w ha hs=>?_)
          rw [rows_set1 peC_len (k.ps.set fr { peK k fr with heard:=k.now }) { peK k fr with heard:=k.now,has:=ak } (by rw [List.length_set]; exact hfp) (by decide) (by rw [List.getElem_set_self]; rfl),List.set_set] at hs
          replace hs:=CoreS.foldP (i:=fr) hs B { k with ls:=k.ls.set fr (putLn (k.ls.getD fr []) fi p.press) } A2 { peK k fr with heard:=k.now } { peK k fr with heard:=k.now,has:=ak }
          refine LN<|TN ?_
          exact ⟨ak,by rw [if_pos ⟨by omega,by omega⟩],ha.keep [0,5,7],hs.sub⟩
         ·
          refine WK<|TN ?_
          exact ⟨_,by rw [if_neg (by omega)],ha.keep [0,5,7],hs.sub⟩
        ·
         iterate 2 (refine DO (s:=91) hpk ha rfl fun a ha=>?_)
         iterate 2 (refine DOH (s:=91) hpk ha rfl hC fun a ha=>?_)
         refine DO (s:=91) hpk ha rfl fun a ha=>?_
         refine DF hpk ha rfl fun a ha=>?_
         refine DD<|TN<|WFa ha<|WK<|TN ?_
         exact ⟨_,by rw [if_neg (by omega)],ha.keep [0,5,7],hs.sub⟩
       ·
        clear ha; (try clear hs)
        intro a w hcut
        obtain ⟨hh,hhe,ha,hs⟩:=hcut
        refine wp_seq_cut (M:=fun a w=>∃ q : Pe,(q=hearP k.now (headK k) p (peK k fr)∧WC { k with ls:=k.ls.set fr (putLn (k.ls.getD fr []) fi p.press),ps:=k.ps.set fr q })∧Fr a 127 [(0,.pointer (some ⟨B.cb,0,none⟩))]∧St W w (CoreS B { k with ls:=k.ls.set fr (putLn (k.ls.getD fr []) fi p.press),ps:=k.ps.set fr q }::blk b5 40 (pkC p adP cP)::L)) ?_ ?_
        ·
         refine WS ?_
         have hpe4 : (k.ps.set fr { peK k fr with heard:=k.now,has:=hh })[fr]?=some { peK k fr with heard:=k.now,has:=hh }:=List.getElem?_set_self hfp
         have hcr : CoR w.drew B { k with ls:=k.ls.set fr (putLn (k.ls.getD fr []) fi p.press),ps:=k.ps.set fr { peK k fr with heard:=k.now,has:=hh } }:=CoreS.rd hs.drew
         have hak2 : p.ack.toNat=ak:=by omega
         have hfm3 : p.frame.toNat=fm:=by omega
         have hP : hearP k.now (headK k) p (peK k fr)=(if 0 < p.frame∧((peK k fr).frame : Int)≤p.frame then { peK k fr with heard:=k.now,has:=hh,frame:=fm,sum:=p.sum } else { peK k fr with heard:=k.now,has:=hh }):=by
           rw [hearP,hak2,hfm3,hhe]
         have hhb : hh≤1000:=by rw [hhe]; split <;> omega
         refine DW (m:=12) (Old w.drew) [9] [0,1,2,3,4,6,7,8,5,9,10,11] Ty.mixed (pk_then (pk_then pk_body)) (fun hpk=>?_)
         replace hs:=hs.drew
         have hC:=Old.refl w.drew
         generalize w.drew=w at hs hC hpk hcr ⊢
         refine DP hpk ha rfl fun a ha=>?_
         refine D1 rfl (st_set ha rfl (ex_load1 ha Tryz.underlying3 rfl (hs.rd1 (b:=b5) rfl)) rfl fun a ha=>?_)
         refine ⟨fun h=>absurd h (by decide),?_⟩
         iterate 2 (refine DP hpk ha rfl fun a ha=>?_)
         refine ha.by (s:=106) (fun hg3 ha=>?_) (fun hg3 ha=>?_)
         ·
          iterate 4 (refine DPg (s:=106) hpk ha rfl fun a ha=>?_)
          refine DH hpk ha rfl (wgT ha rfl (s:=106)) (fun w hc=>ex_load1 ha Tryz.underlying3 rfl (hc.cell (hs.rd1 (b:=b5) rfl))) hC fun a ha=>?_
          refine D1 rfl (st_set ha (wgT ha rfl (s:=106)) (ex_load1 ha Tryz.underlying3 rfl (hcr.pe fr _ hpe4 2 (.int .i64 (peK k fr).frame) rfl)) rfl fun a ha=>?_)
          refine ⟨fun _=>hC,?_⟩
          refine DPg (s:=106) hpk ha rfl fun a ha=>?_
          refine DT hpk ha rfl fun a ha=>?_
          refine DD<|TN ?_
          refine WI ha (fun hc4=>?_) (fun hc4=>?_)
          ·
           obtain ⟨A3,hs⟩:=CoreS.open hs
           refine DW (m:=12) (fun w'=>Rd w' b5 0 (pkC p adP cP)) [5,8] [0,1,2,4,3,6,7,5,8,9,10,11] Ty.mixed (pk_then pk_body) (fun hpk=>?_)
           replace hs:=hs.drew
           generalize w.drew=w at hs hpk ⊢
           have hC : Rd w b5 0 (pkC p adP cP):=hs.rdAll (b:=b5)
           iterate 4 (refine DP hpk ha rfl fun a ha=>?_)
           refine DL hpk ha rfl (fun w hc=>hc 7 _ rfl) hC fun a ha=>?_
           rw [hfm2] at ha
           iterate 2 (refine DP hpk ha rfl fun a ha=>?_)
           refine DL hpk ha rfl (fun w hc=>hc 8 _ rfl) hC fun a ha=>?_
           refine D1 rfl (st_storeS (off:=B.op) (k:=fr*5+2) ha rfl hs Ty.t3 rfl (by omega) (by rw [rows_len peC_len,List.length_set]; omega) fun a w ha hs=>?_)
           replace hC : (fun w'=>Rd w' b5 0 (pkC p adP cP)) w:=hs.rdAll (b:=b5)
           refine ⟨fun _=>hC,?_⟩
           rw [rows_set1 peC_len (k.ps.set fr { peK k fr with heard:=k.now,has:=hh }) { peK k fr with heard:=k.now,has:=hh,frame:=fm } (by rw [List.length_set]; exact hfp) (by decide) (by rw [List.getElem_set_self]; rfl),List.set_set] at hs
           iterate 2 (refine DP hpk ha rfl fun a ha=>?_)
           refine D1 rfl (st_storeS (off:=B.op) (k:=fr*5+3) ha rfl hs Ty.t38 rfl (by omega) (by rw [rows_len peC_len,List.length_set]; omega) fun a w ha hs=>?_)
           refine ⟨fun h=>absurd h (by decide),?_⟩
           rw [rows_set1 peC_len (k.ps.set fr { peK k fr with heard:=k.now,has:=hh,frame:=fm }) { peK k fr with heard:=k.now,has:=hh,frame:=fm,sum:=p.sum } (by rw [List.length_set]; exact hfp) (by decide) (by rw [List.getElem_set_self]; rfl),List.set_set] at hs
           replace hs:=CoreS.foldP (i:=fr) hs B { k with ls:=k.ls.set fr (putLn (k.ls.getD fr []) fi p.press) } A3 { peK k fr with heard:=k.now,has:=hh } { peK k fr with heard:=k.now,has:=hh,frame:=fm,sum:=p.sum }
           refine DD<|TN ?_
           exact ⟨_,⟨by rw [hP,if_pos (by omega)],(hk.peer (q:={ peK k fr with heard:=k.now,has:=hh,frame:=fm,sum:=p.sum }) hfn ⟨hhb,by show fm≤1000; omega,hps⟩ (Nat.le_refl _) rfl).line (putLn_len (hk.lnt hfn)).2⟩,ha.keep [0],hs.sub⟩
          ·
           refine WK<|TN ?_
           exact ⟨_,⟨by rw [hP,if_neg (by omega)],(hk.peer (q:={ peK k fr with heard:=k.now,has:=hh }) hfn ⟨hhb,hpt.2.2⟩ (Nat.le_refl _) rfl).line (putLn_len (hk.lnt hfn)).2⟩,ha.keep [0],hs⟩
         ·
          iterate 4 (refine DO (s:=106) hpk ha rfl fun a ha=>?_)
          iterate 2 (refine DOH (s:=106) hpk ha rfl hC fun a ha=>?_)
          refine DO (s:=106) hpk ha rfl fun a ha=>?_
          refine DF hpk ha rfl fun a ha=>?_
          refine DD<|TN<|WFa ha<|WK<|TN ?_
          exact ⟨_,⟨by rw [hP,if_neg (by omega)],(hk.peer (q:={ peK k fr with heard:=k.now,has:=hh }) hfn ⟨hhb,hpt.2.2⟩ (Nat.le_refl _) rfl).line (putLn_len (hk.lnt hfn)).2⟩,ha.keep [0],hs⟩
        ·
         clear ha; (try clear hs)
         intro a w hcut
         obtain ⟨q,⟨hqe,hk4⟩,ha,hs⟩:=hcut
         refine WS<|WR ?_
         refine S1 ha fun a ha=>?_
         refine SK (st_call ha rfl Ty.c92 rfl (core_hold hs hk4) ?_); clear ha hs
         rintro e w ⟨rfl,hs⟩
         refine ⟨_,rfl,?_⟩
         intro a ha
         refine LN<|TN<|WS<|WR ?_
         refine S1 ha fun a ha=>?_
         refine LN<|TN<|wp_ret ?_
         refine ret1 ha rfl ?_
         refine ⟨rfl,?_⟩
         have hfi2 : p.first.toNat=fi:=by omega
         rw [hearK,if_neg hc2,hft,hfi2,← hqe]
         exact hs.sub
end
end Go.Proofs.YtagpkhbkdbaigaaGreat
