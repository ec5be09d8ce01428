/- What a player knows, in memory: core.May, New, Conf, Queue, Head, Closed, Press, note, hold, Mark, Marks, Events. -/
import Derived.Test.YtagpkhbkdbaigaaGreatQue
import Derived.Test.YtagpkhbkdbaigaaGreatEv
import Derived.Test.YtagpkhbkdbaigaaGreatCoQ
namespace Go.Proofs.YtagpkhbkdbaigaaGreat
open Go.RowKit
set_option linter.unusedVariables false
set_option linter.unusedSimpArgs false
set_option maxRecDepth 10000
set_option synthInstance.maxSize 4000
set_option synthInstance.maxHeartbeats 400000

def peC (p : Pe) : List Value := [.int .i64 p.has, .int .i64 p.heard, .int .i64 p.frame, .int .u32 p.sum, .bool p.apart]
theorem peC_len (p : Pe) : (peC p).length = 5 := rfl
theorem peC_one (p : Pe) : ∀ v ∈ peC p, v.oneCell' = true := by
  intro v hv
  simp [peC] at hv
  rcases hv with rfl | rfl | rfl | rfl | rfl <;> rfl
def mrC (l : List Nat) : List Value := l.map fun s : Nat => Value.int .u32 (s : Int)
/-- Where a player's knowledge lies: its block, its queue's, its lines', its list of players. -/
structure CoB where
  cb : Nat
  qb : Nat
  lbs : List Nat
  bp : Nat
  op : Nat
structure CoA where
  cP : Nat
  adM : Option Addr
  cM : Nat
  adE : Option Addr
  cE : Nat
abbrev coC (k : Ks) (B : CoB) (A : CoA) : List Value := [.int .i64 k.n, .int .i64 k.me, .int .i64 k.id, .int .i64 k.delay, .int .i64 k.window, .int .i64 k.guess, .int .i64 k.order, .int .i64 k.branches, .int .i64 k.workers, .int .i64 k.room,
  .pointer (some ⟨B.qb, 0, none⟩), .slice (some ⟨B.bp, B.op, none⟩) k.ps.length A.cP, .slice A.adM k.mr.length A.cM, .slice A.adE k.ev.length A.cE, .int .i64 k.now, .bool k.cl]
def CoreS (B : CoB) (k : Ks) : SP := fun h => ∃ A : CoA, sepL [blk B.cb 111 (coC k B A), Sl 133 5 (some ⟨B.bp, B.op, none⟩) k.ps.length A.cP (rows peC k.ps), Sl 38 1 A.adM k.mr.length A.cM (mrC k.mr), Sl 184 1 A.adE k.ev.length A.cE (k.ev.map evV), Qu B.qb B.lbs k.ls] h
section
variable {W w : World} {L L' R : List SP} {n c m cb qb i : Nat} {ad : Option Addr} {lbs : List Nat} {k : Ks} {A : CoA} {B : CoB} {cf : Cf} {e : Evt}
theorem CoreS.open (hs : St W w (CoreS B k :: L)) : ∃ A : CoA, St W w (blk B.cb 111 (coC k B A) :: Sl 133 5 (some ⟨B.bp, B.op, none⟩) k.ps.length A.cP (rows peC k.ps) :: Sl 38 1 A.adM k.mr.length A.cM (mrC k.mr) :: Sl 184 1 A.adE k.ev.length A.cE (k.ev.map evV) :: Qu B.qb B.lbs k.ls :: L) := by
  obtain ⟨A, _, hs⟩ := hs.exi (ι := CoA) (p := fun _ => True) (B := fun A h => sepL [blk B.cb 111 (coC k B A), Sl 133 5 (some ⟨B.bp, B.op, none⟩) k.ps.length A.cP (rows peC k.ps), Sl 38 1 A.adM k.mr.length A.cM (mrC k.mr), Sl 184 1 A.adE k.ev.length A.cE (k.ev.map evV), Qu B.qb B.lbs k.ls] h) fun _ ⟨A, h⟩ => ⟨A, trivial, h⟩
  exact ⟨A, hs.open (M := [_, _, _, _, _]) fun _ h => h⟩
theorem CoreS.close (hs : St W w (blk B.cb 111 (coC k B A) :: Sl 133 5 (some ⟨B.bp, B.op, none⟩) k.ps.length A.cP (rows peC k.ps) :: Sl 38 1 A.adM k.mr.length A.cM (mrC k.mr) :: Sl 184 1 A.adE k.ev.length A.cE (k.ev.map evV) :: Qu B.qb B.lbs k.ls :: L)) : St W w (CoreS B k :: L) :=
  St.shut (M := [_, _, _, _, _]) hs fun _ h => ⟨A, h⟩
theorem CoreS.mk' (hs : St W w L) (A : CoA) [kk : Arr L (blk B.cb 111 (coC k B A) :: Sl 133 5 (some ⟨B.bp, B.op, none⟩) k.ps.length A.cP (rows peC k.ps) :: Sl 38 1 A.adM k.mr.length A.cM (mrC k.mr) :: Sl 184 1 A.adE k.ev.length A.cE (k.ev.map evV) :: Qu B.qb B.lbs k.ls :: L') R] : St W w (CoreS B k :: L') := CoreS.close (A := A) hs.sub
theorem CoreS.fold (hs : St W w L) (B : CoB) (k : Ks) (A : CoA) [kk : Arr L [blk B.cb 111 (coC k B A), Sl 133 5 (some ⟨B.bp, B.op, none⟩) k.ps.length A.cP (rows peC k.ps), Sl 38 1 A.adM k.mr.length A.cM (mrC k.mr), Sl 184 1 A.adE k.ev.length A.cE (k.ev.map evV), Qu B.qb B.lbs k.ls] R] : St W w (CoreS B k :: R) := CoreS.close (A := A) (hs.perm kk.perm)
theorem core_in {x lo hi : Int} (hs : St W w L) : Calls Tryz.prog 121 #[.int .i64 x, .int .i64 lo, .int .i64 hi] w fun e w' => ∃ r : Bool, e = .returned (.bool r) ∧ (r = true ↔ inI x lo hi) ∧ St W w' L := by
  refine calls_enter Tryz.func121 rfl Tryz.ntmps121 (Nat.le_of_ble_eq_true rfl) ?_
  intro a ha
  replace ha : Fr a 15 [(0, _), (1, _), (2, _)] := ha
  refine WS <| WR ?_
  refine S1 ha ?_; clear ha a; intro a ha
  refine LN <| TN <| WS <| WR ?_
  iterate 4 (refine S1 ha ?_; clear ha a; intro a ha)
  refine ha.by (s := 10) (fun hg3 ha => ?_) (fun hg3 ha => ?_)
  ·
   refine S1g (s := 10) ha ?_; clear ha; (try clear a); intro a ha
   iterate 2 (refine S1g (s := 10) ha ?_; clear ha a; intro a ha)
   refine PT ha ?_; clear ha a; intro a ha
   refine S1d ha ?_; clear ha a; intro a ha
   refine LN <| TN <| wp_ret ?_
   refine ret1 ha rfl ?_
   exact ⟨_, rfl, ⟨fun h => ⟨hg3, of_decide_eq_true h⟩, fun h => decide_eq_true h.2⟩, hs⟩
  ·
   refine SO (s := 10) ha ?_; clear ha; (try clear a); intro a ha
   iterate 2 (refine SO (s := 10) ha ?_; clear ha a; intro a ha)
   refine PF ha ?_; clear ha a; intro a ha
   refine S1d ha ?_; clear ha a; intro a ha
   refine LN <| TN <| wp_ret ?_
   refine ret1 ha rfl ?_
   exact ⟨_, rfl, ⟨fun h => (by cases h), fun h => by have := h.1; omega⟩, hs⟩
theorem core_may (hs : St W w L) : Calls Tryz.prog 81 #[.agg (cfC cf).toArray] w fun e w' => ∃ r : Bool, e = .returned (.bool r) ∧ (r = true ↔ mayCf cf) ∧ St W w' L := by
  refine calls_enter Tryz.func81 rfl Tryz.ntmps81 (Nat.le_of_ble_eq_true rfl) ?_
  intro a ha
  replace ha : Fr a 73 [(0, _)] := ha
  refine WS <| WR ?_
  refine SK (st_box ha rfl hs rfl ?_); clear ha hs a; (try clear w); intro b1 a w ha hs ho
  clear ho
  change St W w (blk b1 30 (cfC cf) :: _) at hs
  refine S1 ha ?_; clear ha a; intro a ha
  refine LN <| TN ?_
  refine wp_seq_cut (M := fun a w => ∃ z : Bool, (z = true ↔ (inI cf.n 2 8 ∧ inI cf.me 0 (cf.n - 1) ∧ inI cf.id 0 1099511627776)) ∧ Fr a 73 [(1, .pointer (some ⟨b1, 0, none⟩)), (3, .bool z)] ∧ St W w (blk b1 30 (cfC cf) :: L)) ?_ ?_
  ·
   refine WR ?_
   refine S1 ha ?_; clear ha; (try clear a); intro a ha
   refine SL ha (hs.rd1 rfl) ?_; clear ha a; intro a ha
   refine SK (st_call ha rfl Ty.c121 rfl (core_in hs) ?_); clear ha hs
   rintro e w ⟨r1, rfl, hr1, hs⟩
   refine ⟨_, rfl, ?_⟩
   intro a ha
   refine S1 ha ?_; clear ha a; intro a ha
   refine ha.by (s := 8) (fun hg3 ha => ?_) (fun hg3 ha => ?_)
   ·
    refine S1g (s := 8) ha ?_; clear ha; (try clear a); intro a ha
    refine SLg (s := 8) ha (hs.rd1 rfl) ?_; clear ha a; intro a ha
    refine S1g (s := 8) ha ?_; clear ha a; intro a ha
    refine SLg (s := 8) ha (hs.rd1 rfl) ?_; clear ha a; intro a ha
    refine SK (st_set ha (wgT ha rfl (s := 8)) (ex_sub ha) rfl ?_); clear ha a; intro a ha
    have hn1 : IntKind.i64.wrap (cf.n - 1) = cf.n - 1 := wrap_in (by have := (hr1.1 hg3).1; omega) (by have := (hr1.1 hg3).2; omega)
    rw [hn1] at ha
    refine SK (st_call ha (wgT ha rfl (s := 8)) Ty.c121 rfl (core_in hs) ?_); clear ha hs
    rintro e w ⟨r2, rfl, hr2, hs⟩
    refine ⟨_, rfl, ?_⟩
    intro a ha
    refine PT ha ?_; clear ha a; intro a ha
    refine S1 ha ?_; clear ha a; intro a ha
    refine ha.by (s := 16) (fun hg11 ha => ?_) (fun hg11 ha => ?_)
    ·
     refine S1g (s := 16) ha ?_; clear ha; (try clear a); intro a ha
     refine SLg (s := 16) ha (hs.rd1 rfl) ?_; clear ha a; intro a ha
     refine S1g (s := 16) ha ?_; clear ha a; intro a ha
     refine PT ha ?_; clear ha a; intro a ha
     refine S1 ha ?_; clear ha a; intro a ha
     refine ha.by (s := 21) (fun hg16 ha => ?_) (fun hg16 ha => ?_)
     ·
      refine S1g (s := 21) ha ?_; clear ha; (try clear a); intro a ha
      refine SLg (s := 21) ha (hs.rd1 rfl) ?_; clear ha a; intro a ha
      refine S1g (s := 21) ha ?_; clear ha a; intro a ha
      refine PT ha ?_; clear ha a; intro a ha
      refine S1 ha ?_; clear ha a; intro a ha
      refine LN <| TN ?_
      exact ⟨_, ⟨fun h => ⟨hr1.1 hg3, hr2.1 hg11, hg16, of_decide_eq_true h⟩, fun h => decide_eq_true h.2.2.2⟩, ha.keep [1, 3], hs⟩
     ·
      refine SO (s := 21) ha ?_; clear ha; (try clear a); intro a ha
      iterate 2 (refine SO (s := 21) ha ?_; clear ha a; intro a ha)
      refine PF ha ?_; clear ha a; intro a ha
      refine S1 ha ?_; clear ha a; intro a ha
      refine LN <| TN ?_
      exact ⟨_, ⟨fun h => (by cases h), fun h => by have := h.2.2.1; omega⟩, ha.keep [1, 3], hs⟩
    ·
     refine SO (s := 16) ha ?_; clear ha; (try clear a); intro a ha
     iterate 2 (refine SO (s := 16) ha ?_; clear ha a; intro a ha)
     refine PF ha ?_; clear ha a; intro a ha
     refine S1 ha ?_; clear ha a; intro a ha
     iterate 3 (refine SO (s := 21) ha ?_; clear ha a; intro a ha)
     refine PF ha ?_; clear ha a; intro a ha
     refine S1 ha ?_; clear ha a; intro a ha
     refine LN <| TN ?_
     exact ⟨_, ⟨fun h => (by cases h), fun h => by have := hr2.2 h.2.1; rw [hg11] at this; cases this⟩, ha.keep [1, 3], hs⟩
   ·
    refine SO (s := 8) ha ?_; clear ha; (try clear a); intro a ha
    iterate 5 (refine SO (s := 8) ha ?_; clear ha a; intro a ha)
    refine PF ha ?_; clear ha a; intro a ha
    refine S1 ha ?_; clear ha a; intro a ha
    iterate 3 (refine SO (s := 16) ha ?_; clear ha a; intro a ha)
    refine PF ha ?_; clear ha a; intro a ha
    refine S1 ha ?_; clear ha a; intro a ha
    iterate 3 (refine SO (s := 21) ha ?_; clear ha a; intro a ha)
    refine PF ha ?_; clear ha a; intro a ha
    refine S1 ha ?_; clear ha a; intro a ha
    refine LN <| TN ?_
    exact ⟨_, ⟨fun h => (by cases h), fun h => by have := hr1.2 h.1; rw [hg3] at this; cases this⟩, ha.keep [1, 3], hs⟩
  ·
   clear ha; (try clear hs)
   intro a w hcut
   obtain ⟨z1, hz1, ha, hs⟩ := hcut
   refine wp_seq_cut (M := fun a w => ∃ z : Bool, (z = true ↔ (inI cf.delay 0 8 ∧ inI cf.window 1 16 ∧ inI cf.guess 1 3 ∧ inI cf.order 0 3)) ∧ Fr a 73 [(1, .pointer (some ⟨b1, 0, none⟩)), (3, .bool z1), (4, .bool z)] ∧ St W w (blk b1 30 (cfC cf) :: L)) ?_ ?_
   ·
    refine WR ?_
    refine S1 ha ?_; clear ha; (try clear a); intro a ha
    refine SL ha (hs.rd1 rfl) ?_; clear ha a; intro a ha
    refine SK (st_call ha rfl Ty.c121 rfl (core_in hs) ?_); clear ha hs
    rintro e w ⟨r1, rfl, hr1, hs⟩
    refine ⟨_, rfl, ?_⟩
    intro a ha
    refine S1 ha ?_; clear ha a; intro a ha
    refine ha.by (s := 29) (fun hg3 ha => ?_) (fun hg3 ha => ?_)
    ·
     refine S1g (s := 29) ha ?_; clear ha; (try clear a); intro a ha
     refine SLg (s := 29) ha (hs.rd1 rfl) ?_; clear ha a; intro a ha
     refine SK (st_call ha (wgT ha rfl (s := 29)) Ty.c121 rfl (core_in hs) ?_); clear ha hs
     rintro e w ⟨r2, rfl, hr2, hs⟩
     refine ⟨_, rfl, ?_⟩
     intro a ha
     refine PT ha ?_; clear ha a; intro a ha
     refine S1 ha ?_; clear ha a; intro a ha
     refine ha.by (s := 34) (fun hg8 ha => ?_) (fun hg8 ha => ?_)
     ·
      refine S1g (s := 34) ha ?_; clear ha; (try clear a); intro a ha
      refine SLg (s := 34) ha (hs.rd1 rfl) ?_; clear ha a; intro a ha
      refine SK (st_call ha (wgT ha rfl (s := 34)) Ty.c121 rfl (core_in hs) ?_); clear ha hs
      rintro e w ⟨r3, rfl, hr3, hs⟩
      refine ⟨_, rfl, ?_⟩
      intro a ha
      refine PT ha ?_; clear ha a; intro a ha
      refine S1 ha ?_; clear ha a; intro a ha
      refine ha.by (s := 39) (fun hg13 ha => ?_) (fun hg13 ha => ?_)
      ·
       refine S1g (s := 39) ha ?_; clear ha; (try clear a); intro a ha
       refine SLg (s := 39) ha (hs.rd1 rfl) ?_; clear ha a; intro a ha
       refine SK (st_call ha (wgT ha rfl (s := 39)) Ty.c121 rfl (core_in hs) ?_); clear ha hs
       rintro e w ⟨r4, rfl, hr4, hs⟩
       refine ⟨_, rfl, ?_⟩
       intro a ha
       refine PT ha ?_; clear ha a; intro a ha
       refine S1 ha ?_; clear ha a; intro a ha
       refine LN <| TN ?_
       exact ⟨_, ⟨fun h => ⟨hr1.1 hg3, hr2.1 hg8, hr3.1 hg13, hr4.1 h⟩, fun h => hr4.2 h.2.2.2⟩, ha.keep [1, 3, 4], hs⟩
      ·
       refine SO (s := 39) ha ?_; clear ha; (try clear a); intro a ha
       iterate 2 (refine SO (s := 39) ha ?_; clear ha a; intro a ha)
       refine PF ha ?_; clear ha a; intro a ha
       refine S1 ha ?_; clear ha a; intro a ha
       refine LN <| TN ?_
       exact ⟨_, ⟨fun h => (by cases h), fun h => by have := hr3.2 h.2.2.1; rw [hg13] at this; cases this⟩, ha.keep [1, 3, 4], hs⟩
     ·
      refine SO (s := 34) ha ?_; clear ha; (try clear a); intro a ha
      iterate 2 (refine SO (s := 34) ha ?_; clear ha a; intro a ha)
      refine PF ha ?_; clear ha a; intro a ha
      refine S1 ha ?_; clear ha a; intro a ha
      iterate 3 (refine SO (s := 39) ha ?_; clear ha a; intro a ha)
      refine PF ha ?_; clear ha a; intro a ha
      refine S1 ha ?_; clear ha a; intro a ha
      refine LN <| TN ?_
      exact ⟨_, ⟨fun h => (by cases h), fun h => by have := hr2.2 h.2.1; rw [hg8] at this; cases this⟩, ha.keep [1, 3, 4], hs⟩
    ·
     refine SO (s := 29) ha ?_; clear ha; (try clear a); intro a ha
     iterate 2 (refine SO (s := 29) ha ?_; clear ha a; intro a ha)
     refine PF ha ?_; clear ha a; intro a ha
     refine S1 ha ?_; clear ha a; intro a ha
     iterate 3 (refine SO (s := 34) ha ?_; clear ha a; intro a ha)
     refine PF ha ?_; clear ha a; intro a ha
     refine S1 ha ?_; clear ha a; intro a ha
     iterate 3 (refine SO (s := 39) ha ?_; clear ha a; intro a ha)
     refine PF ha ?_; clear ha a; intro a ha
     refine S1 ha ?_; clear ha a; intro a ha
     refine LN <| TN ?_
     exact ⟨_, ⟨fun h => (by cases h), fun h => by have := hr1.2 h.1; rw [hg3] at this; cases this⟩, ha.keep [1, 3, 4], hs⟩
   ·
    clear ha; (try clear hs)
    intro a w hcut
    obtain ⟨z2, hz2, ha, hs⟩ := hcut
    refine WS <| WR ?_
    refine S1 ha ?_; clear ha; (try clear a); intro a ha
    refine S1 ha ?_; clear ha a; intro a ha
    refine ha.by (s := 45) (fun hg1 ha => ?_) (fun hg1 ha => ?_)
    ·
     refine S1g (s := 45) ha ?_; clear ha; (try clear a); intro a ha
     refine PT ha ?_; clear ha a; intro a ha
     refine S1 ha ?_; clear ha a; intro a ha
     refine ha.by (s := 48) (fun hg4 ha => ?_) (fun hg4 ha => ?_)
     ·
      refine S1g (s := 48) ha ?_; clear ha; (try clear a); intro a ha
      refine SLg (s := 48) ha (hs.rd1 rfl) ?_; clear ha a; intro a ha
      iterate 2 (refine S1g (s := 48) ha ?_; clear ha a; intro a ha)
      refine ha.by (s := 52) (fun hg8 ha => ?_) (fun hg8 ha => ?_)
      ·
       have hog : cf.order = 0 ∨ cf.guess = 2 := .inl hg8
       refine SO (s := 52) ha ?_; clear ha; (try clear a); intro a ha
       iterate 2 (refine SO (s := 52) ha ?_; clear ha a; intro a ha)
       refine PTg (s := 48) ha ?_; clear ha a; intro a ha
       refine PT ha ?_; clear ha a; intro a ha
       refine S1 ha ?_; clear ha a; intro a ha
       refine S1g (s := 58) ha ?_; clear ha a; intro a ha
       refine SLg (s := 58) ha (hs.rd1 rfl) ?_; clear ha a; intro a ha
       refine SK (st_call ha (wgT ha rfl (s := 58)) Ty.c121 rfl (core_in hs) ?_); clear ha hs
       rintro e w ⟨r1, rfl, hr1, hs⟩
       refine ⟨_, rfl, ?_⟩
       intro a ha
       refine PT ha ?_; clear ha a; intro a ha
       refine S1 ha ?_; clear ha a; intro a ha
       refine ha.by (s := 63) (fun hg19 ha => ?_) (fun hg19 ha => ?_)
       ·
        refine S1g (s := 63) ha ?_; clear ha; (try clear a); intro a ha
        refine SLg (s := 63) ha (hs.rd1 rfl) ?_; clear ha a; intro a ha
        refine SK (st_call ha (wgT ha rfl (s := 63)) Ty.c121 rfl (core_in hs) ?_); clear ha hs
        rintro e w ⟨r2, rfl, hr2, hs⟩
        refine ⟨_, rfl, ?_⟩
        intro a ha
        refine PT ha ?_; clear ha a; intro a ha
        refine S1 ha ?_; clear ha a; intro a ha
        refine ha.by (s := 68) (fun hg24 ha => ?_) (fun hg24 ha => ?_)
        ·
         refine S1g (s := 68) ha ?_; clear ha; (try clear a); intro a ha
         refine SLg (s := 68) ha (hs.rd1 rfl) ?_; clear ha a; intro a ha
         refine SK (st_call ha (wgT ha rfl (s := 68)) Ty.c121 rfl (core_in hs) ?_); clear ha hs
         rintro e w ⟨r3, rfl, hr3, hs⟩
         refine ⟨_, rfl, ?_⟩
         intro a ha
         refine PT ha ?_; clear ha a; intro a ha
         refine S1 ha ?_; clear ha a; intro a ha
         refine LN <| TN <| wp_ret ?_
         refine ret1 ha rfl ?_
         exact ⟨_, rfl, ⟨fun h => ⟨hz1.1 hg1, hz2.1 hg4, hog, hr1.1 hg19, hr2.1 hg24, hr3.1 h⟩, fun h => hr3.2 h.2.2.2.2.2⟩, hs.sub⟩
        ·
         refine SO (s := 68) ha ?_; clear ha; (try clear a); intro a ha
         iterate 2 (refine SO (s := 68) ha ?_; clear ha a; intro a ha)
         refine PF ha ?_; clear ha a; intro a ha
         refine S1 ha ?_; clear ha a; intro a ha
         refine LN <| TN <| wp_ret ?_
         refine ret1 ha rfl ?_
         exact ⟨_, rfl, ⟨fun h => (by cases h), fun h => by have := hr2.2 h.2.2.2.2.1; rw [hg24] at this; cases this⟩, hs.sub⟩
       ·
        refine SO (s := 63) ha ?_; clear ha; (try clear a); intro a ha
        iterate 2 (refine SO (s := 63) ha ?_; clear ha a; intro a ha)
        refine PF ha ?_; clear ha a; intro a ha
        refine S1 ha ?_; clear ha a; intro a ha
        iterate 3 (refine SO (s := 68) ha ?_; clear ha a; intro a ha)
        refine PF ha ?_; clear ha a; intro a ha
        refine S1 ha ?_; clear ha a; intro a ha
        refine LN <| TN <| wp_ret ?_
        refine ret1 ha rfl ?_
        exact ⟨_, rfl, ⟨fun h => (by cases h), fun h => by have := hr1.2 h.2.2.2.1; rw [hg19] at this; cases this⟩, hs.sub⟩
      ·
       refine S1g (s := 52) ha ?_; clear ha; (try clear a); intro a ha
       refine SLg (s := 52) ha (hs.rd1 rfl) ?_; clear ha a; intro a ha
       refine S1g (s := 52) ha ?_; clear ha a; intro a ha
       refine PFg (s := 48) ha ?_; clear ha a; intro a ha
       refine PT ha ?_; clear ha a; intro a ha
       refine S1 ha ?_; clear ha a; intro a ha
       refine ha.by (s := 58) (fun hg14 ha => ?_) (fun hg14 ha => ?_)
       ·
        have hog : cf.order = 0 ∨ cf.guess = 2 := .inr hg14
        refine S1g (s := 58) ha ?_; clear ha; (try clear a); intro a ha
        refine SLg (s := 58) ha (hs.rd1 rfl) ?_; clear ha a; intro a ha
        refine SK (st_call ha (wgT ha rfl (s := 58)) Ty.c121 rfl (core_in hs) ?_); clear ha hs
        rintro e w ⟨r1, rfl, hr1, hs⟩
        refine ⟨_, rfl, ?_⟩
        intro a ha
        refine PT ha ?_; clear ha a; intro a ha
        refine S1 ha ?_; clear ha a; intro a ha
        refine ha.by (s := 63) (fun hg19 ha => ?_) (fun hg19 ha => ?_)
        ·
         refine S1g (s := 63) ha ?_; clear ha; (try clear a); intro a ha
         refine SLg (s := 63) ha (hs.rd1 rfl) ?_; clear ha a; intro a ha
         refine SK (st_call ha (wgT ha rfl (s := 63)) Ty.c121 rfl (core_in hs) ?_); clear ha hs
         rintro e w ⟨r2, rfl, hr2, hs⟩
         refine ⟨_, rfl, ?_⟩
         intro a ha
         refine PT ha ?_; clear ha a; intro a ha
         refine S1 ha ?_; clear ha a; intro a ha
         refine ha.by (s := 68) (fun hg24 ha => ?_) (fun hg24 ha => ?_)
         ·
          refine S1g (s := 68) ha ?_; clear ha; (try clear a); intro a ha
          refine SLg (s := 68) ha (hs.rd1 rfl) ?_; clear ha a; intro a ha
          refine SK (st_call ha (wgT ha rfl (s := 68)) Ty.c121 rfl (core_in hs) ?_); clear ha hs
          rintro e w ⟨r3, rfl, hr3, hs⟩
          refine ⟨_, rfl, ?_⟩
          intro a ha
          refine PT ha ?_; clear ha a; intro a ha
          refine S1 ha ?_; clear ha a; intro a ha
          refine LN <| TN <| wp_ret ?_
          refine ret1 ha rfl ?_
          exact ⟨_, rfl, ⟨fun h => ⟨hz1.1 hg1, hz2.1 hg4, hog, hr1.1 hg19, hr2.1 hg24, hr3.1 h⟩, fun h => hr3.2 h.2.2.2.2.2⟩, hs.sub⟩
         ·
          refine SO (s := 68) ha ?_; clear ha; (try clear a); intro a ha
          iterate 2 (refine SO (s := 68) ha ?_; clear ha a; intro a ha)
          refine PF ha ?_; clear ha a; intro a ha
          refine S1 ha ?_; clear ha a; intro a ha
          refine LN <| TN <| wp_ret ?_
          refine ret1 ha rfl ?_
          exact ⟨_, rfl, ⟨fun h => (by cases h), fun h => by have := hr2.2 h.2.2.2.2.1; rw [hg24] at this; cases this⟩, hs.sub⟩
        ·
         refine SO (s := 63) ha ?_; clear ha; (try clear a); intro a ha
         iterate 2 (refine SO (s := 63) ha ?_; clear ha a; intro a ha)
         refine PF ha ?_; clear ha a; intro a ha
         refine S1 ha ?_; clear ha a; intro a ha
         iterate 3 (refine SO (s := 68) ha ?_; clear ha a; intro a ha)
         refine PF ha ?_; clear ha a; intro a ha
         refine S1 ha ?_; clear ha a; intro a ha
         refine LN <| TN <| wp_ret ?_
         refine ret1 ha rfl ?_
         exact ⟨_, rfl, ⟨fun h => (by cases h), fun h => by have := hr1.2 h.2.2.2.1; rw [hg19] at this; cases this⟩, hs.sub⟩
       ·
        refine SO (s := 58) ha ?_; clear ha; (try clear a); intro a ha
        iterate 2 (refine SO (s := 58) ha ?_; clear ha a; intro a ha)
        refine PF ha ?_; clear ha a; intro a ha
        refine S1 ha ?_; clear ha a; intro a ha
        iterate 3 (refine SO (s := 63) ha ?_; clear ha a; intro a ha)
        refine PF ha ?_; clear ha a; intro a ha
        refine S1 ha ?_; clear ha a; intro a ha
        iterate 3 (refine SO (s := 68) ha ?_; clear ha a; intro a ha)
        refine PF ha ?_; clear ha a; intro a ha
        refine S1 ha ?_; clear ha a; intro a ha
        refine LN <| TN <| wp_ret ?_
        refine ret1 ha rfl ?_
        exact ⟨_, rfl, ⟨fun h => (by cases h), fun h => by have := h.2.2.1; omega⟩, hs.sub⟩
     ·
      refine SO (s := 48) ha ?_; clear ha; (try clear a); intro a ha
      iterate 2 (refine SO (s := 48) ha ?_; clear ha a; intro a ha)
      refine SK (st_offU ha (wgF ha rfl (s := 48) rfl) rfl ?_); clear ha a; intro a ha
      iterate 3 (refine SK (st_off ha (wgU ha rfl (s := 52)) rfl ?_); clear ha a; intro a ha)
      refine SO (s := 48) ha ?_; clear ha a; intro a ha
      refine PF ha ?_; clear ha a; intro a ha
      refine S1 ha ?_; clear ha a; intro a ha
      iterate 3 (refine SO (s := 58) ha ?_; clear ha a; intro a ha)
      refine PF ha ?_; clear ha a; intro a ha
      refine S1 ha ?_; clear ha a; intro a ha
      iterate 3 (refine SO (s := 63) ha ?_; clear ha a; intro a ha)
      refine PF ha ?_; clear ha a; intro a ha
      refine S1 ha ?_; clear ha a; intro a ha
      iterate 3 (refine SO (s := 68) ha ?_; clear ha a; intro a ha)
      refine PF ha ?_; clear ha a; intro a ha
      refine S1 ha ?_; clear ha a; intro a ha
      refine LN <| TN <| wp_ret ?_
      refine ret1 ha rfl ?_
      exact ⟨_, rfl, ⟨fun h => (by cases h), fun h => by have := hz2.2 h.2.1; rw [hg4] at this; cases this⟩, hs.sub⟩
    ·
     refine SO (s := 45) ha ?_; clear ha; (try clear a); intro a ha
     refine PF ha ?_; clear ha a; intro a ha
     refine S1 ha ?_; clear ha a; intro a ha
     iterate 3 (refine SO (s := 48) ha ?_; clear ha a; intro a ha)
     refine SK (st_offU ha (wgF ha rfl (s := 48) rfl) rfl ?_); clear ha a; intro a ha
     iterate 3 (refine SK (st_off ha (wgU ha rfl (s := 52)) rfl ?_); clear ha a; intro a ha)
     refine SO (s := 48) ha ?_; clear ha a; intro a ha
     refine PF ha ?_; clear ha a; intro a ha
     refine S1 ha ?_; clear ha a; intro a ha
     iterate 3 (refine SO (s := 58) ha ?_; clear ha a; intro a ha)
     refine PF ha ?_; clear ha a; intro a ha
     refine S1 ha ?_; clear ha a; intro a ha
     iterate 3 (refine SO (s := 63) ha ?_; clear ha a; intro a ha)
     refine PF ha ?_; clear ha a; intro a ha
     refine S1 ha ?_; clear ha a; intro a ha
     iterate 3 (refine SO (s := 68) ha ?_; clear ha a; intro a ha)
     refine PF ha ?_; clear ha a; intro a ha
     refine S1 ha ?_; clear ha a; intro a ha
     refine LN <| TN <| wp_ret ?_
     refine ret1 ha rfl ?_
     exact ⟨_, rfl, ⟨fun h => (by cases h), fun h => by have := hz1.2 h.1; rw [hg1] at this; cases this⟩, hs.sub⟩
theorem core_new_no (hs : St W w L) (h : ¬ mayCf cf) : Calls Tryz.prog 36 #[.agg (cfC cf).toArray] w fun e w' => e = .returned (.tuple #[.pointer none, .int .i64 1]) ∧ St W w' L := by
  refine calls_enter Tryz.func36 rfl Tryz.ntmps36 (Nat.le_of_ble_eq_true rfl) ?_
  intro a ha
  replace ha : Fr a 34 [(0, _)] := ha
  refine WS <| WR ?_
  refine SK (st_box ha rfl hs rfl ?_); clear ha hs a; (try clear w); intro b1 a w ha hs ho
  clear ho
  change St W w (blk b1 30 (cfC cf) :: _) at hs
  iterate 2 (refine S1 ha ?_; clear ha a; intro a ha)
  refine LN <| TN <| WS <| WS <| WR ?_
  refine SK (st_set ha rfl (ex_loadN ha Tryz.underlying30 rfl Ty.t30 (hs.rdAll)) rfl ?_); clear ha a; intro a ha
  refine SK (st_call ha rfl Ty.c81 rfl (core_may hs) ?_); clear ha hs
  rintro e w ⟨r, rfl, hr, hs⟩
  refine ⟨_, rfl, ?_⟩
  intro a ha
  rw [show r = false from by cases hh : r with | false => rfl | true => exact absurd (hr.1 hh) h] at ha
  refine S1 ha ?_; clear ha a; intro a ha
  refine LN <| TN <| WTr ha <| WS <| WR ?_
  iterate 2 (refine S1d ha ?_; clear ha a; intro a ha)
  refine LN <| TN <| wp_ret <| TR ?_
  refine ret2 ha rfl ?_
  exact ⟨rfl, hs.sub⟩
theorem core_new {n me delay window : Nat} {id guess order branches workers room : Int} (hs : St W w L) (h : mayCf ⟨n, me, id, delay, window, guess, order, branches, workers, room⟩) :
    Calls Tryz.prog 36 #[.agg (cfC ⟨n, me, id, delay, window, guess, order, branches, workers, room⟩).toArray] w fun e w' => ∃ B, e = .returned (.tuple #[.pointer (some ⟨B.cb, 0, none⟩), .int .i64 0]) ∧ St W w' (CoreS B (newK ⟨n, me, id, delay, window, guess, order, branches, workers, room⟩) :: L) := by
  have hh := h
  obtain ⟨⟨h1, h2, h3⟩, ⟨h4, h5, h6, h7⟩, h8, h9, h10, h11⟩ := hh
  simp only [inI] at *
  refine calls_enter Tryz.func36 rfl Tryz.ntmps36 (Nat.le_of_ble_eq_true rfl) ?_
  intro a ha
  replace ha : Fr a 34 [(0, _)] := ha
  refine WS <| WR ?_
  refine SK (st_box ha rfl hs rfl ?_); clear ha hs a; (try clear w); intro b1 a w ha hs ho
  clear ho
  change St W w (blk b1 30 (cfC ⟨n, me, id, delay, window, guess, order, branches, workers, room⟩) :: _) at hs
  iterate 2 (refine S1 ha ?_; clear ha a; intro a ha)
  refine LN <| TN <| WS <| WS <| WR ?_
  refine SK (st_set ha rfl (ex_loadN ha Tryz.underlying30 rfl Ty.t30 (hs.rdAll)) rfl ?_); clear ha a; intro a ha
  refine SK (st_call ha rfl Ty.c81 rfl (core_may hs) ?_); clear ha hs
  rintro e w ⟨r, rfl, hr, hs⟩
  refine ⟨_, rfl, ?_⟩
  intro a ha
  rw [hr.2 h] at ha
  refine S1 ha ?_; clear ha a; intro a ha
  refine LN <| TN <| WFa ha <| WK <| TN ?_
  refine wp_seq_cut (M := fun a w => ∃ cb qb lbs, Fr a 34 [(1, .pointer (some ⟨b1, 0, none⟩)), (4, .pointer (some ⟨cb, 0, none⟩))] ∧ St W w (blk cb 111 [.int .i64 n, .int .i64 me, .int .i64 id, .int .i64 delay, .int .i64 window, .int .i64 guess, .int .i64 order, .int .i64 branches, .int .i64 workers, .int .i64 room, .pointer (some ⟨qb, 0, none⟩), .slice none 0 0, .slice none 0 0, .slice none 0 0, .int .i64 0, .bool false] :: Qu qb lbs (List.replicate n (List.replicate delay 0)) :: blk b1 30 (cfC ⟨n, me, id, delay, window, guess, order, branches, workers, room⟩) :: L)) ?_ ?_
  ·
   refine DW (m := 9) (fun w' => Rd w' b1 0 (cfC ⟨n, me, id, delay, window, guess, order, branches, workers, room⟩)) [2, 4, 5] [1, 3, 0, 2, 4, 5, 6, 7, 8] Ty.mixed (pk_then pk_body) (fun hpk => ?_)
   replace hs := hs.drew
   generalize w.drew = w at hs hpk ⊢
   have hC : Rd w b1 0 (cfC ⟨n, me, id, delay, window, guess, order, branches, workers, room⟩) := hs.rdAll
   refine DP hpk ha rfl ?_; clear ha; (try clear a); intro a ha
   refine DP hpk ha rfl ?_; clear ha a; intro a ha
   refine DH hpk ha rfl rfl (fun w hc => ex_loadN ha Tryz.underlying30 rfl Ty.t30 (hc)) hC ?_; clear ha a; intro a ha
   simp only [cfC] at ha
   refine DL hpk ha rfl (fun w hc => hc 0 _ rfl) hC ?_; clear ha a; intro a ha
   refine D1 rfl (st_set ha rfl (ex_load1 ha Tryz.underlying3 rfl (hC 3 _ rfl)) rfl ?_); clear ha a; intro a ha
   refine ⟨fun _ => hC, ?_⟩
   refine D1 rfl (st_call ha rfl Ty.c82 rfl (queue_new (n := n) (d := delay) hs (by omega) (by omega)) ?_); clear ha hs
   rintro e w ⟨qb, lbs, rfl, hs⟩
   refine ⟨_, rfl, ?_⟩
   intro a ha
   replace hC : (fun w' => Rd w' b1 0 (cfC ⟨n, me, id, delay, window, guess, order, branches, workers, room⟩)) w := hs.rdAll
   refine ⟨fun _ => hC, ?_⟩
   refine DQ hpk ha rfl rfl (fun w => ex_build ha Ty.b111 Ty.t111 rfl) ?_; clear ha a; intro a ha
   refine D1 rfl (st_box ha rfl hs rfl ?_); clear ha hs a; (try clear w); intro b15 a w ha hs ho
   (try replace hC := hC.trans ho); clear ho
   refine ⟨fun h => absurd h (by decide), ?_⟩
   refine DP hpk ha rfl ?_; clear ha a; intro a ha
   refine DD <| TN ?_
   exact ⟨_, qb, lbs, ha.keep [1, 4], hs⟩
  ·
   clear ha; (try clear hs)
   intro a w hcut
   obtain ⟨cb, qb, lbs, ha, hs⟩ := hcut
   refine WS <| WS <| WR ?_
   refine S1 ha ?_; clear ha; (try clear a); intro a ha
   refine SL ha (hs.rd1 rfl) ?_; clear ha a; intro a ha
   refine S1 ha ?_; clear ha a; intro a ha
   refine LN ?_
   replace hs := hs.sl0 133 5 none
   refine TN <| wp_block ?_
   refine wp_loop_ghost (fun μ a w => ∃ (i : Nat) (ad : Option Addr) (c : Nat), (μ = n - i ∧ i ≤ n) ∧ Fr a 34 [(1, .pointer (some ⟨b1, 0, none⟩)), (4, .pointer (some ⟨cb, 0, none⟩)), (17, .int .i64 n), (18, .int .i64 i)] ∧ St W w (blk cb 111 [.int .i64 n, .int .i64 me, .int .i64 id, .int .i64 delay, .int .i64 window, .int .i64 guess, .int .i64 order, .int .i64 branches, .int .i64 workers, .int .i64 room, .pointer (some ⟨qb, 0, none⟩), .slice ad i c, .slice none 0 0, .slice none 0 0, .int .i64 0, .bool false] :: Sl 133 5 ad i c (rows peC (List.replicate i (pe0 delay))) :: Qu qb lbs (List.replicate n (List.replicate delay 0)) :: blk b1 30 (cfC ⟨n, me, id, delay, window, guess, order, branches, workers, room⟩) :: L)) (n) ?_ ?_
   · exact ⟨0, none, 0, ⟨rfl, by omega⟩, ha.keep [1, 4, 17, 18], (hs.perm (List.Perm.swap _ _ _) : St W w (blk cb 111 _ :: Sl 133 5 none 0 0 [] :: _))⟩
   ·
    clear ha hs
    rintro μ a w ⟨i, ad, c, ⟨rfl, hi⟩, ha, hs⟩
    refine WS <| WR ?_
    refine S1 ha ?_; clear ha; (try clear a); intro a ha
    refine LN <| TN <| WS ?_
    refine WI ha (fun hc1 => ?_) (fun hc1 => ?_)
    ·
     refine WK <| TN <| WS <| wp_block ?_
     refine DW (m := 13) (Old w.drew) [6, 7, 8] [0, 1, 2, 3, 5, 4, 6, 7, 8, 9, 10, 11, 12] Ty.mixed (pk_blk (pk_then (pk_then (pk_blk (pk_then pk_body))))) (fun hpk => ?_)
     replace hs := hs.drew
     have hC := Old.refl w.drew
     generalize w.drew = w at hs hC hpk ⊢
     refine DP hpk ha rfl ?_; clear ha; (try clear a); intro a ha
     iterate 4 (refine DP hpk ha rfl ?_; clear ha a; intro a ha)
     refine DL hpk ha rfl (fun w hc => hc.cell (hs.rd1 rfl)) hC ?_; clear ha a; intro a ha
     refine D1 rfl (st_set ha rfl (ex_load1 ha Tryz.underlying3 rfl (hs.rd1 rfl)) rfl ?_); clear ha a; intro a ha
     refine ⟨fun _ => hC, ?_⟩
     refine D1 rfl (st_set ha rfl (ex_build ha Ty.b133 Ty.t133 rfl) rfl ?_); clear ha a; intro a ha
     refine ⟨fun _ => hC, ?_⟩
     refine D1 rfl (st_buildSlice ha rfl hs Tryz.underlying108 Ty.t133 rfl rfl rfl rfl (by decide) (by decide) ?_); clear ha hs a; (try clear w); intro b28 a w ha hs ho
     (try replace hC := hC.trans ho); clear ho
     refine ⟨fun _ => hC, ?_⟩
     refine D1 rfl (st_append ha rfl hs Tryz.underlying108 Ty.t133 rfl rfl hs.rdAll rfl (peC_one (pe0 delay)) (by decide) (by decide) (by omega) ?_); clear ha hs a; (try clear w); intro ad29 c29 a w ha hs
     refine ⟨fun h => absurd h (by decide), ?_⟩
     rw [show rows peC (List.replicate i (pe0 delay)) ++ _ = rows peC (List.replicate (i + 1) (pe0 delay)) from by rw [List.replicate_succ', rows_app]; rfl] at hs
     iterate 2 (refine DP hpk ha rfl ?_; clear ha a; intro a ha)
     refine D1 rfl (st_store ha rfl hs Ty.t108 rfl (by simp) ?_); clear ha hs a; (try clear w); intro a w ha hs
     refine ⟨fun h => absurd h (by decide), ?_⟩
     refine DD <| BN <| TN <| WR ?_
     refine SK (st_set ha rfl (ex_addI ha (by omega) (by omega)) rfl ?_); clear ha a; intro a ha
     refine S1d ha ?_; clear ha a; intro a ha
     refine LN <| TN ?_
     exact ⟨n - (i + 1), by omega, i + 1, ad29, c29, ⟨rfl, by omega⟩, ha.keep [1, 4, 17, 18], hs.sub⟩
    ·
     obtain rfl : i = n := by omega
     replace hs := hs.sl0 38 1 none
     replace hs := hs.sl0 184 1 none
     refine wp_exit <| TE <| TE <| blk_e <| TN <| WS <| WR ?_
     refine S1 ha ?_; clear ha; (try clear a); intro a ha
     iterate 2 (refine S1 ha ?_; clear ha a; intro a ha)
     refine LN <| TN <| wp_ret ?_
     refine ret2 ha rfl ?_
     obtain ⟨bp, op, rfl, _⟩ := (hs.pick (Sl 133 5 ad i c (rows peC (List.replicate i (pe0 delay))))).slRd ad (by omega)
     refine ⟨⟨cb, qb, lbs, bp, op⟩, rfl, ?_⟩
     refine CoreS.close (A := ⟨c, none, 0, none, 0⟩) ?_
     have hl : (newK ⟨i, me, id, delay, window, guess, order, branches, workers, room⟩).ps.length = i := by simp [newK]
     rw [coC, hl]
     exact hs.sub (M := blk cb 111 [.int .i64 i, .int .i64 me, .int .i64 id, .int .i64 delay, .int .i64 window, .int .i64 guess, .int .i64 order, .int .i64 branches, .int .i64 workers, .int .i64 room, .pointer (some ⟨qb, 0, none⟩), .slice (some ⟨bp, op, none⟩) i c, .slice none 0 0, .slice none 0 0, .int .i64 0, .bool false] :: Sl 133 5 (some ⟨bp, op, none⟩) i c (rows peC (List.replicate i (pe0 delay))) :: Sl 38 1 none 0 0 [] :: Sl 184 1 none 0 0 [] :: Qu qb lbs (List.replicate i (List.replicate delay 0)) :: L)
theorem core_conf (hs : St W w (CoreS B k :: L)) : Calls Tryz.prog 61 #[.pointer (some ⟨B.cb, 0, none⟩)] w fun e w' => e = .returned (.agg (cfC (ksCf k)).toArray) ∧ St W w' (CoreS B k :: L) := by
  obtain ⟨A, hs⟩ := CoreS.open hs
  refine calls_enter Tryz.func61 rfl Tryz.ntmps61 (Nat.le_of_ble_eq_true rfl) ?_
  intro a ha
  replace ha : Fr a 10 [(0, _)] := ha
  refine WS <| WR ?_
  refine SK (st_alloc ha rfl hs Ty.t30 rfl ?_); clear ha hs a; (try clear w); intro b2 a w ha hs ho
  clear ho
  refine LN <| TN <| WS <| WS <| WR ?_
  iterate 2 (refine S1 ha ?_; clear ha a; intro a ha)
  refine LN <| TN <| WFa ha <| WK <| TN <| WS <| WR ?_
  iterate 3 (refine S1 ha ?_; clear ha a; intro a ha)
  refine SK (st_set ha rfl (ex_loadN ha Tryz.underlying30 rfl Ty.t30 (hs.rdN 10)) rfl ?_); clear ha a; intro a ha
  refine SK (st_storeAll ha rfl hs Ty.t30 (by simp [Value.oneCell']) (by rfl) ?_); clear ha hs a; (try clear w); intro a w ha hs
  refine LN <| TN <| wp_ret ?_
  refine retC1 ha rfl (run_loadN Tryz.underlying30 rfl Ty.t30 (hs.rdAll)) ?_
  exact ⟨rfl, CoreS.close hs.tail⟩
theorem core_queue (hs : St W w (CoreS B k :: L)) : Calls Tryz.prog 48 #[.pointer (some ⟨B.cb, 0, none⟩)] w fun e w' => e = .returned (.pointer (some ⟨B.qb, 0, none⟩)) ∧ St W w' (CoreS B k :: L) := by
  obtain ⟨A, hs⟩ := CoreS.open hs
  refine calls_enter Tryz.func48 rfl Tryz.ntmps48 (Nat.le_of_ble_eq_true rfl) ?_
  intro a ha
  replace ha : Fr a 9 [(0, _)] := ha
  refine WS <| WR ?_
  refine S1 ha ?_; clear ha a; intro a ha
  refine LN <| TN <| WS <| WS <| WR ?_
  iterate 2 (refine S1 ha ?_; clear ha a; intro a ha)
  refine LN <| TN <| WFa ha <| WK <| TN <| WS <| WR ?_
  iterate 3 (refine S1 ha ?_; clear ha a; intro a ha)
  refine SL ha (hs.rd1 rfl) ?_; clear ha a; intro a ha
  refine S1d ha ?_; clear ha a; intro a ha
  refine LN <| TN <| wp_ret ?_
  refine ret1 ha rfl ?_
  exact ⟨rfl, CoreS.close hs⟩
/-- The queue alone. -/
theorem CoreS.quX (hs : St W w (CoreS B k :: L)) : ∃ D : SP, St W w (Qu B.qb B.lbs k.ls :: D :: L) ∧ ∀ (w' : World) (L' : List SP) (ls' : List (List UInt8)), St W w' (Qu B.qb B.lbs ls' :: D :: L') → St W w' (CoreS B { k with ls := ls' } :: L') := by
  obtain ⟨A, hs⟩ := CoreS.open hs
  refine ⟨fun h => sepL [blk B.cb 111 (coC k B A), Sl 133 5 (some ⟨B.bp, B.op, none⟩) k.ps.length A.cP (rows peC k.ps), Sl 38 1 A.adM k.mr.length A.cM (mrC k.mr), Sl 184 1 A.adE k.ev.length A.cE (k.ev.map evV)] h, ?_, fun w' L' ls' hs => ?_⟩
  · refine St.perm (L := (fun h => sepL [blk B.cb 111 (coC k B A), Sl 133 5 (some ⟨B.bp, B.op, none⟩) k.ps.length A.cP (rows peC k.ps), Sl 38 1 A.adM k.mr.length A.cM (mrC k.mr), Sl 184 1 A.adE k.ev.length A.cE (k.ev.map evV)] h) :: Qu B.qb B.lbs k.ls :: L) ?_ (List.Perm.swap _ _ _)
    exact St.shut (M := [_, _, _, _]) hs fun _ h => h
  · have h1 := (hs.perm (List.Perm.swap _ _ _)).open (M := [_, _, _, _]) fun _ h => h
    exact CoreS.close (k := { k with ls := ls' }) (A := A) h1
theorem CoreS.qu (hs : St W w (CoreS B k :: L)) : ∃ D : SP, St W w (Qu B.qb B.lbs k.ls :: D :: L) ∧ ∀ (w' : World) (L' : List SP), St W w' (Qu B.qb B.lbs k.ls :: D :: L') → St W w' (CoreS B k :: L') := by
  obtain ⟨D, h1, h2⟩ := CoreS.quX hs
  exact ⟨D, h1, fun w' L' h => h2 w' L' k.ls h⟩
theorem core_head (hs : St W w (CoreS B k :: L)) (hk : WC k) : Calls Tryz.prog 26 #[.pointer (some ⟨B.cb, 0, none⟩)] w fun e w' => e = .returned (.int .i64 (headK k)) ∧ St W w' (CoreS B k :: L) := by
  have hme : k.me < k.ls.length := by rw [hk.ls]; exact hk.me
  refine calls_enter Tryz.func26 rfl Tryz.ntmps26 (Nat.le_of_ble_eq_true rfl) ?_
  intro a ha
  replace ha : Fr a 10 [(0, _)] := ha
  refine WS <| WR ?_
  refine S1 ha ?_; clear ha a; intro a ha
  refine LN <| TN <| WS <| WR ?_
  refine S1 ha ?_; clear ha a; intro a ha
  refine SK (st_call ha rfl Ty.c48 rfl (core_queue hs) ?_); clear ha hs
  rintro e w ⟨rfl, hs⟩
  refine ⟨_, rfl, ?_⟩
  intro a ha
  refine S1 ha ?_; clear ha a; intro a ha
  refine SK (st_call ha rfl Ty.c61 rfl (core_conf hs) ?_); clear ha hs
  rintro e w ⟨rfl, hs⟩
  refine ⟨_, rfl, ?_⟩
  intro a ha
  refine SK (st_set ha rfl (ex_field1 ha Tryz.underlying30 rfl Tryz.underlying3 rfl rfl) rfl ?_); clear ha a; intro a ha
  obtain ⟨D, hs, hD⟩ := CoreS.qu hs
  refine SK (st_call ha rfl Ty.c60 rfl (queue_line hs hme) ?_); clear ha hs
  rintro e w ⟨rfl, hs⟩
  refine ⟨_, rfl, ?_⟩
  intro a ha
  refine SK (st_call ha rfl Ty.c62 rfl (q_len hs hme) ?_); clear ha hs
  rintro e w ⟨rfl, hs⟩
  refine ⟨_, rfl, ?_⟩
  intro a ha
  refine S1d ha ?_; clear ha a; intro a ha
  refine LN <| TN <| wp_ret ?_
  refine ret1 ha rfl ?_
  exact ⟨rfl, hD _ _ hs⟩
theorem core_closed (hs : St W w (CoreS B k :: L)) : Calls Tryz.prog 66 #[.pointer (some ⟨B.cb, 0, none⟩)] w fun e w' => e = .returned (.bool k.cl) ∧ St W w' (CoreS B k :: L) := by
  obtain ⟨A, hs⟩ := CoreS.open hs
  refine calls_enter Tryz.func66 rfl Tryz.ntmps66 (Nat.le_of_ble_eq_true rfl) ?_
  intro a ha
  replace ha : Fr a 11 [(0, _)] := ha
  refine WS <| WR ?_
  refine S1 ha ?_; clear ha a; intro a ha
  refine LN <| TN <| WS <| WR ?_
  iterate 3 (refine S1 ha ?_; clear ha a; intro a ha)
  iterate 3 (refine S1g (s := 5) ha ?_; clear ha a; intro a ha)
  refine SLg (s := 5) ha (hs.rd1 rfl) ?_; clear ha a; intro a ha
  refine PF ha ?_; clear ha a; intro a ha
  refine S1d ha ?_; clear ha a; intro a ha
  refine LN <| TN <| wp_ret ?_
  refine ret1 ha rfl ?_
  exact ⟨rfl, CoreS.close hs⟩
theorem core_marks (hs : St W w (CoreS B k :: L)) : Calls Tryz.prog 27 #[.pointer (some ⟨B.cb, 0, none⟩)] w fun e w' => e = .returned (.int .i64 k.mr.length) ∧ St W w' (CoreS B k :: L) := by
  obtain ⟨A, hs⟩ := CoreS.open hs
  refine calls_enter Tryz.func27 rfl Tryz.ntmps27 (Nat.le_of_ble_eq_true rfl) ?_
  intro a ha
  replace ha : Fr a 10 [(0, _)] := ha
  refine WS <| WR ?_
  refine S1 ha ?_; clear ha a; intro a ha
  refine LN <| TN <| WS <| WS <| WR ?_
  iterate 2 (refine S1 ha ?_; clear ha a; intro a ha)
  refine LN <| TN <| WFa ha <| WK <| TN <| WS <| WR ?_
  iterate 3 (refine S1 ha ?_; clear ha a; intro a ha)
  refine SL ha (hs.rd1 rfl) ?_; clear ha a; intro a ha
  refine S1 ha ?_; clear ha a; intro a ha
  refine S1d ha ?_; clear ha a; intro a ha
  refine LN <| TN <| wp_ret ?_
  refine ret1 ha rfl ?_
  exact ⟨rfl, CoreS.close hs⟩
theorem core_note (hs : St W w (CoreS B k :: L)) (he : evOk e) (hl : k.ev.length ≤ 100) : Calls Tryz.prog 90 #[.pointer (some ⟨B.cb, 0, none⟩), .agg (rawC e).toArray] w fun r w' => r = .returned (.tuple #[]) ∧ St W w' (CoreS B { k with ev := k.ev ++ [e] } :: L) := by
  obtain ⟨A, hs⟩ := CoreS.open hs
  refine calls_enter Tryz.func90 rfl Tryz.ntmps90 (Nat.le_of_ble_eq_true rfl) ?_
  intro a ha
  replace ha : Fr a 22 [(0, _), (1, _)] := ha
  refine WS <| WR ?_
  refine SK (st_box ha rfl hs rfl ?_); clear ha hs a; (try clear w); intro b3 a w ha hs ho
  clear ho
  change St W w (blk b3 144 (rawC e) :: _) at hs
  refine LN <| TN <| WS <| WR ?_
  refine SK (st_set ha rfl (ex_loadN ha Tryz.underlying144 rfl Ty.t144 (hs.rdAll (b := b3))) rfl ?_); clear ha a; intro a ha
  refine SK (st_call ha rfl Ty.c133 rfl (event_of hs he) ?_); clear ha hs
  rintro e w ⟨rfl, hs⟩
  refine ⟨_, rfl, ?_⟩
  intro a ha
  iterate 3 (refine S1 ha ?_; clear ha a; intro a ha)
  refine SK (st_alloc ha rfl hs Ty.t184 rfl ?_); clear ha hs a; (try clear w); intro b4 a w ha hs ho
  clear ho
  refine SK (st_storeAll ha rfl hs Ty.t184 (by simpa using evV_one e) (by rfl) ?_); clear ha hs a; (try clear w); intro a w ha hs
  refine S1 ha ?_; clear ha a; intro a ha
  refine LN <| TN <| WS <| WR ?_
  refine S1 ha ?_; clear ha a; intro a ha
  refine LN <| TN <| WTr ha ?_
  refine DW (m := 11) (Old w.drew) [5, 6] [0, 1, 2, 3, 4, 5, 6, 7, 8, 9, 10] Ty.mixed pk_body (fun hpk => ?_)
  replace hs := hs.drew
  have hC := Old.refl w.drew
  generalize w.drew = w at hs hC hpk ⊢
  iterate 4 (refine DP hpk ha rfl ?_; clear ha a; intro a ha)
  refine DL hpk ha rfl (fun w hc => hc.cell (hs.rd1 rfl)) hC ?_; clear ha a; intro a ha
  refine D1 rfl (st_set ha rfl (ex_loadN ha Tryz.underlying184 rfl Ty.t184 (hs.rdN 1)) rfl ?_); clear ha a; intro a ha
  refine ⟨fun _ => hC, ?_⟩
  refine D1 rfl (st_buildSlice ha rfl hs Tryz.underlying67 Ty.t184 rfl rfl rfl rfl (by decide) (by decide) ?_); clear ha hs a; (try clear w); intro b18 a w ha hs ho
  (try replace hC := hC.trans ho); clear ho
  refine ⟨fun _ => hC, ?_⟩
  refine D1 rfl (st_append ha rfl hs Tryz.underlying67 Ty.t184 rfl rfl hs.rdAll rfl (by simpa using evV_one e) (by decide) (by decide) (by omega) ?_); clear ha hs a; (try clear w); intro ad19 c19 a w ha hs
  refine ⟨fun h => absurd h (by decide), ?_⟩
  rw [show List.map evV k.ev ++ _ = List.map evV (k.ev ++ [e]) from by rw [List.map_append]; rfl, show k.ev.length + 1 = (k.ev ++ [e]).length from by simp] at hs
  rw [show k.ev.length + 1 = (k.ev ++ [e]).length from by simp] at ha
  iterate 2 (refine DP hpk ha rfl ?_; clear ha a; intro a ha)
  refine D1 rfl (st_store ha rfl hs Ty.t67 rfl (by simp) ?_); clear ha hs a; (try clear w); intro a w ha hs
  refine ⟨fun h => absurd h (by decide), ?_⟩
  refine DD ?_
  refine end0 ha rfl ?_
  exact ⟨rfl, CoreS.mk' (k := { k with ev := k.ev ++ [e] }) hs { A with adE := ad19, cE := c19 }⟩
/-- What can be read of a player's knowledge without opening it. -/
structure CoR (w : World) (B : CoB) (k : Ks) : Prop where
  cf : Rd w B.cb 0 [.int .i64 k.n, .int .i64 k.me, .int .i64 k.id, .int .i64 k.delay, .int .i64 k.window, .int .i64 k.guess, .int .i64 k.order, .int .i64 k.branches, .int .i64 k.workers, .int .i64 k.room, .pointer (some ⟨B.qb, 0, none⟩)]
  now : w.cell? ⟨B.cb, 14, none⟩ = some (.int .i64 k.now)
  cl : w.cell? ⟨B.cb, 15, none⟩ = some (.bool k.cl)
  pe : ∀ (i : Nat) (p : Pe), k.ps[i]? = some p → Rd w B.bp (B.op + i * 5) (peC p)
  ml : ∃ ad c, w.cell? ⟨B.cb, 12, none⟩ = some (.slice ad k.mr.length c)
  pl : ∃ c, w.cell? ⟨B.cb, 11, none⟩ = some (.slice (some ⟨B.bp, B.op, none⟩) k.ps.length c)
theorem rows_part {α : Type} {f : α → List Value} {sz : Nat} (hf : ∀ x, (f x).length = sz) {l : List α} {i : Nat} {x : α} {b o : Nat} (h : Rd w b o (rows f l)) (hx : l[i]? = some x) : Rd w b (o + i * sz) (f x) := by
  obtain ⟨hi, rfl⟩ := List.getElem?_eq_some_iff.1 hx
  have h1 := h.part (i * sz) sz
  rwa [rows_at hf l i hi] at h1
theorem CoreS.rd (hs : St W w (CoreS B k :: L)) : CoR w B k := by
  obtain ⟨A, hs⟩ := CoreS.open hs
  refine ⟨hs.rdN 11, hs.rd1 rfl, hs.rd1 rfl, fun i p hp => ?_, ⟨_, _, hs.rd1 rfl⟩, ⟨_, hs.rd1 rfl⟩⟩
  have hi := (List.getElem?_eq_some_iff.1 hp).1
  exact rows_part peC_len (hs.slRdAt B.bp B.op (by omega)) hp
end
end Go.Proofs.YtagpkhbkdbaigaaGreat

