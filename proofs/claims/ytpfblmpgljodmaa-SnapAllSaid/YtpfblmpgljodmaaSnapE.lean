/- SnapAll: an operation of both. -/
import Derived.Test.YtpfblmpgljodmaaSnapD
namespace Go.Proofs.Ytpfblmpgljodmaa
open Go.RowKit
set_option linter.unusedVariables false
set_option linter.unusedSimpArgs false
set_option maxRecDepth 10000
set_option synthInstance.maxSize 4000
set_option synthInstance.maxHeartbeats 400000

/-- Which picture is meant: a live one of the book, or none. -/
def Inn (A : Sn) (B : List Bz) (inn : Bool) (kI xI : Int) : Prop :=
  (inn = true ∧ ∃ (kk : Nat) (z : Bz), B[kk]? = some z ∧ 0 < z.1.refs ∧ kI = (kk : Int) ∧ xI = (z.1.id : Int)) ∨ (inn = false ∧ ∀ y ∈ A.pics, (y.id : Int) ≠ xI)
section
variable {W w : World} {L L' R : List SP} {q r bb rm nx kk c k : Nat} {A : Sn} {B : List Bz} {z : Bz} {ad : Option Addr} {inn : Bool} {kI xI : Int}
theorem make_case {g : Nat → Int} (hs : St W w (Store q r A :: L)) (hB : BkOk A B nx) (hb : A.n + 1 < 1099511627776) :
    Calls Try.prog 13 #[.pointer (some ⟨q, 0, none⟩), .agg (ints .i32 32 g).toArray] w fun e w' => ∃ (id : Nat) (ok : Bool) (A' : Sn), e = .returned (.tuple #[.int .i64 id, .bool ok]) ∧ ok = decide (A.used + 4 ≤ A.room) ∧ decide ((0 : Int) < (id : Int)) = ok ∧
      ((ok = false ∧ id = 0 ∧ A' = A) ∨ (ok = true ∧ id = B.length + 1 ∧ ∃ t, A' = A.add g t ∧ BkOk A' (B ++ [(⟨B.length + 1, 1, g, fun k => nx + 1 + k⟩, t)]) (nx + 4))) ∧ St W w' (Store q r A' :: L) := by
  by_cases hu : A.used + 4 ≤ A.room
  · exact (snap_make hs hu hb).mono fun e w' ⟨t, h1, ⟨h2, h3⟩, hs⟩ => ⟨A.last + 1, true, A.add g t, h1, (decide_eq_true hu).symm, by simp, .inr ⟨rfl, by rw [hB.last], t, rfl, hB.make (fun j hj => (h2 j hj).2) h3⟩, hs⟩
  · exact (snap_make_no hs (by omega)).mono fun e w' ⟨h1, hs⟩ => ⟨0, false, A, h1, (decide_eq_false hu).symm, rfl, .inl ⟨rfl, rfl, rfl⟩, hs⟩
theorem fork_case (hs : St W w (Store q r A :: L)) (hB : BkOk A B nx) (hi : Inn A B inn kI xI) (hb : A.n + 1 < 1099511627776) :
    Calls Try.prog 16 #[.pointer (some ⟨q, 0, none⟩), .int .i64 xI] w fun e w' => ∃ (id : Nat) (A' : Sn), e = .returned (.tuple #[.int .i64 id, .bool inn]) ∧ decide ((0 : Int) < (id : Int)) = inn ∧
      ((inn = false ∧ id = 0 ∧ A' = A) ∨ (inn = true ∧ id = B.length + 1 ∧ ∃ (kk : Nat) (z : Bz), B[kk]? = some z ∧ kI = (kk : Int) ∧ A' = A.add z.1.g z.2 ∧ BkOk A' (B ++ [(⟨B.length + 1, 1, z.1.g, z.1.p⟩, z.2)]) nx)) ∧ St W w' (Store q r A' :: L) := by
  rcases hi with ⟨rfl, kk, z, hz, h0, rfl, rfl⟩ | ⟨rfl, hn⟩
  · exact (snap_fork (x := stp z) hs (hB.at hz h0).1 hb).mono fun e w' ⟨h1, hs⟩ => ⟨A.last + 1, _, h1, by simp, .inr ⟨rfl, by rw [hB.last], kk, z, hz, rfl, rfl, hB.fork hz h0⟩, hs⟩
  · exact (snap_fork_no hs hn).mono fun e w' ⟨h1, hs⟩ => ⟨0, A, h1, rfl, .inl ⟨rfl, rfl, rfl⟩, hs⟩
theorem hold_case (hs : St W w (Store q r A :: L)) (hB : BkOk A B nx) (hi : Inn A B inn kI xI) (hb : A.n + 1 < 1099511627776) :
    Calls Try.prog 21 #[.pointer (some ⟨q, 0, none⟩), .int .i64 xI] w fun e w' => ∃ (A' : Sn), e = .returned (.bool inn) ∧
      ((inn = false ∧ A' = A) ∨ (inn = true ∧ A'.n = A.n + 1 ∧ A'.room = A.room ∧ ∃ (kk : Nat) (z : Bz), B[kk]? = some z ∧ kI = (kk : Int) ∧ z.1.refs ≤ A.n ∧ BkOk A' (B.set kk (⟨z.1.id, z.1.refs + 1, z.1.g, z.1.p⟩, z.2)) nx)) ∧ St W w' (Store q r A' :: L) := by
  rcases hi with ⟨rfl, kk, z, hz, h0, rfl, rfl⟩ | ⟨rfl, hn⟩
  · have hrf := ((Store.facts hs).1.pic _ (List.mem_of_getElem? (hB.at hz h0).1)).2.2.2
    exact (snap_hold (x := stp z) hs (hB.at hz h0).1 hb).mono fun e w' ⟨h1, hs⟩ => ⟨A.hold (idx B kk) (stp z), h1, .inr ⟨rfl, rfl, rfl, kk, z, hz, rfl, hrf, hB.same (n := A.n + 1) (y := (⟨z.1.id, z.1.refs + 1, z.1.g, z.1.p⟩, z.2)) hz h0 rfl (Nat.succ_pos _) rfl rfl⟩, hs⟩
  · exact (snap_hold_no hs hn).mono fun e w' ⟨h1, hs⟩ => ⟨A, h1, .inl ⟨rfl, rfl⟩, hs⟩
theorem drop_case (hs : St W w (Store q r A :: L)) (hB : BkOk A B nx) (hi : Inn A B inn kI xI) :
    Calls Try.prog 18 #[.pointer (some ⟨q, 0, none⟩), .int .i64 xI] w fun e w' => ∃ (A' : Sn), e = .returned (.bool inn) ∧
      ((inn = false ∧ A' = A) ∨ (inn = true ∧ A'.n = A.n ∧ A'.room = A.room ∧ ∃ (kk : Nat) (z : Bz), B[kk]? = some z ∧ kI = (kk : Int) ∧ 0 < z.1.refs ∧ z.1.refs ≤ A.n ∧ BkOk A' (B.set kk (⟨z.1.id, z.1.refs - 1, z.1.g, z.1.p⟩, z.2)) nx)) ∧ St W w' (Store q r A' :: L) := by
  rcases hi with ⟨rfl, kk, z, hz, h0, rfl, rfl⟩ | ⟨rfl, hn⟩
  · have hrf := ((Store.facts hs).1.pic _ (List.mem_of_getElem? (hB.at hz h0).1)).2.2.2
    refine (snap_drop (x := stp z) hs (hB.at hz h0).1).mono fun e w' ⟨h1, hs⟩ => ⟨A.drop (idx B kk) (stp z), h1, .inr ⟨rfl, rfl, rfl, kk, z, hz, rfl, h0, hrf, ?_⟩, hs⟩
    have hre : (stp z).refs = z.1.refs := rfl
    by_cases h1 : z.1.refs = 1
    · have := hB.gone (y := (⟨z.1.id, z.1.refs - 1, z.1.g, z.1.p⟩, z.2)) hz h0 rfl (by simp only; omega) rfl
      rw [Sn.drop, hre, if_pos h1]; exact this
    · have := hB.same (n := A.n) (y := (⟨z.1.id, z.1.refs - 1, z.1.g, z.1.p⟩, z.2)) hz h0 rfl (by simp only; omega) rfl rfl
      rw [Sn.drop, hre, if_neg h1]; exact this
  · exact (snap_drop_no hs hn).mono fun e w' ⟨h1, hs⟩ => ⟨A, h1, .inl ⟨rfl, rfl⟩, hs⟩
/-- May a cell be written, and does its page come anew? -/
def SetP (A : Sn) (B : List Bz) (kI xI C : Int) (sh wt : Bool) : Prop :=
  (wt = true ∧ ∃ (kk : Nat) (z : Bz) (c : Nat), B[kk]? = some z ∧ 0 < z.1.refs ∧ kI = (kk : Int) ∧ xI = (z.1.id : Int) ∧ C = (c : Int) ∧ c < 32 ∧ ((sh = true ∧ 1 < cntB B (z.1.p (c / 8)) ∧ A.used < A.room) ∨ (sh = false ∧ cntB B (z.1.p (c / 8)) ≤ 1))) ∨
  (wt = false ∧ ((∀ y ∈ A.pics, (y.id : Int) ≠ xI) ∨ ∃ (kk : Nat) (z : Bz), B[kk]? = some z ∧ 0 < z.1.refs ∧ xI = (z.1.id : Int) ∧ ((C < 0 ∨ 32 ≤ C) ∨ ∃ c : Nat, C = (c : Int) ∧ c < 32 ∧ 1 < cntB B (z.1.p (c / 8)) ∧ A.room ≤ A.used)))
/-- The book's picture behind a write. -/
def wrt (z : Bz) (nx c : Nat) (v : Int) (sh : Bool) : Pic := ⟨z.1.id, z.1.refs, upd z.1.g c v, if sh then fun j => if j = c / 8 then nx + 1 else z.1.p j else z.1.p⟩
theorem set_case {C v : Int} {sh wt : Bool} (hs : St W w (Store q r A :: L)) (hB : BkOk A B nx) (hi : SetP A B kI xI C sh wt) :
    Calls Try.prog 15 #[.pointer (some ⟨q, 0, none⟩), .int .i64 xI, .int .i64 C, .int .i32 v] w fun e w' => ∃ (A' : Sn), e = .returned (.bool wt) ∧
      ((wt = false ∧ A' = A) ∨ (wt = true ∧ A'.n = A.n ∧ A'.room = A.room ∧ ∃ (kk : Nat) (z : Bz) (c : Nat) (s : Nat → Nat), B[kk]? = some z ∧ kI = (kk : Int) ∧ C = (c : Int) ∧ c < 32 ∧ BkOk A' (B.set kk (wrt z nx c v sh, s)) (if sh then nx + 1 else nx))) ∧ St W w' (Store q r A' :: L) := by
  rcases hi with ⟨rfl, kk, z, c, hz, h0, rfl, rfl, rfl, hc, h⟩ | ⟨rfl, hn | ⟨kk, z, hz, h0, rfl, hc | ⟨c, rfl, hc, h1, hu⟩⟩⟩
  · obtain ⟨ha1, ha2⟩ := hB.at hz h0
    have hk4 : c / 8 < 4 := by omega
    have hcn := hB.cnt ha2 hk4
    rcases h with ⟨rfl, h1, hu⟩ | ⟨rfl, h1⟩
    · refine (snap_set_own (x := stp z) (v := v) hs ha1 hc (by rw [← hcn] at h1; exact h1) hu).mono fun e w' ⟨f, h2, ⟨_, hf⟩, hs⟩ => ⟨A.putOwn (idx B kk) (stp z) c v f, h2, .inr ⟨rfl, rfl, rfl, kk, z, c, fun j => if j = c / 8 then f else z.2 j, hz, rfl, rfl, hc, ?_⟩, hs⟩
      exact hB.own (n := A.n) (g := upd z.1.g c v) hz h0 hc hf
    · have h3 : cnt A.pics ((stp z).p (c / 8)) = 1 := by
        have h4 := cnt_mem (List.mem_of_getElem? ha1) ((stp z).p (c / 8))
        have h5 := cntP_pos (x := stp z) hk4
        have h6 : (stp z).p (c / 8) = z.2 (c / 8) := rfl
        rw [h6] at h4 h5 ⊢
        omega
      refine (snap_set (x := stp z) (v := v) hs ha1 hc h3).mono fun e w' ⟨h2, hs⟩ => ⟨A.put (idx B kk) (stp z) c v, h2, .inr ⟨rfl, rfl, rfl, kk, z, c, z.2, hz, rfl, rfl, hc, ?_⟩, hs⟩
      exact hB.same (n := A.n) (y := (wrt z nx c v false, z.2)) hz h0 rfl h0 rfl rfl
  · exact (snap_set_no hs hn).mono fun e w' ⟨h1, hs⟩ => ⟨A, h1, .inl ⟨rfl, rfl⟩, hs⟩
  · exact (snap_set_out (x := stp z) hs (hB.at hz h0).1 hc).mono fun e w' ⟨h1, hs⟩ => ⟨A, h1, .inl ⟨rfl, rfl⟩, hs⟩
  · obtain ⟨ha1, ha2⟩ := hB.at hz h0
    have hcn := hB.cnt ha2 (show c / 8 < 4 by omega)
    exact (snap_set_full (x := stp z) hs ha1 hc (by rw [← hcn] at h1; exact h1) hu).mono fun e w' ⟨h1, hs⟩ => ⟨A, h1, .inl ⟨rfl, rfl⟩, hs⟩
theorem bkc_build {id : Nat} {g : Nat → Int} {p : Nat → Nat} {s : Nat → Nat} {zs : List Value} (hz : zs.length = 38) :
    splice (splice (.int .i64 id :: .int .i64 1 :: zs.drop 2) 2 (ints .i32 32 g)) 34 (ints .i64 4 (fun k => (p k : Int))) = bkc (⟨id, 1, g, p⟩, s) := by
  have e1 : splice (.int .i64 id :: .int .i64 1 :: zs.drop 2) 2 (ints .i32 32 g) = .int .i64 id :: .int .i64 1 :: (ints .i32 32 g ++ zs.drop 34) := by
    simp [splice, ints_len, List.drop_drop]
  rw [e1]
  simp [splice, ints_len, bkc, hz]
theorem bkc_lit {id : Nat} {g : Nat → Int} {p : Nat → Nat} (s : Nat → Nat) :
    splice (splice [.int .i64 id, .int .i64 1, .int .i32 0, .int .i32 0, .int .i32 0, .int .i32 0, .int .i32 0, .int .i32 0, .int .i32 0, .int .i32 0, .int .i32 0, .int .i32 0, .int .i32 0, .int .i32 0, .int .i32 0, .int .i32 0, .int .i32 0, .int .i32 0, .int .i32 0, .int .i32 0, .int .i32 0, .int .i32 0, .int .i32 0, .int .i32 0, .int .i32 0, .int .i32 0, .int .i32 0, .int .i32 0, .int .i32 0, .int .i32 0, .int .i32 0, .int .i32 0, .int .i32 0, .int .i32 0, .int .i64 0, .int .i64 0, .int .i64 0, .int .i64 0] 2 (ints .i32 32 g)) 34 (ints .i64 4 (fun k => (p k : Int))) = bkc (⟨id, 1, g, p⟩, s) :=
  (by simp [splice, ints_len, bkc])
/-- What an operation that came in is. -/
def opc (kd P C V : Int) (al : Option Addr) (nl cl : Nat) : List Value := [.int .i64 kd, .int .i64 P, .int .i64 C, .int .i32 V, .slice al nl cl]
set_option maxHeartbeats 8000000 in
theorem do_spec {kd P C V : Int} {al : Option Addr} {cl : Nat} {zs : List Int} (hs : St W w (Book bb A.room nx B :: Store q r A :: L)) (hB : BkOk A B nx) (hb : A.n + 1 < 1000000) (hnx : nx + 4 ≤ 1000) (hBl : B.length + 1 ≤ 1000)
    (hzs : ∀ w', St W w' L → RdV w' al zs.length (I32 zs)) :
    Calls Try.prog 26 #[.pointer (some ⟨bb, 0, none⟩), .pointer (some ⟨q, 0, none⟩), .agg (opc kd P C V al zs.length cl).toArray] w fun e w' => ∃ (A' : Sn) (B' : List Bz) (nx' : Nat), e = .returned (.bool true) ∧
      (BkOk A' B' nx' ∧ A'.n ≤ A.n + 1 ∧ nx' ≤ nx + 4 ∧ B'.length ≤ B.length + 1 ∧ A'.room = A.room) ∧ St W w' (Book bb A'.room nx' B' :: Store q r A' :: L) := by
  have hu := hB.used (Store.facts (hs.store q)).2
  have hfin : ∀ (w' : World) (A' : Sn) (B' : List Bz) (nx' : Nat), St W w' (Book bb A.room nx' B' :: Store q r A' :: L) → BkOk A' B' nx' → A'.n ≤ A.n + 1 → nx' ≤ nx + 4 → B'.length ≤ B.length + 1 → A'.room = A.room →
      ∃ (A'' : Sn) (B'' : List Bz) (nx'' : Nat), Ending.returned (Value.bool true) = .returned (.bool true) ∧ (BkOk A'' B'' nx'' ∧ A''.n ≤ A.n + 1 ∧ nx'' ≤ nx + 4 ∧ B''.length ≤ B.length + 1 ∧ A''.room = A.room) ∧ St W w' (Book bb A''.room nx'' B'' :: Store q r A'' :: L) :=
    fun w' A' B' nx' hs h1 h2 h3 h4 h5 => ⟨A', B', nx', rfl, ⟨h1, h2, h3, h4, h5⟩, by rw [h5]; exact hs⟩
  refine calls_enter Try.func26 rfl Try.ntmps26 (Nat.le_of_ble_eq_true rfl) ?_
  intro a ha
  replace ha : Fr a 306 [(0, _), (1, _), (2, _)] := ha
  refine wp_seq ?_
  refine wp_region_lit ?_
  refine wpList_k (st_box ha rfl hs rfl ?_); clear ha hs; (try clear a); (try clear w); intro b5 a w ha hs ho
  clear ho
  change St W w (blk b5 59 (opc kd P C V al zs.length cl) :: _) at hs
  refine wpList_k (st_set ha rfl (ex_assign ha) rfl ?_); clear ha; (try clear a); intro a ha
  refine wpList_nil ?_
  refine then_n ?_
  refine wp_seq ?_
  refine wp_region_lit ?_
  refine wpList_k (st_set ha rfl (ex_assign ha) rfl ?_); clear ha; (try clear a); intro a ha
  refine wpList_nil ?_
  refine then_n ?_
  refine wp_seq ?_
  refine wp_region_lit ?_
  refine wpList_k (st_set ha rfl (ex_assign ha) rfl ?_); clear ha; (try clear a); intro a ha
  refine wpList_nil ?_
  refine then_n ?_
  refine wp_seq_cut (M := fun a w => ∃ (kI xI : Int), ((kI = -1 ∧ xI = 0) ∨ ∃ (kk : Nat) (z : Bz), B[kk]? = some z ∧ kI = (kk : Int) ∧ xI = (z.1.id : Int)) ∧ Fr a 306 [(0, .pointer (some ⟨bb, 0, none⟩)), (1, .pointer (some ⟨q, 0, none⟩)), (5, .pointer (some ⟨b5, 0, none⟩)), (7, .int .i64 kI), (8, .int .i64 xI)] ∧ St W w (blk b5 59 (opc kd P C V al zs.length cl) :: Book bb A.room nx B :: Store q r A :: L)) ?_ ?_
  ·
    refine wp_seq ?_
    obtain ⟨ad, cb, _, ho⟩ := Book.open (hs.drew.pick (Book bb A.room nx B))
    refine wp_draw (m := 13) (l0 := lb 13 0) (Old w.drew) [9, 10] Ty.mixed (by kernel_rfl) (by kernel_rfl) (pk_then (pk_then pk_body)) (fun hpk => ?_)
    replace hs := hs.drew
    have hC := Old.refl w.drew
    generalize w.drew = w at hs hC hpk ho ⊢
    refine nt_pure (i := 0) (listed' := lb 13 1) (by kernel_rfl) rfl (by kernel_rfl) (by decide) hpk ha rfl (fun w => ex_fieldAddr (k := 1) ha Try.underlying59 rfl Ty.t3 rfl) rfl ?_; clear ha; (try clear a); intro a ha
    refine nt_one (i := 1) (listed' := lb 13 3) (by kernel_rfl) (by kernel_rfl) rfl (st_set ha rfl (ex_load1 ha Try.underlying3 rfl (hs.rd1 rfl)) rfl ?_); clear ha; (try clear a); intro a ha
    refine ⟨fun h => absurd h (by decide), ?_⟩
    refine nt_pure (i := 2) (listed' := lb 13 7) (by kernel_rfl) rfl (by kernel_rfl) (by decide) hpk ha rfl (fun w => ex_geq ha) rfl ?_; clear ha; (try clear a); intro a ha
    refine nt_pure (i := 3) (listed' := lb 13 15) (by kernel_rfl) rfl (by kernel_rfl) (by decide) hpk ha rfl (fun w => ex_move ha) rfl ?_; clear ha; (try clear a); intro a ha
    refine ha.bool (s := 22) (fun hg3 ha => ?_) (fun hg3 ha => ?_)
    ·
      try simp only [decide_eq_true_eq, decide_eq_false_iff_not, Bool.not_eq_true', Bool.not_eq_false', Int.not_lt, Int.not_le, ne_eq, Decidable.not_not] at hg3
      refine nt_pure (i := 4) (listed' := lb 13 31) (by kernel_rfl) rfl (by kernel_rfl) (by decide) hpk ha (wgT ha rfl (s := 22)) (fun w => ex_fieldAddr (k := 1) ha Try.underlying59 rfl Ty.t3 rfl) rfl ?_; clear ha; (try clear a); intro a ha
      refine nt_pure (i := 6) (listed' := lb 13 95) (by kernel_rfl) rfl (by kernel_rfl) (by decide) hpk ha (wgT ha rfl (s := 22)) (fun w => ex_move ha) rfl ?_; clear ha; (try clear a); intro a ha
      refine nt_pure (i := 7) (listed' := lb 13 223) (by kernel_rfl) rfl (by kernel_rfl) (by decide) hpk ha (wgT ha rfl (s := 22)) (fun w => ex_nilCheck ha) rfl ?_; clear ha; (try clear a); intro a ha
      refine nt_pure (i := 8) (listed' := lb 13 479) (by kernel_rfl) rfl (by kernel_rfl) (by decide) hpk ha (wgT ha rfl (s := 22)) (fun w => ex_fieldAddr (k := 0) ha Try.underlying56 rfl Ty.t54 rfl) rfl ?_; clear ha; (try clear a); intro a ha
      refine nt_held (i := 5) (listed' := lb 13 511) (by kernel_rfl) rfl (by kernel_rfl) hpk ha (wgT ha rfl (s := 22)) (fun w hc => ex_load1 ha Try.underlying3 rfl (hc.cell (hs.rd1 rfl))) hC rfl ?_; clear ha; (try clear a); intro a ha
      refine nt_one (i := 9) (listed' := lb 13 1023) (by kernel_rfl) (by kernel_rfl) rfl (st_set ha (wgT ha rfl (s := 22)) (ex_load1 ha Try.underlying54 rfl (ho.rd1 rfl)) rfl ?_); clear ha; (try clear a); intro a ha
      refine ⟨fun _ => hC, ?_⟩
      refine nt_one (i := 10) (listed' := lb 13 2047) (by kernel_rfl) (by kernel_rfl) rfl (st_set ha (wgT ha rfl (s := 22)) (ex_len ha Try.underlying54) rfl ?_); clear ha; (try clear a); intro a ha
      refine ⟨fun _ => hC, ?_⟩
      refine nt_pure (i := 11) (listed' := lb 13 4095) (by kernel_rfl) rfl (by kernel_rfl) (by decide) hpk ha (wgT ha rfl (s := 22)) (fun w => ex_lss ha) rfl ?_; clear ha; (try clear a); intro a ha
      refine nt_pure (i := 12) (listed' := lb 13 8191) (by kernel_rfl) rfl (by kernel_rfl) (by decide) hpk ha rfl (fun w => ex_pickT ha) rfl ?_; clear ha; (try clear a); intro a ha
      refine nt_done (by kernel_rfl) ?_ _
      refine then_n ?_
      refine wp_if ha (fun hc0 => ?_) (fun hc0 => ?_)
      ·
        try simp only [decide_eq_true_eq, decide_eq_false_iff_not, Bool.not_eq_true', Bool.not_eq_false', Int.not_lt, Int.not_le, ne_eq, Decidable.not_not] at hc0
        refine wp_seq ?_
        obtain ⟨kk, hkk⟩ : ∃ kk : Nat, P = (kk : Int) := ⟨P.toNat, by omega⟩
        obtain ⟨z, hz⟩ : ∃ z, B[kk]? = some z := ⟨_, List.getElem?_eq_getElem (by omega)⟩
        refine wp_region_lit ?_
        refine wpList_k (st_set ha rfl (ex_fieldAddr (k := 1) ha Try.underlying59 rfl Ty.t3 rfl) rfl ?_); clear ha; (try clear a); intro a ha
        refine wpList_k (st_set ha rfl (ex_load1 ha Try.underlying3 rfl (hs.rd1 rfl)) rfl ?_); clear ha; (try clear a); intro a ha
        replace ha := ha.del 7
        refine wpList_k (st_set ha rfl (ex_assign ha) rfl ?_); clear ha; (try clear a); intro a ha
        refine wpList_nil ?_
        rw [hkk] at ha
        refine then_n ?_
        obtain ⟨ad, cb, _, ho⟩ := Book.open (hs.pick (Book bb A.room nx B))
        obtain ⟨b', off', hade, hrd⟩ := ho.slRd ad (by omega)
        refine wp_region_lit ?_
        refine wpList_k (st_set ha rfl (ex_move ha) rfl ?_); clear ha; (try clear a); intro a ha
        refine wpList_k (st_set ha rfl (ex_nilCheck ha) rfl ?_); clear ha; (try clear a); intro a ha
        refine wpList_k (st_set ha rfl (ex_fieldAddr (k := 0) ha Try.underlying56 rfl Ty.t54 rfl) rfl ?_); clear ha; (try clear a); intro a ha
        refine wpList_k (st_set ha rfl (ex_load1 ha Try.underlying54 rfl (ho.rd1 rfl)) rfl ?_); clear ha; (try clear a); intro a ha
        rw [hade] at ha
        refine wpList_k (st_set ha rfl (ex_move ha) rfl ?_); clear ha; (try clear a); intro a ha
        refine wpList_k (st_set ha rfl (ex_indexAddr ha Try.underlying54 Ty.t92 (by omega)) rfl ?_); clear ha; (try clear a); intro a ha
        refine wpList_k (st_set ha rfl (ex_fieldAddr (k := 0) ha Try.underlying92 rfl Ty.t25 rfl) rfl ?_); clear ha; (try clear a); intro a ha
        refine wpList_k (st_set ha rfl (ex_load1 ha Try.underlying25 rfl ((bk_rd hrd hz) 0 _ rfl)) rfl ?_); clear ha; (try clear a); intro a ha
        replace ha := ha.del 8
        refine wpList_k (st_set ha rfl (ex_assign ha) rfl ?_); clear ha; (try clear a); intro a ha
        refine wpList_nil ?_
        refine then_n ?_
        exact ⟨kk, z.1.id, .inr ⟨kk, z, hz, rfl, rfl⟩, ha.keep [0, 1, 5, 7, 8], hs.sub⟩
      ·
        try simp only [decide_eq_true_eq, decide_eq_false_iff_not, Bool.not_eq_true', Bool.not_eq_false', Int.not_lt, Int.not_le, ne_eq, Decidable.not_not] at hc0
        refine wp_skip ?_
        refine then_n ?_
        exact ⟨-1, 0, .inl ⟨rfl, rfl⟩, ha.keep [0, 1, 5, 7, 8], hs.sub⟩
    ·
      try simp only [decide_eq_true_eq, decide_eq_false_iff_not, Bool.not_eq_true', Bool.not_eq_false', Int.not_lt, Int.not_le, ne_eq, Decidable.not_not] at hg3
      refine nt_off (i := 4) (listed' := lb 13 31) (by kernel_rfl) rfl (by kernel_rfl) (by decide) hpk ha (wgF ha rfl (s := 22) rfl) rfl ?_; clear ha; (try clear a); intro a ha
      refine nt_off (i := 6) (listed' := lb 13 95) (by kernel_rfl) rfl (by kernel_rfl) (by decide) hpk ha (wgF ha rfl (s := 22) rfl) rfl ?_; clear ha; (try clear a); intro a ha
      refine nt_off (i := 7) (listed' := lb 13 223) (by kernel_rfl) rfl (by kernel_rfl) (by decide) hpk ha (wgF ha rfl (s := 22) rfl) rfl ?_; clear ha; (try clear a); intro a ha
      refine nt_off (i := 8) (listed' := lb 13 479) (by kernel_rfl) rfl (by kernel_rfl) (by decide) hpk ha (wgF ha rfl (s := 22) rfl) rfl ?_; clear ha; (try clear a); intro a ha
      refine nt_offH (i := 5) (listed' := lb 13 511) (by kernel_rfl) rfl (by kernel_rfl) hpk ha (wgF ha rfl (s := 22) rfl) hC rfl ?_; clear ha; (try clear a); intro a ha
      refine nt_offH (i := 9) (listed' := lb 13 1023) (by kernel_rfl) rfl (by kernel_rfl) hpk ha (wgF ha rfl (s := 22) rfl) hC rfl ?_; clear ha; (try clear a); intro a ha
      refine nt_offH (i := 10) (listed' := lb 13 2047) (by kernel_rfl) rfl (by kernel_rfl) hpk ha (wgF ha rfl (s := 22) rfl) hC rfl ?_; clear ha; (try clear a); intro a ha
      refine nt_off (i := 11) (listed' := lb 13 4095) (by kernel_rfl) rfl (by kernel_rfl) (by decide) hpk ha (wgF ha rfl (s := 22) rfl) rfl ?_; clear ha; (try clear a); intro a ha
      refine nt_pure (i := 12) (listed' := lb 13 8191) (by kernel_rfl) rfl (by kernel_rfl) (by decide) hpk ha rfl (fun w => ex_pickF ha) rfl ?_; clear ha; (try clear a); intro a ha
      refine nt_done (by kernel_rfl) ?_ _
      refine then_n ?_
      refine wp_ifF ha ?_
      refine wp_skip ?_
      refine then_n ?_
      exact ⟨-1, 0, .inl ⟨rfl, rfl⟩, ha.keep [0, 1, 5, 7, 8], hs.sub⟩
  · clear ha; (try clear hs)
    intro a w hcut
    obtain ⟨kI, xI, hkx, ha, hs⟩ := hcut
    refine wp_seq_cut (M := fun a w => ∃ inn : Bool, Inn A B inn kI xI ∧ Fr a 306 [(0, .pointer (some ⟨bb, 0, none⟩)), (1, .pointer (some ⟨q, 0, none⟩)), (5, .pointer (some ⟨b5, 0, none⟩)), (7, .int .i64 kI), (8, .int .i64 xI), (9, .bool inn)] ∧ St W w (blk b5 59 (opc kd P C V al zs.length cl) :: Book bb A.room nx B :: Store q r A :: L)) ?_ ?_
    ·
      refine wp_region_lit ?_
      refine wpList_k (st_set ha rfl (ex_move ha) rfl ?_); clear ha; (try clear a); intro a ha
      refine wpList_k (st_set ha rfl (ex_geq ha) rfl ?_); clear ha; (try clear a); intro a ha
      refine wpList_k (st_set ha rfl (ex_move ha) rfl ?_); clear ha; (try clear a); intro a ha
      refine ha.bool (s := 44) (fun hg2 ha => ?_) (fun hg2 ha => ?_)
      ·
        try simp only [decide_eq_true_eq, decide_eq_false_iff_not, Bool.not_eq_true', Bool.not_eq_false', Int.not_lt, Int.not_le, ne_eq, Decidable.not_not] at hg2
        obtain ⟨kk, z, hz, ek, ex⟩ := hkx.resolve_left (fun h => by omega)
        rw [ek] at ha
        obtain ⟨ad, cb, _, ho⟩ := Book.open (hs.pick (Book bb A.room nx B))
        have hkB := (List.getElem?_eq_some_iff.1 hz).1
        obtain ⟨b', off', hade, hrd⟩ := ho.slRd ad (by omega)
        refine wpList_k (st_set ha (wgT ha rfl (s := 44)) (ex_move ha) rfl ?_); clear ha; (try clear a); intro a ha
        refine wpList_k (st_set ha (wgT ha rfl (s := 44)) (ex_nilCheck ha) rfl ?_); clear ha; (try clear a); intro a ha
        refine wpList_k (st_set ha (wgT ha rfl (s := 44)) (ex_fieldAddr (k := 0) ha Try.underlying56 rfl Ty.t54 rfl) rfl ?_); clear ha; (try clear a); intro a ha
        refine wpList_k (st_set ha (wgT ha rfl (s := 44)) (ex_load1 ha Try.underlying54 rfl (ho.rd1 rfl)) rfl ?_); clear ha; (try clear a); intro a ha
        rw [hade] at ha
        refine wpList_k (st_set ha (wgT ha rfl (s := 44)) (ex_move ha) rfl ?_); clear ha; (try clear a); intro a ha
        refine wpList_k (st_set ha (wgT ha rfl (s := 44)) (ex_indexAddr ha Try.underlying54 Ty.t92 (by omega)) rfl ?_); clear ha; (try clear a); intro a ha
        refine wpList_k (st_set ha (wgT ha rfl (s := 44)) (ex_fieldAddr (k := 1) ha Try.underlying92 rfl Ty.t3 rfl) rfl ?_); clear ha; (try clear a); intro a ha
        refine wpList_k (st_set ha (wgT ha rfl (s := 44)) (ex_load1 ha Try.underlying3 rfl ((bk_rd hrd hz) 1 _ rfl)) rfl ?_); clear ha; (try clear a); intro a ha
        refine wpList_k (st_set ha (wgT ha rfl (s := 44)) (ex_gtr ha) rfl ?_); clear ha; (try clear a); intro a ha
        refine wpList_k (st_set ha rfl (ex_pickT ha) rfl ?_); clear ha; (try clear a); intro a ha
        refine wpList_k (st_set ha rfl (ex_assign ha) rfl ?_); clear ha; (try clear a); intro a ha
        refine wpList_nil ?_
        refine then_n ?_
        rw [← ek] at ha
        refine ⟨decide ((0 : Int) < (z.1.refs : Int)), ?_, ha.keep [0, 1, 5, 7, 8, 9], hs.sub⟩
        by_cases h0 : 0 < z.1.refs
        · exact .inl ⟨decide_eq_true (by omega), kk, z, hz, h0, ek, ex⟩
        · exact .inr ⟨decide_eq_false (by omega), by rw [ex]; exact hB.dead hz (by omega)⟩
      ·
        try simp only [decide_eq_true_eq, decide_eq_false_iff_not, Bool.not_eq_true', Bool.not_eq_false', Int.not_lt, Int.not_le, ne_eq, Decidable.not_not] at hg2
        refine wpList_k (st_off ha (wgF ha rfl (s := 44) rfl) rfl ?_); clear ha; (try clear a); intro a ha
        refine wpList_k (st_off ha (wgF ha rfl (s := 44) rfl) rfl ?_); clear ha; (try clear a); intro a ha
        refine wpList_k (st_off ha (wgF ha rfl (s := 44) rfl) rfl ?_); clear ha; (try clear a); intro a ha
        refine wpList_k (st_off ha (wgF ha rfl (s := 44) rfl) rfl ?_); clear ha; (try clear a); intro a ha
        refine wpList_k (st_off ha (wgF ha rfl (s := 44) rfl) rfl ?_); clear ha; (try clear a); intro a ha
        refine wpList_k (st_off ha (wgF ha rfl (s := 44) rfl) rfl ?_); clear ha; (try clear a); intro a ha
        refine wpList_k (st_off ha (wgF ha rfl (s := 44) rfl) rfl ?_); clear ha; (try clear a); intro a ha
        refine wpList_k (st_off ha (wgF ha rfl (s := 44) rfl) rfl ?_); clear ha; (try clear a); intro a ha
        refine wpList_k (st_off ha (wgF ha rfl (s := 44) rfl) rfl ?_); clear ha; (try clear a); intro a ha
        refine wpList_k (st_set ha rfl (ex_pickF ha) rfl ?_); clear ha; (try clear a); intro a ha
        refine wpList_k (st_set ha rfl (ex_assign ha) rfl ?_); clear ha; (try clear a); intro a ha
        refine wpList_nil ?_
        refine then_n ?_
        refine ⟨false, .inr ⟨rfl, ?_⟩, ha.keep [0, 1, 5, 7, 8, 9], hs.sub⟩
        rcases hkx with ⟨_, ex⟩ | ⟨kk, z, _, ek, _⟩
        · rw [ex]; exact hB.none
        · omega
    · clear ha; (try clear hs)
      intro a w hcut
      obtain ⟨inn, hi, ha, hs⟩ := hcut
      refine wp_seq ?_
      refine wp_seq ?_
      refine wp_region_lit ?_
      refine wpList_k (st_set ha rfl (ex_fieldAddr (k := 0) ha Try.underlying59 rfl Ty.t3 rfl) rfl ?_); clear ha; (try clear a); intro a ha
      refine wpList_k (st_set ha rfl (ex_load1 ha Try.underlying3 rfl (hs.rd1 rfl)) rfl ?_); clear ha; (try clear a); intro a ha
      refine wpList_nil ?_
      refine then_n ?_
      refine wp_block ?_
      refine wp_seq ?_
      refine wp_region_lit ?_
      refine wpList_k (st_set ha rfl (ex_eql ha) rfl ?_); clear ha; (try clear a); intro a ha
      refine wpList_k (st_set ha rfl (ex_assign ha) rfl ?_); clear ha; (try clear a); intro a ha
      refine wpList_nil ?_
      refine then_n ?_
      refine wp_if ha (fun hc1 => ?_) (fun hc1 => ?_)
      ·
        try simp only [decide_eq_true_eq, decide_eq_false_iff_not, Bool.not_eq_true', Bool.not_eq_false', Int.not_lt, Int.not_le, ne_eq, Decidable.not_not] at hc1
        refine wp_seq ?_
        refine wp_region_lit ?_
        refine wpList_k (st_set ha rfl (ex_fieldAddr (k := 4) ha Try.underlying59 rfl Ty.t31 rfl) rfl ?_); clear ha; (try clear a); intro a ha
        refine wpList_k (st_set ha rfl (ex_load1 ha Try.underlying31 rfl (hs.rd1 rfl)) rfl ?_); clear ha; (try clear a); intro a ha
        refine wpList_k (st_call ha rfl Ty.c14 rfl (of_spec hs (fun w' h => hzs w' h.sub)) ?_); clear ha hs
        rintro e w ⟨rfl, hs⟩
        refine ⟨_, rfl, ?_⟩
        intro a ha
        refine wpList_k (st_alloc ha rfl hs Ty.t29 rfl ?_); clear ha hs; (try clear a); (try clear w); intro b10 a w ha hs ho
        clear ho
        change St W w (blk b10 29 (ints .i32 32 (fun _ => 0)) :: _) at hs
        refine wpList_k (st_storeAll ha rfl hs Ty.t29 ints_one (by rw [ints_len, ints_len]) ?_); clear ha hs; (try clear a); (try clear w); intro a w ha hs
        refine wpList_nil ?_
        refine then_n ?_
        refine wp_seq ?_
        refine wp_region_lit ?_
        refine wpList_k (st_set ha rfl (ex_move ha) rfl ?_); clear ha; (try clear a); intro a ha
        refine wpList_k (st_set ha rfl (ex_loadN ha Try.underlying29 rfl Ty.t29 (hs.rdAll)) rfl ?_); clear ha; (try clear a); intro a ha
        refine wpList_k (st_call ha rfl Ty.c13 rfl (make_case (hs.store q) hB (by omega)) ?_); clear ha hs
        rintro e w ⟨id, ok, A', rfl, hok, hdz, hcase, hs⟩
        refine ⟨_, rfl, ?_⟩
        intro a ha
        refine wpList_k (st_set ha rfl (ex_move ha) rfl ?_); clear ha; (try clear a); intro a ha
        refine wpList_k (st_set ha rfl (ex_extract ha rfl) rfl ?_); clear ha; (try clear a); intro a ha
        refine wpList_k (st_set ha rfl (ex_extract ha rfl) rfl ?_); clear ha; (try clear a); intro a ha
        refine wpList_k (st_set ha rfl (ex_assign ha) rfl ?_); clear ha; (try clear a); intro a ha
        refine wpList_k (st_set ha rfl (ex_assign ha) rfl ?_); clear ha; (try clear a); intro a ha
        refine wpList_nil ?_
        refine then_n ?_
        refine wp_seq ?_
        have hbr : w.drew.cell? ⟨bb, 2, none⟩ = some (.int .i64 A.room) := by
          obtain ⟨_, _, _, ho⟩ := Book.open (hs.drew.pick (Book bb A.room nx B))
          exact ho.rd1 rfl
        refine wp_draw (m := 9) (l0 := lb 9 0) (fun w' => w'.cell? ⟨bb, 2, none⟩ = some (.int .i64 A.room)) [5] Ty.mixed (by kernel_rfl) (by kernel_rfl) (pk_then (pk_blk (pk_then pk_body))) (fun hpk => ?_)
        replace hs := hs.drew
        generalize w.drew = w at hs hpk hbr ⊢
        have hC := hbr
        refine nt_pure (i := 0) (listed' := lb 9 1) (by kernel_rfl) rfl (by kernel_rfl) (by decide) hpk ha rfl (fun w => ex_move ha) rfl ?_; clear ha; (try clear a); intro a ha
        refine nt_pure (i := 1) (listed' := lb 9 3) (by kernel_rfl) rfl (by kernel_rfl) (by decide) hpk ha rfl (fun w => ex_nilCheck ha) rfl ?_; clear ha; (try clear a); intro a ha
        refine nt_pure (i := 2) (listed' := lb 9 7) (by kernel_rfl) rfl (by kernel_rfl) (by decide) hpk ha rfl (fun w => ex_fieldAddr (k := 2) ha Try.underlying56 rfl Ty.t3 rfl) rfl ?_; clear ha; (try clear a); intro a ha
        refine nt_pure (i := 4) (listed' := lb 9 23) (by kernel_rfl) rfl (by kernel_rfl) (by decide) hpk ha rfl (fun w => ex_move ha) rfl ?_; clear ha; (try clear a); intro a ha
        refine nt_held (i := 3) (listed' := lb 9 31) (by kernel_rfl) rfl (by kernel_rfl) hpk ha rfl (fun w hc => ex_load1 ha Try.underlying3 rfl (hc)) hC rfl ?_; clear ha; (try clear a); intro a ha
        refine nt_one (i := 5) (listed' := lb 9 63) (by kernel_rfl) (by kernel_rfl) rfl (st_call ha rfl Ty.c43 rfl (used_spec (hs.pick (Book bb A.room nx B)) hB.zero (by omega)) ?_); clear ha hs
        rintro e w ⟨rfl, hs⟩
        refine ⟨_, rfl, ?_⟩
        intro a ha
        replace hC : (fun w' => w'.cell? ⟨bb, 2, none⟩ = some (.int .i64 A.room)) w := (by
          obtain ⟨_, _, _, ho⟩ := Book.open (hs.pick (Book bb A.room nx B))
          exact ho.rd1 rfl)
        refine ⟨fun _ => hC, ?_⟩
        have hul := usedTo_le B nx
        have hrm := (Store.facts (hs.store q)).1.room
        have hrm2 : A'.room = A.room := by
          rcases hcase with ⟨_, _, e⟩ | ⟨_, _, t, e, _⟩ <;> rw [e] <;> rfl
        refine nt_pure (i := 6) (listed' := lb 9 127) (by kernel_rfl) rfl (by kernel_rfl) (by decide) hpk ha rfl (fun w => ex_subI ha (by omega) (by omega)) rfl ?_; clear ha; (try clear a); intro a ha
        refine nt_pure (i := 7) (listed' := lb 9 255) (by kernel_rfl) rfl (by kernel_rfl) (by decide) hpk ha rfl (fun w => ex_geq ha) rfl ?_; clear ha; (try clear a); intro a ha
        rw [← hu, show decide ((4 : Int) ≤ (A.room : Int) - (A.used : Int)) = ok from by rw [hok, decide_eq_decide]; omega] at ha
        refine nt_pure (i := 8) (listed' := lb 9 511) (by kernel_rfl) rfl (by kernel_rfl) (by decide) hpk ha rfl (fun w => ex_assign ha) rfl ?_; clear ha; (try clear a); intro a ha
        refine nt_done (by kernel_rfl) ?_ _
        refine then_n ?_
        refine wp_seq ?_
        refine wp_seq ?_
        refine wp_region_lit ?_
        refine wpList_k (st_set ha rfl (ex_move ha) rfl ?_); clear ha; (try clear a); intro a ha
        refine wpList_k (st_set ha rfl (ex_move ha) rfl ?_); clear ha; (try clear a); intro a ha
        refine wpList_k (st_set ha rfl (ex_neqB ha Try.underlying4) rfl ?_); clear ha; (try clear a); intro a ha
        rw [bne_self_eq_false] at ha
        refine wpList_k (st_set ha rfl (ex_move ha) rfl ?_); clear ha; (try clear a); intro a ha
        refine wpList_k (st_set ha (wgT ha rfl (s := 170)) (ex_move ha) rfl ?_); clear ha; (try clear a); intro a ha
        refine wpList_k (st_set ha (wgT ha rfl (s := 170)) (ex_move ha) rfl ?_); clear ha; (try clear a); intro a ha
        refine wpList_k (st_set ha (wgT ha rfl (s := 170)) (ex_gtr ha) rfl ?_); clear ha; (try clear a); intro a ha
        refine wpList_k (st_set ha (wgT ha rfl (s := 170)) (ex_neqB ha Try.underlying4) rfl ?_); clear ha; (try clear a); intro a ha
        rw [hdz, bne_self_eq_false] at ha
        refine wpList_k (st_set ha rfl (ex_pickF ha) rfl ?_); clear ha; (try clear a); intro a ha
        refine wpList_nil ?_
        refine then_n ?_
        refine wp_ifF ha ?_
        refine wp_skip ?_
        refine then_n ?_
        refine wp_seq ?_
        refine wp_seq ?_
        refine wp_region_lit ?_
        refine wpList_k (st_set ha rfl (ex_move ha) rfl ?_); clear ha; (try clear a); intro a ha
        refine wpList_nil ?_
        refine then_n ?_
        refine wp_if ha (fun hc3 => ?_) (fun hc3 => ?_)
        ·
          try simp only [decide_eq_true_eq, decide_eq_false_iff_not, Bool.not_eq_true', Bool.not_eq_false', Int.not_lt, Int.not_le, ne_eq, Decidable.not_not] at hc3
          obtain ⟨_, hid, t, eA, hB'⟩ := hcase.resolve_left (fun h => by rw [hc3] at h; cases h.1)
          rw [hid] at ha
          obtain ⟨zn, hzn⟩ : ∃ zn : Bz, (⟨B.length + 1, 1, ofL zs, fun k => nx + 1 + k⟩, t) = zn := ⟨_, rfl⟩
          rw [hzn] at hB'
          refine wp_seq ?_
          obtain ⟨ad, cb, _, hs1⟩ := Book.open (hs.pick (Book bb A.room nx B))
          replace hs := hs1
          clear hs1
          refine wp_draw (m := 34) (l0 := lb 34 0) (Old w.drew) [6, 10, 11, 15, 16, 20, 21, 25, 26, 27, 28, 29] Ty.mixed (by kernel_rfl) (by kernel_rfl) (pk_then (pk_then (pk_blk (pk_then pk_body)))) (fun hpk => ?_)
          replace hs := hs.drew
          have hC := Old.refl w.drew
          generalize w.drew = w at hs hC hpk ⊢
          refine nt_pure (i := 0) (listed' := lb 34 1) (by kernel_rfl) rfl (by kernel_rfl) (by decide) hpk ha rfl (fun w => ex_move ha) rfl ?_; clear ha; (try clear a); intro a ha
          refine nt_pure (i := 1) (listed' := lb 34 3) (by kernel_rfl) rfl (by kernel_rfl) (by decide) hpk ha rfl (fun w => ex_move ha) rfl ?_; clear ha; (try clear a); intro a ha
          refine nt_pure (i := 2) (listed' := lb 34 7) (by kernel_rfl) rfl (by kernel_rfl) (by decide) hpk ha rfl (fun w => ex_nilCheck ha) rfl ?_; clear ha; (try clear a); intro a ha
          refine nt_pure (i := 3) (listed' := lb 34 15) (by kernel_rfl) rfl (by kernel_rfl) (by decide) hpk ha rfl (fun w => ex_fieldAddr (k := 0) ha Try.underlying56 rfl Ty.t54 rfl) rfl ?_; clear ha; (try clear a); intro a ha
          refine nt_pure (i := 5) (listed' := lb 34 47) (by kernel_rfl) rfl (by kernel_rfl) (by decide) hpk ha rfl (fun w => ex_move ha) rfl ?_; clear ha; (try clear a); intro a ha
          refine nt_pure (i := 7) (listed' := lb 34 175) (by kernel_rfl) rfl (by kernel_rfl) (by decide) hpk ha rfl (fun w => ex_move ha) rfl ?_; clear ha; (try clear a); intro a ha
          refine nt_pure (i := 8) (listed' := lb 34 431) (by kernel_rfl) rfl (by kernel_rfl) (by decide) hpk ha rfl (fun w => ex_nilCheck ha) rfl ?_; clear ha; (try clear a); intro a ha
          refine nt_pure (i := 9) (listed' := lb 34 943) (by kernel_rfl) rfl (by kernel_rfl) (by decide) hpk ha rfl (fun w => ex_fieldAddr (k := 1) ha Try.underlying56 rfl Ty.t3 rfl) rfl ?_; clear ha; (try clear a); intro a ha
          refine nt_pure (i := 12) (listed' := lb 34 5039) (by kernel_rfl) rfl (by kernel_rfl) (by decide) hpk ha rfl (fun w => ex_move ha) rfl ?_; clear ha; (try clear a); intro a ha
          refine nt_pure (i := 13) (listed' := lb 34 13231) (by kernel_rfl) rfl (by kernel_rfl) (by decide) hpk ha rfl (fun w => ex_nilCheck ha) rfl ?_; clear ha; (try clear a); intro a ha
          refine nt_pure (i := 14) (listed' := lb 34 29615) (by kernel_rfl) rfl (by kernel_rfl) (by decide) hpk ha rfl (fun w => ex_fieldAddr (k := 1) ha Try.underlying56 rfl Ty.t3 rfl) rfl ?_; clear ha; (try clear a); intro a ha
          refine nt_pure (i := 17) (listed' := lb 34 160687) (by kernel_rfl) rfl (by kernel_rfl) (by decide) hpk ha rfl (fun w => ex_move ha) rfl ?_; clear ha; (try clear a); intro a ha
          refine nt_pure (i := 18) (listed' := lb 34 422831) (by kernel_rfl) rfl (by kernel_rfl) (by decide) hpk ha rfl (fun w => ex_nilCheck ha) rfl ?_; clear ha; (try clear a); intro a ha
          refine nt_pure (i := 19) (listed' := lb 34 947119) (by kernel_rfl) rfl (by kernel_rfl) (by decide) hpk ha rfl (fun w => ex_fieldAddr (k := 1) ha Try.underlying56 rfl Ty.t3 rfl) rfl ?_; clear ha; (try clear a); intro a ha
          refine nt_pure (i := 22) (listed' := lb 34 5141423) (by kernel_rfl) rfl (by kernel_rfl) (by decide) hpk ha rfl (fun w => ex_move ha) rfl ?_; clear ha; (try clear a); intro a ha
          refine nt_pure (i := 23) (listed' := lb 34 13530031) (by kernel_rfl) rfl (by kernel_rfl) (by decide) hpk ha rfl (fun w => ex_nilCheck ha) rfl ?_; clear ha; (try clear a); intro a ha
          refine nt_pure (i := 24) (listed' := lb 34 30307247) (by kernel_rfl) rfl (by kernel_rfl) (by decide) hpk ha rfl (fun w => ex_fieldAddr (k := 1) ha Try.underlying56 rfl Ty.t3 rfl) rfl ?_; clear ha; (try clear a); intro a ha
          refine nt_held (i := 4) (listed' := lb 34 30307263) (by kernel_rfl) rfl (by kernel_rfl) hpk ha rfl (fun w hc => ex_load1 ha Try.underlying54 rfl (hc.cell (hs.rd1 rfl))) hC rfl ?_; clear ha; (try clear a); intro a ha
          refine nt_held (i := 6) (listed' := lb 34 30307327) (by kernel_rfl) rfl (by kernel_rfl) hpk ha rfl (fun w hc => ex_loadN ha Try.underlying29 rfl Ty.t29 (hc.rd (hs.rdAll))) hC rfl ?_; clear ha; (try clear a); intro a ha
          refine nt_held (i := 10) (listed' := lb 34 30308351) (by kernel_rfl) rfl (by kernel_rfl) hpk ha rfl (fun w hc => ex_load1 ha Try.underlying3 rfl (hc.cell (hs.rd1 rfl))) hC rfl ?_; clear ha; (try clear a); intro a ha
          refine nt_held (i := 11) (listed' := lb 34 30310399) (by kernel_rfl) rfl (by kernel_rfl) hpk ha rfl (fun w hc => ex_addI ha (by omega) (by omega)) hC rfl ?_; clear ha; (try clear a); intro a ha
          refine nt_held (i := 15) (listed' := lb 34 30343167) (by kernel_rfl) rfl (by kernel_rfl) hpk ha rfl (fun w hc => ex_load1 ha Try.underlying3 rfl (hc.cell (hs.rd1 rfl))) hC rfl ?_; clear ha; (try clear a); intro a ha
          refine nt_held (i := 16) (listed' := lb 34 30408703) (by kernel_rfl) rfl (by kernel_rfl) hpk ha rfl (fun w hc => ex_addI ha (by omega) (by omega)) hC rfl ?_; clear ha; (try clear a); intro a ha
          refine nt_held (i := 20) (listed' := lb 34 31457279) (by kernel_rfl) rfl (by kernel_rfl) hpk ha rfl (fun w hc => ex_load1 ha Try.underlying3 rfl (hc.cell (hs.rd1 rfl))) hC rfl ?_; clear ha; (try clear a); intro a ha
          refine nt_held (i := 21) (listed' := lb 34 33554431) (by kernel_rfl) rfl (by kernel_rfl) hpk ha rfl (fun w hc => ex_addI ha (by omega) (by omega)) hC rfl ?_; clear ha; (try clear a); intro a ha
          refine nt_one (i := 25) (listed' := lb 34 67108863) (by kernel_rfl) (by kernel_rfl) rfl (st_set ha rfl (ex_load1 ha Try.underlying3 rfl (hs.rd1 rfl)) rfl ?_); clear ha; (try clear a); intro a ha
          refine ⟨fun _ => hC, ?_⟩
          refine nt_one (i := 26) (listed' := lb 34 134217727) (by kernel_rfl) (by kernel_rfl) rfl (st_set ha rfl (ex_addI ha (by omega) (by omega)) rfl ?_); clear ha; (try clear a); intro a ha
          refine ⟨fun _ => hC, ?_⟩
          refine nt_one (i := 27) (listed' := lb 34 268435455) (by kernel_rfl) (by kernel_rfl) rfl (st_set ha rfl (ex_buildA ha Try.underlying67 Ty.t67 Ty.t3 rfl rfl) rfl ?_); clear ha; (try clear a); intro a ha
          refine ⟨fun _ => hC, ?_⟩
          change Fr a 306 ((204, .agg (ints .i64 4 (fun k => ((nx + 1 + k : Nat) : Int))).toArray) :: _) at ha
          refine nt_one (i := 28) (listed' := lb 34 536870911) (by kernel_rfl) (by kernel_rfl) rfl (st_set ha rfl (ex_build ha Ty.b92 Ty.t92 rfl) rfl ?_); clear ha; (try clear a); intro a ha
          refine ⟨fun _ => hC, ?_⟩
          rw [bkc_lit (p := fun k => nx + 1 + k) t, hzn] at ha
          refine nt_one (i := 29) (listed' := lb 34 1073741823) (by kernel_rfl) (by kernel_rfl) rfl (st_buildSlice ha rfl hs Try.underlying54 Ty.t92 rfl rfl rfl rfl (by decide) (by decide) ?_); clear ha hs; (try clear a); (try clear w); intro b206 a w ha hs ho
          (try replace hC := hC.trans ho); clear ho
          refine ⟨fun _ => hC, ?_⟩
          refine nt_one (i := 30) (listed' := lb 34 2147483647) (by kernel_rfl) (by kernel_rfl) rfl (st_append ha rfl hs Try.underlying54 Ty.t92 rfl rfl hs.rdAll rfl (by simpa using bkc_one _) (by decide) (by decide) (by omega) ?_); clear ha hs; (try clear a); (try clear w); intro ad207 c207 a w ha hs
          refine ⟨fun h => absurd h (by decide), ?_⟩
          rw [bk_snoc] at hs
          refine nt_pure (i := 31) (listed' := lb 34 4294967295) (by kernel_rfl) rfl (by kernel_rfl) (by decide) hpk ha rfl (fun w => ex_nilCheck ha) rfl ?_; clear ha; (try clear a); intro a ha
          refine nt_pure (i := 32) (listed' := lb 34 8589934591) (by kernel_rfl) rfl (by kernel_rfl) (by decide) hpk ha rfl (fun w => ex_fieldAddr (k := 0) ha Try.underlying56 rfl Ty.t54 rfl) rfl ?_; clear ha; (try clear a); intro a ha
          refine nt_one (i := 33) (listed' := lb 34 17179869183) (by kernel_rfl) (by kernel_rfl) rfl (st_store ha rfl hs Ty.t54 rfl (by simp) ?_); clear ha hs; (try clear a); (try clear w); intro a w ha hs
          refine ⟨fun h => absurd h (by decide), ?_⟩
          refine nt_done (by kernel_rfl) ?_ _
          refine then_n ?_
          refine wp_region_lit ?_
          refine wpList_k (st_set ha rfl (ex_move ha) rfl ?_); clear ha; (try clear a); intro a ha
          refine wpList_k (st_set ha rfl (ex_nilCheck ha) rfl ?_); clear ha; (try clear a); intro a ha
          refine wpList_k (st_set ha rfl (ex_fieldAddr (k := 1) ha Try.underlying56 rfl Ty.t3 rfl) rfl ?_); clear ha; (try clear a); intro a ha
          refine wpList_k (st_set ha rfl (ex_load1 ha Try.underlying3 rfl (hs.rd1 rfl)) rfl ?_); clear ha; (try clear a); intro a ha
          refine wpList_k (st_set ha rfl (ex_addI ha (by omega) (by omega)) rfl ?_); clear ha; (try clear a); intro a ha
          refine wpList_k (st_set ha rfl (ex_nilCheck ha) rfl ?_); clear ha; (try clear a); intro a ha
          refine wpList_k (st_set ha rfl (ex_fieldAddr (k := 1) ha Try.underlying56 rfl Ty.t3 rfl) rfl ?_); clear ha; (try clear a); intro a ha
          refine wpList_k (st_store ha rfl hs Ty.t3 rfl (by simp) ?_); clear ha hs; (try clear a); (try clear w); intro a w ha hs
          refine wpList_nil ?_
          rw [show ((nx : Int) + 4) = ((nx + 4 : Nat) : Int) from rfl, show B.length + 1 = (B ++ [zn]).length from by simp] at hs
          replace hs : St W w (Book bb A.room (nx + 4) (B ++ [zn]) :: Store q r A' :: L) := Book.close (ad := ad207) (c := c207) hs (by simp; omega)
          refine then_n ?_
          refine wp_seq ?_
          refine wp_region_lit ?_
          refine wpList_k (st_set ha rfl (ex_move ha) rfl ?_); clear ha; (try clear a); intro a ha
          refine wpList_k (st_set ha rfl (ex_move ha) rfl ?_); clear ha; (try clear a); intro a ha
          refine wpList_k (st_call ha rfl Ty.c44 rfl (new_spec (id := B.length + 1) (hs.pick (Book bb A.room (nx + 4) (B ++ [zn]))) (fun i z h1 h2 _ => by have := hB'.ids i z h2; simp at h1; omega)) ?_); clear ha hs
          rintro e w ⟨rfl, hs⟩
          refine ⟨_, rfl, ?_⟩
          intro a ha
          refine wpList_k (st_set ha rfl (ex_assign ha) rfl ?_); clear ha; (try clear a); intro a ha
          refine wpList_nil ?_
          refine then_n ?_
          refine wp_ret <| blk_r <| then_r ?_
          refine ret1 ha rfl ?_
          exact hfin _ A' (B ++ [zn]) (nx + 4) hs.sub hB' (by rw [eA]; exact Nat.le_refl _) (by omega) (by simp) hrm2
        ·
          try simp only [decide_eq_true_eq, decide_eq_false_iff_not, Bool.not_eq_true', Bool.not_eq_false', Int.not_lt, Int.not_le, ne_eq, Decidable.not_not] at hc3
          obtain ⟨_, hid, eA⟩ := hcase.resolve_right (fun h => by rw [hc3] at h; cases h.1)
          rw [hid] at ha
          rw [eA] at hs
          refine wp_skip ?_
          refine then_n ?_
          refine wp_seq ?_
          refine wp_region_lit ?_
          refine wpList_k (st_set ha rfl (ex_move ha) rfl ?_); clear ha; (try clear a); intro a ha
          refine wpList_k (st_set ha rfl (ex_move ha) rfl ?_); clear ha; (try clear a); intro a ha
          refine wpList_k (st_call ha rfl Ty.c44 rfl (new_spec (id := 0) (hs.pick (Book bb A.room nx B)) (fun i z h1 h2 h => absurd rfl h)) ?_); clear ha hs
          rintro e w ⟨rfl, hs⟩
          refine ⟨_, rfl, ?_⟩
          intro a ha
          refine wpList_k (st_set ha rfl (ex_assign ha) rfl ?_); clear ha; (try clear a); intro a ha
          refine wpList_nil ?_
          refine then_n ?_
          refine wp_ret <| blk_r <| then_r ?_
          refine ret1 ha rfl ?_
          exact hfin _ A B nx hs.sub hB (by omega) (by omega) (by omega) rfl
      ·
        try simp only [decide_eq_true_eq, decide_eq_false_iff_not, Bool.not_eq_true', Bool.not_eq_false', Int.not_lt, Int.not_le, ne_eq, Decidable.not_not] at hc1
        refine wp_seq ?_
        refine wp_region_lit ?_
        refine wpList_k (st_set ha rfl (ex_eql ha) rfl ?_); clear ha; (try clear a); intro a ha
        refine wpList_k (st_set ha rfl (ex_assign ha) rfl ?_); clear ha; (try clear a); intro a ha
        refine wpList_nil ?_
        refine then_n ?_
        refine wp_if ha (fun hc4 => ?_) (fun hc4 => ?_)
        ·
          try simp only [decide_eq_true_eq, decide_eq_false_iff_not, Bool.not_eq_true', Bool.not_eq_false', Int.not_lt, Int.not_le, ne_eq, Decidable.not_not] at hc4
          refine wp_seq ?_
          refine wp_region_lit ?_
          refine wpList_k (st_set ha rfl (ex_move ha) rfl ?_); clear ha; (try clear a); intro a ha
          refine wpList_k (st_set ha rfl (ex_move ha) rfl ?_); clear ha; (try clear a); intro a ha
          refine wpList_k (st_call ha rfl Ty.c16 rfl (fork_case (hs.store q) hB hi (by omega)) ?_); clear ha hs
          rintro e w ⟨id, A', rfl, hdz, hcase, hs⟩
          refine ⟨_, rfl, ?_⟩
          intro a ha
          refine wpList_k (st_set ha rfl (ex_move ha) rfl ?_); clear ha; (try clear a); intro a ha
          refine wpList_k (st_set ha rfl (ex_extract ha rfl) rfl ?_); clear ha; (try clear a); intro a ha
          refine wpList_k (st_set ha rfl (ex_extract ha rfl) rfl ?_); clear ha; (try clear a); intro a ha
          refine wpList_k (st_set ha rfl (ex_assign ha) rfl ?_); clear ha; (try clear a); intro a ha
          refine wpList_k (st_set ha rfl (ex_assign ha) rfl ?_); clear ha; (try clear a); intro a ha
          refine wpList_nil ?_
          refine then_n ?_
          refine wp_seq ?_
          refine wp_seq ?_
          refine wp_region_lit ?_
          refine wpList_k (st_set ha rfl (ex_move ha) rfl ?_); clear ha; (try clear a); intro a ha
          refine wpList_k (st_set ha rfl (ex_move ha) rfl ?_); clear ha; (try clear a); intro a ha
          refine wpList_k (st_set ha rfl (ex_neqB ha Try.underlying4) rfl ?_); clear ha; (try clear a); intro a ha
          rw [bne_self_eq_false] at ha
          refine wpList_k (st_set ha rfl (ex_move ha) rfl ?_); clear ha; (try clear a); intro a ha
          refine wpList_k (st_set ha (wgT ha rfl (s := 231)) (ex_move ha) rfl ?_); clear ha; (try clear a); intro a ha
          refine wpList_k (st_set ha (wgT ha rfl (s := 231)) (ex_move ha) rfl ?_); clear ha; (try clear a); intro a ha
          refine wpList_k (st_set ha (wgT ha rfl (s := 231)) (ex_gtr ha) rfl ?_); clear ha; (try clear a); intro a ha
          refine wpList_k (st_set ha (wgT ha rfl (s := 231)) (ex_neqB ha Try.underlying4) rfl ?_); clear ha; (try clear a); intro a ha
          rw [hdz, bne_self_eq_false] at ha
          refine wpList_k (st_set ha rfl (ex_pickF ha) rfl ?_); clear ha; (try clear a); intro a ha
          refine wpList_nil ?_
          refine then_n ?_
          refine wp_ifF ha ?_
          refine wp_skip ?_
          refine then_n ?_
          refine wp_seq ?_
          refine wp_seq ?_
          refine wp_region_lit ?_
          refine wpList_k (st_set ha rfl (ex_move ha) rfl ?_); clear ha; (try clear a); intro a ha
          refine wpList_nil ?_
          refine then_n ?_
          refine wp_if ha (fun hc6 => ?_) (fun hc6 => ?_)
          ·
            try simp only [decide_eq_true_eq, decide_eq_false_iff_not, Bool.not_eq_true', Bool.not_eq_false', Int.not_lt, Int.not_le, ne_eq, Decidable.not_not] at hc6
            obtain ⟨_, hid, kk, z, hz, ek, eA, hB'⟩ := hcase.resolve_left (fun h => by rw [hc6] at h; cases h.1)
            rw [hid, ek] at ha
            have hkB := (List.getElem?_eq_some_iff.1 hz).1
            obtain ⟨zn, hzn⟩ : ∃ zn : Bz, (⟨B.length + 1, 1, z.1.g, z.1.p⟩, z.2) = zn := ⟨_, rfl⟩
            rw [hzn] at hB'
            obtain ⟨ad, cb, _, hs1⟩ := Book.open (hs.pick (Book bb A.room nx B))
            replace hs := hs1
            clear hs1
            obtain ⟨b', off', hade, hrd⟩ := hs.drew.slRd ad (by omega)
            rw [hade] at hs
            refine wp_draw (m := 28) (l0 := lb 28 0) (Old w.drew) [9, 11, 12, 13, 17, 19, 20, 21, 22, 23] Ty.mixed (by kernel_rfl) (by kernel_rfl) (pk_then (pk_blk (pk_then pk_body))) (fun hpk => ?_)
            replace hs := hs.drew
            have hC := Old.refl w.drew
            generalize w.drew = w at hs hC hpk hrd ⊢
            refine nt_pure (i := 0) (listed' := lb 28 1) (by kernel_rfl) rfl (by kernel_rfl) (by decide) hpk ha rfl (fun w => ex_move ha) rfl ?_; clear ha; (try clear a); intro a ha
            refine nt_pure (i := 1) (listed' := lb 28 3) (by kernel_rfl) rfl (by kernel_rfl) (by decide) hpk ha rfl (fun w => ex_move ha) rfl ?_; clear ha; (try clear a); intro a ha
            refine nt_pure (i := 2) (listed' := lb 28 7) (by kernel_rfl) rfl (by kernel_rfl) (by decide) hpk ha rfl (fun w => ex_nilCheck ha) rfl ?_; clear ha; (try clear a); intro a ha
            refine nt_pure (i := 3) (listed' := lb 28 15) (by kernel_rfl) rfl (by kernel_rfl) (by decide) hpk ha rfl (fun w => ex_fieldAddr (k := 0) ha Try.underlying56 rfl Ty.t54 rfl) rfl ?_; clear ha; (try clear a); intro a ha
            refine nt_pure (i := 5) (listed' := lb 28 47) (by kernel_rfl) rfl (by kernel_rfl) (by decide) hpk ha rfl (fun w => ex_move ha) rfl ?_; clear ha; (try clear a); intro a ha
            refine nt_pure (i := 6) (listed' := lb 28 111) (by kernel_rfl) rfl (by kernel_rfl) (by decide) hpk ha rfl (fun w => ex_move ha) rfl ?_; clear ha; (try clear a); intro a ha
            refine nt_pure (i := 7) (listed' := lb 28 239) (by kernel_rfl) rfl (by kernel_rfl) (by decide) hpk ha rfl (fun w => ex_nilCheck ha) rfl ?_; clear ha; (try clear a); intro a ha
            refine nt_pure (i := 8) (listed' := lb 28 495) (by kernel_rfl) rfl (by kernel_rfl) (by decide) hpk ha rfl (fun w => ex_fieldAddr (k := 0) ha Try.underlying56 rfl Ty.t54 rfl) rfl ?_; clear ha; (try clear a); intro a ha
            refine nt_pure (i := 10) (listed' := lb 28 1519) (by kernel_rfl) rfl (by kernel_rfl) (by decide) hpk ha rfl (fun w => ex_move ha) rfl ?_; clear ha; (try clear a); intro a ha
            refine nt_pure (i := 14) (listed' := lb 28 17903) (by kernel_rfl) rfl (by kernel_rfl) (by decide) hpk ha rfl (fun w => ex_move ha) rfl ?_; clear ha; (try clear a); intro a ha
            refine nt_pure (i := 15) (listed' := lb 28 50671) (by kernel_rfl) rfl (by kernel_rfl) (by decide) hpk ha rfl (fun w => ex_nilCheck ha) rfl ?_; clear ha; (try clear a); intro a ha
            refine nt_pure (i := 16) (listed' := lb 28 116207) (by kernel_rfl) rfl (by kernel_rfl) (by decide) hpk ha rfl (fun w => ex_fieldAddr (k := 0) ha Try.underlying56 rfl Ty.t54 rfl) rfl ?_; clear ha; (try clear a); intro a ha
            refine nt_pure (i := 18) (listed' := lb 28 378351) (by kernel_rfl) rfl (by kernel_rfl) (by decide) hpk ha rfl (fun w => ex_move ha) rfl ?_; clear ha; (try clear a); intro a ha
            refine nt_held (i := 4) (listed' := lb 28 378367) (by kernel_rfl) rfl (by kernel_rfl) hpk ha rfl (fun w hc => ex_load1 ha Try.underlying54 rfl (hc.cell (hs.rd1 rfl))) hC rfl ?_; clear ha; (try clear a); intro a ha
            refine nt_held (i := 9) (listed' := lb 28 378879) (by kernel_rfl) rfl (by kernel_rfl) hpk ha rfl (fun w hc => ex_load1 ha Try.underlying54 rfl (hc.cell (hs.rd1 rfl))) hC rfl ?_; clear ha; (try clear a); intro a ha
            refine nt_held (i := 11) (listed' := lb 28 380927) (by kernel_rfl) rfl (by kernel_rfl) hpk ha rfl (fun w hc => ex_indexAddr ha Try.underlying54 Ty.t92 (by omega)) hC rfl ?_; clear ha; (try clear a); intro a ha
            refine nt_held (i := 12) (listed' := lb 28 385023) (by kernel_rfl) rfl (by kernel_rfl) hpk ha rfl (fun w hc => ex_fieldAddr (k := 2) ha Try.underlying92 rfl Ty.t46 rfl) hC rfl ?_; clear ha; (try clear a); intro a ha
            refine nt_held (i := 13) (listed' := lb 28 393215) (by kernel_rfl) rfl (by kernel_rfl) hpk ha rfl (fun w hc => ex_loadN ha Try.underlying46 rfl Ty.t46 (hc.rd (bk_rdg hrd hz))) hC rfl ?_; clear ha; (try clear a); intro a ha
            refine nt_one (i := 17) (listed' := lb 28 524287) (by kernel_rfl) (by kernel_rfl) rfl (st_set ha rfl (ex_load1 ha Try.underlying54 rfl (hs.rd1 rfl)) rfl ?_); clear ha; (try clear a); intro a ha
            refine ⟨fun _ => hC, ?_⟩
            refine nt_one (i := 19) (listed' := lb 28 1048575) (by kernel_rfl) (by kernel_rfl) rfl (st_set ha rfl (ex_indexAddr ha Try.underlying54 Ty.t92 (by omega)) rfl ?_); clear ha; (try clear a); intro a ha
            refine ⟨fun _ => hC, ?_⟩
            refine nt_one (i := 20) (listed' := lb 28 2097151) (by kernel_rfl) (by kernel_rfl) rfl (st_set ha rfl (ex_fieldAddr (k := 34) ha Try.underlying92 rfl Ty.t67 rfl) rfl ?_); clear ha; (try clear a); intro a ha
            refine ⟨fun _ => hC, ?_⟩
            refine nt_one (i := 21) (listed' := lb 28 4194303) (by kernel_rfl) (by kernel_rfl) rfl (st_set ha rfl (ex_loadN ha Try.underlying67 rfl Ty.t67 (bk_rdp hrd hz)) rfl ?_); clear ha; (try clear a); intro a ha
            refine ⟨fun _ => hC, ?_⟩
            refine nt_one (i := 22) (listed' := lb 28 8388607) (by kernel_rfl) (by kernel_rfl) rfl (st_set ha rfl (ex_build ha Ty.b92 Ty.t92 rfl) rfl ?_); clear ha; (try clear a); intro a ha
            refine ⟨fun _ => hC, ?_⟩
            rw [bkc_lit z.2, hzn] at ha
            refine nt_one (i := 23) (listed' := lb 28 16777215) (by kernel_rfl) (by kernel_rfl) rfl (st_buildSlice ha rfl hs Try.underlying54 Ty.t92 rfl rfl rfl rfl (by decide) (by decide) ?_); clear ha hs; (try clear a); (try clear w); intro b261 a w ha hs ho
            (try replace hC := hC.trans ho); clear ho
            refine ⟨fun _ => hC, ?_⟩
            refine nt_one (i := 24) (listed' := lb 28 33554431) (by kernel_rfl) (by kernel_rfl) rfl (st_append ha rfl hs Try.underlying54 Ty.t92 rfl rfl hs.rdAll rfl (by simpa using bkc_one _) (by decide) (by decide) (by omega) ?_); clear ha hs; (try clear a); (try clear w); intro ad262 c262 a w ha hs
            refine ⟨fun h => absurd h (by decide), ?_⟩
            rw [bk_snoc] at hs
            refine nt_pure (i := 25) (listed' := lb 28 67108863) (by kernel_rfl) rfl (by kernel_rfl) (by decide) hpk ha rfl (fun w => ex_nilCheck ha) rfl ?_; clear ha; (try clear a); intro a ha
            refine nt_pure (i := 26) (listed' := lb 28 134217727) (by kernel_rfl) rfl (by kernel_rfl) (by decide) hpk ha rfl (fun w => ex_fieldAddr (k := 0) ha Try.underlying56 rfl Ty.t54 rfl) rfl ?_; clear ha; (try clear a); intro a ha
            refine nt_one (i := 27) (listed' := lb 28 268435455) (by kernel_rfl) (by kernel_rfl) rfl (st_store ha rfl hs Ty.t54 rfl (by simp) ?_); clear ha hs; (try clear a); (try clear w); intro a w ha hs
            refine ⟨fun h => absurd h (by decide), ?_⟩
            refine nt_done (by kernel_rfl) ?_ _
            rw [show B.length + 1 = (B ++ [zn]).length from by simp] at hs
            replace hs : St W w (Book bb A.room nx (B ++ [zn]) :: Store q r A' :: L) := Book.close (ad := ad262) (c := c262) hs (by simp; omega)
            refine then_n ?_
            refine wp_seq ?_
            refine wp_region_lit ?_
            refine wpList_k (st_set ha rfl (ex_move ha) rfl ?_); clear ha; (try clear a); intro a ha
            refine wpList_k (st_set ha rfl (ex_move ha) rfl ?_); clear ha; (try clear a); intro a ha
            refine wpList_k (st_call ha rfl Ty.c44 rfl (new_spec (id := B.length + 1) (hs.pick (Book bb A.room nx (B ++ [zn]))) (fun i z h1 h2 _ => by have := hB'.ids i z h2; simp at h1; omega)) ?_); clear ha hs
            rintro e w ⟨rfl, hs⟩
            refine ⟨_, rfl, ?_⟩
            intro a ha
            refine wpList_k (st_set ha rfl (ex_assign ha) rfl ?_); clear ha; (try clear a); intro a ha
            refine wpList_nil ?_
            refine then_n ?_
            refine wp_ret <| blk_r <| then_r ?_
            refine ret1 ha rfl ?_
            exact hfin _ A' (B ++ [zn]) nx hs.sub hB' (by rw [eA]; exact Nat.le_refl _) (by omega) (by simp) (by rw [eA]; rfl)
          ·
            try simp only [decide_eq_true_eq, decide_eq_false_iff_not, Bool.not_eq_true', Bool.not_eq_false', Int.not_lt, Int.not_le, ne_eq, Decidable.not_not] at hc6
            obtain ⟨_, hid, eA⟩ := hcase.resolve_right (fun h => by rw [hc6] at h; cases h.1)
            rw [hid] at ha
            rw [eA] at hs
            refine wp_skip ?_
            refine then_n ?_
            refine wp_seq ?_
            refine wp_region_lit ?_
            refine wpList_k (st_set ha rfl (ex_move ha) rfl ?_); clear ha; (try clear a); intro a ha
            refine wpList_k (st_set ha rfl (ex_move ha) rfl ?_); clear ha; (try clear a); intro a ha
            refine wpList_k (st_call ha rfl Ty.c44 rfl (new_spec (id := 0) (hs.pick (Book bb A.room nx B)) (fun i z h1 h2 h => absurd rfl h)) ?_); clear ha hs
            rintro e w ⟨rfl, hs⟩
            refine ⟨_, rfl, ?_⟩
            intro a ha
            refine wpList_k (st_set ha rfl (ex_assign ha) rfl ?_); clear ha; (try clear a); intro a ha
            refine wpList_nil ?_
            refine then_n ?_
            refine wp_ret <| blk_r <| then_r ?_
            refine ret1 ha rfl ?_
            exact hfin _ A B nx hs.sub hB (by omega) (by omega) (by omega) rfl
        ·
          try simp only [decide_eq_true_eq, decide_eq_false_iff_not, Bool.not_eq_true', Bool.not_eq_false', Int.not_lt, Int.not_le, ne_eq, Decidable.not_not] at hc4
          refine wp_seq ?_
          refine wp_region_lit ?_
          refine wpList_k (st_set ha rfl (ex_eql ha) rfl ?_); clear ha; (try clear a); intro a ha
          refine wpList_k (st_set ha rfl (ex_assign ha) rfl ?_); clear ha; (try clear a); intro a ha
          refine wpList_nil ?_
          refine then_n ?_
          refine wp_if ha (fun hc7 => ?_) (fun hc7 => ?_)
          ·
            try simp only [decide_eq_true_eq, decide_eq_false_iff_not, Bool.not_eq_true', Bool.not_eq_false', Int.not_lt, Int.not_le, ne_eq, Decidable.not_not] at hc7
            refine wp_seq ?_
            refine wp_seq ?_
            refine wp_region_lit ?_
            refine wpList_k (st_set ha rfl (ex_move ha) rfl ?_); clear ha; (try clear a); intro a ha
            refine wpList_k (st_set ha rfl (ex_move ha) rfl ?_); clear ha; (try clear a); intro a ha
            refine wpList_k (st_call ha rfl Ty.c21 rfl (hold_case (hs.store q) hB hi (by omega)) ?_); clear ha hs
            rintro e w ⟨A', rfl, hcase, hs⟩
            refine ⟨_, rfl, ?_⟩
            intro a ha
            refine wpList_k (st_set ha rfl (ex_move ha) rfl ?_); clear ha; (try clear a); intro a ha
            refine wpList_k (st_set ha rfl (ex_neqB ha Try.underlying4) rfl ?_); clear ha; (try clear a); intro a ha
            rw [bne_self_eq_false] at ha
            refine wpList_nil ?_
            refine then_n ?_
            refine wp_ifF ha ?_
            refine wp_skip ?_
            refine then_n ?_
            refine wp_seq ?_
            refine wp_region_lit ?_
            refine wpList_k (st_set ha rfl (ex_move ha) rfl ?_); clear ha; (try clear a); intro a ha
            refine wpList_nil ?_
            refine then_n ?_
            refine wp_if ha (fun hc9 => ?_) (fun hc9 => ?_)
            ·
              try simp only [decide_eq_true_eq, decide_eq_false_iff_not, Bool.not_eq_true', Bool.not_eq_false', Int.not_lt, Int.not_le, ne_eq, Decidable.not_not] at hc9
              obtain ⟨_, hn, hr, kk, z, hz, ek, hrf, hB'⟩ := hcase.resolve_left (fun h => by rw [hc9] at h; cases h.1)
              rw [ek] at ha
              obtain ⟨hkB, hze⟩ := List.getElem?_eq_some_iff.1 hz
              obtain ⟨zn, hzn⟩ : ∃ zn : Bz, (⟨z.1.id, z.1.refs + 1, z.1.g, z.1.p⟩, z.2) = zn := ⟨_, rfl⟩
              rw [hzn] at hB'
              obtain ⟨ad, cb, _, hs1⟩ := Book.open (hs.pick (Book bb A.room nx B))
              replace hs := hs1
              clear hs1
              obtain ⟨b', off', hade, hrd⟩ := hs.slRd ad (by omega)
              rw [hade] at hs
              refine wp_region_lit ?_
              refine wpList_k (st_set ha rfl (ex_move ha) rfl ?_); clear ha; (try clear a); intro a ha
              refine wpList_k (st_set ha rfl (ex_nilCheck ha) rfl ?_); clear ha; (try clear a); intro a ha
              refine wpList_k (st_set ha rfl (ex_fieldAddr (k := 0) ha Try.underlying56 rfl Ty.t54 rfl) rfl ?_); clear ha; (try clear a); intro a ha
              refine wpList_k (st_set ha rfl (ex_load1 ha Try.underlying54 rfl (hs.rd1 rfl)) rfl ?_); clear ha; (try clear a); intro a ha
              refine wpList_k (st_set ha rfl (ex_move ha) rfl ?_); clear ha; (try clear a); intro a ha
              refine wpList_k (st_set ha rfl (ex_indexAddr ha Try.underlying54 Ty.t92 (by omega)) rfl ?_); clear ha; (try clear a); intro a ha
              refine wpList_k (st_set ha rfl (ex_fieldAddr (k := 1) ha Try.underlying92 rfl Ty.t3 rfl) rfl ?_); clear ha; (try clear a); intro a ha
              refine wpList_k (st_set ha rfl (ex_load1 ha Try.underlying3 rfl ((bk_rd hrd hz) 1 _ rfl)) rfl ?_); clear ha; (try clear a); intro a ha
              refine wpList_k (st_set ha rfl (ex_addI ha (by omega) (by omega)) rfl ?_); clear ha; (try clear a); intro a ha
              refine wpList_k (st_set ha rfl (ex_indexAddr ha Try.underlying54 Ty.t92 (by omega)) rfl ?_); clear ha; (try clear a); intro a ha
              refine wpList_k (st_set ha rfl (ex_fieldAddr (k := 1) ha Try.underlying92 rfl Ty.t3 rfl) rfl ?_); clear ha; (try clear a); intro a ha
              refine wpList_k (st_storeS (off := off') (k := kk * 38 + 1) ha rfl hs Ty.t3 rfl (by omega) (by rw [rows_len bkc_len]; omega) ?_); clear ha hs; (try clear a); (try clear w); intro a w ha hs
              rw [show ((z.1.refs : Int) + 1) = ((z.1.refs + 1 : Nat) : Int) from by omega, rows_set1 bkc_len B zn hkB (by decide) (by rw [hze, ← hzn]; exact bkc_setr z (z.1.refs + 1)), show B.length = (B.set kk zn).length from by simp] at hs
              replace hs : St W w (Book bb A.room nx (B.set kk zn) :: Store q r A' :: L) := Book.close (ad := some ⟨b', off', none⟩) (c := cb) hs (by simp; omega)
              refine wpList_nil ?_
              refine blk_n <| then_n ?_
              refine wp_seq ?_
              refine wp_region_lit ?_
              refine wpList_k (st_set ha rfl (ex_assign ha) rfl ?_); clear ha; (try clear a); intro a ha
              refine wpList_nil ?_
              refine then_n ?_
              refine wp_ret ?_
              refine ret1 ha rfl ?_
              exact hfin _ A' (B.set kk zn) nx hs.sub hB' (by omega) (by omega) (by simp) hr
            ·
              try simp only [decide_eq_true_eq, decide_eq_false_iff_not, Bool.not_eq_true', Bool.not_eq_false', Int.not_lt, Int.not_le, ne_eq, Decidable.not_not] at hc9
              obtain ⟨_, eA⟩ := hcase.resolve_right (fun h => by rw [hc9] at h; cases h.1)
              rw [eA] at hs
              refine wp_skip ?_
              refine blk_n <| then_n ?_
              refine wp_seq ?_
              refine wp_region_lit ?_
              refine wpList_k (st_set ha rfl (ex_assign ha) rfl ?_); clear ha; (try clear a); intro a ha
              refine wpList_nil ?_
              refine then_n ?_
              refine wp_ret ?_
              refine ret1 ha rfl ?_
              exact hfin _ A B nx hs.sub hB (by omega) (by omega) (by omega) rfl
          ·
            try simp only [decide_eq_true_eq, decide_eq_false_iff_not, Bool.not_eq_true', Bool.not_eq_false', Int.not_lt, Int.not_le, ne_eq, Decidable.not_not] at hc7
            refine wp_seq ?_
            refine wp_region_lit ?_
            refine wpList_k (st_set ha rfl (ex_eql ha) rfl ?_); clear ha; (try clear a); intro a ha
            refine wpList_k (st_set ha rfl (ex_assign ha) rfl ?_); clear ha; (try clear a); intro a ha
            refine wpList_nil ?_
            refine then_n ?_
            refine wp_if ha (fun hc10 => ?_) (fun hc10 => ?_)
            ·
              try simp only [decide_eq_true_eq, decide_eq_false_iff_not, Bool.not_eq_true', Bool.not_eq_false', Int.not_lt, Int.not_le, ne_eq, Decidable.not_not] at hc10
              refine wp_seq ?_
              refine wp_seq ?_
              refine wp_region_lit ?_
              refine wpList_k (st_set ha rfl (ex_move ha) rfl ?_); clear ha; (try clear a); intro a ha
              refine wpList_k (st_set ha rfl (ex_move ha) rfl ?_); clear ha; (try clear a); intro a ha
              refine wpList_k (st_call ha rfl Ty.c18 rfl (drop_case (hs.store q) hB hi) ?_); clear ha hs
              rintro e w ⟨A', rfl, hcase, hs⟩
              refine ⟨_, rfl, ?_⟩
              intro a ha
              refine wpList_k (st_set ha rfl (ex_move ha) rfl ?_); clear ha; (try clear a); intro a ha
              refine wpList_k (st_set ha rfl (ex_neqB ha Try.underlying4) rfl ?_); clear ha; (try clear a); intro a ha
              rw [bne_self_eq_false] at ha
              refine wpList_nil ?_
              refine then_n ?_
              refine wp_ifF ha ?_
              refine wp_skip ?_
              refine then_n ?_
              refine wp_seq ?_
              refine wp_region_lit ?_
              refine wpList_k (st_set ha rfl (ex_move ha) rfl ?_); clear ha; (try clear a); intro a ha
              refine wpList_nil ?_
              refine then_n ?_
              refine wp_if ha (fun hc12 => ?_) (fun hc12 => ?_)
              ·
                try simp only [decide_eq_true_eq, decide_eq_false_iff_not, Bool.not_eq_true', Bool.not_eq_false', Int.not_lt, Int.not_le, ne_eq, Decidable.not_not] at hc12
                obtain ⟨_, hn, hr, kk, z, hz, ek, h0, hrf, hB'⟩ := hcase.resolve_left (fun h => by rw [hc12] at h; cases h.1)
                rw [ek] at ha
                obtain ⟨hkB, hze⟩ := List.getElem?_eq_some_iff.1 hz
                obtain ⟨zn, hzn⟩ : ∃ zn : Bz, (⟨z.1.id, z.1.refs - 1, z.1.g, z.1.p⟩, z.2) = zn := ⟨_, rfl⟩
                rw [hzn] at hB'
                obtain ⟨ad, cb, _, hs1⟩ := Book.open (hs.pick (Book bb A.room nx B))
                replace hs := hs1
                clear hs1
                obtain ⟨b', off', hade, hrd⟩ := hs.slRd ad (by omega)
                rw [hade] at hs
                refine wp_region_lit ?_
                refine wpList_k (st_set ha rfl (ex_move ha) rfl ?_); clear ha; (try clear a); intro a ha
                refine wpList_k (st_set ha rfl (ex_nilCheck ha) rfl ?_); clear ha; (try clear a); intro a ha
                refine wpList_k (st_set ha rfl (ex_fieldAddr (k := 0) ha Try.underlying56 rfl Ty.t54 rfl) rfl ?_); clear ha; (try clear a); intro a ha
                refine wpList_k (st_set ha rfl (ex_load1 ha Try.underlying54 rfl (hs.rd1 rfl)) rfl ?_); clear ha; (try clear a); intro a ha
                refine wpList_k (st_set ha rfl (ex_move ha) rfl ?_); clear ha; (try clear a); intro a ha
                refine wpList_k (st_set ha rfl (ex_indexAddr ha Try.underlying54 Ty.t92 (by omega)) rfl ?_); clear ha; (try clear a); intro a ha
                refine wpList_k (st_set ha rfl (ex_fieldAddr (k := 1) ha Try.underlying92 rfl Ty.t3 rfl) rfl ?_); clear ha; (try clear a); intro a ha
                refine wpList_k (st_set ha rfl (ex_load1 ha Try.underlying3 rfl ((bk_rd hrd hz) 1 _ rfl)) rfl ?_); clear ha; (try clear a); intro a ha
                refine wpList_k (st_set ha rfl (ex_subI ha (by omega) (by omega)) rfl ?_); clear ha; (try clear a); intro a ha
                refine wpList_k (st_set ha rfl (ex_indexAddr ha Try.underlying54 Ty.t92 (by omega)) rfl ?_); clear ha; (try clear a); intro a ha
                refine wpList_k (st_set ha rfl (ex_fieldAddr (k := 1) ha Try.underlying92 rfl Ty.t3 rfl) rfl ?_); clear ha; (try clear a); intro a ha
                refine wpList_k (st_storeS (off := off') (k := kk * 38 + 1) ha rfl hs Ty.t3 rfl (by omega) (by rw [rows_len bkc_len]; omega) ?_); clear ha hs; (try clear a); (try clear w); intro a w ha hs
                rw [show ((z.1.refs : Int) - 1) = ((z.1.refs - 1 : Nat) : Int) from by omega, rows_set1 bkc_len B zn hkB (by decide) (by rw [hze, ← hzn]; exact bkc_setr z (z.1.refs - 1)), show B.length = (B.set kk zn).length from by simp] at hs
                replace hs : St W w (Book bb A.room nx (B.set kk zn) :: Store q r A' :: L) := Book.close (ad := some ⟨b', off', none⟩) (c := cb) hs (by simp; omega)
                refine wpList_nil ?_
                refine blk_n <| then_n ?_
                refine wp_seq ?_
                refine wp_region_lit ?_
                refine wpList_k (st_set ha rfl (ex_assign ha) rfl ?_); clear ha; (try clear a); intro a ha
                refine wpList_nil ?_
                refine then_n ?_
                refine wp_ret ?_
                refine ret1 ha rfl ?_
                exact hfin _ A' (B.set kk zn) nx hs.sub hB' (by omega) (by omega) (by simp) hr
              ·
                try simp only [decide_eq_true_eq, decide_eq_false_iff_not, Bool.not_eq_true', Bool.not_eq_false', Int.not_lt, Int.not_le, ne_eq, Decidable.not_not] at hc12
                obtain ⟨_, eA⟩ := hcase.resolve_right (fun h => by rw [hc12] at h; cases h.1)
                rw [eA] at hs
                refine wp_skip ?_
                refine blk_n <| then_n ?_
                refine wp_seq ?_
                refine wp_region_lit ?_
                refine wpList_k (st_set ha rfl (ex_assign ha) rfl ?_); clear ha; (try clear a); intro a ha
                refine wpList_nil ?_
                refine then_n ?_
                refine wp_ret ?_
                refine ret1 ha rfl ?_
                exact hfin _ A B nx hs.sub hB (by omega) (by omega) (by omega) rfl
            ·
              try simp only [decide_eq_true_eq, decide_eq_false_iff_not, Bool.not_eq_true', Bool.not_eq_false', Int.not_lt, Int.not_le, ne_eq, Decidable.not_not] at hc10
              refine wp_seq_cut (M := fun a w => ∃ cell : Bool, (cell = true ↔ inn = true ∧ 0 ≤ C ∧ C < 32) ∧ Fr a 306 [(0, .pointer (some ⟨bb, 0, none⟩)), (1, .pointer (some ⟨q, 0, none⟩)), (5, .pointer (some ⟨b5, 0, none⟩)), (7, .int .i64 kI), (8, .int .i64 xI), (16, .bool cell)] ∧ St W w (blk b5 59 (opc kd P C V al zs.length cl) :: Book bb A.room nx B :: Store q r A :: L)) ?_ ?_
              ·
                refine wp_region_lit ?_
                refine wpList_k (st_set ha rfl (ex_move ha) rfl ?_); clear ha; (try clear a); intro a ha
                refine wpList_k (st_set ha rfl (ex_move ha) rfl ?_); clear ha; (try clear a); intro a ha
                refine ha.bool (s := 58) (fun hg1 ha => ?_) (fun hg1 ha => ?_)
                ·
                  try simp only [decide_eq_true_eq, decide_eq_false_iff_not, Bool.not_eq_true', Bool.not_eq_false', Int.not_lt, Int.not_le, ne_eq, Decidable.not_not] at hg1
                  refine wpList_k (st_set ha (wgT ha rfl (s := 58)) (ex_fieldAddr (k := 2) ha Try.underlying59 rfl Ty.t3 rfl) rfl ?_); clear ha; (try clear a); intro a ha
                  refine wpList_k (st_set ha (wgT ha rfl (s := 58)) (ex_load1 ha Try.underlying3 rfl (hs.rd1 rfl)) rfl ?_); clear ha; (try clear a); intro a ha
                  refine wpList_k (st_set ha (wgT ha rfl (s := 58)) (ex_geq ha) rfl ?_); clear ha; (try clear a); intro a ha
                  refine wpList_k (st_set ha rfl (ex_pickT ha) rfl ?_); clear ha; (try clear a); intro a ha
                  refine wpList_k (st_set ha rfl (ex_move ha) rfl ?_); clear ha; (try clear a); intro a ha
                  refine ha.bool (s := 63) (fun hg6 ha => ?_) (fun hg6 ha => ?_)
                  ·
                    try simp only [decide_eq_true_eq, decide_eq_false_iff_not, Bool.not_eq_true', Bool.not_eq_false', Int.not_lt, Int.not_le, ne_eq, Decidable.not_not] at hg6
                    refine wpList_k (st_set ha (wgT ha rfl (s := 63)) (ex_fieldAddr (k := 2) ha Try.underlying59 rfl Ty.t3 rfl) rfl ?_); clear ha; (try clear a); intro a ha
                    refine wpList_k (st_set ha (wgT ha rfl (s := 63)) (ex_load1 ha Try.underlying3 rfl (hs.rd1 rfl)) rfl ?_); clear ha; (try clear a); intro a ha
                    refine wpList_k (st_set ha (wgT ha rfl (s := 63)) (ex_lss ha) rfl ?_); clear ha; (try clear a); intro a ha
                    refine wpList_k (st_set ha rfl (ex_pickT ha) rfl ?_); clear ha; (try clear a); intro a ha
                    refine wpList_k (st_set ha rfl (ex_assign ha) rfl ?_); clear ha; (try clear a); intro a ha
                    refine wpList_nil ?_
                    refine then_n ?_
                    exact ⟨_, by simp [hg1]; omega, ha.keep [0, 1, 5, 7, 8, 16], hs.sub⟩
                  ·
                    try simp only [decide_eq_true_eq, decide_eq_false_iff_not, Bool.not_eq_true', Bool.not_eq_false', Int.not_lt, Int.not_le, ne_eq, Decidable.not_not] at hg6
                    refine wpList_k (st_off ha (wgF ha rfl (s := 63) rfl) rfl ?_); clear ha; (try clear a); intro a ha
                    refine wpList_k (st_off ha (wgF ha rfl (s := 63) rfl) rfl ?_); clear ha; (try clear a); intro a ha
                    refine wpList_k (st_off ha (wgF ha rfl (s := 63) rfl) rfl ?_); clear ha; (try clear a); intro a ha
                    refine wpList_k (st_set ha rfl (ex_pickF ha) rfl ?_); clear ha; (try clear a); intro a ha
                    refine wpList_k (st_set ha rfl (ex_assign ha) rfl ?_); clear ha; (try clear a); intro a ha
                    refine wpList_nil ?_
                    refine then_n ?_
                    exact ⟨_, by simp; omega, ha.keep [0, 1, 5, 7, 8, 16], hs.sub⟩
                ·
                  try simp only [decide_eq_true_eq, decide_eq_false_iff_not, Bool.not_eq_true', Bool.not_eq_false', Int.not_lt, Int.not_le, ne_eq, Decidable.not_not] at hg1
                  refine wpList_k (st_off ha (wgF ha rfl (s := 58) rfl) rfl ?_); clear ha; (try clear a); intro a ha
                  refine wpList_k (st_off ha (wgF ha rfl (s := 58) rfl) rfl ?_); clear ha; (try clear a); intro a ha
                  refine wpList_k (st_off ha (wgF ha rfl (s := 58) rfl) rfl ?_); clear ha; (try clear a); intro a ha
                  refine wpList_k (st_set ha rfl (ex_pickF ha) rfl ?_); clear ha; (try clear a); intro a ha
                  refine wpList_k (st_set ha rfl (ex_move ha) rfl ?_); clear ha; (try clear a); intro a ha
                  refine wpList_k (st_off ha (wgF ha rfl (s := 63) rfl) rfl ?_); clear ha; (try clear a); intro a ha
                  refine wpList_k (st_off ha (wgF ha rfl (s := 63) rfl) rfl ?_); clear ha; (try clear a); intro a ha
                  refine wpList_k (st_off ha (wgF ha rfl (s := 63) rfl) rfl ?_); clear ha; (try clear a); intro a ha
                  refine wpList_k (st_set ha rfl (ex_pickF ha) rfl ?_); clear ha; (try clear a); intro a ha
                  refine wpList_k (st_set ha rfl (ex_assign ha) rfl ?_); clear ha; (try clear a); intro a ha
                  refine wpList_nil ?_
                  refine then_n ?_
                  exact ⟨_, by simp [hg1], ha.keep [0, 1, 5, 7, 8, 16], hs.sub⟩
              · clear ha; (try clear hs)
                intro a w hcut
                obtain ⟨cell, hcell, ha, hs⟩ := hcut
                refine wp_seq_cut (M := fun a w => ∃ sh : Bool, ((cell = true ∧ ∃ (kk : Nat) (z : Bz) (c : Nat), B[kk]? = some z ∧ 0 < z.1.refs ∧ kI = (kk : Int) ∧ xI = (z.1.id : Int) ∧ C = (c : Int) ∧ c < 32 ∧ sh = decide (1 < cntB B (z.1.p (c / 8)))) ∨ (cell = false ∧ sh = false)) ∧ Fr a 306 [(0, .pointer (some ⟨bb, 0, none⟩)), (1, .pointer (some ⟨q, 0, none⟩)), (5, .pointer (some ⟨b5, 0, none⟩)), (7, .int .i64 kI), (8, .int .i64 xI), (16, .bool cell), (17, .bool sh)] ∧ St W w (blk b5 59 (opc kd P C V al zs.length cl) :: Book bb A.room nx B :: Store q r A :: L)) ?_ ?_
                ·
                  refine wp_draw (m := 19) (l0 := lb 19 0) (Old w.drew) [9, 10] Ty.mixed (by kernel_rfl) (by kernel_rfl) (pk_then (pk_blk (pk_then pk_body))) (fun hpk => ?_)
                  replace hs := hs.drew
                  have hC := Old.refl w.drew
                  generalize w.drew = w at hs hC hpk ⊢
                  refine nt_pure (i := 0) (listed' := lb 19 1) (by kernel_rfl) rfl (by kernel_rfl) (by decide) hpk ha rfl (fun w => ex_move ha) rfl ?_; clear ha; (try clear a); intro a ha
                  refine nt_pure (i := 1) (listed' := lb 19 3) (by kernel_rfl) rfl (by kernel_rfl) (by decide) hpk ha rfl (fun w => ex_move ha) rfl ?_; clear ha; (try clear a); intro a ha
                  refine ha.bool (s := 69) (fun hg1 ha => ?_) (fun hg1 ha => ?_)
                  ·
                    try simp only [decide_eq_true_eq, decide_eq_false_iff_not, Bool.not_eq_true', Bool.not_eq_false', Int.not_lt, Int.not_le, ne_eq, Decidable.not_not] at hg1
                    obtain ⟨hin, hC0, hC1⟩ := hcell.1 hg1
                    obtain ⟨_, kk, z, hz, h0, ek, ex⟩ := hi.resolve_right (fun h => by rw [hin] at h; cases h.1)
                    obtain ⟨c, eC⟩ : ∃ c : Nat, C = (c : Int) := ⟨C.toNat, by omega⟩
                    have hc : c < 32 := by omega
                    have hkB := (List.getElem?_eq_some_iff.1 hz).1
                    obtain ⟨ad, cb, _, ho⟩ := Book.open (hs.pick (Book bb A.room nx B))
                    obtain ⟨b', off', hade, hrd⟩ := ho.slRd ad (by omega)
                    rw [hade] at ho
                    have hq8 : (c : Int).tdiv 8 = ((c / 8 : Nat) : Int) := quoN c 8
                    rw [ek] at ha
                    refine nt_pure (i := 2) (listed' := lb 19 7) (by kernel_rfl) rfl (by kernel_rfl) (by decide) hpk ha (wgT ha rfl (s := 69)) (fun w => ex_move ha) rfl ?_; clear ha; (try clear a); intro a ha
                    refine nt_pure (i := 3) (listed' := lb 19 15) (by kernel_rfl) rfl (by kernel_rfl) (by decide) hpk ha (wgT ha rfl (s := 69)) (fun w => ex_move ha) rfl ?_; clear ha; (try clear a); intro a ha
                    refine nt_pure (i := 4) (listed' := lb 19 31) (by kernel_rfl) rfl (by kernel_rfl) (by decide) hpk ha (wgT ha rfl (s := 69)) (fun w => ex_nilCheck ha) rfl ?_; clear ha; (try clear a); intro a ha
                    refine nt_pure (i := 5) (listed' := lb 19 63) (by kernel_rfl) rfl (by kernel_rfl) (by decide) hpk ha (wgT ha rfl (s := 69)) (fun w => ex_fieldAddr (k := 0) ha Try.underlying56 rfl Ty.t54 rfl) rfl ?_; clear ha; (try clear a); intro a ha
                    refine nt_pure (i := 7) (listed' := lb 19 191) (by kernel_rfl) rfl (by kernel_rfl) (by decide) hpk ha (wgT ha rfl (s := 69)) (fun w => ex_move ha) rfl ?_; clear ha; (try clear a); intro a ha
                    refine nt_pure (i := 8) (listed' := lb 19 447) (by kernel_rfl) rfl (by kernel_rfl) (by decide) hpk ha (wgT ha rfl (s := 69)) (fun w => ex_fieldAddr (k := 2) ha Try.underlying59 rfl Ty.t3 rfl) rfl ?_; clear ha; (try clear a); intro a ha
                    refine nt_held (i := 6) (listed' := lb 19 511) (by kernel_rfl) rfl (by kernel_rfl) hpk ha (wgT ha rfl (s := 69)) (fun w hc => ex_load1 ha Try.underlying54 rfl (hc.cell (ho.rd1 rfl))) hC rfl ?_; clear ha; (try clear a); intro a ha
                    refine nt_pure (i := 11) (listed' := lb 19 2559) (by kernel_rfl) rfl (by kernel_rfl) (by decide) hpk ha (wgT ha rfl (s := 69)) (fun w => ex_indexAddr ha Try.underlying54 Ty.t92 (by omega)) rfl ?_; clear ha; (try clear a); intro a ha
                    refine nt_pure (i := 12) (listed' := lb 19 6655) (by kernel_rfl) rfl (by kernel_rfl) (by decide) hpk ha (wgT ha rfl (s := 69)) (fun w => ex_fieldAddr (k := 34) ha Try.underlying92 rfl Ty.t67 rfl) rfl ?_; clear ha; (try clear a); intro a ha
                    refine nt_one (i := 9) (listed' := lb 19 7167) (by kernel_rfl) (by kernel_rfl) rfl (st_set ha (wgT ha rfl (s := 69)) (ex_load1 ha Try.underlying3 rfl (hs.rd1 rfl)) rfl ?_); clear ha; (try clear a); intro a ha
                    refine ⟨fun _ => hC, ?_⟩
                    rw [eC] at ha
                    refine nt_one (i := 10) (listed' := lb 19 8191) (by kernel_rfl) (by kernel_rfl) rfl (st_set ha (wgT ha rfl (s := 69)) (ex_quo ha (by decide) (by rw [hq8]; exact wrap_in (by omega) (by omega))) rfl ?_); clear ha; (try clear a); intro a ha
                    refine ⟨fun _ => hC, ?_⟩
                    rw [hq8] at ha
                    refine nt_pure (i := 13) (listed' := lb 19 16383) (by kernel_rfl) rfl (by kernel_rfl) (by decide) hpk ha (wgT ha rfl (s := 69)) (fun w => ex_indexAddrA ha Try.underlying67 Ty.t3 (by omega)) rfl ?_; clear ha; (try clear a); intro a ha
                    rw [Nat.mul_one, Nat.add_assoc _ 34 (c / 8)] at ha
                    refine nt_one (i := 14) (listed' := lb 19 32767) (by kernel_rfl) (by kernel_rfl) rfl (st_set ha (wgT ha rfl (s := 69)) (ex_load1 ha Try.underlying3 rfl ((bk_rd hrd hz) (34 + c / 8) _ (bkc_p z (by omega)))) rfl ?_); clear ha; (try clear a); intro a ha
                    refine ⟨fun h => absurd h (by decide), ?_⟩
                    refine nt_one (i := 15) (listed' := lb 19 65535) (by kernel_rfl) (by kernel_rfl) rfl (st_call ha (wgT ha rfl (s := 69)) Ty.c45 rfl (count_spec (hs.pick (Book bb A.room nx B))) ?_); clear ha hs
                    rintro e w ⟨rfl, hs⟩
                    refine ⟨_, rfl, ?_⟩
                    intro a ha
                    refine ⟨fun h => absurd h (by decide), ?_⟩
                    refine nt_pure (i := 16) (listed' := lb 19 131071) (by kernel_rfl) rfl (by kernel_rfl) (by decide) hpk ha (wgT ha rfl (s := 69)) (fun w => ex_gtr ha) rfl ?_; clear ha; (try clear a); intro a ha
                    refine nt_pure (i := 17) (listed' := lb 19 262143) (by kernel_rfl) rfl (by kernel_rfl) (by decide) hpk ha rfl (fun w => ex_pickT ha) rfl ?_; clear ha; (try clear a); intro a ha
                    refine nt_pure (i := 18) (listed' := lb 19 524287) (by kernel_rfl) rfl (by kernel_rfl) (by decide) hpk ha rfl (fun w => ex_assign ha) rfl ?_; clear ha; (try clear a); intro a ha
                    refine nt_done (by kernel_rfl) ?_ _
                    refine then_n ?_
                    rw [← ek] at ha
                    refine ⟨_, .inl ⟨hg1, kk, z, c, hz, h0, ek, ex, eC, hc, ?_⟩, ha.keep [0, 1, 5, 7, 8, 16, 17], hs.sub⟩
                    rw [decide_eq_decide]; omega
                  ·
                    try simp only [decide_eq_true_eq, decide_eq_false_iff_not, Bool.not_eq_true', Bool.not_eq_false', Int.not_lt, Int.not_le, ne_eq, Decidable.not_not] at hg1
                    refine nt_off (i := 2) (listed' := lb 19 7) (by kernel_rfl) rfl (by kernel_rfl) (by decide) hpk ha (wgF ha rfl (s := 69) rfl) rfl ?_; clear ha; (try clear a); intro a ha
                    refine nt_off (i := 3) (listed' := lb 19 15) (by kernel_rfl) rfl (by kernel_rfl) (by decide) hpk ha (wgF ha rfl (s := 69) rfl) rfl ?_; clear ha; (try clear a); intro a ha
                    refine nt_off (i := 4) (listed' := lb 19 31) (by kernel_rfl) rfl (by kernel_rfl) (by decide) hpk ha (wgF ha rfl (s := 69) rfl) rfl ?_; clear ha; (try clear a); intro a ha
                    refine nt_off (i := 5) (listed' := lb 19 63) (by kernel_rfl) rfl (by kernel_rfl) (by decide) hpk ha (wgF ha rfl (s := 69) rfl) rfl ?_; clear ha; (try clear a); intro a ha
                    refine nt_off (i := 7) (listed' := lb 19 191) (by kernel_rfl) rfl (by kernel_rfl) (by decide) hpk ha (wgF ha rfl (s := 69) rfl) rfl ?_; clear ha; (try clear a); intro a ha
                    refine nt_off (i := 8) (listed' := lb 19 447) (by kernel_rfl) rfl (by kernel_rfl) (by decide) hpk ha (wgF ha rfl (s := 69) rfl) rfl ?_; clear ha; (try clear a); intro a ha
                    refine nt_offH (i := 6) (listed' := lb 19 511) (by kernel_rfl) rfl (by kernel_rfl) hpk ha (wgF ha rfl (s := 69) rfl) hC rfl ?_; clear ha; (try clear a); intro a ha
                    refine nt_off (i := 11) (listed' := lb 19 2559) (by kernel_rfl) rfl (by kernel_rfl) (by decide) hpk ha (wgF ha rfl (s := 69) rfl) rfl ?_; clear ha; (try clear a); intro a ha
                    refine nt_off (i := 12) (listed' := lb 19 6655) (by kernel_rfl) rfl (by kernel_rfl) (by decide) hpk ha (wgF ha rfl (s := 69) rfl) rfl ?_; clear ha; (try clear a); intro a ha
                    refine nt_offH (i := 9) (listed' := lb 19 7167) (by kernel_rfl) rfl (by kernel_rfl) hpk ha (wgF ha rfl (s := 69) rfl) hC rfl ?_; clear ha; (try clear a); intro a ha
                    refine nt_offH (i := 10) (listed' := lb 19 8191) (by kernel_rfl) rfl (by kernel_rfl) hpk ha (wgF ha rfl (s := 69) rfl) hC rfl ?_; clear ha; (try clear a); intro a ha
                    refine nt_off (i := 13) (listed' := lb 19 16383) (by kernel_rfl) rfl (by kernel_rfl) (by decide) hpk ha (wgF ha rfl (s := 69) rfl) rfl ?_; clear ha; (try clear a); intro a ha
                    refine nt_off (i := 14) (listed' := lb 19 32767) (by kernel_rfl) rfl (by kernel_rfl) (by decide) hpk ha (wgF ha rfl (s := 69) rfl) rfl ?_; clear ha; (try clear a); intro a ha
                    refine nt_off (i := 15) (listed' := lb 19 65535) (by kernel_rfl) rfl (by kernel_rfl) (by decide) hpk ha (wgF ha rfl (s := 69) rfl) rfl ?_; clear ha; (try clear a); intro a ha
                    refine nt_off (i := 16) (listed' := lb 19 131071) (by kernel_rfl) rfl (by kernel_rfl) (by decide) hpk ha (wgF ha rfl (s := 69) rfl) rfl ?_; clear ha; (try clear a); intro a ha
                    refine nt_pure (i := 17) (listed' := lb 19 262143) (by kernel_rfl) rfl (by kernel_rfl) (by decide) hpk ha rfl (fun w => ex_pickF ha) rfl ?_; clear ha; (try clear a); intro a ha
                    refine nt_pure (i := 18) (listed' := lb 19 524287) (by kernel_rfl) rfl (by kernel_rfl) (by decide) hpk ha rfl (fun w => ex_assign ha) rfl ?_; clear ha; (try clear a); intro a ha
                    refine nt_done (by kernel_rfl) ?_ _
                    refine then_n ?_
                    exact ⟨_, .inr ⟨hg1, rfl⟩, ha.keep [0, 1, 5, 7, 8, 16, 17], hs.sub⟩
                · clear ha; (try clear hs)
                  intro a w hcut
                  obtain ⟨sh, hsh, ha, hs⟩ := hcut
                  refine wp_seq_cut (M := fun a w => ∃ wt : Bool, SetP A B kI xI C sh wt ∧ Fr a 306 [(0, .pointer (some ⟨bb, 0, none⟩)), (1, .pointer (some ⟨q, 0, none⟩)), (5, .pointer (some ⟨b5, 0, none⟩)), (7, .int .i64 kI), (8, .int .i64 xI), (17, .bool sh), (18, .bool wt)] ∧ St W w (blk b5 59 (opc kd P C V al zs.length cl) :: Book bb A.room nx B :: Store q r A :: L)) ?_ ?_
                  ·
                    have hbr : w.drew.cell? ⟨bb, 2, none⟩ = some (.int .i64 A.room) := by
                      obtain ⟨_, _, _, ho⟩ := Book.open (hs.drew.pick (Book bb A.room nx B))
                      exact ho.rd1 rfl
                    have hrm := (Store.facts (hs.store q)).1.room
                    have hul := usedTo_le B nx
                    refine wp_draw (m := 15) (l0 := lb 15 0) (fun w' => w'.cell? ⟨bb, 2, none⟩ = some (.int .i64 A.room)) [10] Ty.mixed (by kernel_rfl) (by kernel_rfl) (pk_then (pk_blk (pk_then pk_body))) (fun hpk => ?_)
                    replace hs := hs.drew
                    generalize w.drew = w at hs hpk hbr ⊢
                    have hC := hbr
                    refine nt_pure (i := 0) (listed' := lb 15 1) (by kernel_rfl) rfl (by kernel_rfl) (by decide) hpk ha rfl (fun w => ex_move ha) rfl ?_; clear ha; (try clear a); intro a ha
                    refine nt_pure (i := 1) (listed' := lb 15 3) (by kernel_rfl) rfl (by kernel_rfl) (by decide) hpk ha rfl (fun w => ex_move ha) rfl ?_; clear ha; (try clear a); intro a ha
                    refine ha.bool (s := 87) (fun hg1 ha => ?_) (fun hg1 ha => ?_)
                    ·
                      try simp only [decide_eq_true_eq, decide_eq_false_iff_not, Bool.not_eq_true', Bool.not_eq_false', Int.not_lt, Int.not_le, ne_eq, Decidable.not_not] at hg1
                      refine nt_pure (i := 2) (listed' := lb 15 7) (by kernel_rfl) rfl (by kernel_rfl) (by decide) hpk ha (wgT ha rfl (s := 87)) (fun w => ex_move ha) rfl ?_; clear ha; (try clear a); intro a ha
                      refine nt_pure (i := 3) (listed' := lb 15 15) (by kernel_rfl) rfl (by kernel_rfl) (by decide) hpk ha (wgT ha rfl (s := 87)) (fun w => ex_not ha) rfl ?_; clear ha; (try clear a); intro a ha
                      refine nt_pure (i := 4) (listed' := lb 15 31) (by kernel_rfl) rfl (by kernel_rfl) (by decide) hpk ha (wgT ha rfl (s := 87)) (fun w => ex_move ha) rfl ?_; clear ha; (try clear a); intro a ha
                      refine ha.bool (s := 90) (fun hg4 ha => ?_) (fun hg4 ha => ?_)
                      ·
                        try simp only [decide_eq_true_eq, decide_eq_false_iff_not, Bool.not_eq_true', Bool.not_eq_false', Int.not_lt, Int.not_le, ne_eq, Decidable.not_not] at hg4
                        refine nt_off (i := 5) (listed' := lb 15 63) (by kernel_rfl) rfl (by kernel_rfl) (by decide) hpk ha (wgF ha rfl (s := 90) rfl) rfl ?_; clear ha; (try clear a); intro a ha
                        refine nt_off (i := 6) (listed' := lb 15 127) (by kernel_rfl) rfl (by kernel_rfl) (by decide) hpk ha (wgF ha rfl (s := 90) rfl) rfl ?_; clear ha; (try clear a); intro a ha
                        refine nt_off (i := 7) (listed' := lb 15 255) (by kernel_rfl) rfl (by kernel_rfl) (by decide) hpk ha (wgF ha rfl (s := 90) rfl) rfl ?_; clear ha; (try clear a); intro a ha
                        refine nt_off (i := 9) (listed' := lb 15 767) (by kernel_rfl) rfl (by kernel_rfl) (by decide) hpk ha (wgF ha rfl (s := 90) rfl) rfl ?_; clear ha; (try clear a); intro a ha
                        refine nt_offH (i := 8) (listed' := lb 15 1023) (by kernel_rfl) rfl (by kernel_rfl) hpk ha (wgF ha rfl (s := 90) rfl) hC rfl ?_; clear ha; (try clear a); intro a ha
                        refine nt_offH (i := 10) (listed' := lb 15 2047) (by kernel_rfl) rfl (by kernel_rfl) hpk ha (wgF ha rfl (s := 90) rfl) hC rfl ?_; clear ha; (try clear a); intro a ha
                        refine nt_off (i := 11) (listed' := lb 15 4095) (by kernel_rfl) rfl (by kernel_rfl) (by decide) hpk ha (wgF ha rfl (s := 90) rfl) rfl ?_; clear ha; (try clear a); intro a ha
                        refine nt_pure (i := 12) (listed' := lb 15 8191) (by kernel_rfl) rfl (by kernel_rfl) (by decide) hpk ha (wgT ha rfl (s := 87)) (fun w => ex_pickT ha) rfl ?_; clear ha; (try clear a); intro a ha
                        refine nt_pure (i := 13) (listed' := lb 15 16383) (by kernel_rfl) rfl (by kernel_rfl) (by decide) hpk ha rfl (fun w => ex_pickT ha) rfl ?_; clear ha; (try clear a); intro a ha
                        refine nt_pure (i := 14) (listed' := lb 15 32767) (by kernel_rfl) rfl (by kernel_rfl) (by decide) hpk ha rfl (fun w => ex_assign ha) rfl ?_; clear ha; (try clear a); intro a ha
                        refine nt_done (by kernel_rfl) ?_ _
                        refine then_n ?_
                        obtain ⟨_, kk, z, c, hz, h0, ek, ex, eC, hc, es⟩ := hsh.resolve_right (fun h => by rw [hg1] at h; cases h.1)
                        have hsf : sh = false := by simpa using hg4
                        rw [hsf] at es
                        exact ⟨_, .inl ⟨rfl, kk, z, c, hz, h0, ek, ex, eC, hc, .inr ⟨hsf, by have := of_decide_eq_false es.symm; omega⟩⟩, ha.keep [0, 1, 5, 7, 8, 17, 18], hs.sub⟩
                      ·
                        try simp only [decide_eq_true_eq, decide_eq_false_iff_not, Bool.not_eq_true', Bool.not_eq_false', Int.not_lt, Int.not_le, ne_eq, Decidable.not_not] at hg4
                        refine nt_pure (i := 5) (listed' := lb 15 63) (by kernel_rfl) rfl (by kernel_rfl) (by decide) hpk ha (wgT ha rfl (s := 90)) (fun w => ex_move ha) rfl ?_; clear ha; (try clear a); intro a ha
                        refine nt_pure (i := 6) (listed' := lb 15 127) (by kernel_rfl) rfl (by kernel_rfl) (by decide) hpk ha (wgT ha rfl (s := 90)) (fun w => ex_nilCheck ha) rfl ?_; clear ha; (try clear a); intro a ha
                        refine nt_pure (i := 7) (listed' := lb 15 255) (by kernel_rfl) rfl (by kernel_rfl) (by decide) hpk ha (wgT ha rfl (s := 90)) (fun w => ex_fieldAddr (k := 2) ha Try.underlying56 rfl Ty.t3 rfl) rfl ?_; clear ha; (try clear a); intro a ha
                        refine nt_pure (i := 9) (listed' := lb 15 767) (by kernel_rfl) rfl (by kernel_rfl) (by decide) hpk ha (wgT ha rfl (s := 90)) (fun w => ex_move ha) rfl ?_; clear ha; (try clear a); intro a ha
                        refine nt_held (i := 8) (listed' := lb 15 1023) (by kernel_rfl) rfl (by kernel_rfl) hpk ha (wgT ha rfl (s := 90)) (fun w hc => ex_load1 ha Try.underlying3 rfl (hc)) hC rfl ?_; clear ha; (try clear a); intro a ha
                        refine nt_one (i := 10) (listed' := lb 15 2047) (by kernel_rfl) (by kernel_rfl) rfl (st_call ha (wgT ha rfl (s := 90)) Ty.c43 rfl (used_spec (hs.pick (Book bb A.room nx B)) hB.zero (by omega)) ?_); clear ha hs
                        rintro e w ⟨rfl, hs⟩
                        refine ⟨_, rfl, ?_⟩
                        intro a ha
                        replace hC : (fun w' => w'.cell? ⟨bb, 2, none⟩ = some (.int .i64 A.room)) w := (by
                          obtain ⟨_, _, _, ho⟩ := Book.open (hs.pick (Book bb A.room nx B))
                          exact ho.rd1 rfl)
                        refine ⟨fun _ => hC, ?_⟩
                        refine nt_pure (i := 11) (listed' := lb 15 4095) (by kernel_rfl) rfl (by kernel_rfl) (by decide) hpk ha (wgT ha rfl (s := 90)) (fun w => ex_gtr ha) rfl ?_; clear ha; (try clear a); intro a ha
                        refine nt_pure (i := 12) (listed' := lb 15 8191) (by kernel_rfl) rfl (by kernel_rfl) (by decide) hpk ha (wgT ha rfl (s := 87)) (fun w => ex_pickF ha) rfl ?_; clear ha; (try clear a); intro a ha
                        refine nt_pure (i := 13) (listed' := lb 15 16383) (by kernel_rfl) rfl (by kernel_rfl) (by decide) hpk ha rfl (fun w => ex_pickT ha) rfl ?_; clear ha; (try clear a); intro a ha
                        refine nt_pure (i := 14) (listed' := lb 15 32767) (by kernel_rfl) rfl (by kernel_rfl) (by decide) hpk ha rfl (fun w => ex_assign ha) rfl ?_; clear ha; (try clear a); intro a ha
                        refine nt_done (by kernel_rfl) ?_ _
                        refine then_n ?_
                        obtain ⟨_, kk, z, c, hz, h0, ek, ex, eC, hc, es⟩ := hsh.resolve_right (fun h => by rw [hg1] at h; cases h.1)
                        have hst : sh = true := by simpa using hg4
                        rw [hst] at es
                        have h1 := of_decide_eq_true es.symm
                        refine ⟨decide ((usedTo B nx : Int) < (A.room : Int)), ?_, ha.keep [0, 1, 5, 7, 8, 17, 18], hs.sub⟩
                        by_cases hlt : usedTo B nx < A.room
                        · exact .inl ⟨decide_eq_true (by omega), kk, z, c, hz, h0, ek, ex, eC, hc, .inl ⟨hst, h1, by rw [hu]; exact hlt⟩⟩
                        · exact .inr ⟨decide_eq_false (by omega), .inr ⟨kk, z, hz, h0, ex, .inr ⟨c, eC, hc, h1, by rw [hu]; omega⟩⟩⟩
                    ·
                      try simp only [decide_eq_true_eq, decide_eq_false_iff_not, Bool.not_eq_true', Bool.not_eq_false', Int.not_lt, Int.not_le, ne_eq, Decidable.not_not] at hg1
                      refine nt_off (i := 2) (listed' := lb 15 7) (by kernel_rfl) rfl (by kernel_rfl) (by decide) hpk ha (wgF ha rfl (s := 87) rfl) rfl ?_; clear ha; (try clear a); intro a ha
                      refine nt_off (i := 3) (listed' := lb 15 15) (by kernel_rfl) rfl (by kernel_rfl) (by decide) hpk ha (wgF ha rfl (s := 87) rfl) rfl ?_; clear ha; (try clear a); intro a ha
                      refine nt_offU (i := 4) (listed' := lb 15 31) (by kernel_rfl) rfl (by kernel_rfl) (by decide) hpk ha (wgF ha rfl (s := 87) rfl) rfl ?_; clear ha; (try clear a); intro a ha
                      refine nt_off (i := 5) (listed' := lb 15 63) (by kernel_rfl) rfl (by kernel_rfl) (by decide) hpk ha (wgU ha rfl (s := 90)) rfl ?_; clear ha; (try clear a); intro a ha
                      refine nt_off (i := 6) (listed' := lb 15 127) (by kernel_rfl) rfl (by kernel_rfl) (by decide) hpk ha (wgU ha rfl (s := 90)) rfl ?_; clear ha; (try clear a); intro a ha
                      refine nt_off (i := 7) (listed' := lb 15 255) (by kernel_rfl) rfl (by kernel_rfl) (by decide) hpk ha (wgU ha rfl (s := 90)) rfl ?_; clear ha; (try clear a); intro a ha
                      refine nt_off (i := 9) (listed' := lb 15 767) (by kernel_rfl) rfl (by kernel_rfl) (by decide) hpk ha (wgU ha rfl (s := 90)) rfl ?_; clear ha; (try clear a); intro a ha
                      refine nt_offH (i := 8) (listed' := lb 15 1023) (by kernel_rfl) rfl (by kernel_rfl) hpk ha (wgU ha rfl (s := 90)) hC rfl ?_; clear ha; (try clear a); intro a ha
                      refine nt_offH (i := 10) (listed' := lb 15 2047) (by kernel_rfl) rfl (by kernel_rfl) hpk ha (wgU ha rfl (s := 90)) hC rfl ?_; clear ha; (try clear a); intro a ha
                      refine nt_off (i := 11) (listed' := lb 15 4095) (by kernel_rfl) rfl (by kernel_rfl) (by decide) hpk ha (wgU ha rfl (s := 90)) rfl ?_; clear ha; (try clear a); intro a ha
                      refine nt_off (i := 12) (listed' := lb 15 8191) (by kernel_rfl) rfl (by kernel_rfl) (by decide) hpk ha (wgF ha rfl (s := 87) rfl) rfl ?_; clear ha; (try clear a); intro a ha
                      refine nt_pure (i := 13) (listed' := lb 15 16383) (by kernel_rfl) rfl (by kernel_rfl) (by decide) hpk ha rfl (fun w => ex_pickF ha) rfl ?_; clear ha; (try clear a); intro a ha
                      refine nt_pure (i := 14) (listed' := lb 15 32767) (by kernel_rfl) rfl (by kernel_rfl) (by decide) hpk ha rfl (fun w => ex_assign ha) rfl ?_; clear ha; (try clear a); intro a ha
                      refine nt_done (by kernel_rfl) ?_ _
                      refine then_n ?_
                      refine ⟨_, .inr ⟨rfl, ?_⟩, ha.keep [0, 1, 5, 7, 8, 17, 18], hs.sub⟩
                      rcases hi with ⟨hin, kk, z, hz, h0, ek, ex⟩ | ⟨_, hno⟩
                      · refine .inr ⟨kk, z, hz, h0, ex, .inl ?_⟩
                        rcases Int.lt_or_le C 0 with h | h
                        · exact .inl h
                        · rcases Int.lt_or_le C 32 with h2 | h2
                          · have := hcell.2 ⟨hin, h, h2⟩
                            rw [hg1] at this; cases this
                          · exact .inr h2
                      · exact .inl hno
                  · clear ha; (try clear hs)
                    intro a w hcut
                    obtain ⟨wt, hsp, ha, hs⟩ := hcut
                    refine wp_seq ?_
                    refine wp_seq ?_
                    refine wp_region_lit ?_
                    refine wpList_k (st_set ha rfl (ex_move ha) rfl ?_); clear ha; (try clear a); intro a ha
                    refine wpList_k (st_set ha rfl (ex_move ha) rfl ?_); clear ha; (try clear a); intro a ha
                    refine wpList_k (st_set ha rfl (ex_fieldAddr (k := 2) ha Try.underlying59 rfl Ty.t3 rfl) rfl ?_); clear ha; (try clear a); intro a ha
                    refine wpList_k (st_set ha rfl (ex_load1 ha Try.underlying3 rfl (hs.rd1 rfl)) rfl ?_); clear ha; (try clear a); intro a ha
                    refine wpList_k (st_set ha rfl (ex_fieldAddr (k := 3) ha Try.underlying59 rfl Ty.t21 rfl) rfl ?_); clear ha; (try clear a); intro a ha
                    refine wpList_k (st_set ha rfl (ex_load1 ha Try.underlying21 rfl (hs.rd1 rfl)) rfl ?_); clear ha; (try clear a); intro a ha
                    refine wpList_k (st_call ha rfl Ty.c15 rfl (set_case (hs.store q) hB hsp) ?_); clear ha hs
                    rintro e w ⟨A', rfl, hcase, hs⟩
                    refine ⟨_, rfl, ?_⟩
                    intro a ha
                    refine wpList_k (st_set ha rfl (ex_move ha) rfl ?_); clear ha; (try clear a); intro a ha
                    refine wpList_k (st_set ha rfl (ex_neqB ha Try.underlying4) rfl ?_); clear ha; (try clear a); intro a ha
                    rw [bne_self_eq_false] at ha
                    refine wpList_nil ?_
                    refine then_n ?_
                    refine wp_ifF ha ?_
                    refine wp_skip ?_
                    refine then_n ?_
                    refine wp_seq ?_
                    refine wp_seq ?_
                    refine wp_region_lit ?_
                    refine wpList_k (st_set ha rfl (ex_move ha) rfl ?_); clear ha; (try clear a); intro a ha
                    refine wpList_k (st_set ha rfl (ex_move ha) rfl ?_); clear ha; (try clear a); intro a ha
                    refine ha.bool (s := 110) (fun hg1 ha => ?_) (fun hg1 ha => ?_)
                    ·
                      try simp only [decide_eq_true_eq, decide_eq_false_iff_not, Bool.not_eq_true', Bool.not_eq_false', Int.not_lt, Int.not_le, ne_eq, Decidable.not_not] at hg1
                      obtain ⟨_, hn, hr, kk, z, c, s, hz, ek, eC, hc, hB'⟩ := hcase.resolve_left (fun h => by rw [hg1] at h; cases h.1)
                      obtain ⟨hkB, hze⟩ := List.getElem?_eq_some_iff.1 hz
                      replace ha := ha.keep [0, 1, 5, 7, 8, 17, 18, 110]
                      rw [hg1, ek] at ha
                      rw [eC] at hs
                      have hq8 : (c : Int).tdiv 8 = ((c / 8 : Nat) : Int) := quoN c 8
                      refine wpList_k (st_set ha (wgT ha rfl (s := 110)) (ex_move ha) rfl ?_); clear ha; (try clear a); intro a ha
                      refine wpList_k (st_set ha rfl (ex_pickT ha) rfl ?_); clear ha; (try clear a); intro a ha
                      refine wpList_nil ?_
                      refine then_n ?_
                      refine wp_if ha (fun hc14 => ?_) (fun hc14 => ?_)
                      ·
                        try simp only [decide_eq_true_eq, decide_eq_false_iff_not, Bool.not_eq_true', Bool.not_eq_false', Int.not_lt, Int.not_le, ne_eq, Decidable.not_not] at hc14
                        rw [hc14] at hB'
                        rw [if_pos rfl] at hB'
                        obtain ⟨zn, hzn⟩ : ∃ zn : Bz, (wrt z nx c V true, s) = zn := ⟨_, rfl⟩
                        rw [hzn] at hB'
                        refine wp_seq ?_
                        obtain ⟨ad, cb, _, hs1⟩ := Book.open (hs.pick (Book bb A.room nx B))
                        replace hs := hs1
                        clear hs1
                        refine wp_region_lit ?_
                        refine wpList_k (st_set ha rfl (ex_move ha) rfl ?_); clear ha; (try clear a); intro a ha
                        refine wpList_k (st_set ha rfl (ex_nilCheck ha) rfl ?_); clear ha; (try clear a); intro a ha
                        refine wpList_k (st_set ha rfl (ex_fieldAddr (k := 1) ha Try.underlying56 rfl Ty.t3 rfl) rfl ?_); clear ha; (try clear a); intro a ha
                        refine wpList_k (st_set ha rfl (ex_load1 ha Try.underlying3 rfl (hs.rd1 rfl)) rfl ?_); clear ha; (try clear a); intro a ha
                        refine wpList_k (st_set ha rfl (ex_addI ha (by omega) (by omega)) rfl ?_); clear ha; (try clear a); intro a ha
                        refine wpList_k (st_set ha rfl (ex_nilCheck ha) rfl ?_); clear ha; (try clear a); intro a ha
                        refine wpList_k (st_set ha rfl (ex_fieldAddr (k := 1) ha Try.underlying56 rfl Ty.t3 rfl) rfl ?_); clear ha; (try clear a); intro a ha
                        refine wpList_k (st_store ha rfl hs Ty.t3 rfl (by simp) ?_); clear ha hs; (try clear a); (try clear w); intro a w ha hs
                        refine wpList_nil ?_
                        rw [show ((nx : Int) + 1) = ((nx + 1 : Nat) : Int) from rfl] at hs
                        obtain ⟨b', off', hade, hrd⟩ := hs.slRd ad (by omega)
                        rw [hade] at hs
                        obtain ⟨z1, hz1⟩ : ∃ z1 : Bz, (⟨z.1.id, z.1.refs, z.1.g, fun j => if j = c / 8 then nx + 1 else z.1.p j⟩, s) = z1 := ⟨_, rfl⟩
                        refine then_n ?_
                        refine wp_draw (m := 16) (l0 := lb 16 0) (Old w.drew) [6, 7, 11] Ty.mixed (by kernel_rfl) (by kernel_rfl) (pk_then (pk_blk (pk_then pk_body))) (fun hpk => ?_)
                        replace hs := hs.drew
                        have hC := Old.refl w.drew
                        generalize w.drew = w at hs hC hpk ⊢
                        refine nt_pure (i := 0) (listed' := lb 16 1) (by kernel_rfl) rfl (by kernel_rfl) (by decide) hpk ha rfl (fun w => ex_move ha) rfl ?_; clear ha; (try clear a); intro a ha
                        refine nt_pure (i := 1) (listed' := lb 16 3) (by kernel_rfl) rfl (by kernel_rfl) (by decide) hpk ha rfl (fun w => ex_nilCheck ha) rfl ?_; clear ha; (try clear a); intro a ha
                        refine nt_pure (i := 2) (listed' := lb 16 7) (by kernel_rfl) rfl (by kernel_rfl) (by decide) hpk ha rfl (fun w => ex_fieldAddr (k := 0) ha Try.underlying56 rfl Ty.t54 rfl) rfl ?_; clear ha; (try clear a); intro a ha
                        refine nt_pure (i := 4) (listed' := lb 16 23) (by kernel_rfl) rfl (by kernel_rfl) (by decide) hpk ha rfl (fun w => ex_move ha) rfl ?_; clear ha; (try clear a); intro a ha
                        refine nt_pure (i := 5) (listed' := lb 16 55) (by kernel_rfl) rfl (by kernel_rfl) (by decide) hpk ha rfl (fun w => ex_fieldAddr (k := 2) ha Try.underlying59 rfl Ty.t3 rfl) rfl ?_; clear ha; (try clear a); intro a ha
                        refine nt_pure (i := 8) (listed' := lb 16 311) (by kernel_rfl) rfl (by kernel_rfl) (by decide) hpk ha rfl (fun w => ex_move ha) rfl ?_; clear ha; (try clear a); intro a ha
                        refine nt_pure (i := 9) (listed' := lb 16 823) (by kernel_rfl) rfl (by kernel_rfl) (by decide) hpk ha rfl (fun w => ex_nilCheck ha) rfl ?_; clear ha; (try clear a); intro a ha
                        refine nt_pure (i := 10) (listed' := lb 16 1847) (by kernel_rfl) rfl (by kernel_rfl) (by decide) hpk ha rfl (fun w => ex_fieldAddr (k := 1) ha Try.underlying56 rfl Ty.t3 rfl) rfl ?_; clear ha; (try clear a); intro a ha
                        refine nt_held (i := 3) (listed' := lb 16 1855) (by kernel_rfl) rfl (by kernel_rfl) hpk ha rfl (fun w hc => ex_load1 ha Try.underlying54 rfl (hc.cell (hs.rd1 rfl))) hC rfl ?_; clear ha; (try clear a); intro a ha
                        refine nt_pure (i := 12) (listed' := lb 16 5951) (by kernel_rfl) rfl (by kernel_rfl) (by decide) hpk ha rfl (fun w => ex_indexAddr ha Try.underlying54 Ty.t92 (by omega)) rfl ?_; clear ha; (try clear a); intro a ha
                        refine nt_pure (i := 13) (listed' := lb 16 14143) (by kernel_rfl) rfl (by kernel_rfl) (by decide) hpk ha rfl (fun w => ex_fieldAddr (k := 34) ha Try.underlying92 rfl Ty.t67 rfl) rfl ?_; clear ha; (try clear a); intro a ha
                        refine nt_held (i := 6) (listed' := lb 16 14207) (by kernel_rfl) rfl (by kernel_rfl) hpk ha rfl (fun w hc => ex_load1 ha Try.underlying3 rfl (hc.cell (hs.rd1 rfl))) hC rfl ?_; clear ha; (try clear a); intro a ha
                        refine nt_held (i := 7) (listed' := lb 16 14335) (by kernel_rfl) rfl (by kernel_rfl) hpk ha rfl (fun w hc => ex_quo ha (by decide) (by rw [hq8]; exact wrap_in (by omega) (by omega))) hC rfl ?_; clear ha; (try clear a); intro a ha
                        rw [hq8] at ha
                        refine nt_one (i := 11) (listed' := lb 16 16383) (by kernel_rfl) (by kernel_rfl) rfl (st_set ha rfl (ex_load1 ha Try.underlying3 rfl (hs.rd1 rfl)) rfl ?_); clear ha; (try clear a); intro a ha
                        refine ⟨fun _ => hC, ?_⟩
                        refine nt_pure (i := 14) (listed' := lb 16 32767) (by kernel_rfl) rfl (by kernel_rfl) (by decide) hpk ha rfl (fun w => ex_indexAddrA ha Try.underlying67 Ty.t3 (by omega)) rfl ?_; clear ha; (try clear a); intro a ha
                        refine nt_one (i := 15) (listed' := lb 16 65535) (by kernel_rfl) (by kernel_rfl) rfl (st_storeS (off := off') (k := kk * 38 + (34 + c / 8)) ha rfl hs Ty.t3 rfl (by omega) (by rw [rows_len bkc_len]; omega) ?_); clear ha hs; (try clear a); (try clear w); intro a w ha hs
                        refine ⟨fun h => absurd h (by decide), ?_⟩
                        rw [rows_set1 bkc_len B z1 hkB (by omega) (by rw [hze, ← hz1]; exact bkc_setp z (by omega) (nx + 1) s)] at hs
                        refine nt_done (by kernel_rfl) ?_ _
                        refine then_n ?_
                        refine wp_seq ?_
                        refine wp_region_lit ?_
                        refine wpList_k (st_set ha rfl (ex_move ha) rfl ?_); clear ha; (try clear a); intro a ha
                        refine wpList_nil ?_
                        refine then_n ?_
                        refine wp_ifT ha ?_
                        refine wp_draw (m := 13) (l0 := lb 13 0) (Old w.drew) [6, 8] Ty.mixed (by kernel_rfl) (by kernel_rfl) (pk_blk (pk_then pk_body)) (fun hpk => ?_)
                        replace hs := hs.drew
                        have hC := Old.refl w.drew
                        generalize w.drew = w at hs hC hpk ⊢
                        refine nt_pure (i := 0) (listed' := lb 13 1) (by kernel_rfl) rfl (by kernel_rfl) (by decide) hpk ha rfl (fun w => ex_move ha) rfl ?_; clear ha; (try clear a); intro a ha
                        refine nt_pure (i := 1) (listed' := lb 13 3) (by kernel_rfl) rfl (by kernel_rfl) (by decide) hpk ha rfl (fun w => ex_nilCheck ha) rfl ?_; clear ha; (try clear a); intro a ha
                        refine nt_pure (i := 2) (listed' := lb 13 7) (by kernel_rfl) rfl (by kernel_rfl) (by decide) hpk ha rfl (fun w => ex_fieldAddr (k := 0) ha Try.underlying56 rfl Ty.t54 rfl) rfl ?_; clear ha; (try clear a); intro a ha
                        refine nt_pure (i := 4) (listed' := lb 13 23) (by kernel_rfl) rfl (by kernel_rfl) (by decide) hpk ha rfl (fun w => ex_move ha) rfl ?_; clear ha; (try clear a); intro a ha
                        refine nt_pure (i := 5) (listed' := lb 13 55) (by kernel_rfl) rfl (by kernel_rfl) (by decide) hpk ha rfl (fun w => ex_fieldAddr (k := 2) ha Try.underlying59 rfl Ty.t3 rfl) rfl ?_; clear ha; (try clear a); intro a ha
                        refine nt_pure (i := 7) (listed' := lb 13 183) (by kernel_rfl) rfl (by kernel_rfl) (by decide) hpk ha rfl (fun w => ex_fieldAddr (k := 3) ha Try.underlying59 rfl Ty.t21 rfl) rfl ?_; clear ha; (try clear a); intro a ha
                        refine nt_held (i := 3) (listed' := lb 13 191) (by kernel_rfl) rfl (by kernel_rfl) hpk ha rfl (fun w hc => ex_load1 ha Try.underlying54 rfl (hc.cell (hs.rd1 rfl))) hC rfl ?_; clear ha; (try clear a); intro a ha
                        refine nt_pure (i := 9) (listed' := lb 13 703) (by kernel_rfl) rfl (by kernel_rfl) (by decide) hpk ha rfl (fun w => ex_indexAddr ha Try.underlying54 Ty.t92 (by omega)) rfl ?_; clear ha; (try clear a); intro a ha
                        refine nt_pure (i := 10) (listed' := lb 13 1727) (by kernel_rfl) rfl (by kernel_rfl) (by decide) hpk ha rfl (fun w => ex_fieldAddr (k := 2) ha Try.underlying92 rfl Ty.t46 rfl) rfl ?_; clear ha; (try clear a); intro a ha
                        refine nt_held (i := 6) (listed' := lb 13 1791) (by kernel_rfl) rfl (by kernel_rfl) hpk ha rfl (fun w hc => ex_load1 ha Try.underlying3 rfl (hc.cell (hs.rd1 rfl))) hC rfl ?_; clear ha; (try clear a); intro a ha
                        refine nt_one (i := 8) (listed' := lb 13 2047) (by kernel_rfl) (by kernel_rfl) rfl (st_set ha rfl (ex_load1 ha Try.underlying21 rfl (hs.rd1 rfl)) rfl ?_); clear ha; (try clear a); intro a ha
                        refine ⟨fun _ => hC, ?_⟩
                        refine nt_pure (i := 11) (listed' := lb 13 4095) (by kernel_rfl) rfl (by kernel_rfl) (by decide) hpk ha rfl (fun w => ex_indexAddrA ha Try.underlying46 Ty.t21 (by omega)) rfl ?_; clear ha; (try clear a); intro a ha
                        refine nt_one (i := 12) (listed' := lb 13 8191) (by kernel_rfl) (by kernel_rfl) rfl (st_storeS (off := off') (k := kk * 38 + (2 + c)) ha rfl hs Ty.t21 rfl (by omega) (by rw [rows_len bkc_len]; (try rw [List.length_set]); omega) ?_); clear ha hs; (try clear a); (try clear w); intro a w ha hs
                        refine ⟨fun h => absurd h (by decide), ?_⟩
                        rw [rows_set1 bkc_len (B.set kk z1) zn (by simpa using hkB) (by omega) (by rw [List.getElem_set_self, ← hz1, ← hzn]; exact bkc_setg _ hc V s), List.set_set, show B.length = (B.set kk zn).length from by simp] at hs
                        replace hs : St W w (Book bb A.room (nx + 1) (B.set kk zn) :: Store q r A' :: L) := Book.close (ad := some ⟨b', off', none⟩) (c := cb) hs (by simp; omega)
                        refine nt_done (by kernel_rfl) ?_ _
                        refine blk_n <| then_n ?_
                        refine wp_seq ?_
                        refine wp_region_lit ?_
                        refine wpList_k (st_set ha rfl (ex_assign ha) rfl ?_); clear ha; (try clear a); intro a ha
                        refine wpList_nil ?_
                        refine then_n ?_
                        refine wp_ret ?_
                        refine ret1 ha rfl ?_
                        exact hfin _ A' (B.set kk zn) (nx + 1) hs.sub hB' (by omega) (by omega) (by simp) hr
                      ·
                        try simp only [decide_eq_true_eq, decide_eq_false_iff_not, Bool.not_eq_true', Bool.not_eq_false', Int.not_lt, Int.not_le, ne_eq, Decidable.not_not] at hc14
                        rw [hc14] at hB'
                        rw [if_neg (by decide)] at hB'
                        obtain ⟨zn, hzn⟩ : ∃ zn : Bz, (wrt z nx c V false, s) = zn := ⟨_, rfl⟩
                        rw [hzn] at hB'
                        refine wp_skip ?_
                        refine then_n ?_
                        refine wp_seq ?_
                        refine wp_region_lit ?_
                        refine wpList_k (st_set ha rfl (ex_move ha) rfl ?_); clear ha; (try clear a); intro a ha
                        refine wpList_nil ?_
                        refine then_n ?_
                        refine wp_ifT ha ?_
                        obtain ⟨ad, cb, _, hs1⟩ := Book.open (hs.pick (Book bb A.room nx B))
                        replace hs := hs1
                        clear hs1
                        obtain ⟨b', off', hade, hrd⟩ := hs.slRd ad (by omega)
                        rw [hade] at hs
                        refine wp_draw (m := 13) (l0 := lb 13 0) (Old w.drew) [6, 8] Ty.mixed (by kernel_rfl) (by kernel_rfl) (pk_blk (pk_then pk_body)) (fun hpk => ?_)
                        replace hs := hs.drew
                        have hC := Old.refl w.drew
                        generalize w.drew = w at hs hC hpk ⊢
                        refine nt_pure (i := 0) (listed' := lb 13 1) (by kernel_rfl) rfl (by kernel_rfl) (by decide) hpk ha rfl (fun w => ex_move ha) rfl ?_; clear ha; (try clear a); intro a ha
                        refine nt_pure (i := 1) (listed' := lb 13 3) (by kernel_rfl) rfl (by kernel_rfl) (by decide) hpk ha rfl (fun w => ex_nilCheck ha) rfl ?_; clear ha; (try clear a); intro a ha
                        refine nt_pure (i := 2) (listed' := lb 13 7) (by kernel_rfl) rfl (by kernel_rfl) (by decide) hpk ha rfl (fun w => ex_fieldAddr (k := 0) ha Try.underlying56 rfl Ty.t54 rfl) rfl ?_; clear ha; (try clear a); intro a ha
                        refine nt_pure (i := 4) (listed' := lb 13 23) (by kernel_rfl) rfl (by kernel_rfl) (by decide) hpk ha rfl (fun w => ex_move ha) rfl ?_; clear ha; (try clear a); intro a ha
                        refine nt_pure (i := 5) (listed' := lb 13 55) (by kernel_rfl) rfl (by kernel_rfl) (by decide) hpk ha rfl (fun w => ex_fieldAddr (k := 2) ha Try.underlying59 rfl Ty.t3 rfl) rfl ?_; clear ha; (try clear a); intro a ha
                        refine nt_pure (i := 7) (listed' := lb 13 183) (by kernel_rfl) rfl (by kernel_rfl) (by decide) hpk ha rfl (fun w => ex_fieldAddr (k := 3) ha Try.underlying59 rfl Ty.t21 rfl) rfl ?_; clear ha; (try clear a); intro a ha
                        refine nt_held (i := 3) (listed' := lb 13 191) (by kernel_rfl) rfl (by kernel_rfl) hpk ha rfl (fun w hc => ex_load1 ha Try.underlying54 rfl (hc.cell (hs.rd1 rfl))) hC rfl ?_; clear ha; (try clear a); intro a ha
                        refine nt_pure (i := 9) (listed' := lb 13 703) (by kernel_rfl) rfl (by kernel_rfl) (by decide) hpk ha rfl (fun w => ex_indexAddr ha Try.underlying54 Ty.t92 (by omega)) rfl ?_; clear ha; (try clear a); intro a ha
                        refine nt_pure (i := 10) (listed' := lb 13 1727) (by kernel_rfl) rfl (by kernel_rfl) (by decide) hpk ha rfl (fun w => ex_fieldAddr (k := 2) ha Try.underlying92 rfl Ty.t46 rfl) rfl ?_; clear ha; (try clear a); intro a ha
                        refine nt_held (i := 6) (listed' := lb 13 1791) (by kernel_rfl) rfl (by kernel_rfl) hpk ha rfl (fun w hc => ex_load1 ha Try.underlying3 rfl (hc.cell (hs.rd1 rfl))) hC rfl ?_; clear ha; (try clear a); intro a ha
                        refine nt_one (i := 8) (listed' := lb 13 2047) (by kernel_rfl) (by kernel_rfl) rfl (st_set ha rfl (ex_load1 ha Try.underlying21 rfl (hs.rd1 rfl)) rfl ?_); clear ha; (try clear a); intro a ha
                        refine ⟨fun _ => hC, ?_⟩
                        refine nt_pure (i := 11) (listed' := lb 13 4095) (by kernel_rfl) rfl (by kernel_rfl) (by decide) hpk ha rfl (fun w => ex_indexAddrA ha Try.underlying46 Ty.t21 (by omega)) rfl ?_; clear ha; (try clear a); intro a ha
                        refine nt_one (i := 12) (listed' := lb 13 8191) (by kernel_rfl) (by kernel_rfl) rfl (st_storeS (off := off') (k := kk * 38 + (2 + c)) ha rfl hs Ty.t21 rfl (by omega) (by rw [rows_len bkc_len]; (try rw [List.length_set]); omega) ?_); clear ha hs; (try clear a); (try clear w); intro a w ha hs
                        refine ⟨fun h => absurd h (by decide), ?_⟩
                        rw [rows_set1 bkc_len B zn hkB (by omega) (by rw [hze, ← hzn]; exact bkc_setg z hc V s), show B.length = (B.set kk zn).length from by simp] at hs
                        replace hs : St W w (Book bb A.room nx (B.set kk zn) :: Store q r A' :: L) := Book.close (ad := some ⟨b', off', none⟩) (c := cb) hs (by simp; omega)
                        refine nt_done (by kernel_rfl) ?_ _
                        refine blk_n <| then_n ?_
                        refine wp_seq ?_
                        refine wp_region_lit ?_
                        refine wpList_k (st_set ha rfl (ex_assign ha) rfl ?_); clear ha; (try clear a); intro a ha
                        refine wpList_nil ?_
                        refine then_n ?_
                        refine wp_ret ?_
                        refine ret1 ha rfl ?_
                        exact hfin _ A' (B.set kk zn) nx hs.sub hB' (by omega) (by omega) (by simp) hr
                    ·
                      try simp only [decide_eq_true_eq, decide_eq_false_iff_not, Bool.not_eq_true', Bool.not_eq_false', Int.not_lt, Int.not_le, ne_eq, Decidable.not_not] at hg1
                      obtain ⟨_, eA⟩ := hcase.resolve_right (fun h => by rw [hg1] at h; cases h.1)
                      replace ha := ha.keep [0, 1, 5, 7, 8, 17, 18, 110]
                      rw [hg1] at ha
                      rw [eA] at hs
                      refine wpList_k (st_off ha (wgF ha rfl (s := 110) rfl) rfl ?_); clear ha; (try clear a); intro a ha
                      refine wpList_k (st_set ha rfl (ex_pickF ha) rfl ?_); clear ha; (try clear a); intro a ha
                      refine wpList_nil ?_
                      refine then_n ?_
                      refine wp_ifF ha ?_
                      refine wp_skip ?_
                      refine then_n ?_
                      refine wp_seq ?_
                      refine wp_region_lit ?_
                      refine wpList_k (st_set ha rfl (ex_move ha) rfl ?_); clear ha; (try clear a); intro a ha
                      refine wpList_nil ?_
                      refine then_n ?_
                      refine wp_ifF ha ?_
                      refine wp_skip ?_
                      refine blk_n <| then_n ?_
                      refine wp_seq ?_
                      refine wp_region_lit ?_
                      refine wpList_k (st_set ha rfl (ex_assign ha) rfl ?_); clear ha; (try clear a); intro a ha
                      refine wpList_nil ?_
                      refine then_n ?_
                      refine wp_ret ?_
                      refine ret1 ha rfl ?_
                      exact hfin _ A B nx hs.sub hB (by omega) (by omega) (by omega) rfl
end
end Go.Proofs.Ytpfblmpgljodmaa

