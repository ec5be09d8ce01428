/- How many pages are in use; a store wherever it stands; what the laws of snap begin with. -/
import Derived.Test.YtpfblmpgljodmaaSnap2
namespace Go.Proofs.Ytpfblmpgljodmaa
open Go.RowKit
set_option linter.unusedVariables false
set_option linter.unusedSimpArgs false
set_option maxRecDepth 10000
set_option synthInstance.maxSize 4000
set_option synthInstance.maxHeartbeats 400000

/-- How many different numbers. -/
def distinct : List Nat → Nat
  | [] => 0
  | x :: l => distinct l + if x ∈ l then 0 else 1
def pagesOf (l : List Pic) : List Nat := l.flatMap fun x => [x.p 0, x.p 1, x.p 2, x.p 3]
theorem mem_pages {l : List Pic} {p : Nat} : p ∈ pagesOf l ↔ 0 < cnt l p := by
  induction l with
  | nil => simp [pagesOf, cnt]
  | cons x l ih =>
    rw [cnt_cons]
    have h1 : pagesOf (x :: l) = [x.p 0, x.p 1, x.p 2, x.p 3] ++ pagesOf l := rfl
    rw [h1, List.mem_append, ih]
    constructor
    · rintro (h | h)
      · have h2 : 0 < cntP x p := cntP_pos_iff.2 (by
          simp at h
          rcases h with h | h | h | h
          · exact ⟨0, by omega, h.symm⟩
          · exact ⟨1, by omega, h.symm⟩
          · exact ⟨2, by omega, h.symm⟩
          · exact ⟨3, by omega, h.symm⟩)
        omega
      · omega
    · intro h
      by_cases h2 : 0 < cntP x p
      · left
        obtain ⟨k, hk, rfl⟩ := cntP_pos_iff.1 h2
        rcases (by omega : k = 0 ∨ k = 1 ∨ k = 2 ∨ k = 3) with rfl | rfl | rfl | rfl <;> simp
      · right; omega
theorem countP_insert (n : Nat) (f : Nat → Bool) (x : Nat) (hx : x < n) (h0 : f x = false) : (List.range n).countP (fun p => p == x || f p) = (List.range n).countP f + 1 := by
  induction n with
  | zero => omega
  | succ n ih =>
    rw [List.range_succ, List.countP_append, List.countP_append, List.countP_singleton, List.countP_singleton]
    by_cases hn : x = n
    · subst hn
      have : (List.range x).countP (fun p => p == x || f p) = (List.range x).countP f := List.countP_congr fun p hp => by
        have : p < x := List.mem_range.1 hp
        have h2 : (p == x) = false := by simp; omega
        simp [h2]
      rw [this, h0]; simp
    · have h2 : (n == x) = false := by simp; omega
      rw [ih (by omega), h2]; simp; omega
theorem distinct_count (n : Nat) : ∀ l : List Nat, (∀ p ∈ l, p < n) → (List.range n).countP (fun p => decide (p ∈ l)) = distinct l
  | [], _ => by simp [distinct]
  | x :: l, h => by
    have ih := distinct_count n l fun p hp => h p (List.mem_cons_of_mem _ hp)
    rw [distinct, ← ih]
    by_cases hx : x ∈ l
    · rw [if_pos hx, Nat.add_zero]
      refine List.countP_congr fun p _ => ?_
      simp only [List.mem_cons, decide_eq_true_eq]
      exact ⟨fun hp => by rcases hp with rfl | hp; exact hx; exact hp, fun hp => .inr hp⟩
    · rw [if_neg hx]
      have := countP_insert n (fun p => decide (p ∈ l)) x (h x List.mem_cons_self) (by simp [hx])
      rw [← this]
      refine List.countP_congr fun p _ => ?_
      simp
theorem used_eq {A : Sn} (h : ∀ x ∈ A.pics, ∀ k, k < 4 → x.p k < A.room) : A.used = distinct (pagesOf A.pics) := by
  rw [← distinct_count A.room (pagesOf A.pics) (fun p hp => ?_)]
  · rw [Sn.used]
    refine List.countP_congr fun p _ => ?_
    simp [mem_pages]
  · simp only [pagesOf, List.mem_flatMap] at hp
    obtain ⟨x, hx, hp⟩ := hp
    simp at hp
    rcases hp with rfl | rfl | rfl | rfl <;> exact h x hx _ (by omega)

def Apart4 (t : Nat → Nat) : Prop := ∀ j l, j < 4 → l < 4 → t j = t l → j = l
theorem Apart4.ne {t : Nat → Nat} (h : Apart4 t) {j l : Nat} (hj : j < 4) (hl : l < 4) (hn : j ≠ l) : t j ≠ t l := fun e => hn (h j l hj hl e)
theorem cntP_one {x : Pic} (h : Apart4 x.p) {k : Nat} (hk : k < 4) : cntP x (x.p k) = 1 := by
  rw [cntP_eq]
  have ha := fun l (hl : l < 4) (e : x.p l = x.p k) => h l k hl hk e
  rcases (by omega : k = 0 ∨ k = 1 ∨ k = 2 ∨ k = 3) with rfl | rfl | rfl | rfl
  · rw [if_pos rfl, if_neg (h.ne (by omega) (by omega) (by omega)), if_neg (h.ne (by omega) (by omega) (by omega)), if_neg (h.ne (by omega) (by omega) (by omega))]
  · rw [if_pos rfl, if_neg (h.ne (by omega) (by omega) (by omega)), if_neg (h.ne (by omega) (by omega) (by omega)), if_neg (h.ne (by omega) (by omega) (by omega))]
  · rw [if_pos rfl, if_neg (h.ne (by omega) (by omega) (by omega)), if_neg (h.ne (by omega) (by omega) (by omega)), if_neg (h.ne (by omega) (by omega) (by omega))]
  · rw [if_pos rfl, if_neg (h.ne (by omega) (by omega) (by omega)), if_neg (h.ne (by omega) (by omega) (by omega)), if_neg (h.ne (by omega) (by omega) (by omega))]
theorem distinct4 {t : Nat → Nat} (h : Apart4 t) : distinct [t 0, t 1, t 2, t 3] = 4 := by
  have h01 := h.ne (j := 0) (l := 1) (by omega) (by omega) (by omega)
  have h02 := h.ne (j := 0) (l := 2) (by omega) (by omega) (by omega)
  have h03 := h.ne (j := 0) (l := 3) (by omega) (by omega) (by omega)
  have h12 := h.ne (j := 1) (l := 2) (by omega) (by omega) (by omega)
  have h13 := h.ne (j := 1) (l := 3) (by omega) (by omega) (by omega)
  have h23 := h.ne (j := 2) (l := 3) (by omega) (by omega) (by omega)
  simp [distinct, h01, h02, h03, h12, h13, h23]
/-- What was there already adds nothing. -/
theorem distinct_mem {l m : List Nat} (h : ∀ p ∈ l, p ∈ m) : distinct (l ++ m) = distinct m := by
  induction l with
  | nil => rfl
  | cons x l ih =>
    rw [List.cons_append, distinct, if_pos (List.mem_append_right l (h x List.mem_cons_self)), ih fun p hp => h p (List.mem_cons_of_mem _ hp), Nat.add_zero]

section
variable {W w : World} {L R : List SP} {q r : Nat} {A : Sn}
class PickSt (L : List SP) (q : Nat) (r : outParam Nat) (A : outParam Sn) (R : outParam (List SP)) : Prop where perm : L.Perm (Store q r A :: R)
instance PickSt.head {L q r A} : PickSt (Store q r A :: L) q r A L := ⟨List.Perm.refl _⟩
instance (priority := low) PickSt.tail {B L q r A R} [h : PickSt L q r A R] : PickSt (B :: L) q r A (B :: R) := ⟨(List.Perm.cons B h.perm).trans (List.Perm.swap _ _ _)⟩
theorem St.store (hs : St W w L) (q : Nat) [k : PickSt L q r A R] : St W w (Store q r A :: R) := hs.perm k.perm
theorem Store.facts (hs : St W w (Store q r A :: L)) : WF A ∧ ∀ x ∈ A.pics, ∀ k, k < 4 → x.p k < A.room := by
  obtain ⟨b, m, ps, xs, h1, hw, hr, hs⟩ := Store.open hs
  exact ⟨hw, fun x hx k hk => by rw [← hr.len]; exact (hr.live hx hk).1⟩
theorem Store.used (hs : St W w (Store q r A :: L)) : A.used = distinct (pagesOf A.pics) := used_eq (Store.facts hs).2
theorem snap_fork_nil {X : Int} (hs : St W w L) : Calls Try.prog 16 #[.pointer none, .int .i64 X] w fun e w' => e = .returned (.tuple #[.int .i64 0, .bool false]) ∧ St W w' L := by
  refine calls_enter Try.func16 rfl Try.ntmps16 (Nat.le_of_ble_eq_true rfl) ?_
  intro a ha
  replace ha : Fr a 33 [(0, _), (1, _)] := ha
  refine wp_seq ?_
  refine wp_region_lit ?_
  refine wpList_k (st_set ha rfl (ex_assign ha) rfl ?_); clear ha; (try clear a); intro a ha
  refine wpList_k (st_set ha rfl (ex_assign ha) rfl ?_); clear ha; (try clear a); intro a ha
  refine wpList_nil ?_
  refine then_n ?_
  refine wp_seq ?_
  refine wp_region_lit ?_
  refine wpList_k (st_set ha rfl (ex_move ha) rfl ?_); clear ha; (try clear a); intro a ha
  refine wpList_k (st_set ha rfl (ex_move ha) rfl ?_); clear ha; (try clear a); intro a ha
  refine wpList_k (st_call ha rfl Ty.c34 rfl (snap_at_nil hs) ?_); clear ha hs
  rintro e w ⟨rfl, hs⟩
  refine ⟨_, rfl, ?_⟩
  intro a ha
  refine wpList_k (st_set ha rfl (ex_assign ha) rfl ?_); clear ha; (try clear a); intro a ha
  refine wpList_nil ?_
  refine then_n ?_
  refine wp_seq ?_
  refine wp_seq ?_
  refine wp_region_lit ?_
  refine wpList_k (st_set ha rfl (ex_move ha) rfl ?_); clear ha; (try clear a); intro a ha
  refine wpList_k (st_set ha rfl (ex_eqnil ha Try.underlying76) rfl ?_); clear ha; (try clear a); intro a ha
  refine wpList_nil ?_
  refine then_n ?_
  refine wp_ifT ha ?_
  refine wp_seq ?_
  refine wp_region_lit ?_
  replace ha := ha.del 4
  refine wpList_k (st_set ha rfl (ex_assign ha) rfl ?_); clear ha; (try clear a); intro a ha
  replace ha := ha.del 5
  refine wpList_k (st_set ha rfl (ex_assign ha) rfl ?_); clear ha; (try clear a); intro a ha
  refine wpList_nil ?_
  refine then_n ?_
  refine wp_ret <| then_r ?_
  refine ret2 ha rfl ?_
  exact ⟨rfl, hs⟩
theorem snap_get_nil {X C : Int} (hs : St W w L) : Calls Try.prog 17 #[.pointer none, .int .i64 X, .int .i64 C] w fun e w' => e = .returned (.tuple #[.int .i32 0, .bool false]) ∧ St W w' L := by
  refine calls_enter Try.func17 rfl Try.ntmps17 (Nat.le_of_ble_eq_true rfl) ?_
  intro a ha
  replace ha : Fr a 38 [(0, _), (1, _), (2, _)] := ha
  refine wp_seq ?_
  refine wp_region_lit ?_
  refine wpList_k (st_set ha rfl (ex_assign ha) rfl ?_); clear ha; (try clear a); intro a ha
  refine wpList_k (st_set ha rfl (ex_assign ha) rfl ?_); clear ha; (try clear a); intro a ha
  refine wpList_nil ?_
  refine then_n ?_
  refine wp_seq ?_
  refine wp_region_lit ?_
  refine wpList_k (st_set ha rfl (ex_move ha) rfl ?_); clear ha; (try clear a); intro a ha
  refine wpList_k (st_set ha rfl (ex_move ha) rfl ?_); clear ha; (try clear a); intro a ha
  refine wpList_k (st_call ha rfl Ty.c34 rfl (snap_at_nil hs) ?_); clear ha hs
  rintro e w ⟨rfl, hs⟩
  refine ⟨_, rfl, ?_⟩
  intro a ha
  refine wpList_k (st_set ha rfl (ex_assign ha) rfl ?_); clear ha; (try clear a); intro a ha
  refine wpList_nil ?_
  refine then_n ?_
  refine wp_seq ?_
  refine wp_seq ?_
  refine wp_region_lit ?_
  refine wpList_k (st_set ha rfl (ex_move ha) rfl ?_); clear ha; (try clear a); intro a ha
  refine wpList_k (st_set ha rfl (ex_eqnil ha Try.underlying76) rfl ?_); clear ha; (try clear a); intro a ha
  refine wpList_k (st_set ha rfl (ex_move ha) rfl ?_); clear ha; (try clear a); intro a ha
  refine wpList_k (st_off ha (wgF ha rfl (s := 14) rfl) rfl ?_); clear ha; (try clear a); intro a ha
  refine wpList_k (st_off ha (wgF ha rfl (s := 14) rfl) rfl ?_); clear ha; (try clear a); intro a ha
  refine wpList_k (st_set ha rfl (ex_pickT ha) rfl ?_); clear ha; (try clear a); intro a ha
  refine wpList_k (st_set ha rfl (ex_move ha) rfl ?_); clear ha; (try clear a); intro a ha
  refine wpList_k (st_off ha (wgF ha rfl (s := 18) rfl) rfl ?_); clear ha; (try clear a); intro a ha
  refine wpList_k (st_off ha (wgF ha rfl (s := 18) rfl) rfl ?_); clear ha; (try clear a); intro a ha
  refine wpList_k (st_set ha rfl (ex_pickT ha) rfl ?_); clear ha; (try clear a); intro a ha
  refine wpList_nil ?_
  refine then_n ?_
  refine wp_ifT ha ?_
  refine wp_seq ?_
  refine wp_region_lit ?_
  replace ha := ha.del 6
  refine wpList_k (st_set ha rfl (ex_assign ha) rfl ?_); clear ha; (try clear a); intro a ha
  replace ha := ha.del 7
  refine wpList_k (st_set ha rfl (ex_assign ha) rfl ?_); clear ha; (try clear a); intro a ha
  refine wpList_nil ?_
  refine then_n ?_
  refine wp_ret <| then_r ?_
  refine ret2 ha rfl ?_
  exact ⟨rfl, hs⟩
theorem snap_hold_nil {X : Int} (hs : St W w L) : Calls Try.prog 21 #[.pointer none, .int .i64 X] w fun e w' => e = .returned (.bool false) ∧ St W w' L := by
  refine calls_enter Try.func21 rfl Try.ntmps21 (Nat.le_of_ble_eq_true rfl) ?_
  intro a ha
  replace ha : Fr a 20 [(0, _), (1, _)] := ha
  refine wp_seq ?_
  refine wp_region_lit ?_
  refine wpList_k (st_set ha rfl (ex_assign ha) rfl ?_); clear ha; (try clear a); intro a ha
  refine wpList_nil ?_
  refine then_n ?_
  refine wp_seq ?_
  refine wp_region_lit ?_
  refine wpList_k (st_set ha rfl (ex_move ha) rfl ?_); clear ha; (try clear a); intro a ha
  refine wpList_k (st_set ha rfl (ex_move ha) rfl ?_); clear ha; (try clear a); intro a ha
  refine wpList_k (st_call ha rfl Ty.c34 rfl (snap_at_nil hs) ?_); clear ha hs
  rintro e w ⟨rfl, hs⟩
  refine ⟨_, rfl, ?_⟩
  intro a ha
  refine wpList_k (st_set ha rfl (ex_assign ha) rfl ?_); clear ha; (try clear a); intro a ha
  refine wpList_nil ?_
  refine then_n ?_
  refine wp_seq ?_
  refine wp_seq ?_
  refine wp_region_lit ?_
  refine wpList_k (st_set ha rfl (ex_move ha) rfl ?_); clear ha; (try clear a); intro a ha
  refine wpList_k (st_set ha rfl (ex_neqnil ha Try.underlying76) rfl ?_); clear ha; (try clear a); intro a ha
  refine wpList_nil ?_
  refine then_n ?_
  refine wp_ifF ha ?_
  refine wp_skip ?_
  refine then_n ?_
  refine wp_seq ?_
  refine wp_region_lit ?_
  refine wpList_k (st_set ha rfl (ex_move ha) rfl ?_); clear ha; (try clear a); intro a ha
  refine wpList_k (st_set ha rfl (ex_neqnil ha Try.underlying76) rfl ?_); clear ha; (try clear a); intro a ha
  replace ha := ha.del 4
  refine wpList_k (st_set ha rfl (ex_assign ha) rfl ?_); clear ha; (try clear a); intro a ha
  refine wpList_nil ?_
  refine then_n ?_
  refine wp_ret ?_
  refine ret1 ha rfl ?_
  exact ⟨rfl, hs⟩
theorem snap_drop_nil {X : Int} (hs : St W w L) : Calls Try.prog 18 #[.pointer none, .int .i64 X] w fun e w' => e = .returned (.bool false) ∧ St W w' L := by
  refine calls_enter Try.func18 rfl Try.ntmps18 (Nat.le_of_ble_eq_true rfl) ?_
  intro a ha
  replace ha : Fr a 44 [(0, _), (1, _)] := ha
  refine wp_seq ?_
  refine wp_region_lit ?_
  refine wpList_k (st_set ha rfl (ex_assign ha) rfl ?_); clear ha; (try clear a); intro a ha
  refine wpList_nil ?_
  refine then_n ?_
  refine wp_seq ?_
  refine wp_region_lit ?_
  refine wpList_k (st_set ha rfl (ex_move ha) rfl ?_); clear ha; (try clear a); intro a ha
  refine wpList_k (st_set ha rfl (ex_move ha) rfl ?_); clear ha; (try clear a); intro a ha
  refine wpList_k (st_call ha rfl Ty.c34 rfl (snap_at_nil hs) ?_); clear ha hs
  rintro e w ⟨rfl, hs⟩
  refine ⟨_, rfl, ?_⟩
  intro a ha
  refine wpList_k (st_set ha rfl (ex_assign ha) rfl ?_); clear ha; (try clear a); intro a ha
  refine wpList_nil ?_
  refine then_n ?_
  refine wp_seq ?_
  refine wp_seq ?_
  refine wp_region_lit ?_
  refine wpList_k (st_set ha rfl (ex_move ha) rfl ?_); clear ha; (try clear a); intro a ha
  refine wpList_k (st_set ha rfl (ex_eqnil ha Try.underlying76) rfl ?_); clear ha; (try clear a); intro a ha
  refine wpList_nil ?_
  refine then_n ?_
  refine wp_ifT ha ?_
  refine wp_seq ?_
  refine wp_region_lit ?_
  replace ha := ha.del 4
  refine wpList_k (st_set ha rfl (ex_assign ha) rfl ?_); clear ha; (try clear a); intro a ha
  refine wpList_nil ?_
  refine then_n ?_
  refine wp_ret <| then_r ?_
  refine ret1 ha rfl ?_
  exact ⟨rfl, hs⟩
theorem snap_set_nil {X C V : Int} (hs : St W w L) : Calls Try.prog 15 #[.pointer none, .int .i64 X, .int .i64 C, .int .i32 V] w fun e w' => e = .returned (.bool false) ∧ St W w' L := by
  refine calls_enter Try.func15 rfl Try.ntmps15 (Nat.le_of_ble_eq_true rfl) ?_
  intro a ha
  replace ha : Fr a 76 [(0, _), (1, _), (2, _), (3, _)] := ha
  refine wp_seq ?_
  refine wp_region_lit ?_
  refine wpList_k (st_set ha rfl (ex_assign ha) rfl ?_); clear ha; (try clear a); intro a ha
  refine wpList_nil ?_
  refine then_n ?_
  refine wp_seq ?_
  refine wp_region_lit ?_
  refine wpList_k (st_set ha rfl (ex_move ha) rfl ?_); clear ha; (try clear a); intro a ha
  refine wpList_k (st_set ha rfl (ex_move ha) rfl ?_); clear ha; (try clear a); intro a ha
  refine wpList_k (st_call ha rfl Ty.c34 rfl (snap_at_nil hs) ?_); clear ha hs
  rintro e w ⟨rfl, hs⟩
  refine ⟨_, rfl, ?_⟩
  intro a ha
  refine wpList_k (st_set ha rfl (ex_assign ha) rfl ?_); clear ha; (try clear a); intro a ha
  refine wpList_nil ?_
  refine then_n ?_
  refine wp_seq ?_
  refine wp_seq ?_
  refine wp_region_lit ?_
  refine wpList_k (st_set ha rfl (ex_move ha) rfl ?_); clear ha; (try clear a); intro a ha
  refine wpList_k (st_set ha rfl (ex_eqnil ha Try.underlying76) rfl ?_); clear ha; (try clear a); intro a ha
  refine wpList_k (st_set ha rfl (ex_move ha) rfl ?_); clear ha; (try clear a); intro a ha
  refine wpList_k (st_off ha (wgF ha rfl (s := 18) rfl) rfl ?_); clear ha; (try clear a); intro a ha
  refine wpList_k (st_off ha (wgF ha rfl (s := 18) rfl) rfl ?_); clear ha; (try clear a); intro a ha
  refine wpList_k (st_set ha rfl (ex_pickT ha) rfl ?_); clear ha; (try clear a); intro a ha
  refine wpList_k (st_set ha rfl (ex_move ha) rfl ?_); clear ha; (try clear a); intro a ha
  refine wpList_k (st_off ha (wgF ha rfl (s := 22) rfl) rfl ?_); clear ha; (try clear a); intro a ha
  refine wpList_k (st_off ha (wgF ha rfl (s := 22) rfl) rfl ?_); clear ha; (try clear a); intro a ha
  refine wpList_k (st_set ha rfl (ex_pickT ha) rfl ?_); clear ha; (try clear a); intro a ha
  refine wpList_nil ?_
  refine then_n ?_
  refine wp_ifT ha ?_
  refine wp_seq ?_
  refine wp_region_lit ?_
  replace ha := ha.del 8
  refine wpList_k (st_set ha rfl (ex_assign ha) rfl ?_); clear ha; (try clear a); intro a ha
  refine wpList_nil ?_
  refine then_n ?_
  refine wp_ret <| then_r ?_
  refine ret1 ha rfl ?_
  exact ⟨rfl, hs⟩
theorem snap_refs_nil {X : Int} (hs : St W w L) : Calls Try.prog 22 #[.pointer none, .int .i64 X] w fun e w' => e = .returned (.int .i64 0) ∧ St W w' L := by
  refine calls_enter Try.func22 rfl Try.ntmps22 (Nat.le_of_ble_eq_true rfl) ?_
  intro a ha
  replace ha : Fr a 15 [(0, _), (1, _)] := ha
  refine wp_seq ?_
  refine wp_region_lit ?_
  refine wpList_k (st_set ha rfl (ex_assign ha) rfl ?_); clear ha; (try clear a); intro a ha
  refine wpList_nil ?_
  refine then_n ?_
  refine wp_seq ?_
  refine wp_region_lit ?_
  refine wpList_k (st_set ha rfl (ex_move ha) rfl ?_); clear ha; (try clear a); intro a ha
  refine wpList_k (st_set ha rfl (ex_move ha) rfl ?_); clear ha; (try clear a); intro a ha
  refine wpList_k (st_call ha rfl Ty.c34 rfl (snap_at_nil hs) ?_); clear ha hs
  rintro e w ⟨rfl, hs⟩
  refine ⟨_, rfl, ?_⟩
  intro a ha
  refine wpList_k (st_set ha rfl (ex_assign ha) rfl ?_); clear ha; (try clear a); intro a ha
  refine wpList_nil ?_
  refine then_n ?_
  refine wp_seq ?_
  refine wp_seq ?_
  refine wp_region_lit ?_
  refine wpList_k (st_set ha rfl (ex_move ha) rfl ?_); clear ha; (try clear a); intro a ha
  refine wpList_k (st_set ha rfl (ex_eqnil ha Try.underlying76) rfl ?_); clear ha; (try clear a); intro a ha
  refine wpList_nil ?_
  refine then_n ?_
  refine wp_ifT ha ?_
  refine wp_seq ?_
  refine wp_region_lit ?_
  replace ha := ha.del 4
  refine wpList_k (st_set ha rfl (ex_assign ha) rfl ?_); clear ha; (try clear a); intro a ha
  refine wpList_nil ?_
  refine then_n ?_
  refine wp_ret <| then_r ?_
  refine ret1 ha rfl ?_
  exact ⟨rfl, hs⟩
theorem snap_pages_nil {X : Int} (hs : St W w L) : Calls Try.prog 28 #[.pointer none, .int .i64 X] w fun e w' => e = .returned (.slice none 0 0) ∧ St W w' L := by
  refine calls_enter Try.func28 rfl Try.ntmps28 (Nat.le_of_ble_eq_true rfl) ?_
  intro a ha
  replace ha : Fr a 16 [(0, _), (1, _)] := ha
  refine wp_seq ?_
  refine wp_region_lit ?_
  refine wpList_k (st_set ha rfl (ex_assign ha) rfl ?_); clear ha; (try clear a); intro a ha
  refine wpList_nil ?_
  refine then_n ?_
  refine wp_seq ?_
  refine wp_region_lit ?_
  refine wpList_k (st_set ha rfl (ex_move ha) rfl ?_); clear ha; (try clear a); intro a ha
  refine wpList_k (st_set ha rfl (ex_move ha) rfl ?_); clear ha; (try clear a); intro a ha
  refine wpList_k (st_call ha rfl Ty.c34 rfl (snap_at_nil hs) ?_); clear ha hs
  rintro e w ⟨rfl, hs⟩
  refine ⟨_, rfl, ?_⟩
  intro a ha
  refine wpList_k (st_set ha rfl (ex_assign ha) rfl ?_); clear ha; (try clear a); intro a ha
  refine wpList_nil ?_
  refine then_n ?_
  refine wp_seq ?_
  refine wp_seq ?_
  refine wp_region_lit ?_
  refine wpList_k (st_set ha rfl (ex_move ha) rfl ?_); clear ha; (try clear a); intro a ha
  refine wpList_k (st_set ha rfl (ex_eqnil ha Try.underlying76) rfl ?_); clear ha; (try clear a); intro a ha
  refine wpList_nil ?_
  refine then_n ?_
  refine wp_ifT ha ?_
  refine wp_seq ?_
  refine wp_region_lit ?_
  replace ha := ha.del 4
  refine wpList_k (st_set ha rfl (ex_assign ha) rfl ?_); clear ha; (try clear a); intro a ha
  refine wpList_nil ?_
  refine then_n ?_
  refine wp_ret <| then_r ?_
  refine ret1 ha rfl ?_
  exact ⟨rfl, hs⟩
theorem snap_live_nil (hs : St W w L) : Calls Try.prog 23 #[.pointer none] w fun e w' => e = .returned (.slice none 0 0) ∧ St W w' L := by
  refine calls_enter Try.func23 rfl Try.ntmps23 (Nat.le_of_ble_eq_true rfl) ?_
  intro a ha
  replace ha : Fr a 11 [(0, _)] := ha
  refine wp_seq ?_
  refine wp_region_lit ?_
  refine wpList_k (st_set ha rfl (ex_assign ha) rfl ?_); clear ha; (try clear a); intro a ha
  refine wpList_nil ?_
  refine then_n ?_
  refine wp_seq ?_
  refine wp_seq ?_
  refine wp_region_lit ?_
  refine wpList_k (st_set ha rfl (ex_move ha) rfl ?_); clear ha; (try clear a); intro a ha
  refine wpList_k (st_set ha rfl (ex_eqnil ha Try.underlying23) rfl ?_); clear ha; (try clear a); intro a ha
  refine wpList_nil ?_
  refine then_n ?_
  refine wp_ifT ha ?_
  refine wp_seq ?_
  refine wp_region_lit ?_
  replace ha := ha.del 2
  refine wpList_k (st_set ha rfl (ex_assign ha) rfl ?_); clear ha; (try clear a); intro a ha
  refine wpList_nil ?_
  refine then_n ?_
  refine wp_ret <| then_r ?_
  refine ret1 ha rfl ?_
  exact ⟨rfl, hs⟩
theorem begun11 (hs : St W w L) :
    Calls Try.prog 11 #[] w fun e w' => e = .returned (.bool true) ∧ St W w' L := by
  refine calls_enter Try.func11 rfl Try.ntmps11 (Nat.le_of_ble_eq_true rfl) ?_
  intro a ha
  replace ha : Fr a 111 [] := ha
  refine wp_seq ?_
  refine wp_region_lit ?_
  refine wpList_k (st_set ha rfl (ex_assign ha) rfl ?_); clear ha; (try clear a); intro a ha
  refine wpList_nil ?_
  refine then_n ?_
  refine wp_seq ?_
  refine wp_region_lit ?_
  refine wpList_k (st_call ha rfl Ty.c12 rfl (snap_new (n := 2) hs (by decide)) ?_); clear ha hs
  rintro e w ⟨q, r, rfl, hs⟩
  refine ⟨_, rfl, ?_⟩
  intro a ha
  refine wpList_k (st_set ha rfl (ex_assign ha) rfl ?_); clear ha; (try clear a); intro a ha
  refine wpList_nil ?_
  refine then_n ?_
  refine wp_seq ?_
  refine wp_seq ?_
  refine wp_region_lit ?_
  refine wpList_k (st_set ha rfl (ex_move ha) rfl ?_); clear ha; (try clear a); intro a ha
  refine wpList_k (st_set ha rfl (ex_eqnil ha Try.underlying23) rfl ?_); clear ha; (try clear a); intro a ha
  refine wpList_nil ?_
  refine then_n ?_
  refine wp_ifF ha ?_
  refine wp_skip ?_
  refine then_n ?_
  refine wp_seq ?_
  refine wp_region_lit ?_
  refine wpList_k (st_set ha rfl (ex_move ha) rfl ?_); clear ha; (try clear a); intro a ha
  refine wpList_k (st_buildSlice ha rfl hs Try.underlying31 Ty.t21 rfl rfl rfl rfl (by decide) (by decide) ?_); clear ha hs; (try clear a); (try clear w); intro b16 a w ha hs ho
  clear ho
  refine wpList_k (st_call ha rfl Ty.c14 rfl (of_spec (zs := [1, 2]) hs (fun w' h => ⟨rfl, fun _ => ⟨b16, 0, rfl, h.rdAll⟩⟩)) ?_); clear ha hs
  rintro e w ⟨rfl, hs⟩
  refine ⟨_, rfl, ?_⟩
  intro a ha
  refine wpList_k (st_call ha rfl Ty.c13 rfl (snap_make (hs.store q) (by decide) (by decide)) ?_); clear ha hs
  rintro e w ⟨t, rfl, ⟨ht1, ht2⟩, hs⟩
  refine ⟨_, rfl, ?_⟩
  intro a ha
  change St W w (Store q r ⟨1, 8, 1, [⟨1, 1, ofL [1, 2], t⟩]⟩ :: _) at hs
  refine wpList_k (st_set ha rfl (ex_move ha) rfl ?_); clear ha; (try clear a); intro a ha
  refine wpList_k (st_set ha rfl (ex_extract ha rfl) rfl ?_); clear ha; (try clear a); intro a ha
  refine wpList_k (st_set ha rfl (ex_extract ha rfl) rfl ?_); clear ha; (try clear a); intro a ha
  refine wpList_k (st_set ha rfl (ex_assign ha) rfl ?_); clear ha; (try clear a); intro a ha
  refine wpList_k (st_set ha rfl (ex_assign ha) rfl ?_); clear ha; (try clear a); intro a ha
  refine wpList_nil ?_
  refine then_n ?_
  refine wp_seq ?_
  refine wp_region_lit ?_
  refine wpList_k (st_set ha rfl (ex_move ha) rfl ?_); clear ha; (try clear a); intro a ha
  refine wpList_k (st_set ha rfl (ex_move ha) rfl ?_); clear ha; (try clear a); intro a ha
  refine wpList_k (st_call ha rfl Ty.c16 rfl (snap_fork (i := 0) (x := ⟨1, 1, ofL [1, 2], t⟩) (hs.store q) rfl (by simp)) ?_); clear ha hs
  rintro e w ⟨rfl, hs⟩
  refine ⟨_, rfl, ?_⟩
  intro a ha
  change St W w (Store q r ⟨2, 8, 2, [⟨1, 1, ofL [1, 2], t⟩, ⟨2, 1, ofL [1, 2], t⟩]⟩ :: _) at hs
  have hu1 : (⟨2, 8, 2, [⟨1, 1, ofL [1, 2], t⟩, ⟨2, 1, ofL [1, 2], t⟩]⟩ : Sn).used = 4 := by
    rw [Store.used hs]
    show distinct ([t 0, t 1, t 2, t 3] ++ [t 0, t 1, t 2, t 3]) = 4
    rw [distinct_mem (fun p hp => hp), distinct4 ht2]
  have hc1 := cntP_one (x := ⟨1, 1, ofL [1, 2], t⟩) ht2 (k := 0) (by decide)
  have hc2 := cntP_one (x := ⟨2, 1, ofL [1, 2], t⟩) ht2 (k := 0) (by decide)
  refine wpList_k (st_set ha rfl (ex_move ha) rfl ?_); clear ha; (try clear a); intro a ha
  refine wpList_k (st_set ha rfl (ex_extract ha rfl) rfl ?_); clear ha; (try clear a); intro a ha
  refine wpList_k (st_set ha rfl (ex_extract ha rfl) rfl ?_); clear ha; (try clear a); intro a ha
  refine wpList_k (st_set ha rfl (ex_assign ha) rfl ?_); clear ha; (try clear a); intro a ha
  refine wpList_k (st_set ha rfl (ex_assign ha) rfl ?_); clear ha; (try clear a); intro a ha
  refine wpList_nil ?_
  refine then_n ?_
  refine wp_seq ?_
  refine wp_region_lit ?_
  refine wpList_k (st_set ha rfl (ex_move ha) rfl ?_); clear ha; (try clear a); intro a ha
  refine wpList_k (st_set ha rfl (ex_move ha) rfl ?_); clear ha; (try clear a); intro a ha
  refine wpList_k (st_call ha rfl Ty.c15 rfl (snap_set_own (i := 1) (x := ⟨2, 1, ofL [1, 2], t⟩) (c := 0) (v := 9) (hs.store q) rfl (by decide) (by rw [cnt_cons, cnt_cons]; show 1 < cntP _ (t 0) + (cntP _ (t 0) + _); simp only at hc1 hc2; omega) (by rw [hu1]; simp)) ?_); clear ha hs
  rintro e w ⟨f, rfl, ⟨hf1, hf2⟩, hs⟩
  refine ⟨_, rfl, ?_⟩
  intro a ha
  change St W w (Store q r ⟨2, 8, 2, [⟨1, 1, ofL [1, 2], t⟩, ⟨2, 1, upd (ofL [1, 2]) 0 9, fun j => if j = 0 / 8 then f else t j⟩]⟩ :: _) at hs
  have hu2 : (⟨2, 8, 2, [⟨1, 1, ofL [1, 2], t⟩, ⟨2, 1, upd (ofL [1, 2]) 0 9, fun j => if j = 0 / 8 then f else t j⟩]⟩ : Sn).used = 5 := by
    rw [Store.used hs]
    show distinct ([t 0, t 1, t 2, t 3] ++ [f, t 1, t 2, t 3]) = 5
    have hn : f ∉ pagesOf [⟨1, 1, ofL [1, 2], t⟩, ⟨2, 1, ofL [1, 2], t⟩] := fun h => by
      have := mem_pages.1 h
      simp only at hf2
      omega
    simp [pagesOf] at hn
    have h01 := Apart4.ne ht2 (j := 0) (l := 1) (by omega) (by omega) (by omega)
    have h02 := Apart4.ne ht2 (j := 0) (l := 2) (by omega) (by omega) (by omega)
    have h03 := Apart4.ne ht2 (j := 0) (l := 3) (by omega) (by omega) (by omega)
    have h12 := Apart4.ne ht2 (j := 1) (l := 2) (by omega) (by omega) (by omega)
    have h13 := Apart4.ne ht2 (j := 1) (l := 3) (by omega) (by omega) (by omega)
    have h23 := Apart4.ne ht2 (j := 2) (l := 3) (by omega) (by omega) (by omega)
    simp [distinct, h01, h02, h03, h12, h13, h23, hn, Ne.symm hn.1]
  refine wpList_k (st_set ha rfl (ex_assign ha) rfl ?_); clear ha; (try clear a); intro a ha
  refine wpList_nil ?_
  refine then_n ?_
  refine wp_seq ?_
  refine wp_region_lit ?_
  refine wpList_k (st_set ha rfl (ex_move ha) rfl ?_); clear ha; (try clear a); intro a ha
  refine wpList_k (st_set ha rfl (ex_move ha) rfl ?_); clear ha; (try clear a); intro a ha
  refine wpList_k (st_call ha rfl Ty.c17 rfl (snap_get (i := 0) (x := ⟨1, 1, ofL [1, 2], t⟩) (c := 0) (hs.store q) rfl (by decide)) ?_); clear ha hs
  rintro e w ⟨rfl, hs⟩
  refine ⟨_, rfl, ?_⟩
  intro a ha
  refine wpList_k (st_set ha rfl (ex_move ha) rfl ?_); clear ha; (try clear a); intro a ha
  refine wpList_k (st_set ha rfl (ex_extract ha rfl) rfl ?_); clear ha; (try clear a); intro a ha
  refine wpList_k (st_set ha rfl (ex_extract ha rfl) rfl ?_); clear ha; (try clear a); intro a ha
  refine wpList_k (st_set ha rfl (ex_assign ha) rfl ?_); clear ha; (try clear a); intro a ha
  refine wpList_k (st_set ha rfl (ex_assign ha) rfl ?_); clear ha; (try clear a); intro a ha
  refine wpList_nil ?_
  refine then_n ?_
  refine wp_seq ?_
  refine wp_region_lit ?_
  refine wpList_k (st_set ha rfl (ex_move ha) rfl ?_); clear ha; (try clear a); intro a ha
  refine wpList_k (st_set ha rfl (ex_move ha) rfl ?_); clear ha; (try clear a); intro a ha
  refine wpList_k (st_call ha rfl Ty.c17 rfl (snap_get (i := 1) (x := ⟨2, 1, upd (ofL [1, 2]) 0 9, fun j => if j = 0 / 8 then f else t j⟩) (c := 0) (hs.store q) rfl (by decide)) ?_); clear ha hs
  rintro e w ⟨rfl, hs⟩
  refine ⟨_, rfl, ?_⟩
  intro a ha
  refine wpList_k (st_set ha rfl (ex_move ha) rfl ?_); clear ha; (try clear a); intro a ha
  refine wpList_k (st_set ha rfl (ex_extract ha rfl) rfl ?_); clear ha; (try clear a); intro a ha
  refine wpList_k (st_set ha rfl (ex_extract ha rfl) rfl ?_); clear ha; (try clear a); intro a ha
  refine wpList_k (st_set ha rfl (ex_assign ha) rfl ?_); clear ha; (try clear a); intro a ha
  refine wpList_k (st_set ha rfl (ex_assign ha) rfl ?_); clear ha; (try clear a); intro a ha
  refine wpList_nil ?_
  refine then_n ?_
  refine wp_seq ?_
  refine wp_region_lit ?_
  refine wpList_k (st_set ha rfl (ex_move ha) rfl ?_); clear ha; (try clear a); intro a ha
  refine wpList_k (st_set ha rfl (ex_move ha) rfl ?_); clear ha; (try clear a); intro a ha
  refine wpList_k (st_set ha (wgT ha rfl (s := 43)) (ex_move ha) rfl ?_); clear ha; (try clear a); intro a ha
  refine wpList_k (st_set ha rfl (ex_pickT ha) rfl ?_); clear ha; (try clear a); intro a ha
  refine wpList_k (st_set ha rfl (ex_move ha) rfl ?_); clear ha; (try clear a); intro a ha
  refine wpList_k (st_set ha (wgT ha rfl (s := 46)) (ex_move ha) rfl ?_); clear ha; (try clear a); intro a ha
  refine wpList_k (st_set ha (wgT ha rfl (s := 46)) (ex_gtr ha) rfl ?_); clear ha; (try clear a); intro a ha
  refine wpList_k (st_set ha rfl (ex_pickT ha) rfl ?_); clear ha; (try clear a); intro a ha
  refine wpList_k (st_set ha rfl (ex_move ha) rfl ?_); clear ha; (try clear a); intro a ha
  refine wpList_k (st_set ha (wgT ha rfl (s := 50)) (ex_move ha) rfl ?_); clear ha; (try clear a); intro a ha
  refine wpList_k (st_set ha (wgT ha rfl (s := 50)) (ex_move ha) rfl ?_); clear ha; (try clear a); intro a ha
  refine wpList_k (st_set ha (wgT ha rfl (s := 50)) (ex_neq ha) rfl ?_); clear ha; (try clear a); intro a ha
  refine wpList_k (st_set ha rfl (ex_pickT ha) rfl ?_); clear ha; (try clear a); intro a ha
  refine wpList_k (st_set ha rfl (ex_move ha) rfl ?_); clear ha; (try clear a); intro a ha
  refine wpList_k (st_set ha (wgT ha rfl (s := 55)) (ex_move ha) rfl ?_); clear ha; (try clear a); intro a ha
  refine wpList_k (st_set ha rfl (ex_pickT ha) rfl ?_); clear ha; (try clear a); intro a ha
  refine wpList_k (st_set ha rfl (ex_move ha) rfl ?_); clear ha; (try clear a); intro a ha
  refine wpList_k (st_set ha (wgT ha rfl (s := 58)) (ex_move ha) rfl ?_); clear ha; (try clear a); intro a ha
  refine wpList_k (st_set ha (wgT ha rfl (s := 58)) (ex_eql ha) rfl ?_); clear ha; (try clear a); intro a ha
  refine wpList_k (st_set ha rfl (ex_pickT ha) rfl ?_); clear ha; (try clear a); intro a ha
  refine wpList_k (st_set ha rfl (ex_move ha) rfl ?_); clear ha; (try clear a); intro a ha
  refine wpList_k (st_set ha (wgT ha rfl (s := 62)) (ex_move ha) rfl ?_); clear ha; (try clear a); intro a ha
  refine wpList_k (st_set ha (wgT ha rfl (s := 62)) (ex_eql ha) rfl ?_); clear ha; (try clear a); intro a ha
  refine wpList_k (st_set ha rfl (ex_pickT ha) rfl ?_); clear ha; (try clear a); intro a ha
  refine wpList_k (st_set ha rfl (ex_move ha) rfl ?_); clear ha; (try clear a); intro a ha
  refine wpList_k (st_set ha (wgT ha rfl (s := 66)) (ex_move ha) rfl ?_); clear ha; (try clear a); intro a ha
  refine wpList_k (st_call ha (wgT ha rfl (s := 66)) Ty.c23 rfl (snap_live (hs.store q)) ?_); clear ha hs
  rintro e w ⟨ad1, c1, rfl, hs⟩
  refine ⟨_, rfl, ?_⟩
  intro a ha
  refine wpList_k (st_set ha (wgT ha rfl (s := 66)) (ex_len ha Try.underlying42) rfl ?_); clear ha; (try clear a); intro a ha
  refine wpList_k (st_set ha (wgT ha rfl (s := 66)) (ex_eql ha) rfl ?_); clear ha; (try clear a); intro a ha
  refine wpList_k (st_set ha rfl (ex_pickT ha) rfl ?_); clear ha; (try clear a); intro a ha
  refine wpList_k (st_set ha rfl (ex_move ha) rfl ?_); clear ha; (try clear a); intro a ha
  refine wpList_k (st_set ha (wgT ha rfl (s := 72)) (ex_move ha) rfl ?_); clear ha; (try clear a); intro a ha
  refine wpList_k (st_call ha (wgT ha rfl (s := 72)) Ty.c19 rfl (snap_room (hs.store q)) ?_); clear ha hs
  rintro e w ⟨rfl, hs⟩
  refine ⟨_, rfl, ?_⟩
  intro a ha
  refine wpList_k (st_call ha (wgT ha rfl (s := 72)) Ty.c20 rfl (snap_used (hs.store q)) ?_); clear ha hs
  rintro e w ⟨rfl, hs⟩
  refine ⟨_, rfl, ?_⟩
  intro a ha
  rw [hu2] at ha
  refine wpList_k (st_set ha (wgT ha rfl (s := 72)) (ex_eql ha) rfl ?_); clear ha; (try clear a); intro a ha
  refine wpList_k (st_set ha rfl (ex_pickT ha) rfl ?_); clear ha; (try clear a); intro a ha
  refine wpList_k (st_set ha rfl (ex_move ha) rfl ?_); clear ha; (try clear a); intro a ha
  refine wpList_k (st_set ha (wgT ha rfl (s := 78)) (ex_move ha) rfl ?_); clear ha; (try clear a); intro a ha
  refine wpList_k (st_set ha (wgT ha rfl (s := 78)) (ex_move ha) rfl ?_); clear ha; (try clear a); intro a ha
  refine wpList_k (st_call ha (wgT ha rfl (s := 78)) Ty.c22 rfl (snap_refs (i := 0) (x := ⟨1, 1, ofL [1, 2], t⟩) (hs.store q) rfl) ?_); clear ha hs
  rintro e w ⟨rfl, hs⟩
  refine ⟨_, rfl, ?_⟩
  intro a ha
  refine wpList_k (st_set ha (wgT ha rfl (s := 78)) (ex_eql ha) rfl ?_); clear ha; (try clear a); intro a ha
  refine wpList_k (st_set ha rfl (ex_pickT ha) rfl ?_); clear ha; (try clear a); intro a ha
  refine wpList_k (st_set ha rfl (ex_move ha) rfl ?_); clear ha; (try clear a); intro a ha
  refine wpList_k (st_set ha (wgT ha rfl (s := 84)) (ex_move ha) rfl ?_); clear ha; (try clear a); intro a ha
  refine wpList_k (st_set ha (wgT ha rfl (s := 84)) (ex_move ha) rfl ?_); clear ha; (try clear a); intro a ha
  refine wpList_k (st_call ha (wgT ha rfl (s := 84)) Ty.c28 rfl (snap_pages (i := 0) (x := ⟨1, 1, ofL [1, 2], t⟩) (hs.store q) rfl) ?_); clear ha hs
  rintro e w ⟨ad2, c2, rfl, hs⟩
  refine ⟨_, rfl, ?_⟩
  intro a ha
  refine wpList_k (st_set ha (wgT ha rfl (s := 84)) (ex_len ha Try.underlying45) rfl ?_); clear ha; (try clear a); intro a ha
  refine wpList_k (st_set ha (wgT ha rfl (s := 84)) (ex_eql ha) rfl ?_); clear ha; (try clear a); intro a ha
  refine wpList_k (st_set ha rfl (ex_pickT ha) rfl ?_); clear ha; (try clear a); intro a ha
  refine wpList_k (st_set ha rfl (ex_move ha) rfl ?_); clear ha; (try clear a); intro a ha
  refine wpList_k (st_set ha (wgT ha rfl (s := 91)) (ex_move ha) rfl ?_); clear ha; (try clear a); intro a ha
  refine wpList_k (st_call ha (wgT ha rfl (s := 91)) Ty.c24 rfl (snap_has (hs.store q)) ?_); clear ha hs
  rintro e w ⟨rfl, hs⟩
  refine ⟨_, rfl, ?_⟩
  intro a ha
  rw [hu2] at ha
  refine wpList_k (st_set ha rfl (ex_pickT ha) rfl ?_); clear ha; (try clear a); intro a ha
  refine wpList_k (st_set ha rfl (ex_move ha) rfl ?_); clear ha; (try clear a); intro a ha
  refine wpList_k (st_set ha (wgT ha rfl (s := 95)) (ex_move ha) rfl ?_); clear ha; (try clear a); intro a ha
  refine wpList_k (st_call ha (wgT ha rfl (s := 95)) Ty.c24 rfl (snap_has (hs.store q)) ?_); clear ha hs
  rintro e w ⟨rfl, hs⟩
  refine ⟨_, rfl, ?_⟩
  intro a ha
  rw [hu2] at ha
  refine wpList_k (st_set ha (wgT ha rfl (s := 95)) (ex_not ha) rfl ?_); clear ha; (try clear a); intro a ha
  refine wpList_k (st_set ha rfl (ex_pickT ha) rfl ?_); clear ha; (try clear a); intro a ha
  refine wpList_k (st_set ha rfl (ex_move ha) rfl ?_); clear ha; (try clear a); intro a ha
  refine wpList_k (st_set ha (wgT ha rfl (s := 100)) (ex_move ha) rfl ?_); clear ha; (try clear a); intro a ha
  refine wpList_k (st_set ha (wgT ha rfl (s := 100)) (ex_move ha) rfl ?_); clear ha; (try clear a); intro a ha
  refine wpList_k (st_call ha (wgT ha rfl (s := 100)) Ty.c18 rfl (snap_drop (i := 1) (x := ⟨2, 1, upd (ofL [1, 2]) 0 9, fun j => if j = 0 / 8 then f else t j⟩) (hs.store q) rfl) ?_); clear ha hs
  rintro e w ⟨rfl, hs⟩
  refine ⟨_, rfl, ?_⟩
  intro a ha
  change St W w (Store q r ⟨2, 8, 2, [⟨1, 1, ofL [1, 2], t⟩]⟩ :: _) at hs
  have hu3 : (⟨2, 8, 2, [⟨1, 1, ofL [1, 2], t⟩]⟩ : Sn).used = 4 := by
    rw [Store.used hs]
    exact distinct4 ht2
  refine wpList_k (st_set ha rfl (ex_pickT ha) rfl ?_); clear ha; (try clear a); intro a ha
  refine wpList_k (st_set ha rfl (ex_move ha) rfl ?_); clear ha; (try clear a); intro a ha
  refine wpList_k (st_set ha (wgT ha rfl (s := 105)) (ex_move ha) rfl ?_); clear ha; (try clear a); intro a ha
  refine wpList_k (st_call ha (wgT ha rfl (s := 105)) Ty.c19 rfl (snap_room (hs.store q)) ?_); clear ha hs
  rintro e w ⟨rfl, hs⟩
  refine ⟨_, rfl, ?_⟩
  intro a ha
  refine wpList_k (st_call ha (wgT ha rfl (s := 105)) Ty.c20 rfl (snap_used (hs.store q)) ?_); clear ha hs
  rintro e w ⟨rfl, hs⟩
  refine ⟨_, rfl, ?_⟩
  intro a ha
  rw [hu3] at ha
  refine wpList_k (st_set ha (wgT ha rfl (s := 105)) (ex_eql ha) rfl ?_); clear ha; (try clear a); intro a ha
  refine wpList_k (st_set ha rfl (ex_pickT ha) rfl ?_); clear ha; (try clear a); intro a ha
  replace ha := ha.del 0
  refine wpList_k (st_set ha rfl (ex_assign ha) rfl ?_); clear ha; (try clear a); intro a ha
  refine wpList_nil ?_
  refine then_n ?_
  refine wp_ret ?_
  refine ret1 ha rfl ?_
  exact ⟨rfl, hs.sub⟩
end
end Go.Proofs.Ytpfblmpgljodmaa

