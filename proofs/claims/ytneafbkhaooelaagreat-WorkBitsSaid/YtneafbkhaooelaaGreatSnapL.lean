/- How many pages are in use; a store wherever it stands; what the laws of snap begin with. -/
import Derived.Test.YtneafbkhaooelaaGreatSnap2
namespace Go.Proofs.YtneafbkhaooelaaGreat
open Go.RowKit
set_option linter.unusedVariables false
set_option linter.unusedSimpArgs false
set_option maxRecDepth 10000
set_option synthInstance.maxSize 4000
set_option synthInstance.maxHeartbeats 400000

/-- How many different numbers. -/
def distinct : List Nat → Nat
  | [] => 0
  | x :: l => distinct l + if x ∈ l then 0 else 1
def pagesOf (l : List Pic) : List Nat := l.flatMap fun x => [x.p 0, x.p 1, x.p 2, x.p 3]
theorem mem_pages {l : List Pic} {p : Nat} : p ∈ pagesOf l ↔ 0 < cnt l p := by
  induction l with
  | nil => simp [pagesOf, cnt]
  | cons x l ih =>
    rw [cnt_cons]
    have h1 : pagesOf (x :: l) = [x.p 0, x.p 1, x.p 2, x.p 3] ++ pagesOf l := rfl
    rw [h1, List.mem_append, ih]
    constructor
    · rintro (h | h)
      · have h2 : 0 < cntP x p := cntP_pos_iff.2 (by
          simp at h
          rcases h with h | h | h | h
          · exact ⟨0, by omega, h.symm⟩
          · exact ⟨1, by omega, h.symm⟩
          · exact ⟨2, by omega, h.symm⟩
          · exact ⟨3, by omega, h.symm⟩)
        omega
      · omega
    · intro h
      by_cases h2 : 0 < cntP x p
      · left
        obtain ⟨k, hk, rfl⟩ := cntP_pos_iff.1 h2
        rcases (by omega : k = 0 ∨ k = 1 ∨ k = 2 ∨ k = 3) with rfl | rfl | rfl | rfl <;> simp
      · right; omega
theorem countP_insert (n : Nat) (f : Nat → Bool) (x : Nat) (hx : x < n) (h0 : f x = false) : (List.range n).countP (fun p => p == x || f p) = (List.range n).countP f + 1 := by
  induction n with
  | zero => omega
  | succ n ih =>
    rw [List.range_succ, List.countP_append, List.countP_append, List.countP_singleton, List.countP_singleton]
    by_cases hn : x = n
    · subst hn
      have : (List.range x).countP (fun p => p == x || f p) = (List.range x).countP f := List.countP_congr fun p hp => by
        have : p < x := List.mem_range.1 hp
        have h2 : (p == x) = false := by simp; omega
        simp [h2]
      rw [this, h0]; simp
    · have h2 : (n == x) = false := by simp; omega
      rw [ih (by omega), h2]; simp; omega
theorem distinct_count (n : Nat) : ∀ l : List Nat, (∀ p ∈ l, p < n) → (List.range n).countP (fun p => decide (p ∈ l)) = distinct l
  | [], _ => by simp [distinct]
  | x :: l, h => by
    have ih := distinct_count n l fun p hp => h p (List.mem_cons_of_mem _ hp)
    rw [distinct, ← ih]
    by_cases hx : x ∈ l
    · rw [if_pos hx, Nat.add_zero]
      refine List.countP_congr fun p _ => ?_
      simp only [List.mem_cons, decide_eq_true_eq]
      exact ⟨fun hp => by rcases hp with rfl | hp; exact hx; exact hp, fun hp => .inr hp⟩
    · rw [if_neg hx]
      have := countP_insert n (fun p => decide (p ∈ l)) x (h x List.mem_cons_self) (by simp [hx])
      rw [← this]
      refine List.countP_congr fun p _ => ?_
      simp
theorem used_eq {A : Sn} (h : ∀ x ∈ A.pics, ∀ k, k < 4 → x.p k < A.room) : A.used = distinct (pagesOf A.pics) := by
  rw [← distinct_count A.room (pagesOf A.pics) (fun p hp => ?_)]
  · rw [Sn.used]
    refine List.countP_congr fun p _ => ?_
    simp [mem_pages]
  · simp only [pagesOf, List.mem_flatMap] at hp
    obtain ⟨x, hx, hp⟩ := hp
    simp at hp
    rcases hp with rfl | rfl | rfl | rfl <;> exact h x hx _ (by omega)

def Apart4 (t : Nat → Nat) : Prop := ∀ j l, j < 4 → l < 4 → t j = t l → j = l
theorem Apart4.ne {t : Nat → Nat} (h : Apart4 t) {j l : Nat} (hj : j < 4) (hl : l < 4) (hn : j ≠ l) : t j ≠ t l := fun e => hn (h j l hj hl e)
theorem cntP_one {x : Pic} (h : Apart4 x.p) {k : Nat} (hk : k < 4) : cntP x (x.p k) = 1 := by
  rw [cntP_eq]
  have ha := fun l (hl : l < 4) (e : x.p l = x.p k) => h l k hl hk e
  rcases (by omega : k = 0 ∨ k = 1 ∨ k = 2 ∨ k = 3) with rfl | rfl | rfl | rfl
  · rw [if_pos rfl, if_neg (h.ne (by omega) (by omega) (by omega)), if_neg (h.ne (by omega) (by omega) (by omega)), if_neg (h.ne (by omega) (by omega) (by omega))]
  · rw [if_pos rfl, if_neg (h.ne (by omega) (by omega) (by omega)), if_neg (h.ne (by omega) (by omega) (by omega)), if_neg (h.ne (by omega) (by omega) (by omega))]
  · rw [if_pos rfl, if_neg (h.ne (by omega) (by omega) (by omega)), if_neg (h.ne (by omega) (by omega) (by omega)), if_neg (h.ne (by omega) (by omega) (by omega))]
  · rw [if_pos rfl, if_neg (h.ne (by omega) (by omega) (by omega)), if_neg (h.ne (by omega) (by omega) (by omega)), if_neg (h.ne (by omega) (by omega) (by omega))]
theorem distinct4 {t : Nat → Nat} (h : Apart4 t) : distinct [t 0, t 1, t 2, t 3] = 4 := by
  have h01 := h.ne (j := 0) (l := 1) (by omega) (by omega) (by omega)
  have h02 := h.ne (j := 0) (l := 2) (by omega) (by omega) (by omega)
  have h03 := h.ne (j := 0) (l := 3) (by omega) (by omega) (by omega)
  have h12 := h.ne (j := 1) (l := 2) (by omega) (by omega) (by omega)
  have h13 := h.ne (j := 1) (l := 3) (by omega) (by omega) (by omega)
  have h23 := h.ne (j := 2) (l := 3) (by omega) (by omega) (by omega)
  simp [distinct, h01, h02, h03, h12, h13, h23]
/-- What was there already adds nothing. -/
theorem distinct_mem {l m : List Nat} (h : ∀ p ∈ l, p ∈ m) : distinct (l ++ m) = distinct m := by
  induction l with
  | nil => rfl
  | cons x l ih =>
    rw [List.cons_append, distinct, if_pos (List.mem_append_right l (h x List.mem_cons_self)), ih fun p hp => h p (List.mem_cons_of_mem _ hp), Nat.add_zero]

section
variable {W w : World} {L R : List SP} {q r : Nat} {A : Sn}
class PickSt (L : List SP) (q : Nat) (r : outParam Nat) (A : outParam Sn) (R : outParam (List SP)) : Prop where perm : L.Perm (Store q r A :: R)
instance PickSt.head {L q r A} : PickSt (Store q r A :: L) q r A L := ⟨List.Perm.refl _⟩
instance (priority := low) PickSt.tail {B L q r A R} [h : PickSt L q r A R] : PickSt (B :: L) q r A (B :: R) := ⟨(List.Perm.cons B h.perm).trans (List.Perm.swap _ _ _)⟩
theorem St.store (hs : St W w L) (q : Nat) [k : PickSt L q r A R] : St W w (Store q r A :: R) := hs.perm k.perm
theorem Store.facts (hs : St W w (Store q r A :: L)) : WF A ∧ ∀ x ∈ A.pics, ∀ k, k < 4 → x.p k < A.room := by
  obtain ⟨b, m, ps, xs, h1, hw, hr, hs⟩ := Store.open hs
  exact ⟨hw, fun x hx k hk => by rw [← hr.len]; exact (hr.live hx hk).1⟩
theorem Store.used (hs : St W w (Store q r A :: L)) : A.used = distinct (pagesOf A.pics) := used_eq (Store.facts hs).2
theorem snap_fork_nil {X : Int} (hs : St W w L) : Calls Tryz.prog 62 #[.pointer none, .int .i64 X] w fun e w' => e = .returned (.tuple #[.int .i64 0, .bool false]) ∧ St W w' L := by
  refine calls_enter Tryz.func62 rfl Tryz.ntmps62 (Nat.le_of_ble_eq_true rfl) ?_
  intro a ha
  replace ha : Fr a 33 [(0, _), (1, _)] := ha
  refine WS <| WR ?_
  iterate 2 (refine S1 ha ?_; clear ha a; intro a ha)
  refine LN <| TN <| WS <| WR ?_
  iterate 2 (refine S1 ha ?_; clear ha a; intro a ha)
  refine SK (st_call ha rfl Ty.c48 rfl (snap_at_nil hs) ?_); clear ha hs
  rintro e w ⟨rfl, hs⟩
  refine ⟨_, rfl, ?_⟩
  intro a ha
  refine S1 ha ?_; clear ha a; intro a ha
  refine LN <| TN <| WS <| WS <| WR ?_
  iterate 2 (refine S1 ha ?_; clear ha a; intro a ha)
  refine LN <| TN <| WTr ha <| WS <| WR ?_
  iterate 2 (refine S1d ha ?_; clear ha a; intro a ha)
  refine LN <| TN <| wp_ret <| TR ?_
  refine ret2 ha rfl ?_
  exact ⟨rfl, hs⟩
theorem snap_get_nil {X C : Int} (hs : St W w L) : Calls Tryz.prog 52 #[.pointer none, .int .i64 X, .int .i64 C] w fun e w' => e = .returned (.tuple #[.int .i32 0, .bool false]) ∧ St W w' L := by
  refine calls_enter Tryz.func52 rfl Tryz.ntmps52 (Nat.le_of_ble_eq_true rfl) ?_
  intro a ha
  replace ha : Fr a 38 [(0, _), (1, _), (2, _)] := ha
  refine WS <| WR ?_
  iterate 2 (refine S1 ha ?_; clear ha a; intro a ha)
  refine LN <| TN <| WS <| WR ?_
  iterate 2 (refine S1 ha ?_; clear ha a; intro a ha)
  refine SK (st_call ha rfl Ty.c48 rfl (snap_at_nil hs) ?_); clear ha hs
  rintro e w ⟨rfl, hs⟩
  refine ⟨_, rfl, ?_⟩
  intro a ha
  refine S1 ha ?_; clear ha a; intro a ha
  refine LN <| TN <| WS <| WS <| WR ?_
  iterate 3 (refine S1 ha ?_; clear ha a; intro a ha)
  iterate 2 (refine SO (s := 14) ha ?_; clear ha a; intro a ha)
  refine PT ha ?_; clear ha a; intro a ha
  refine S1 ha ?_; clear ha a; intro a ha
  iterate 2 (refine SO (s := 18) ha ?_; clear ha a; intro a ha)
  refine PT ha ?_; clear ha a; intro a ha
  refine LN <| TN <| WTr ha <| WS <| WR ?_
  iterate 2 (refine S1d ha ?_; clear ha a; intro a ha)
  refine LN <| TN <| wp_ret <| TR ?_
  refine ret2 ha rfl ?_
  exact ⟨rfl, hs⟩
theorem snap_drop_nil {X : Int} (hs : St W w L) : Calls Tryz.prog 21 #[.pointer none, .int .i64 X] w fun e w' => e = .returned (.bool false) ∧ St W w' L := by
  refine calls_enter Tryz.func21 rfl Tryz.ntmps21 (Nat.le_of_ble_eq_true rfl) ?_
  intro a ha
  replace ha : Fr a 44 [(0, _), (1, _)] := ha
  refine WS <| WR ?_
  refine S1 ha ?_; clear ha a; intro a ha
  refine LN <| TN <| WS <| WR ?_
  iterate 2 (refine S1 ha ?_; clear ha a; intro a ha)
  refine SK (st_call ha rfl Ty.c48 rfl (snap_at_nil hs) ?_); clear ha hs
  rintro e w ⟨rfl, hs⟩
  refine ⟨_, rfl, ?_⟩
  intro a ha
  refine S1 ha ?_; clear ha a; intro a ha
  refine LN <| TN <| WS <| WS <| WR ?_
  iterate 2 (refine S1 ha ?_; clear ha a; intro a ha)
  refine LN <| TN <| WTr ha <| WS <| WR ?_
  refine S1d ha ?_; clear ha a; intro a ha
  refine LN <| TN <| wp_ret <| TR ?_
  refine ret1 ha rfl ?_
  exact ⟨rfl, hs⟩
theorem snap_set_nil {X C V : Int} (hs : St W w L) : Calls Tryz.prog 151 #[.pointer none, .int .i64 X, .int .i64 C, .int .i32 V] w fun e w' => e = .returned (.bool false) ∧ St W w' L := by
  refine calls_enter Tryz.func151 rfl Tryz.ntmps151 (Nat.le_of_ble_eq_true rfl) ?_
  intro a ha
  replace ha : Fr a 76 [(0, _), (1, _), (2, _), (3, _)] := ha
  refine WS <| WR ?_
  refine S1 ha ?_; clear ha a; intro a ha
  refine LN <| TN <| WS <| WR ?_
  iterate 2 (refine S1 ha ?_; clear ha a; intro a ha)
  refine SK (st_call ha rfl Ty.c48 rfl (snap_at_nil hs) ?_); clear ha hs
  rintro e w ⟨rfl, hs⟩
  refine ⟨_, rfl, ?_⟩
  intro a ha
  refine S1 ha ?_; clear ha a; intro a ha
  refine LN <| TN <| WS <| WS <| WR ?_
  iterate 3 (refine S1 ha ?_; clear ha a; intro a ha)
  iterate 2 (refine SO (s := 18) ha ?_; clear ha a; intro a ha)
  refine PT ha ?_; clear ha a; intro a ha
  refine S1 ha ?_; clear ha a; intro a ha
  iterate 2 (refine SO (s := 22) ha ?_; clear ha a; intro a ha)
  refine PT ha ?_; clear ha a; intro a ha
  refine LN <| TN <| WTr ha <| WS <| WR ?_
  refine S1d ha ?_; clear ha a; intro a ha
  refine LN <| TN <| wp_ret <| TR ?_
  refine ret1 ha rfl ?_
  exact ⟨rfl, hs⟩
theorem snap_refs_nil {X : Int} (hs : St W w L) : Calls Tryz.prog 87 #[.pointer none, .int .i64 X] w fun e w' => e = .returned (.int .i64 0) ∧ St W w' L := by
  refine calls_enter Tryz.func87 rfl Tryz.ntmps87 (Nat.le_of_ble_eq_true rfl) ?_
  intro a ha
  replace ha : Fr a 15 [(0, _), (1, _)] := ha
  refine WS <| WR ?_
  refine S1 ha ?_; clear ha a; intro a ha
  refine LN <| TN <| WS <| WR ?_
  iterate 2 (refine S1 ha ?_; clear ha a; intro a ha)
  refine SK (st_call ha rfl Ty.c48 rfl (snap_at_nil hs) ?_); clear ha hs
  rintro e w ⟨rfl, hs⟩
  refine ⟨_, rfl, ?_⟩
  intro a ha
  refine S1 ha ?_; clear ha a; intro a ha
  refine LN <| TN <| WS <| WS <| WR ?_
  iterate 2 (refine S1 ha ?_; clear ha a; intro a ha)
  refine LN <| TN <| WTr ha <| WS <| WR ?_
  refine S1d ha ?_; clear ha a; intro a ha
  refine LN <| TN <| wp_ret <| TR ?_
  refine ret1 ha rfl ?_
  exact ⟨rfl, hs⟩
theorem snap_live_nil (hs : St W w L) : Calls Tryz.prog 22 #[.pointer none] w fun e w' => e = .returned (.slice none 0 0) ∧ St W w' L := by
  refine calls_enter Tryz.func22 rfl Tryz.ntmps22 (Nat.le_of_ble_eq_true rfl) ?_
  intro a ha
  replace ha : Fr a 11 [(0, _)] := ha
  refine WS <| WR ?_
  refine S1 ha ?_; clear ha a; intro a ha
  refine LN <| TN <| WS <| WS <| WR ?_
  iterate 2 (refine S1 ha ?_; clear ha a; intro a ha)
  refine LN <| TN <| WTr ha <| WS <| WR ?_
  refine S1d ha ?_; clear ha a; intro a ha
  refine LN <| TN <| wp_ret <| TR ?_
  refine ret1 ha rfl ?_
  exact ⟨rfl, hs⟩
end
end Go.Proofs.YtneafbkhaooelaaGreat

