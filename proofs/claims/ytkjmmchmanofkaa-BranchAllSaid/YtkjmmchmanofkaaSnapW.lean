/- The laws of snap that follow one store by hand. -/
import Derived.Test.YtkjmmchmanofkaaSnapL
import Derived.Test.YtkjmmchmanofkaaEq
import Derived.Test.YtkjmmchmanofkaaArg
namespace Go.Proofs.Ytkjmmchmanofkaa
open Go.RowKit
set_option linter.unusedVariables false
set_option linter.unusedSimpArgs false
set_option maxRecDepth 10000
set_option synthInstance.maxSize 4000
set_option synthInstance.maxHeartbeats 400000

theorem norm32 (x : Int) : ∃ c : Nat, c < 32 ∧ (x.tmod 32 + 32).tmod 32 = c ∧ -32 < x.tmod 32 ∧ x.tmod 32 < 32 := by
  have h1 := Int.tmod_lt_of_pos x (b := 32) (by decide)
  have h2 := Int.lt_tmod_of_pos x (b := 32) (by decide)
  have h3 : (0 : Int) ≤ x.tmod 32 + 32 := by omega
  have h4 := Int.tmod_nonneg (32 : Int) h3
  have h5 := Int.tmod_lt_of_pos (x.tmod 32 + 32) (b := 32) (by decide)
  exact ⟨((x.tmod 32 + 32).tmod 32).toNat, by omega, by omega, by omega, by omega⟩
theorem cnt_one {x : Pic} (h : Apart4 x.p) {k : Nat} (hk : k < 4) : cnt [x] (x.p k) = 1 := by rw [cnt_cons, cnt_nil, cntP_one h hk]
theorem cnt_two {x y : Pic} (h : Apart4 x.p) (he : y.p = x.p) {k : Nat} (hk : k < 4) : cnt [x, y] (x.p k) = 2 := by
  rw [cnt_cons, cnt_cons, cnt_nil, cntP_one h hk, cntP_congr (y := x) (fun k _ => by rw [he]), cntP_one h hk]
theorem upd_self (g : Nat → Int) (c : Nat) (v : Int) : upd g c v c = v := by simp [upd]

section
variable {W w : World} {L R : List SP} {q r : Nat} {A : Sn}
theorem used_nil {n l rm : Nat} : (⟨l, rm, n, []⟩ : Sn).used = 0 := by rw [used_eq (by simp)]; rfl
theorem distinct_le (l : List Nat) : distinct l ≤ l.length := by
  induction l with
  | nil => exact Nat.le_refl _
  | cons x l ih => rw [distinct, List.length_cons]; split <;> omega
theorem pages_len (l : List Pic) : (pagesOf l).length = 4 * l.length := by
  induction l with
  | nil => rfl
  | cons x l ih => show (_ ++ pagesOf l).length = _; rw [List.length_append, ih, List.length_cons]; simp; omega
theorem Store.used_le (hs : St W w (Store q r A :: L)) : A.used ≤ 4 * A.pics.length := by
  rw [Store.used hs]; have := distinct_le (pagesOf A.pics); rw [pages_len] at this; exact this
/-- A cell is set, with room for one page more. -/
theorem snap_set_any {i c : Nat} {v : Int} {x : Pic} (hs : St W w (Store q r A :: L)) (hx : A.pics[i]? = some x) (hc : c < 32) (hu : A.used < A.room) :
    Calls Try.prog 29 #[.pointer (some ⟨q, 0, none⟩), .int .i64 x.id, .int .i64 c, .int .i32 v] w fun e w' => ∃ p' : Nat → Nat, e = .returned (.bool true) ∧ (Apart4 x.p → Apart4 p') ∧
      St W w' (Store q r { A with pics := A.pics.set i { x with g := upd x.g c v, p := p' } } :: L) := by
  have hxm := List.mem_of_getElem? hx
  have h1 := cnt_mem hxm (x.p (c / 8))
  have h2 := cntP_pos (x := x) (k := c / 8) (by omega)
  rcases (by omega : cnt A.pics (x.p (c / 8)) = 1 ∨ 1 < cnt A.pics (x.p (c / 8))) with h | h
  · exact (snap_set hs hx hc h).mono fun e w' ⟨h3, h4⟩ => ⟨x.p, h3, id, h4⟩
  · refine (snap_set_own hs hx hc h hu).mono fun e w' ⟨f, h3, ⟨h4, h5⟩, h6⟩ => ⟨_, h3, fun ha j l hj hl e => ?_, h6⟩
    have hn : ∀ k, k < 4 → x.p k ≠ f := fun k hk e => by
      have h7 := cnt_mem hxm f
      rw [← e] at h7 h5
      have := cntP_pos (x := x) hk
      omega
    by_cases h8 : j = c / 8 <;> by_cases h9 : l = c / 8
    · omega
    · rw [if_pos h8, if_neg h9] at e; exact absurd e.symm (hn l hl)
    · rw [if_neg h8, if_pos h9] at e; exact absurd e (hn j hj)
    · rw [if_neg h8, if_neg h9] at e; exact ha j l hj hl e

end
end Go.Proofs.Ytkjmmchmanofkaa

