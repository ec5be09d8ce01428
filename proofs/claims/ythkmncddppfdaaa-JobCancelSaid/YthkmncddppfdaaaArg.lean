/- Arguments that lie in memory that was there before. -/
import Derived.Test.YthkmncddppfdaaaTy
import Derived.ProofKit
namespace Go.Proofs.Ythkmncddppfdaaa
open Go.RowKit
set_option linter.unusedVariables false
set_option linter.unusedSimpArgs false

/-- A slice of integers that came in: nil, or a row of 'cap' cells, the numbers zs (the first 'len' are its elements), each fitting its kind. -/
def ArgInts (k : IntKind) (w : World) (a : Option Addr) (len cap : Nat) (zs : List Int) : Prop :=
  (a = none ∧ len = 0 ∧ cap = 0 ∧ zs = []) ∨
  ∃ x, a = some x ∧ len ≤ cap ∧ cap ≤ maxLen ∧ zs.length = cap ∧ (∀ i, i < zs.length → w.cell? (x.add i) = some (.int k (zs.getD i 0))) ∧ ∀ n ∈ zs, (Lit.int k n).wf = true

theorem cell_spot {w : World} {x : Addr} {v : Value} (h : w.cell? x = some v) : x = ⟨x.block, x.off, none⟩ ∧ x.block < w.heap.size := by
  refine ⟨?_, World.block_lt_of_cell? _ _ h⟩
  obtain ⟨b, o, s⟩ := x
  cases s with
  | none => rfl
  | some s =>
    simp only [World.cell?] at h
    split at h <;> simp at h
theorem ArgInts.get {k : IntKind} {w : World} {a : Option Addr} {len cap : Nat} {zs : List Int} (h : ArgInts k w a len cap zs) (h0 : 0 < len) :
    ∃ b off, a = some ⟨b, off, none⟩ ∧ b < w.heap.size ∧ len ≤ zs.length ∧ ∀ i, i < zs.length → w.cell? ⟨b, off + i * 1, none⟩ = some (.int k (zs.getD i 0)) := by
  rcases h with ⟨_, h, _, _⟩ | ⟨x, rfl, h1, h2, h3, h4, h5⟩
  · omega
  · have h6 := h4 0 (by omega)
    have h7 : x.add 0 = x := by simp [Addr.add]
    rw [h7] at h6
    obtain ⟨h8, h9⟩ := cell_spot h6
    refine ⟨x.block, x.off, by rw [← h8], h9, by omega, fun i hi => ?_⟩
    have := h4 i hi
    rw [h8, add_off] at this
    rw [Nat.mul_one]; exact this
theorem ArgInts.len_le {k : IntKind} {w : World} {a : Option Addr} {len cap : Nat} {zs : List Int} (h : ArgInts k w a len cap zs) : len ≤ zs.length ∧ len ≤ 9223372036854775807 := by
  rcases h with ⟨_, rfl, _, rfl⟩ | ⟨x, rfl, h1, h2, h3, h4, h5⟩
  · simp
  · unfold maxLen at h2; omega
end Go.Proofs.Ythkmncddppfdaaa

