/- Arrays of integers compared. -/
import Derived.Test.YtneafbkhaooelaaGreatRow
import Derived.Laws.StructEq
import Derived.ChangeKeysEq
namespace Go.Proofs.YtneafbkhaooelaaGreat
open Go.RowKit
set_option linter.unusedVariables false
set_option linter.unusedSimpArgs false

/-- Are the first m the same? -/
def sameN (m : Nat) (g g' : Nat → Int) : Bool := (List.range m).all fun i => g i == g' i
theorem sameN_iff {m : Nat} {g g' : Nat → Int} : sameN m g g' = true ↔ ∀ j, j < m → g j = g' j := by simp [sameN]
theorem sameN_self (m : Nat) (g : Nat → Int) : sameN m g g = true := by simp [sameN]
section
variable {P : Program} {w : World} {a : Act} {n : Nat} {l : List (Nat × Value)}
theorem run_eqItems_ints {e : TypeId} {k : IntKind} (he : P.underlying e = some (.int k)) (d m : Nat) (g g' : Nat → Int) : ∀ is : List Nat, (∀ i ∈ is, i < m) →
    (Op.eqItems (d + 1) e 1 (ints k m g).toArray (ints k m g').toArray is).run P w = .ok (is.all fun i => g i == g' i) w
  | [], _ => by simp [Op.eqItems]
  | i :: is, h => by
    have hi := h i List.mem_cons_self
    have hp : ∀ g : Nat → Int, (part e (ints k m g).toArray (i * 1)).run P w = .ok (.int k (g i)) w := fun g => by
      have hagg : (isAgg e).run P w = .ok false w := by
        simp only [isAgg, Sem.run_bind, run_underlying he, Result.andThen_ok]; rfl
      simp [part, hagg, ints_get g hi]
    have ih := run_eqItems_ints he d m g g' is fun j hj => h j (List.mem_cons_of_mem _ hj)
    simp only [Op.eqItems, Sem.run_bind, hp, Result.andThen_ok, run_equalIn_int w d e k k (g i) (g' i) he]
    cases hb : (g i == g' i) with
    | false => simp [hb]
    | true => simp [hb, ih]
theorem run_equal_ints {t e : TypeId} {m : Nat} {k : IntKind} {i : TypeInfo} (ht : P.underlying t = some (.array m e)) (he : P.underlying e = some (.int k)) (hi : P.info? e = some i) (hc : P.cellsOf e = 1) (g g' : Nat → Int) (d : Nat) :
    (Op.equalIn (d + 1 + 1) t (.agg (ints k m g).toArray) (.agg (ints k m g').toArray)).run P w = .ok (sameN m g g') w := by
  rw [Go.run_equalIn_array (w := w) (d + 1) _ _ ht hi, hc]
  exact run_eqItems_ints he d m g g' _ fun j hj => List.mem_range.1 hj
theorem ex_eqlA {x y t e m k z by' u g g' dst ty ps af gd} (ha : Fr a n l) (ht : P.underlying t = some (.array m e)) (he : P.underlying e = some (.int k)) (hi : TI P e z 1 by') (hc : P.cellsOf e = 1) (hg : P.eqGuardType P.depth t = false)
    [ev : Ev l x (.agg (ints k m g).toArray)] [ey : Ev l y (.agg (ints k m g').toArray)] :
    (execOp a.eval ⟨dst, .binOp .eql t x y u, ty, ps, af, gd⟩).run P w = .ok (.value (.bool (sameN m g g'))) w := by
  obtain ⟨i, h1, _⟩ := info_parts hi
  have h2 : (Op.equal t (.agg (ints k m g).toArray) (.agg (ints k m g').toArray)).run P w = .ok (sameN m g g') w := run_equal_ints ht he h1 hc g g' 9998
  have h3 : (binOp .eql t (.agg (ints k m g).toArray) (.agg (ints k m g').toArray)).run P w = .ok (.bool (sameN m g g')) w := by simp [binOp, h2]
  simp only [execOp, ev.ev a n ha, ey.ev a n ha, Sem.run_bind, run_eqGuard_agg w _ t x y _ _ hg]; simp [h3]
theorem ex_neqA {x y t e m k z by' u g g' dst ty ps af gd} (ha : Fr a n l) (ht : P.underlying t = some (.array m e)) (he : P.underlying e = some (.int k)) (hi : TI P e z 1 by') (hc : P.cellsOf e = 1) (hg : P.eqGuardType P.depth t = false)
    [ev : Ev l x (.agg (ints k m g).toArray)] [ey : Ev l y (.agg (ints k m g').toArray)] :
    (execOp a.eval ⟨dst, .binOp .neq t x y u, ty, ps, af, gd⟩).run P w = .ok (.value (.bool (!sameN m g g'))) w := by
  obtain ⟨i, h1, _⟩ := info_parts hi
  have h2 : (Op.equal t (.agg (ints k m g).toArray) (.agg (ints k m g').toArray)).run P w = .ok (sameN m g g') w := run_equal_ints ht he h1 hc g g' 9998
  have h3 : (binOp .neq t (.agg (ints k m g).toArray) (.agg (ints k m g').toArray)).run P w = .ok (.bool (!sameN m g g')) w := by simp [binOp, h2]
  simp only [execOp, ev.ev a n ha, ey.ev a n ha, Sem.run_bind, run_eqGuard_agg w _ t x y _ _ hg]; simp [h3]
end
end Go.Proofs.YtneafbkhaooelaaGreat

