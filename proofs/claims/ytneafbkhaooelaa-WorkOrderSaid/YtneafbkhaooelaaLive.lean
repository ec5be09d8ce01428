/- The keys of a map, sorted: the library's two functions, by the kit's own contracts laid at this program. -/
import Derived.Test.YtneafbkhaooelaaTy
import Derived.Test.YtneafbkhaooelaaMap
import Derived.Shelf.SlIterI.Nil
import Derived.Shelf.SortM.Plain
import Derived.Shelf.SortM.SortNone
namespace Go.Proofs.Ytneafbkhaooelaa
open Go.RowKit Go.Maps Go.Sort Go.Shelf
set_option linter.unusedVariables false
set_option linter.unusedSimpArgs false
--SHELFIMPORT Derived.Ground.GgzProg
--SHELFIMPORT Derived.Ground.SlgmProg
--SHELFIMPORT Derived.Shelf.SlIterI.Sorted
--SHELFIMPORT Derived.Shelf.SortM.Plain
--SHELFIMPORT Derived.Shelf.SortM.SortNone

/-- Whatever a map's value is, it reads. -/
def anyR : Value → Option (DataW Unit × List MemPlace) := fun _ => some (.lit (.bool true), [])
theorem mapFit {es : Array MapEntry} {clock : Nat} {kvs : List (Int × Value)} (h : MapIs es clock kvs) (hl : kvs.length ≤ maxLen) : WideElems.Fit Try.prog 37 anyR es clock := by
  obtain ⟨h1, h2, h3⟩ := h
  have hlen : es.size = kvs.length := by have := congrArg List.length h1; simpa using this
  refine ⟨by omega, h2, fun x hx => ?_⟩
  have hm : (x.key, x.val) ∈ es.toList.map (fun e => (e.key, e.val)) := List.mem_map.2 ⟨x, hx, rfl⟩
  rw [h1] at hm
  obtain ⟨p, hp, hpe⟩ := List.mem_map.1 hm
  simp only [Prod.mk.injEq] at hpe
  refine ⟨(.int .i64 p.1, .lit (.bool true)), ?_⟩
  simp [WideElems.rd, ← hpe.1, keyOf_int_mk Try.underlying37 (h3 p hp), anyR]
theorem mapKeys {es : Array MapEntry} {clock : Nat} {kvs : List (Int × Value)} (h : MapIs es clock kvs) : (intKeys (DataW.map ((es.toList.map (WideElems.rg Try.prog 37 anyR)).foldr DataW.insert []))).Perm (kvs.map (·.1)) := by
  have hp := WideShapes.sorted_perm (es.toList.map (WideElems.rg Try.prog 37 anyR))
  have h4 : (es.toList.map (WideElems.rg Try.prog 37 anyR)).map (fun p => Go.intOf p.1) = kvs.map (·.1) := by
    obtain ⟨h1, _, h3⟩ := h
    have : ∀ (l : List MapEntry) (m : List (Int × Value)), l.map (fun e => (e.key, e.val)) = m.map (fun p => (Value.int .i64 p.1, p.2)) → (∀ p ∈ m, (Lit.int .i64 p.1).wf = true) →
        (l.map (WideElems.rg Try.prog 37 anyR)).map (fun p => Go.intOf p.1) = m.map (·.1) := by
      intro l
      induction l with
      | nil => intro m h _; cases m with
        | nil => rfl
        | cons => simp at h
      | cons e l ih =>
        intro m h hw
        cases m with
        | nil => simp at h
        | cons p m =>
          simp only [List.map_cons, List.cons.injEq, Prod.mk.injEq] at h
          simp only [List.map_cons, ih m h.2 (fun q hq => hw q (List.mem_cons_of_mem _ hq))]
          have hr : WideElems.rg Try.prog 37 anyR e = (Lit.int .i64 p.1, (DataW.lit (.bool true) : DataW Unit)) := by
            simp only [WideElems.rg, WideElems.rd, h.1.1, keyOf_int_mk Try.underlying37 (hw p List.mem_cons_self), anyR, Option.bind_some, Option.map_some, Option.getD_some]
          rw [hr]
          rfl
    exact this _ _ h1 h3
  have := hp.map (fun p : Lit × DataW Unit => Go.intOf p.1)
  rw [h4] at this
  exact this

section
variable {W w : World} {L : List SP} {m : Nat} {kvs : List (Int × Value)}
theorem sorted_of_perm {ss ks : List Int} (hp : ss.Perm ks) (hk : ks.Pairwise (· < ·)) : ss.mergeSort (fun x y => decide (x ≤ y)) = ks := by
  have h1 := List.pairwise_mergeSort (le := fun x y : Int => decide (x ≤ y)) (fun a b c h1 h2 => by simp at *; omega) (fun a b => by simp; omega) ss
  refine List.Perm.eq_of_pairwise (le := fun x y : Int => decide (x ≤ y) = true) (fun a b _ _ h1 h2 => by simp at *; omega) h1 (hk.imp fun h => by simp; omega) ((List.mergeSort_perm _ _).trans hp)

/-- A new row that a call of the library has made. -/
theorem St.ownsRow {w' : World} {e sz : Nat} {v : Value} {n : Nat} {xs : List Value} (hs : St W w L) (hb : Below w.heap.size w w') (hr : w'.ownsRow w.heap.size e sz v n xs) :
    ∃ ad c, v = .slice ad n c ∧ St W w' (Sl e sz ad n c xs :: L) := by
  obtain ⟨b0, h, p, q⟩ := hs
  have hB : Below W.heap.size W w' := b0.trans ⟨hb.os, hb.tape, hb.output, hb.size, fun k hk => hb.block k (Nat.lt_of_lt_of_le hk b0.size)⟩
  have hsat : ∀ n o, h n = some o → W.heap.size ≤ n ∧ w'.heap[n]? = some o := fun n o ho => by
    obtain ⟨h1, h2⟩ := p n o ho
    refine ⟨h1, ?_⟩
    rw [hb.block n (Array.getElem?_eq_some_iff.1 h2).1]; exact h2
  have hs' : St W w' L := ⟨hB, h, hsat, q⟩
  obtain ⟨hl, hr⟩ := hr
  rcases hr with ⟨rfl, hn⟩ | ⟨g, cap, cur, rfl, hg, hc, hnc, _, hsz, ht⟩
  · subst hn
    refine ⟨none, 0, rfl, ?_⟩
    obtain rfl : xs = [] := List.eq_nil_of_length_eq_zero (by rw [hl, Nat.zero_mul])
    exact hs'.sl0 _ _ _
  · have hgn : h g = none := by
      cases he : h g with
      | none => rfl
      | some x =>
        have := (Array.getElem?_eq_some_iff.1 (p g x he).2).1
        omega
    refine ⟨some ⟨g, 0, none⟩, cap, rfl, ?_⟩
    have h2 : St W w' (blk g e ([] ++ xs ++ cur.toList.drop (n * sz)) :: L) := by
      refine ⟨hB, fun k => if k = g then some (.cells cur e (0, 0)) else h k, fun k o ho => ?_, fun k => if k = g then some (.cells cur e (0, 0)) else none, h, fun k => ?_, fun k o ho => ?_, fun k o ho => ?_, ?_, q⟩
      · by_cases hk : k = g
        · simp [hk] at ho; subst ho; subst hk
          exact ⟨Nat.le_trans b0.size hg, hc⟩
        · simp [hk] at ho; exact hsat k o ho
      · by_cases hk : k = g
        · right; rw [hk]; exact hgn
        · left; simp [hk]
      · by_cases hk : k = g <;> simp [hk] at ho ⊢; exact ho
      · by_cases hk : k = g
        · rw [hk, hgn] at ho; cases ho
        · simp [hk, ho]
      · have : ([] ++ xs ++ cur.toList.drop (n * sz)).toArray = cur := by
          rw [← ht]; simp
        simp only [blk, pts, this, if_true]
    have hlen : xs.length + (cur.toList.drop (n * sz)).length = cap * sz := by
      have : (cur.toList).length = cap * sz := by simpa using hsz
      rw [List.length_drop, this, hl]
      have := Nat.mul_le_mul_right sz hnc
      omega
    have h3 := St.slShut (pre := []) (cs := xs) (n := n) (c := cap) (sz := sz) h2 hl hnc (by rw [Nat.sub_mul]; omega)
    simpa using h3
end
end Go.Proofs.Ytneafbkhaooelaa

