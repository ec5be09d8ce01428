/- Rows of byte slices that came in. -/
import Derived.Test.YtagpkhbkdbaigaaGreatBB
import Derived.Test.YtagpkhbkdbaigaaGreatArg
import Derived.ChangeSlices
import Derived.ChangeShapes
import Derived.DataShut
namespace Go.Proofs.YtagpkhbkdbaigaaGreat
open Go.RowKit
set_option linter.unusedVariables false
set_option linter.unusedSimpArgs false
set_option maxRecDepth 10000
set_option synthInstance.maxSize 4000
set_option synthInstance.maxHeartbeats 400000

theorem u8of {x : Int} (h : (Lit.int .u8 x).wf = true) : x = ((UInt8.ofNat x.toNat).toNat : Int) := by
  have hr := (Lit.wf_int_iff .u8 x).1 h
  have h1 : IntKind.u8.min = 0 := by decide
  have h2 : IntKind.u8.max = 255 := by decide
  rw [h1, h2] at hr
  rw [UInt8.toNat_ofNat']
  omega
theorem ArgInts.bytesB {W : World} {a : Option Addr} {len cap : Nat} {z : List Int} (h : ArgInts .u8 W a len cap z) : ∃ bs : List UInt8, bs.length = len ∧ RdB W a len bs := by
  refine ⟨(z.take len).map (fun n => UInt8.ofNat n.toNat), ?_, ?_⟩
  · have := h.len_le; simp; omega
  · have hl := h.len_le
    have hz : ∀ n ∈ z, (Lit.int .u8 n).wf = true := by
      rcases h with ⟨_, _, _, rfl⟩ | ⟨x, _, _, _, _, _, hw⟩
      · intro n hn; cases hn
      · exact hw
    refine ⟨by simp; omega, fun e => ?_, fun x hx hp => ?_⟩
    · rcases h with ⟨_, h, _, _⟩ | ⟨x, rfl, _⟩
      · exact h
      · cases e
    · obtain ⟨b, off, rfl, hb, _, hc⟩ := h.get hp
      refine ⟨b, off, by cases hx; rfl, fun j v hj => ?_⟩
      have hj2 := (List.getElem?_eq_some_iff.1 hj).1
      rw [bc_len, List.length_map, List.length_take] at hj2
      have := hc j (by omega)
      rw [Nat.mul_one] at this
      rw [this, ← hj]
      have hzj : z.getD j 0 ∈ z := by rw [List.getD_eq_getElem?_getD, List.getElem?_eq_getElem (by omega), Option.getD_some]; exact List.getElem_mem _
      have hw := hz _ hzj
      have hu := u8of hw
      simp only [bc, List.getElem?_map, List.getElem?_take]
      rw [if_pos (by omega), List.getElem?_eq_getElem (by omega)]
      simp only [Option.map_some]
      have hd : z.getD j 0 = z[j]'(by omega) := by rw [List.getD_eq_getElem?_getD, List.getElem?_eq_getElem (by omega), Option.getD_some]
      rw [hd] at hu ⊢
      exact congrArg (fun z => some (Value.int .u8 z)) hu
theorem exists_list {α : Type} {P : Nat → α → Prop} : ∀ n : Nat, (∀ i, i < n → ∃ x, P i x) → ∃ l : List α, l.length = n ∧ ∀ i x, l[i]? = some x → P i x := by
  intro n
  induction n with
  | zero => exact fun _ => ⟨[], rfl, fun i x h => by simp at h⟩
  | succ n ih =>
    intro h
    obtain ⟨l, h1, h2⟩ := ih (fun i hi => h i (by omega))
    obtain ⟨x, hx⟩ := h n (by omega)
    refine ⟨l ++ [x], by simp [h1], fun i y hy => ?_⟩
    rw [List.getElem?_append] at hy
    split at hy
    · exact h2 i y hy
    · have h4 := (List.getElem?_eq_some_iff.1 hy).1
      simp at h4
      obtain rfl : i = n := by omega
      rw [h1, Nat.sub_self] at hy
      simp at hy
      exact hy ▸ hx
/-- Slices of bytes that came in: each can be read, and has the room that it tells. -/
def ArgBB (W : World) (ad : Option Addr) (zs : List BBx) : Prop := RdX W ad zs ∧ ∀ x ∈ zs, x.2.2.length ≤ x.2.1
theorem argBB_of {H : Type} {enc : TypeId × Value → H} {W : World} {len cap : Nat} {ad : Option Addr} {d : DataW H} {p : List MemPlace}
    (h : DataW.Trod enc Tryz.prog W 0 (fun _ => true) true 41 (.slice ad len cap) d p) : len ≤ 9223372036854775807 ∧ ∃ zs : List BBx, zs.length = len ∧ ArgBB W ad zs := by
  obtain ⟨h1, h2⟩ := argRows (sz := 1) Tryz.underlying41 (by kernel_rfl) (by decide) h
  refine ⟨h1, ?_⟩
  rcases h2 with h0 | ⟨b, off, h3, h4, h5⟩
  · subst h0
    exact ⟨[], rfl, ⟨fun h => absurd h (by decide), by simp⟩, by simp⟩
  · obtain ⟨zs, z1, z2⟩ := exists_list (α := BBx) (P := fun i x => W.cell? ⟨b, off + i, none⟩ = some (bbv x) ∧ RdB W x.1 x.2.2.length x.2.2 ∧ x.2.2.length ≤ x.2.1) len fun i hi => by
      obtain ⟨cs, m, x, g1, g2, g3⟩ := h5 i hi
      match cs, g1 with
      | [c0], _ =>
        have g4 := g2 0 c0 rfl
        rw [Nat.mul_one, Nat.add_zero] at g4
        rcases Go.ChangeShapes.open_ints Tryz.underlying22 Tryz.underlying5 (by kernel_rfl) g3 with ⟨hcs, _⟩ | ⟨y, l, c, zs, hcs, _, hl, hm, hz, _, hcell, hwz⟩
        · simp at hcs
          exact ⟨(none, 0, []), by rw [g4, hcs]; rfl, RdB.nil, Nat.le_refl _⟩
        · simp at hcs
          obtain ⟨bs, e1, e2⟩ := ArgInts.bytesB (W := W) (a := some y) (len := l) (cap := c) (z := zs) (.inr ⟨_, rfl, hl, hm, by simpa using hz, hcell, hwz⟩)
          subst e1
          exact ⟨(some y, c, bs), by rw [g4, hcs]; rfl, e2, hl⟩
    refine ⟨zs, z1, ⟨fun _ => ⟨b, off, h3, fun j v hj => ?_⟩, fun x hx => ?_⟩, fun x hx => ?_⟩
    · rw [List.getElem?_map] at hj
      obtain ⟨x, hx, rfl⟩ := Option.map_eq_some_iff.1 hj
      exact (z2 j x hx).1
    · obtain ⟨i, hi⟩ := List.mem_iff_getElem?.1 hx
      exact (z2 i x hi).2.1
    · obtain ⟨i, hi⟩ := List.mem_iff_getElem?.1 hx
      exact (z2 i x hi).2.2
/-- Rows of rows that came in. -/
abbrev BBBx := Option Addr × Nat × List BBx
def bbbv (x : BBBx) : Value := .slice x.1 x.2.2.length x.2.1
def ArgBBB (W : World) (ad : Option Addr) (ys : List BBBx) : Prop := (0 < ys.length → ∃ b off, ad = some ⟨b, off, none⟩ ∧ b < W.heap.size ∧ Rd W b off (ys.map bbbv)) ∧ ∀ x ∈ ys, ArgBB W x.1 x.2.2
end Go.Proofs.YtagpkhbkdbaigaaGreat

