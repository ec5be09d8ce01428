/- BranchAll: what came in. -/
import Derived.Test.YtkjmmchmanofkaaBranchA
namespace Go.Proofs.Ytkjmmchmanofkaa
open Go.RowKit
set_option linter.unusedVariables false
set_option linter.unusedSimpArgs false
set_option maxRecDepth 10000
set_option synthInstance.maxSize 4000
set_option synthInstance.maxHeartbeats 400000

/-- The cells of an operation that came in. -/
def bop (k f d id : Int) (pa : Option Addr) (pl pc : Nat) (v : Int) (dead : Bool) : List Value := [.int .i64 k, .int .i64 f, .int .i64 d, .int .i64 id, .slice pa pl pc, .int .i32 v, .bool dead]
def BOps (W : World) (ad : Option Addr) (len : Nat) : Prop :=
  len ≤ 9223372036854775807 ∧ (len = 0 ∨ ∃ b off, ad = some ⟨b, off, none⟩ ∧ b < W.heap.size ∧ ∀ i, i < len → ∃ (k f d id : Int) (pa : Option Addr) (pc : Nat) (zs : List BBx) (v : Int) (dead : Bool),
    Rd W b (off + i * 7) (bop k f d id pa zs.length pc v dead) ∧ ArgBB W pa zs)
theorem bops_of {H : Type} {enc : TypeId × Value → H} {W : World} {len cap : Nat} {ad : Option Addr} {d : DataW H} {p : List MemPlace}
    (h : DataW.Trod enc Try.prog W 0 (fun _ => true) true 63 (.slice ad len cap) d p) : BOps W ad len := by
  obtain ⟨h1, h2⟩ := argRows (sz := 7) Try.underlying63 (by kernel_rfl) (by decide) h
  refine ⟨h1, h2.imp id ?_⟩
  rintro ⟨b, off, h3, h4, h5⟩
  refine ⟨b, off, h3, h4, fun i hi => ?_⟩
  obtain ⟨cs, m, x, g1, g2, g3⟩ := h5 i hi
  obtain ⟨xs, n, _, rfl, _, hlen, hf⟩ := DataW.trod_struct Try.underlying66 g3
  match cs, g1, xs, hlen with
  | [c0, c1, c2, c3, c4, c5, c6], _, [y0, y1, y2, y3, y4, y5, y6], _ =>
    have e0 : DataW.trod enc Try.prog W 0 (fun _ => true) true n 3 (([c0, c1, c2, c3, c4, c5, c6].drop 0).take (Try.prog.cellsOf 3)) = some y0 := hf 0 _ rfl
    have e1 : DataW.trod enc Try.prog W 0 (fun _ => true) true n 3 (([c0, c1, c2, c3, c4, c5, c6].drop 1).take (Try.prog.cellsOf 3)) = some y1 := hf 1 _ rfl
    have e2 : DataW.trod enc Try.prog W 0 (fun _ => true) true n 3 (([c0, c1, c2, c3, c4, c5, c6].drop 2).take (Try.prog.cellsOf 3)) = some y2 := hf 2 _ rfl
    have e3 : DataW.trod enc Try.prog W 0 (fun _ => true) true n 2 (([c0, c1, c2, c3, c4, c5, c6].drop 3).take (Try.prog.cellsOf 2)) = some y3 := hf 3 _ rfl
    have e4 : DataW.trod enc Try.prog W 0 (fun _ => true) true n 23 (([c0, c1, c2, c3, c4, c5, c6].drop 4).take (Try.prog.cellsOf 23)) = some y4 := hf 4 _ rfl
    have e5 : DataW.trod enc Try.prog W 0 (fun _ => true) true n 21 (([c0, c1, c2, c3, c4, c5, c6].drop 5).take (Try.prog.cellsOf 21)) = some y5 := hf 5 _ rfl
    have e6 : DataW.trod enc Try.prog W 0 (fun _ => true) true n 4 (([c0, c1, c2, c3, c4, c5, c6].drop 6).take (Try.prog.cellsOf 4)) = some y6 := hf 6 _ rfl
    rw [show Try.prog.cellsOf 3 = 1 from by kernel_rfl] at e0 e1 e2
    rw [show Try.prog.cellsOf 2 = 1 from by kernel_rfl] at e3
    rw [show Try.prog.cellsOf 23 = 1 from by kernel_rfl] at e4
    rw [show Try.prog.cellsOf 21 = 1 from by kernel_rfl] at e5
    rw [show Try.prog.cellsOf 4 = 1 from by kernel_rfl] at e6
    obtain ⟨k, hk, _, _⟩ := DataW.trod_int Try.underlying3 e0
    obtain ⟨f, hf', _, _⟩ := DataW.trod_int Try.underlying3 e1
    obtain ⟨d, hd, _, _⟩ := DataW.trod_int Try.underlying3 e2
    obtain ⟨id, hid, _, _⟩ := DataW.trod_int Try.underlying2 e3
    obtain ⟨v, hv, _, _⟩ := DataW.trod_int Try.underlying21 e5
    obtain ⟨dead, hdd, _⟩ := DataW.trod_bool Try.underlying4 e6
    simp at hk hf' hd hid hv hdd
    subst hk hf' hd hid hv hdd
    obtain ⟨ad', l, c, hc4⟩ : ∃ ad' l c, c4 = .slice ad' l c := by
      rcases Go.Deep.open_slice Try.underlying23 e4 with ⟨hcs, _⟩ | ⟨a, l, c, m, n, D, Pl, hcs, _⟩
      · simp at hcs; exact ⟨_, _, _, hcs⟩
      · simp at hcs; exact ⟨_, _, _, hcs⟩
    subst hc4
    obtain ⟨_, zs, e7, e8⟩ := argBB_of (enc := enc) (W := W) (len := l) (cap := c) (ad := ad') (d := y4.1) (p := y4.2) ⟨n, e4⟩
    subst e7
    exact ⟨k, f, d, id, ad', c, zs, v, dead, g2, e8⟩
end Go.Proofs.Ytkjmmchmanofkaa

