/- The references' frames: the walks. -/
import Derived.Test.YtneafbkhaooelaaRef
namespace Go.Proofs.Ytneafbkhaooelaa
open Go.RowKit
set_option linter.unusedVariables false
set_option linter.unusedSimpArgs false
set_option maxRecDepth 10000
set_option synthInstance.maxSize 4000
set_option synthInstance.maxHeartbeats 400000

theorem w32_eq {x y : Int} (h1 : -2147483648 ≤ y) (h2 : y ≤ 2147483647) (h3 : x % 4294967296 = y % 4294967296) : w32 x = y := by
  simp only [w32, IntKind.wrap, IntKind.signed, IntKind.bits]
  simp
  split <;> omega
section
variable {W w : World} {L L' R : List SP} {p : Pr} {adO adP : Option Addr} {cO cP : Nat} {b : List UInt8} {g : Nat → Int} {fr : Int}
theorem ints_at {w : World} {bx j : Nat} {g : Nat → Int} (h : Rd w bx 0 (ints .i32 32 g)) (hj : j < 32) : w.cell? ⟨bx, j, none⟩ = some (.int .i32 (g j)) := by
  have := h j _ (ints_get g hj)
  rwa [Nat.zero_add] at this
end
end Go.Proofs.Ytneafbkhaooelaa

