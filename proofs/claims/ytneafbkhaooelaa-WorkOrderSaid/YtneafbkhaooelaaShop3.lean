/- A shop is right. -/
import Derived.Test.YtneafbkhaooelaaWorkB
namespace Go.Proofs.Ytneafbkhaooelaa
open Go.RowKit
set_option linter.unusedVariables false
set_option linter.unusedSimpArgs false
set_option maxRecDepth 10000
set_option synthInstance.maxSize 4000
set_option synthInstance.maxHeartbeats 400000

def busyN (ws : List Wk) : Nat := (ws.filter (·.busy)).length
theorem busyN_held (ws : List Wk) : (heldW ws).length = busyN ws := by simp [heldW, busyN]
theorem busyN_succ {ws : List Wk} {i : Nat} {k : Wk} (h : ws[i]? = some k) : busyN (ws.take (i + 1)) = busyN (ws.take i) + if k.busy then 1 else 0 := by
  rw [busyN, busyN, filter_succ h, List.length_append]
  cases k.busy <;> simp
theorem RdX.take {w : World} {ad : Option Addr} {zs : List BBx} (h : RdX w ad zs) (n : Nat) : RdX w ad (zs.take n) := by
  refine ⟨fun h0 => ?_, fun x hx => h.2 x (List.mem_of_mem_take hx)⟩
  obtain ⟨b, off, e, hr⟩ := h.1 (by rw [List.length_take] at h0; omega)
  refine ⟨b, off, e, fun j v hj => hr j v ?_⟩
  rw [List.map_take, List.getElem?_take] at hj
  split at hj
  · exact hj
  · cases hj
section
variable {W w : World} {L L' R : List SP} {tq jq sq r wb i kk cO xb n c cw base m room nw : Nat} {ad adO adw : Option Addr} {A : Sn} {T : Tr} {J : Js} {k : Wk} {p : Pr} {x : Br} {px : Pic} {ks : List Kx} {t : Nat → Nat} {ys : List BBBx} {ws : List Wk}
end
end Go.Proofs.Ytneafbkhaooelaa

