/- A shop of these workers is right. -/
import Derived.Test.YtneafbkhaooelaaGreatWorkG
namespace Go.Proofs.YtneafbkhaooelaaGreat
open Go.RowKit
set_option linter.unusedVariables false
set_option linter.unusedSimpArgs false
set_option maxRecDepth 10000
set_option synthInstance.maxSize 4000
set_option synthInstance.maxHeartbeats 400000

section
variable {W w : World} {L L' R : List SP} {tq jq sq r wb i kk cO xb n c cw base m room nw N N0 N' : Nat} {ad adO adw : Option Addr} {A A' : Sn} {T T' : Tr} {J J' : Js} {k k' : Wk} {p : Pr} {x : Br} {px : Pic} {ks ks0 : List Kx} {t : Nat → Nat} {ys : List BBBx} {ws ws' : List Wk} {B : List (Nat × List (List UInt8))} {z zz : Bool}
theorem right_any (hs : St W w (blk xb 38 (shopC sq tq jq adw ks0.length cw 1) :: Sl 31 1 adw ks0.length cw (ptrs ks0) :: All (ownK p adO cO tq jq sq) ks :: Tree tq sq T :: Store sq r A :: RoP W p adO cO :: L))
    (hl : Like ks ks0) (hI : Sure p t room c A T J (ks.map (·.1))) (hpr : prOk p) (hsz : p.title.size ≤ 1000000000) (hkl : ks0.length ≤ 100) :
    Calls Tryz.prog 14 #[.pointer (some ⟨xb, 0, none⟩), .agg (prV p adO cO).toArray] w fun e w' => e = .returned (.bool true) ∧
      St W w' (blk xb 38 (shopC sq tq jq adw ks0.length cw 1) :: Sl 31 1 adw ks0.length cw (ptrs ks0) :: All (ownK p adO cO tq jq sq) ks :: Tree tq sq T :: Store sq r A :: RoP W p adO cO :: L) := by
  obtain ⟨h1, h2⟩ := hl
  rw [← h1, ← h2] at hs ⊢
  exact right_spec hs hI.inv hpr hsz (by omega)
end
end Go.Proofs.YtneafbkhaooelaaGreat

