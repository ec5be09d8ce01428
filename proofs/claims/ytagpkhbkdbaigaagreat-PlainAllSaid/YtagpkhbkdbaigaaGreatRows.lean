/-
  No cell of these rows narrows 'for every input' (looked for: loops, veiled, ifaces, maps, wideKeys, modest, calm, conditions, laid).
  DERIVED. THE GIVEN ROWS OF THIS SEAT. 7 by the template 'for every input the law returns true; each argument reads behind the call as it read before'; 0 by the template 'total and deterministic' (their statements: YtagpkhbkdbaigaaGreatTotals.lean).
  GIVEN WITH THE SEED: the statements are not yours to turn. If you find one false, say at which input.
  Laid BY PROGRAM, IN A SANDBOX (cutbox-rows.mjs): the forced cells as the released guide's own fill.sh prints them over the translation cb7ccfa001b6e004… (all of the seat's roots in one cut). By AI agents, Wed Nov 11 2026. No macro, syntax, notation, axiom, sorry.
-/
import Derived.Test.YtagpkhbkdbaigaaGreatChecked
import GoSem.Claim
import GoSem.ClaimJoined
import GoSem.ClaimMapViews
import Derived.JoinedTies
import Derived.KernelRfl
namespace Go.Proofs.YtagpkhbkdbaigaaGreat
/- THE CELL 'sum', in the pinned program and in every row, IS THE sha256 OF THE DUMP (.gsa) THAT YtagpkhbkdbaigaaGreatProg.lean LOADS. Nothing in Lean hashes anything: it is a label: what it is worth is what the hold of that sum in a sandbox is worth. -/
noncomputable def Tryz.pinned : Pinned := { name := "ytagpkhbkdbaigaagreat", sum := "cb7ccfa001b6e0045599e97b902c11fe4a8852b7da1527c56749c3ae06816e29", checked := Tryz.checked }
namespace Rows
def none {H : Type} : Left H := { results := [], args := [] }

/-- 'quintainlaw22.PlainSure': WHATEVER THE INPUT: true; the input reads as it did. -/
def plainSureSpec : ChangeSpec := { name := "plainSure", fn := fun _ => fun
  | [d1, d2] => { results := [.lit (.bool true)], args := [d1, d2] }
  | _ => none }
def plainSureRow : OpenClaim := { program := "ytagpkhbkdbaigaagreat", sum := "cb7ccfa001b6e0045599e97b902c11fe4a8852b7da1527c56749c3ae06816e29", func := "quintain/quintainlaw22.PlainSure", spec := "plainSure", unfollowed := true, recurses := true, apart := false }
def PlainSureSaid : Prop := plainSureRow.holds Tryz.pinned (OpenSpec.ofChange plainSureSpec)

/-- ITS FALSE NEIGHBOUR: 'it returns false'. Refute it at one input. -/
def plainSureWrong : ChangeSpec := { name := "plainSure", fn := fun _ => fun
  | [d1, d2] => { results := [.lit (.bool false)], args := [d1, d2] }
  | _ => none }
def PlainSureWrongFalsely : Prop := plainSureRow.holds Tryz.pinned (OpenSpec.ofChange plainSureWrong)

/-- 'quintainlaw22.PlainShown': WHATEVER THE INPUT: true; the input reads as it did. -/
def plainShownSpec : ChangeSpec := { name := "plainShown", fn := fun _ => fun
  | [d1, d2, d3, d4] => { results := [.lit (.bool true)], args := [d1, d2, d3, d4] }
  | _ => none }
def plainShownRow : OpenClaim := { program := "ytagpkhbkdbaigaagreat", sum := "cb7ccfa001b6e0045599e97b902c11fe4a8852b7da1527c56749c3ae06816e29", func := "quintain/quintainlaw22.PlainShown", spec := "plainShown", unfollowed := true, recurses := true, apart := false }
def PlainShownSaid : Prop := plainShownRow.holds Tryz.pinned (OpenSpec.ofChange plainShownSpec)

/-- ITS FALSE NEIGHBOUR: 'it returns false'. Refute it at one input. -/
def plainShownWrong : ChangeSpec := { name := "plainShown", fn := fun _ => fun
  | [d1, d2, d3, d4] => { results := [.lit (.bool false)], args := [d1, d2, d3, d4] }
  | _ => none }
def PlainShownWrongFalsely : Prop := plainShownRow.holds Tryz.pinned (OpenSpec.ofChange plainShownWrong)

/-- 'quintainlaw22.PlainMay': WHATEVER THE INPUT: true; the input reads as it did. -/
def plainMaySpec : ChangeSpec := { name := "plainMay", fn := fun _ => fun
  | [d1, d2, d3] => { results := [.lit (.bool true)], args := [d1, d2, d3] }
  | _ => none }
def plainMayRow : OpenClaim := { program := "ytagpkhbkdbaigaagreat", sum := "cb7ccfa001b6e0045599e97b902c11fe4a8852b7da1527c56749c3ae06816e29", func := "quintain/quintainlaw22.PlainMay", spec := "plainMay", unfollowed := true, recurses := true, apart := false }
def PlainMaySaid : Prop := plainMayRow.holds Tryz.pinned (OpenSpec.ofChange plainMaySpec)

/-- ITS FALSE NEIGHBOUR: 'it returns false'. Refute it at one input. -/
def plainMayWrong : ChangeSpec := { name := "plainMay", fn := fun _ => fun
  | [d1, d2, d3] => { results := [.lit (.bool false)], args := [d1, d2, d3] }
  | _ => none }
def PlainMayWrongFalsely : Prop := plainMayRow.holds Tryz.pinned (OpenSpec.ofChange plainMayWrong)

/-- 'quintainlaw22.PlainGuess': WHATEVER THE INPUT: true; the input reads as it did. -/
def plainGuessSpec : ChangeSpec := { name := "plainGuess", fn := fun _ => fun
  | [d1, d2, d3] => { results := [.lit (.bool true)], args := [d1, d2, d3] }
  | _ => none }
def plainGuessRow : OpenClaim := { program := "ytagpkhbkdbaigaagreat", sum := "cb7ccfa001b6e0045599e97b902c11fe4a8852b7da1527c56749c3ae06816e29", func := "quintain/quintainlaw22.PlainGuess", spec := "plainGuess", unfollowed := true, recurses := true, apart := false }
def PlainGuessSaid : Prop := plainGuessRow.holds Tryz.pinned (OpenSpec.ofChange plainGuessSpec)

/-- ITS FALSE NEIGHBOUR: 'it returns false'. Refute it at one input. -/
def plainGuessWrong : ChangeSpec := { name := "plainGuess", fn := fun _ => fun
  | [d1, d2, d3] => { results := [.lit (.bool false)], args := [d1, d2, d3] }
  | _ => none }
def PlainGuessWrongFalsely : Prop := plainGuessRow.holds Tryz.pinned (OpenSpec.ofChange plainGuessWrong)

/-- 'quintainlaw22.PlainOrder': WHATEVER THE INPUT: true; the input reads as it did. -/
def plainOrderSpec : ChangeSpec := { name := "plainOrder", fn := fun _ => fun
  | [d1, d2, d3, d4] => { results := [.lit (.bool true)], args := [d1, d2, d3, d4] }
  | _ => none }
def plainOrderRow : OpenClaim := { program := "ytagpkhbkdbaigaagreat", sum := "cb7ccfa001b6e0045599e97b902c11fe4a8852b7da1527c56749c3ae06816e29", func := "quintain/quintainlaw22.PlainOrder", spec := "plainOrder", unfollowed := true, recurses := true, apart := false }
def PlainOrderSaid : Prop := plainOrderRow.holds Tryz.pinned (OpenSpec.ofChange plainOrderSpec)

/-- ITS FALSE NEIGHBOUR: 'it returns false'. Refute it at one input. -/
def plainOrderWrong : ChangeSpec := { name := "plainOrder", fn := fun _ => fun
  | [d1, d2, d3, d4] => { results := [.lit (.bool false)], args := [d1, d2, d3, d4] }
  | _ => none }
def PlainOrderWrongFalsely : Prop := plainOrderRow.holds Tryz.pinned (OpenSpec.ofChange plainOrderWrong)

/-- 'quintainlaw22.PlainNone': WHATEVER THE INPUT: true; the input reads as it did. -/
def plainNoneSpec : ChangeSpec := { name := "plainNone", fn := fun _ => fun
  | [] => { results := [.lit (.bool true)], args := [] }
  | _ => none }
def plainNoneRow : OpenClaim := { program := "ytagpkhbkdbaigaagreat", sum := "cb7ccfa001b6e0045599e97b902c11fe4a8852b7da1527c56749c3ae06816e29", func := "quintain/quintainlaw22.PlainNone", spec := "plainNone", unfollowed := true, recurses := true, apart := false }
def PlainNoneSaid : Prop := plainNoneRow.holds Tryz.pinned (OpenSpec.ofChange plainNoneSpec)

/-- ITS FALSE NEIGHBOUR: 'it returns false'. Refute it at one input. -/
def plainNoneWrong : ChangeSpec := { name := "plainNone", fn := fun _ => fun
  | [] => { results := [.lit (.bool false)], args := [] }
  | _ => none }
def PlainNoneWrongFalsely : Prop := plainNoneRow.holds Tryz.pinned (OpenSpec.ofChange plainNoneWrong)

/-- 'quintainlaw22.PlainAll': WHATEVER THE INPUT: true; the input reads as it did. -/
def plainAllSpec : ChangeSpec := { name := "plainAll", fn := fun _ => fun
  | [d1, d2, d3, d4] => { results := [.lit (.bool true)], args := [d1, d2, d3, d4] }
  | _ => none }
def plainAllRow : OpenClaim := { program := "ytagpkhbkdbaigaagreat", sum := "cb7ccfa001b6e0045599e97b902c11fe4a8852b7da1527c56749c3ae06816e29", func := "quintain/quintainlaw22.PlainAll", spec := "plainAll", unfollowed := true, recurses := true, apart := false }
def PlainAllSaid : Prop := plainAllRow.holds Tryz.pinned (OpenSpec.ofChange plainAllSpec)

/-- ITS FALSE NEIGHBOUR: 'it returns false'. Refute it at one input. -/
def plainAllWrong : ChangeSpec := { name := "plainAll", fn := fun _ => fun
  | [d1, d2, d3, d4] => { results := [.lit (.bool false)], args := [d1, d2, d3, d4] }
  | _ => none }
def PlainAllWrongFalsely : Prop := plainAllRow.holds Tryz.pinned (OpenSpec.ofChange plainAllWrong)

/- THE SECOND FORM. 'bulk': how many values and letters a reading holds, each counted each time it is reached (what is shared counts as often as it is met; a slice's spare places count too). A statement '..UptoSaid' is the law's where the arguments, and the package variables that the reading takes, are together of bulk at most 1048576: NARROWER than '..Said'. Prove '..Said' where nothing that the law and all that it calls make is longer than what came in: it says more and counts as full. Else prove '..UptoSaid'. A law counts once. -/
mutual
def uptoBulk {H : Type} : DataW H → Nat
  | .lit (.string bytes) => bytes.length + 1
  | .lit _ => 1
  | .nil => 1
  | .ptr d => uptoBulk d + 1
  | .slice elems spare => uptoBulkAll elems + uptoBulkAll spare + 1
  | .agg parts => uptoBulkAll parts + 1
  | .iface _ d => uptoBulk d + 1
  | .map entries => uptoBulkEntries entries + 1
  | .held _ => 1
def uptoBulkAll {H : Type} : List (DataW H) → Nat
  | [] => 0
  | d :: r => uptoBulk d + uptoBulkAll r
def uptoBulkEntries {H : Type} : List (Lit × DataW H) → Nat
  | [] => 0
  | x :: r => uptoBulkEntry x + uptoBulkEntries r
def uptoBulkEntry {H : Type} : Lit × DataW H → Nat
  | (.string bytes, d) => bytes.length + uptoBulk d + 1
  | (_, d) => uptoBulk d + 1
 end
def uptoSmall : (H : Type) → List (DataW H) → Bool := fun _ ds => decide (uptoBulkAll ds ≤ 1048576)
def OpenSpec.upto (s : _root_.Go.ChangeSpec) : _root_.Go.OpenSpec := { _root_.Go.OpenSpec.ofChange s with cond := some uptoSmall }

/-- 'quintainlaw22.PlainSure', WHERE WHAT IT READS IS OF BULK AT MOST 1048576: true; the input reads as it did. -/
def plainSureUptoRow : OpenClaim := { program := "ytagpkhbkdbaigaagreat", sum := "cb7ccfa001b6e0045599e97b902c11fe4a8852b7da1527c56749c3ae06816e29", func := "quintain/quintainlaw22.PlainSure", spec := "plainSure", unfollowed := true, recurses := true, apart := false, narrowed := true }
def PlainSureUptoSaid : Prop := plainSureUptoRow.holds Tryz.pinned (OpenSpec.upto plainSureSpec)

/-- 'quintainlaw22.PlainShown', WHERE WHAT IT READS IS OF BULK AT MOST 1048576: true; the input reads as it did. -/
def plainShownUptoRow : OpenClaim := { program := "ytagpkhbkdbaigaagreat", sum := "cb7ccfa001b6e0045599e97b902c11fe4a8852b7da1527c56749c3ae06816e29", func := "quintain/quintainlaw22.PlainShown", spec := "plainShown", unfollowed := true, recurses := true, apart := false, narrowed := true }
def PlainShownUptoSaid : Prop := plainShownUptoRow.holds Tryz.pinned (OpenSpec.upto plainShownSpec)

/-- 'quintainlaw22.PlainMay', WHERE WHAT IT READS IS OF BULK AT MOST 1048576: true; the input reads as it did. -/
def plainMayUptoRow : OpenClaim := { program := "ytagpkhbkdbaigaagreat", sum := "cb7ccfa001b6e0045599e97b902c11fe4a8852b7da1527c56749c3ae06816e29", func := "quintain/quintainlaw22.PlainMay", spec := "plainMay", unfollowed := true, recurses := true, apart := false, narrowed := true }
def PlainMayUptoSaid : Prop := plainMayUptoRow.holds Tryz.pinned (OpenSpec.upto plainMaySpec)

/-- 'quintainlaw22.PlainGuess', WHERE WHAT IT READS IS OF BULK AT MOST 1048576: true; the input reads as it did. -/
def plainGuessUptoRow : OpenClaim := { program := "ytagpkhbkdbaigaagreat", sum := "cb7ccfa001b6e0045599e97b902c11fe4a8852b7da1527c56749c3ae06816e29", func := "quintain/quintainlaw22.PlainGuess", spec := "plainGuess", unfollowed := true, recurses := true, apart := false, narrowed := true }
def PlainGuessUptoSaid : Prop := plainGuessUptoRow.holds Tryz.pinned (OpenSpec.upto plainGuessSpec)

/-- 'quintainlaw22.PlainOrder', WHERE WHAT IT READS IS OF BULK AT MOST 1048576: true; the input reads as it did. -/
def plainOrderUptoRow : OpenClaim := { program := "ytagpkhbkdbaigaagreat", sum := "cb7ccfa001b6e0045599e97b902c11fe4a8852b7da1527c56749c3ae06816e29", func := "quintain/quintainlaw22.PlainOrder", spec := "plainOrder", unfollowed := true, recurses := true, apart := false, narrowed := true }
def PlainOrderUptoSaid : Prop := plainOrderUptoRow.holds Tryz.pinned (OpenSpec.upto plainOrderSpec)

/-- 'quintainlaw22.PlainNone', WHERE WHAT IT READS IS OF BULK AT MOST 1048576: true; the input reads as it did. -/
def plainNoneUptoRow : OpenClaim := { program := "ytagpkhbkdbaigaagreat", sum := "cb7ccfa001b6e0045599e97b902c11fe4a8852b7da1527c56749c3ae06816e29", func := "quintain/quintainlaw22.PlainNone", spec := "plainNone", unfollowed := true, recurses := true, apart := false, narrowed := true }
def PlainNoneUptoSaid : Prop := plainNoneUptoRow.holds Tryz.pinned (OpenSpec.upto plainNoneSpec)

/-- 'quintainlaw22.PlainAll', WHERE WHAT IT READS IS OF BULK AT MOST 1048576: true; the input reads as it did. -/
def plainAllUptoRow : OpenClaim := { program := "ytagpkhbkdbaigaagreat", sum := "cb7ccfa001b6e0045599e97b902c11fe4a8852b7da1527c56749c3ae06816e29", func := "quintain/quintainlaw22.PlainAll", spec := "plainAll", unfollowed := true, recurses := true, apart := false, narrowed := true }
def PlainAllUptoSaid : Prop := plainAllUptoRow.holds Tryz.pinned (OpenSpec.upto plainAllSpec)

end Rows
end Go.Proofs.YtagpkhbkdbaigaaGreat
