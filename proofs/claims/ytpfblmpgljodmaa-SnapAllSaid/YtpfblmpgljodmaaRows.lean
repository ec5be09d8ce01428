/-
  No cell of these rows narrows 'for every input' (looked for: loops, veiled, ifaces, maps, wideKeys, modest, calm, conditions, laid).
  DERIVED. THE GIVEN ROWS OF THIS SEAT. 8 by the template 'for every input the law returns true; each argument reads behind the call as it read before'; 0 by the template 'total and deterministic' (their statements: YtpfblmpgljodmaaTotals.lean).
  GIVEN WITH THE SEED: the statements are not yours to turn. If you find one false, say at which input.
  Laid BY PROGRAM, IN A SANDBOX (cutbox-rows.mjs): the forced cells as the released guide's own fill.sh prints them over the translation 67f278f11ce4d4f0… (all of the seat's roots in one cut). By AI agents, Wed Nov 11 2026. No macro, syntax, notation, axiom, sorry.
-/
import Derived.Test.YtpfblmpgljodmaaChecked
import GoSem.Claim
import GoSem.ClaimJoined
import GoSem.ClaimMapViews
import Derived.JoinedTies
import Derived.KernelRfl
namespace Go.Proofs.Ytpfblmpgljodmaa
/- THE CELL 'sum', in the pinned program and in every row, IS THE sha256 OF THE DUMP (.gsa) THAT YtpfblmpgljodmaaProg.lean LOADS. Nothing in Lean hashes anything: it is a label: what it is worth is what the hold of that sum in a sandbox is worth. -/
noncomputable def Try.pinned : Pinned := { name := "ytpfblmpgljodmaa", sum := "67f278f11ce4d4f0d17a1bd7414ffb8296cef112e8d344506ac06e8c6d741715", checked := Try.checked }
namespace Rows
def none {H : Type} : Left H := { results := [], args := [] }

/-- 'quintainlaw11.SnapFull': WHATEVER THE INPUT: true; the input reads as it did. -/
def snapFullSpec : ChangeSpec := { name := "snapFull", fn := fun _ => fun
  | [d1, d2] => { results := [.lit (.bool true)], args := [d1, d2] }
  | _ => none }
def snapFullRow : OpenClaim := { program := "ytpfblmpgljodmaa", sum := "67f278f11ce4d4f0d17a1bd7414ffb8296cef112e8d344506ac06e8c6d741715", func := "quintain/quintainlaw11.SnapFull", spec := "snapFull", unfollowed := true, recurses := true, apart := false }
def SnapFullSaid : Prop := snapFullRow.holds Try.pinned (OpenSpec.ofChange snapFullSpec)

/-- ITS FALSE NEIGHBOUR: 'it returns false'. Refute it at one input. -/
def snapFullWrong : ChangeSpec := { name := "snapFull", fn := fun _ => fun
  | [d1, d2] => { results := [.lit (.bool false)], args := [d1, d2] }
  | _ => none }
def SnapFullWrongFalsely : Prop := snapFullRow.holds Try.pinned (OpenSpec.ofChange snapFullWrong)

/-- 'quintainlaw11.SnapHolds': WHATEVER THE INPUT: true; the input reads as it did. -/
def snapHoldsSpec : ChangeSpec := { name := "snapHolds", fn := fun _ => fun
  | [d] => { results := [.lit (.bool true)], args := [d] }
  | _ => none }
def snapHoldsRow : OpenClaim := { program := "ytpfblmpgljodmaa", sum := "67f278f11ce4d4f0d17a1bd7414ffb8296cef112e8d344506ac06e8c6d741715", func := "quintain/quintainlaw11.SnapHolds", spec := "snapHolds", unfollowed := true, recurses := true, apart := false }
def SnapHoldsSaid : Prop := snapHoldsRow.holds Try.pinned (OpenSpec.ofChange snapHoldsSpec)

/-- ITS FALSE NEIGHBOUR: 'it returns false'. Refute it at one input. -/
def snapHoldsWrong : ChangeSpec := { name := "snapHolds", fn := fun _ => fun
  | [d] => { results := [.lit (.bool false)], args := [d] }
  | _ => none }
def SnapHoldsWrongFalsely : Prop := snapHoldsRow.holds Try.pinned (OpenSpec.ofChange snapHoldsWrong)

/-- 'quintainlaw11.SnapApart': WHATEVER THE INPUT: true; the input reads as it did. -/
def snapApartSpec : ChangeSpec := { name := "snapApart", fn := fun _ => fun
  | [d1, d2, d3] => { results := [.lit (.bool true)], args := [d1, d2, d3] }
  | _ => none }
def snapApartRow : OpenClaim := { program := "ytpfblmpgljodmaa", sum := "67f278f11ce4d4f0d17a1bd7414ffb8296cef112e8d344506ac06e8c6d741715", func := "quintain/quintainlaw11.SnapApart", spec := "snapApart", unfollowed := true, recurses := true, apart := false }
def SnapApartSaid : Prop := snapApartRow.holds Try.pinned (OpenSpec.ofChange snapApartSpec)

/-- ITS FALSE NEIGHBOUR: 'it returns false'. Refute it at one input. -/
def snapApartWrong : ChangeSpec := { name := "snapApart", fn := fun _ => fun
  | [d1, d2, d3] => { results := [.lit (.bool false)], args := [d1, d2, d3] }
  | _ => none }
def SnapApartWrongFalsely : Prop := snapApartRow.holds Try.pinned (OpenSpec.ofChange snapApartWrong)

/-- 'quintainlaw11.SnapCells': WHATEVER THE INPUT: true; the input reads as it did. -/
def snapCellsSpec : ChangeSpec := { name := "snapCells", fn := fun _ => fun
  | [d1, d2, d3] => { results := [.lit (.bool true)], args := [d1, d2, d3] }
  | _ => none }
def snapCellsRow : OpenClaim := { program := "ytpfblmpgljodmaa", sum := "67f278f11ce4d4f0d17a1bd7414ffb8296cef112e8d344506ac06e8c6d741715", func := "quintain/quintainlaw11.SnapCells", spec := "snapCells", unfollowed := true, recurses := true, apart := false }
def SnapCellsSaid : Prop := snapCellsRow.holds Try.pinned (OpenSpec.ofChange snapCellsSpec)

/-- ITS FALSE NEIGHBOUR: 'it returns false'. Refute it at one input. -/
def snapCellsWrong : ChangeSpec := { name := "snapCells", fn := fun _ => fun
  | [d1, d2, d3] => { results := [.lit (.bool false)], args := [d1, d2, d3] }
  | _ => none }
def SnapCellsWrongFalsely : Prop := snapCellsRow.holds Try.pinned (OpenSpec.ofChange snapCellsWrong)

/-- 'quintainlaw11.SnapAgain': WHATEVER THE INPUT: true; the input reads as it did. -/
def snapAgainSpec : ChangeSpec := { name := "snapAgain", fn := fun _ => fun
  | [d] => { results := [.lit (.bool true)], args := [d] }
  | _ => none }
def snapAgainRow : OpenClaim := { program := "ytpfblmpgljodmaa", sum := "67f278f11ce4d4f0d17a1bd7414ffb8296cef112e8d344506ac06e8c6d741715", func := "quintain/quintainlaw11.SnapAgain", spec := "snapAgain", unfollowed := true, recurses := true, apart := false }
def SnapAgainSaid : Prop := snapAgainRow.holds Try.pinned (OpenSpec.ofChange snapAgainSpec)

/-- ITS FALSE NEIGHBOUR: 'it returns false'. Refute it at one input. -/
def snapAgainWrong : ChangeSpec := { name := "snapAgain", fn := fun _ => fun
  | [d] => { results := [.lit (.bool false)], args := [d] }
  | _ => none }
def SnapAgainWrongFalsely : Prop := snapAgainRow.holds Try.pinned (OpenSpec.ofChange snapAgainWrong)

/-- 'quintainlaw11.SnapTree': WHATEVER THE INPUT: true; the input reads as it did. -/
def snapTreeSpec : ChangeSpec := { name := "snapTree", fn := fun _ => fun
  | [d1, d2, d3] => { results := [.lit (.bool true)], args := [d1, d2, d3] }
  | _ => none }
def snapTreeRow : OpenClaim := { program := "ytpfblmpgljodmaa", sum := "67f278f11ce4d4f0d17a1bd7414ffb8296cef112e8d344506ac06e8c6d741715", func := "quintain/quintainlaw11.SnapTree", spec := "snapTree", unfollowed := true, recurses := true, apart := false }
def SnapTreeSaid : Prop := snapTreeRow.holds Try.pinned (OpenSpec.ofChange snapTreeSpec)

/-- ITS FALSE NEIGHBOUR: 'it returns false'. Refute it at one input. -/
def snapTreeWrong : ChangeSpec := { name := "snapTree", fn := fun _ => fun
  | [d1, d2, d3] => { results := [.lit (.bool false)], args := [d1, d2, d3] }
  | _ => none }
def SnapTreeWrongFalsely : Prop := snapTreeRow.holds Try.pinned (OpenSpec.ofChange snapTreeWrong)

/-- 'quintainlaw11.SnapAll': WHATEVER THE INPUT: true; the input reads as it did. -/
def snapAllSpec : ChangeSpec := { name := "snapAll", fn := fun _ => fun
  | [d1, d2] => { results := [.lit (.bool true)], args := [d1, d2] }
  | _ => none }
def snapAllRow : OpenClaim := { program := "ytpfblmpgljodmaa", sum := "67f278f11ce4d4f0d17a1bd7414ffb8296cef112e8d344506ac06e8c6d741715", func := "quintain/quintainlaw11.SnapAll", spec := "snapAll", unfollowed := true, recurses := true, apart := false }
def SnapAllSaid : Prop := snapAllRow.holds Try.pinned (OpenSpec.ofChange snapAllSpec)

/-- ITS FALSE NEIGHBOUR: 'it returns false'. Refute it at one input. -/
def snapAllWrong : ChangeSpec := { name := "snapAll", fn := fun _ => fun
  | [d1, d2] => { results := [.lit (.bool false)], args := [d1, d2] }
  | _ => none }
def SnapAllWrongFalsely : Prop := snapAllRow.holds Try.pinned (OpenSpec.ofChange snapAllWrong)

/-- 'quintainlaw11.SnapNone': WHATEVER THE INPUT: true; the input reads as it did. -/
def snapNoneSpec : ChangeSpec := { name := "snapNone", fn := fun _ => fun
  | [] => { results := [.lit (.bool true)], args := [] }
  | _ => none }
def snapNoneRow : OpenClaim := { program := "ytpfblmpgljodmaa", sum := "67f278f11ce4d4f0d17a1bd7414ffb8296cef112e8d344506ac06e8c6d741715", func := "quintain/quintainlaw11.SnapNone", spec := "snapNone", unfollowed := true, recurses := true, apart := false }
def SnapNoneSaid : Prop := snapNoneRow.holds Try.pinned (OpenSpec.ofChange snapNoneSpec)

/-- ITS FALSE NEIGHBOUR: 'it returns false'. Refute it at one input. -/
def snapNoneWrong : ChangeSpec := { name := "snapNone", fn := fun _ => fun
  | [] => { results := [.lit (.bool false)], args := [] }
  | _ => none }
def SnapNoneWrongFalsely : Prop := snapNoneRow.holds Try.pinned (OpenSpec.ofChange snapNoneWrong)

/- THE SECOND FORM. 'bulk': how many values and letters a reading holds, each counted each time it is reached (what is shared counts as often as it is met; a slice's spare places count too). A statement '..UptoSaid' is the law's where the arguments, and the package variables that the reading takes, are together of bulk at most 1048576: NARROWER than '..Said'. Prove '..Said' where nothing that the law and all that it calls make is longer than what came in: it says more and counts as full. Else prove '..UptoSaid'. A law counts once. -/
mutual
def uptoBulk {H : Type} : DataW H → Nat
  | .lit (.string bytes) => bytes.length + 1
  | .lit _ => 1
  | .nil => 1
  | .ptr d => uptoBulk d + 1
  | .slice elems spare => uptoBulkAll elems + uptoBulkAll spare + 1
  | .agg parts => uptoBulkAll parts + 1
  | .iface _ d => uptoBulk d + 1
  | .map entries => uptoBulkEntries entries + 1
  | .held _ => 1
def uptoBulkAll {H : Type} : List (DataW H) → Nat
  | [] => 0
  | d :: r => uptoBulk d + uptoBulkAll r
def uptoBulkEntries {H : Type} : List (Lit × DataW H) → Nat
  | [] => 0
  | x :: r => uptoBulkEntry x + uptoBulkEntries r
def uptoBulkEntry {H : Type} : Lit × DataW H → Nat
  | (.string bytes, d) => bytes.length + uptoBulk d + 1
  | (_, d) => uptoBulk d + 1
 end
def uptoSmall : (H : Type) → List (DataW H) → Bool := fun _ ds => decide (uptoBulkAll ds ≤ 1048576)
def OpenSpec.upto (s : _root_.Go.ChangeSpec) : _root_.Go.OpenSpec := { _root_.Go.OpenSpec.ofChange s with cond := some uptoSmall }

/-- 'quintainlaw11.SnapFull', WHERE WHAT IT READS IS OF BULK AT MOST 1048576: true; the input reads as it did. -/
def snapFullUptoRow : OpenClaim := { program := "ytpfblmpgljodmaa", sum := "67f278f11ce4d4f0d17a1bd7414ffb8296cef112e8d344506ac06e8c6d741715", func := "quintain/quintainlaw11.SnapFull", spec := "snapFull", unfollowed := true, recurses := true, apart := false, narrowed := true }
def SnapFullUptoSaid : Prop := snapFullUptoRow.holds Try.pinned (OpenSpec.upto snapFullSpec)

/-- 'quintainlaw11.SnapHolds', WHERE WHAT IT READS IS OF BULK AT MOST 1048576: true; the input reads as it did. -/
def snapHoldsUptoRow : OpenClaim := { program := "ytpfblmpgljodmaa", sum := "67f278f11ce4d4f0d17a1bd7414ffb8296cef112e8d344506ac06e8c6d741715", func := "quintain/quintainlaw11.SnapHolds", spec := "snapHolds", unfollowed := true, recurses := true, apart := false, narrowed := true }
def SnapHoldsUptoSaid : Prop := snapHoldsUptoRow.holds Try.pinned (OpenSpec.upto snapHoldsSpec)

/-- 'quintainlaw11.SnapApart', WHERE WHAT IT READS IS OF BULK AT MOST 1048576: true; the input reads as it did. -/
def snapApartUptoRow : OpenClaim := { program := "ytpfblmpgljodmaa", sum := "67f278f11ce4d4f0d17a1bd7414ffb8296cef112e8d344506ac06e8c6d741715", func := "quintain/quintainlaw11.SnapApart", spec := "snapApart", unfollowed := true, recurses := true, apart := false, narrowed := true }
def SnapApartUptoSaid : Prop := snapApartUptoRow.holds Try.pinned (OpenSpec.upto snapApartSpec)

/-- 'quintainlaw11.SnapCells', WHERE WHAT IT READS IS OF BULK AT MOST 1048576: true; the input reads as it did. -/
def snapCellsUptoRow : OpenClaim := { program := "ytpfblmpgljodmaa", sum := "67f278f11ce4d4f0d17a1bd7414ffb8296cef112e8d344506ac06e8c6d741715", func := "quintain/quintainlaw11.SnapCells", spec := "snapCells", unfollowed := true, recurses := true, apart := false, narrowed := true }
def SnapCellsUptoSaid : Prop := snapCellsUptoRow.holds Try.pinned (OpenSpec.upto snapCellsSpec)

/-- 'quintainlaw11.SnapAgain', WHERE WHAT IT READS IS OF BULK AT MOST 1048576: true; the input reads as it did. -/
def snapAgainUptoRow : OpenClaim := { program := "ytpfblmpgljodmaa", sum := "67f278f11ce4d4f0d17a1bd7414ffb8296cef112e8d344506ac06e8c6d741715", func := "quintain/quintainlaw11.SnapAgain", spec := "snapAgain", unfollowed := true, recurses := true, apart := false, narrowed := true }
def SnapAgainUptoSaid : Prop := snapAgainUptoRow.holds Try.pinned (OpenSpec.upto snapAgainSpec)

/-- 'quintainlaw11.SnapTree', WHERE WHAT IT READS IS OF BULK AT MOST 1048576: true; the input reads as it did. -/
def snapTreeUptoRow : OpenClaim := { program := "ytpfblmpgljodmaa", sum := "67f278f11ce4d4f0d17a1bd7414ffb8296cef112e8d344506ac06e8c6d741715", func := "quintain/quintainlaw11.SnapTree", spec := "snapTree", unfollowed := true, recurses := true, apart := false, narrowed := true }
def SnapTreeUptoSaid : Prop := snapTreeUptoRow.holds Try.pinned (OpenSpec.upto snapTreeSpec)

/-- 'quintainlaw11.SnapAll', WHERE WHAT IT READS IS OF BULK AT MOST 1048576: true; the input reads as it did. -/
def snapAllUptoRow : OpenClaim := { program := "ytpfblmpgljodmaa", sum := "67f278f11ce4d4f0d17a1bd7414ffb8296cef112e8d344506ac06e8c6d741715", func := "quintain/quintainlaw11.SnapAll", spec := "snapAll", unfollowed := true, recurses := true, apart := false, narrowed := true }
def SnapAllUptoSaid : Prop := snapAllUptoRow.holds Try.pinned (OpenSpec.upto snapAllSpec)

/-- 'quintainlaw11.SnapNone', WHERE WHAT IT READS IS OF BULK AT MOST 1048576: true; the input reads as it did. -/
def snapNoneUptoRow : OpenClaim := { program := "ytpfblmpgljodmaa", sum := "67f278f11ce4d4f0d17a1bd7414ffb8296cef112e8d344506ac06e8c6d741715", func := "quintain/quintainlaw11.SnapNone", spec := "snapNone", unfollowed := true, recurses := true, apart := false, narrowed := true }
def SnapNoneUptoSaid : Prop := snapNoneUptoRow.holds Try.pinned (OpenSpec.upto snapNoneSpec)

end Rows
end Go.Proofs.Ytpfblmpgljodmaa
