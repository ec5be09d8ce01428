/-
  No cell of these rows narrows 'for every input' (looked for: loops, veiled, ifaces, maps, wideKeys, modest, calm, conditions, laid).
  DERIVED. THE GIVEN ROWS OF THIS SEAT. 5 by the template 'for every input the law returns true; each argument reads behind the call as it read before'; 0 by the template 'total and deterministic' (their statements: YtneafbkhaooelaaGreatTotals.lean).
  GIVEN WITH THE SEED: the statements are not yours to turn. If you find one false, say at which input.
  Laid BY PROGRAM, IN A SANDBOX (cutbox-rows.mjs): the forced cells as the released guide's own fill.sh prints them over the translation ed26b31f3a37c1e5… (all of the seat's roots in one cut). By AI agents, Wed Nov 11 2026. No macro, syntax, notation, axiom, sorry.
-/
import Derived.Test.YtneafbkhaooelaaGreatChecked
import GoSem.Claim
import GoSem.ClaimJoined
import GoSem.ClaimMapViews
import Derived.JoinedTies
import Derived.KernelRfl
namespace Go.Proofs.YtneafbkhaooelaaGreat
/- THE CELL 'sum', in the pinned program and in every row, IS THE sha256 OF THE DUMP (.gsa) THAT YtneafbkhaooelaaGreatProg.lean LOADS. Nothing in Lean hashes anything: it is a label: what it is worth is what the hold of that sum in a sandbox is worth. -/
noncomputable def Tryz.pinned : Pinned := { name := "ytneafbkhaooelaagreat", sum := "ed26b31f3a37c1e5c4486cf7344fc76225aff21bf61376daea21fba93f8a1523", checked := Tryz.checked }
namespace Rows
def none {H : Type} : Left H := { results := [], args := [] }

/-- 'quintainlaw25.WorkEnds': WHATEVER THE INPUT: true; the input reads as it did. -/
def workEndsSpec : ChangeSpec := { name := "workEnds", fn := fun _ => fun
  | [d1, d2, d3] => { results := [.lit (.bool true)], args := [d1, d2, d3] }
  | _ => none }
def workEndsRow : OpenClaim := { program := "ytneafbkhaooelaagreat", sum := "ed26b31f3a37c1e5c4486cf7344fc76225aff21bf61376daea21fba93f8a1523", func := "quintain/quintainlaw25.WorkEnds", spec := "workEnds", unfollowed := true, recurses := true, apart := false }
def WorkEndsSaid : Prop := workEndsRow.holds Tryz.pinned (OpenSpec.ofChange workEndsSpec)

/-- ITS FALSE NEIGHBOUR: 'it returns false'. Refute it at one input. -/
def workEndsWrong : ChangeSpec := { name := "workEnds", fn := fun _ => fun
  | [d1, d2, d3] => { results := [.lit (.bool false)], args := [d1, d2, d3] }
  | _ => none }
def WorkEndsWrongFalsely : Prop := workEndsRow.holds Tryz.pinned (OpenSpec.ofChange workEndsWrong)

/-- 'quintainlaw25.WorkBits': WHATEVER THE INPUT: true; the input reads as it did. -/
def workBitsSpec : ChangeSpec := { name := "workBits", fn := fun _ => fun
  | [d1, d2] => { results := [.lit (.bool true)], args := [d1, d2] }
  | _ => none }
def workBitsRow : OpenClaim := { program := "ytneafbkhaooelaagreat", sum := "ed26b31f3a37c1e5c4486cf7344fc76225aff21bf61376daea21fba93f8a1523", func := "quintain/quintainlaw25.WorkBits", spec := "workBits", unfollowed := true, recurses := true, apart := false }
def WorkBitsSaid : Prop := workBitsRow.holds Tryz.pinned (OpenSpec.ofChange workBitsSpec)

/-- ITS FALSE NEIGHBOUR: 'it returns false'. Refute it at one input. -/
def workBitsWrong : ChangeSpec := { name := "workBits", fn := fun _ => fun
  | [d1, d2] => { results := [.lit (.bool false)], args := [d1, d2] }
  | _ => none }
def WorkBitsWrongFalsely : Prop := workBitsRow.holds Tryz.pinned (OpenSpec.ofChange workBitsWrong)

/-- 'quintainlaw25.WorkAll': WHATEVER THE INPUT: true; the input reads as it did. -/
def workAllSpec : ChangeSpec := { name := "workAll", fn := fun _ => fun
  | [d1, d2, d3, d4, d5] => { results := [.lit (.bool true)], args := [d1, d2, d3, d4, d5] }
  | _ => none }
def workAllRow : OpenClaim := { program := "ytneafbkhaooelaagreat", sum := "ed26b31f3a37c1e5c4486cf7344fc76225aff21bf61376daea21fba93f8a1523", func := "quintain/quintainlaw25.WorkAll", spec := "workAll", unfollowed := true, recurses := true, apart := false }
def WorkAllSaid : Prop := workAllRow.holds Tryz.pinned (OpenSpec.ofChange workAllSpec)

/-- ITS FALSE NEIGHBOUR: 'it returns false'. Refute it at one input. -/
def workAllWrong : ChangeSpec := { name := "workAll", fn := fun _ => fun
  | [d1, d2, d3, d4, d5] => { results := [.lit (.bool false)], args := [d1, d2, d3, d4, d5] }
  | _ => none }
def WorkAllWrongFalsely : Prop := workAllRow.holds Tryz.pinned (OpenSpec.ofChange workAllWrong)

/-- 'quintainlaw25.WorkTight': WHATEVER THE INPUT: true; the input reads as it did. -/
def workTightSpec : ChangeSpec := { name := "workTight", fn := fun _ => fun
  | [d1, d2, d3, d4] => { results := [.lit (.bool true)], args := [d1, d2, d3, d4] }
  | _ => none }
def workTightRow : OpenClaim := { program := "ytneafbkhaooelaagreat", sum := "ed26b31f3a37c1e5c4486cf7344fc76225aff21bf61376daea21fba93f8a1523", func := "quintain/quintainlaw25.WorkTight", spec := "workTight", unfollowed := true, recurses := true, apart := false }
def WorkTightSaid : Prop := workTightRow.holds Tryz.pinned (OpenSpec.ofChange workTightSpec)

/-- ITS FALSE NEIGHBOUR: 'it returns false'. Refute it at one input. -/
def workTightWrong : ChangeSpec := { name := "workTight", fn := fun _ => fun
  | [d1, d2, d3, d4] => { results := [.lit (.bool false)], args := [d1, d2, d3, d4] }
  | _ => none }
def WorkTightWrongFalsely : Prop := workTightRow.holds Tryz.pinned (OpenSpec.ofChange workTightWrong)

/-- 'quintainlaw25.WorkGone': WHATEVER THE INPUT: true; the input reads as it did. -/
def workGoneSpec : ChangeSpec := { name := "workGone", fn := fun _ => fun
  | [d1, d2] => { results := [.lit (.bool true)], args := [d1, d2] }
  | _ => none }
def workGoneRow : OpenClaim := { program := "ytneafbkhaooelaagreat", sum := "ed26b31f3a37c1e5c4486cf7344fc76225aff21bf61376daea21fba93f8a1523", func := "quintain/quintainlaw25.WorkGone", spec := "workGone", unfollowed := true, recurses := true, apart := false }
def WorkGoneSaid : Prop := workGoneRow.holds Tryz.pinned (OpenSpec.ofChange workGoneSpec)

/-- ITS FALSE NEIGHBOUR: 'it returns false'. Refute it at one input. -/
def workGoneWrong : ChangeSpec := { name := "workGone", fn := fun _ => fun
  | [d1, d2] => { results := [.lit (.bool false)], args := [d1, d2] }
  | _ => none }
def WorkGoneWrongFalsely : Prop := workGoneRow.holds Tryz.pinned (OpenSpec.ofChange workGoneWrong)

/- THE SECOND FORM. 'bulk': how many values and letters a reading holds, each counted each time it is reached (what is shared counts as often as it is met; a slice's spare places count too). A statement '..UptoSaid' is the law's where the arguments, and the package variables that the reading takes, are together of bulk at most 1048576: NARROWER than '..Said'. Prove '..Said' where nothing that the law and all that it calls make is longer than what came in: it says more and counts as full. Else prove '..UptoSaid'. A law counts once. -/
mutual
def uptoBulk {H : Type} : DataW H → Nat
  | .lit (.string bytes) => bytes.length + 1
  | .lit _ => 1
  | .nil => 1
  | .ptr d => uptoBulk d + 1
  | .slice elems spare => uptoBulkAll elems + uptoBulkAll spare + 1
  | .agg parts => uptoBulkAll parts + 1
  | .iface _ d => uptoBulk d + 1
  | .map entries => uptoBulkEntries entries + 1
  | .held _ => 1
def uptoBulkAll {H : Type} : List (DataW H) → Nat
  | [] => 0
  | d :: r => uptoBulk d + uptoBulkAll r
def uptoBulkEntries {H : Type} : List (Lit × DataW H) → Nat
  | [] => 0
  | x :: r => uptoBulkEntry x + uptoBulkEntries r
def uptoBulkEntry {H : Type} : Lit × DataW H → Nat
  | (.string bytes, d) => bytes.length + uptoBulk d + 1
  | (_, d) => uptoBulk d + 1
 end
def uptoSmall : (H : Type) → List (DataW H) → Bool := fun _ ds => decide (uptoBulkAll ds ≤ 1048576)
def OpenSpec.upto (s : _root_.Go.ChangeSpec) : _root_.Go.OpenSpec := { _root_.Go.OpenSpec.ofChange s with cond := some uptoSmall }

/-- 'quintainlaw25.WorkEnds', WHERE WHAT IT READS IS OF BULK AT MOST 1048576: true; the input reads as it did. -/
def workEndsUptoRow : OpenClaim := { program := "ytneafbkhaooelaagreat", sum := "ed26b31f3a37c1e5c4486cf7344fc76225aff21bf61376daea21fba93f8a1523", func := "quintain/quintainlaw25.WorkEnds", spec := "workEnds", unfollowed := true, recurses := true, apart := false, narrowed := true }
def WorkEndsUptoSaid : Prop := workEndsUptoRow.holds Tryz.pinned (OpenSpec.upto workEndsSpec)

/-- 'quintainlaw25.WorkBits', WHERE WHAT IT READS IS OF BULK AT MOST 1048576: true; the input reads as it did. -/
def workBitsUptoRow : OpenClaim := { program := "ytneafbkhaooelaagreat", sum := "ed26b31f3a37c1e5c4486cf7344fc76225aff21bf61376daea21fba93f8a1523", func := "quintain/quintainlaw25.WorkBits", spec := "workBits", unfollowed := true, recurses := true, apart := false, narrowed := true }
def WorkBitsUptoSaid : Prop := workBitsUptoRow.holds Tryz.pinned (OpenSpec.upto workBitsSpec)

/-- 'quintainlaw25.WorkAll', WHERE WHAT IT READS IS OF BULK AT MOST 1048576: true; the input reads as it did. -/
def workAllUptoRow : OpenClaim := { program := "ytneafbkhaooelaagreat", sum := "ed26b31f3a37c1e5c4486cf7344fc76225aff21bf61376daea21fba93f8a1523", func := "quintain/quintainlaw25.WorkAll", spec := "workAll", unfollowed := true, recurses := true, apart := false, narrowed := true }
def WorkAllUptoSaid : Prop := workAllUptoRow.holds Tryz.pinned (OpenSpec.upto workAllSpec)

/-- 'quintainlaw25.WorkTight', WHERE WHAT IT READS IS OF BULK AT MOST 1048576: true; the input reads as it did. -/
def workTightUptoRow : OpenClaim := { program := "ytneafbkhaooelaagreat", sum := "ed26b31f3a37c1e5c4486cf7344fc76225aff21bf61376daea21fba93f8a1523", func := "quintain/quintainlaw25.WorkTight", spec := "workTight", unfollowed := true, recurses := true, apart := false, narrowed := true }
def WorkTightUptoSaid : Prop := workTightUptoRow.holds Tryz.pinned (OpenSpec.upto workTightSpec)

/-- 'quintainlaw25.WorkGone', WHERE WHAT IT READS IS OF BULK AT MOST 1048576: true; the input reads as it did. -/
def workGoneUptoRow : OpenClaim := { program := "ytneafbkhaooelaagreat", sum := "ed26b31f3a37c1e5c4486cf7344fc76225aff21bf61376daea21fba93f8a1523", func := "quintain/quintainlaw25.WorkGone", spec := "workGone", unfollowed := true, recurses := true, apart := false, narrowed := true }
def WorkGoneUptoSaid : Prop := workGoneUptoRow.holds Tryz.pinned (OpenSpec.upto workGoneSpec)

end Rows
end Go.Proofs.YtneafbkhaooelaaGreat
