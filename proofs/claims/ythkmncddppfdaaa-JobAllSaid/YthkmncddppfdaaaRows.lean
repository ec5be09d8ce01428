/-
  No cell of these rows narrows 'for every input' (looked for: loops, veiled, ifaces, maps, wideKeys, modest, calm, conditions, laid).
  DERIVED. THE GIVEN ROWS OF THIS SEAT. 5 by the template 'for every input the law returns true; each argument reads behind the call as it read before'; 0 by the template 'total and deterministic' (their statements: YthkmncddppfdaaaTotals.lean).
  GIVEN WITH THE SEED: the statements are not yours to turn. If you find one false, say at which input.
  Laid BY PROGRAM, IN A SANDBOX (cutbox-rows.mjs): the forced cells as the released guide's own fill.sh prints them over the translation 33da8a35067e65ba… (all of the seat's roots in one cut). By AI agents, Wed Nov 11 2026. No macro, syntax, notation, axiom, sorry.
-/
import Derived.Test.YthkmncddppfdaaaChecked
import GoSem.Claim
import GoSem.ClaimJoined
import GoSem.ClaimMapViews
import Derived.JoinedTies
import Derived.KernelRfl
namespace Go.Proofs.Ythkmncddppfdaaa
/- THE CELL 'sum', in the pinned program and in every row, IS THE sha256 OF THE DUMP (.gsa) THAT YthkmncddppfdaaaProg.lean LOADS. Nothing in Lean hashes anything: it is a label: what it is worth is what the hold of that sum in a sandbox is worth. -/
noncomputable def Try.pinned : Pinned := { name := "ythkmncddppfdaaa", sum := "33da8a35067e65ba9c3583b6f5620253deeecfc90bd534fca6d82fa7bbf2ea3e", checked := Try.checked }
namespace Rows
def none {H : Type} : Left H := { results := [], args := [] }

/-- 'quintainlaw0.Names': WHATEVER THE INPUT: true; the input reads as it did. -/
def namesSpec : ChangeSpec := { name := "names", fn := fun _ => fun
  | [] => { results := [.lit (.bool true)], args := [] }
  | _ => none }
def namesRow : OpenClaim := { program := "ythkmncddppfdaaa", sum := "33da8a35067e65ba9c3583b6f5620253deeecfc90bd534fca6d82fa7bbf2ea3e", func := "quintain/quintainlaw0.Names", spec := "names", apart := false }
def NamesSaid : Prop := namesRow.holds Try.pinned (OpenSpec.ofChange namesSpec)

/-- ITS FALSE NEIGHBOUR: 'it returns false'. Refute it at one input. -/
def namesWrong : ChangeSpec := { name := "names", fn := fun _ => fun
  | [] => { results := [.lit (.bool false)], args := [] }
  | _ => none }
def NamesWrongFalsely : Prop := namesRow.holds Try.pinned (OpenSpec.ofChange namesWrong)

/-- 'quintainlaw24.JobAll': WHATEVER THE INPUT: true; the input reads as it did. -/
def jobAllSpec : ChangeSpec := { name := "jobAll", fn := fun _ => fun
  | [d] => { results := [.lit (.bool true)], args := [d] }
  | _ => none }
def jobAllRow : OpenClaim := { program := "ythkmncddppfdaaa", sum := "33da8a35067e65ba9c3583b6f5620253deeecfc90bd534fca6d82fa7bbf2ea3e", func := "quintain/quintainlaw24.JobAll", spec := "jobAll", unfollowed := true, recurses := true, apart := false }
def JobAllSaid : Prop := jobAllRow.holds Try.pinned (OpenSpec.ofChange jobAllSpec)

/-- ITS FALSE NEIGHBOUR: 'it returns false'. Refute it at one input. -/
def jobAllWrong : ChangeSpec := { name := "jobAll", fn := fun _ => fun
  | [d] => { results := [.lit (.bool false)], args := [d] }
  | _ => none }
def JobAllWrongFalsely : Prop := jobAllRow.holds Try.pinned (OpenSpec.ofChange jobAllWrong)

/-- 'quintainlaw24.JobNone': WHATEVER THE INPUT: true; the input reads as it did. -/
def jobNoneSpec : ChangeSpec := { name := "jobNone", fn := fun _ => fun
  | [] => { results := [.lit (.bool true)], args := [] }
  | _ => none }
def jobNoneRow : OpenClaim := { program := "ythkmncddppfdaaa", sum := "33da8a35067e65ba9c3583b6f5620253deeecfc90bd534fca6d82fa7bbf2ea3e", func := "quintain/quintainlaw24.JobNone", spec := "jobNone", unfollowed := true, recurses := true, apart := false }
def JobNoneSaid : Prop := jobNoneRow.holds Try.pinned (OpenSpec.ofChange jobNoneSpec)

/-- ITS FALSE NEIGHBOUR: 'it returns false'. Refute it at one input. -/
def jobNoneWrong : ChangeSpec := { name := "jobNone", fn := fun _ => fun
  | [] => { results := [.lit (.bool false)], args := [] }
  | _ => none }
def JobNoneWrongFalsely : Prop := jobNoneRow.holds Try.pinned (OpenSpec.ofChange jobNoneWrong)

/-- 'quintainlaw24.JobCancel': WHATEVER THE INPUT: true; the input reads as it did. -/
def jobCancelSpec : ChangeSpec := { name := "jobCancel", fn := fun _ => fun
  | [d1, d2] => { results := [.lit (.bool true)], args := [d1, d2] }
  | _ => none }
def jobCancelRow : OpenClaim := { program := "ythkmncddppfdaaa", sum := "33da8a35067e65ba9c3583b6f5620253deeecfc90bd534fca6d82fa7bbf2ea3e", func := "quintain/quintainlaw24.JobCancel", spec := "jobCancel", unfollowed := true, recurses := true, apart := false }
def JobCancelSaid : Prop := jobCancelRow.holds Try.pinned (OpenSpec.ofChange jobCancelSpec)

/-- ITS FALSE NEIGHBOUR: 'it returns false'. Refute it at one input. -/
def jobCancelWrong : ChangeSpec := { name := "jobCancel", fn := fun _ => fun
  | [d1, d2] => { results := [.lit (.bool false)], args := [d1, d2] }
  | _ => none }
def JobCancelWrongFalsely : Prop := jobCancelRow.holds Try.pinned (OpenSpec.ofChange jobCancelWrong)

/-- 'quintainlaw24.JobOrder': WHATEVER THE INPUT: true; the input reads as it did. -/
def jobOrderSpec : ChangeSpec := { name := "jobOrder", fn := fun _ => fun
  | [d1, d2] => { results := [.lit (.bool true)], args := [d1, d2] }
  | _ => none }
def jobOrderRow : OpenClaim := { program := "ythkmncddppfdaaa", sum := "33da8a35067e65ba9c3583b6f5620253deeecfc90bd534fca6d82fa7bbf2ea3e", func := "quintain/quintainlaw24.JobOrder", spec := "jobOrder", unfollowed := true, recurses := true, apart := false }
def JobOrderSaid : Prop := jobOrderRow.holds Try.pinned (OpenSpec.ofChange jobOrderSpec)

/-- ITS FALSE NEIGHBOUR: 'it returns false'. Refute it at one input. -/
def jobOrderWrong : ChangeSpec := { name := "jobOrder", fn := fun _ => fun
  | [d1, d2] => { results := [.lit (.bool false)], args := [d1, d2] }
  | _ => none }
def JobOrderWrongFalsely : Prop := jobOrderRow.holds Try.pinned (OpenSpec.ofChange jobOrderWrong)

/- THE SECOND FORM. 'bulk': how many values and letters a reading holds, each counted each time it is reached (what is shared counts as often as it is met; a slice's spare places count too). A statement '..UptoSaid' is the law's where the arguments, and the package variables that the reading takes, are together of bulk at most 1048576: NARROWER than '..Said'. Prove '..Said' where nothing that the law and all that it calls make is longer than what came in: it says more and counts as full. Else prove '..UptoSaid'. A law counts once. -/
mutual
def uptoBulk {H : Type} : DataW H → Nat
  | .lit (.string bytes) => bytes.length + 1
  | .lit _ => 1
  | .nil => 1
  | .ptr d => uptoBulk d + 1
  | .slice elems spare => uptoBulkAll elems + uptoBulkAll spare + 1
  | .agg parts => uptoBulkAll parts + 1
  | .iface _ d => uptoBulk d + 1
  | .map entries => uptoBulkEntries entries + 1
  | .held _ => 1
def uptoBulkAll {H : Type} : List (DataW H) → Nat
  | [] => 0
  | d :: r => uptoBulk d + uptoBulkAll r
def uptoBulkEntries {H : Type} : List (Lit × DataW H) → Nat
  | [] => 0
  | x :: r => uptoBulkEntry x + uptoBulkEntries r
def uptoBulkEntry {H : Type} : Lit × DataW H → Nat
  | (.string bytes, d) => bytes.length + uptoBulk d + 1
  | (_, d) => uptoBulk d + 1
 end
def uptoSmall : (H : Type) → List (DataW H) → Bool := fun _ ds => decide (uptoBulkAll ds ≤ 1048576)
def OpenSpec.upto (s : _root_.Go.ChangeSpec) : _root_.Go.OpenSpec := { _root_.Go.OpenSpec.ofChange s with cond := some uptoSmall }

/-- 'quintainlaw0.Names', WHERE WHAT IT READS IS OF BULK AT MOST 1048576: true; the input reads as it did. -/
def namesUptoRow : OpenClaim := { program := "ythkmncddppfdaaa", sum := "33da8a35067e65ba9c3583b6f5620253deeecfc90bd534fca6d82fa7bbf2ea3e", func := "quintain/quintainlaw0.Names", spec := "names", apart := false, narrowed := true }
def NamesUptoSaid : Prop := namesUptoRow.holds Try.pinned (OpenSpec.upto namesSpec)

/-- 'quintainlaw24.JobAll', WHERE WHAT IT READS IS OF BULK AT MOST 1048576: true; the input reads as it did. -/
def jobAllUptoRow : OpenClaim := { program := "ythkmncddppfdaaa", sum := "33da8a35067e65ba9c3583b6f5620253deeecfc90bd534fca6d82fa7bbf2ea3e", func := "quintain/quintainlaw24.JobAll", spec := "jobAll", unfollowed := true, recurses := true, apart := false, narrowed := true }
def JobAllUptoSaid : Prop := jobAllUptoRow.holds Try.pinned (OpenSpec.upto jobAllSpec)

/-- 'quintainlaw24.JobNone', WHERE WHAT IT READS IS OF BULK AT MOST 1048576: true; the input reads as it did. -/
def jobNoneUptoRow : OpenClaim := { program := "ythkmncddppfdaaa", sum := "33da8a35067e65ba9c3583b6f5620253deeecfc90bd534fca6d82fa7bbf2ea3e", func := "quintain/quintainlaw24.JobNone", spec := "jobNone", unfollowed := true, recurses := true, apart := false, narrowed := true }
def JobNoneUptoSaid : Prop := jobNoneUptoRow.holds Try.pinned (OpenSpec.upto jobNoneSpec)

/-- 'quintainlaw24.JobCancel', WHERE WHAT IT READS IS OF BULK AT MOST 1048576: true; the input reads as it did. -/
def jobCancelUptoRow : OpenClaim := { program := "ythkmncddppfdaaa", sum := "33da8a35067e65ba9c3583b6f5620253deeecfc90bd534fca6d82fa7bbf2ea3e", func := "quintain/quintainlaw24.JobCancel", spec := "jobCancel", unfollowed := true, recurses := true, apart := false, narrowed := true }
def JobCancelUptoSaid : Prop := jobCancelUptoRow.holds Try.pinned (OpenSpec.upto jobCancelSpec)

/-- 'quintainlaw24.JobOrder', WHERE WHAT IT READS IS OF BULK AT MOST 1048576: true; the input reads as it did. -/
def jobOrderUptoRow : OpenClaim := { program := "ythkmncddppfdaaa", sum := "33da8a35067e65ba9c3583b6f5620253deeecfc90bd534fca6d82fa7bbf2ea3e", func := "quintain/quintainlaw24.JobOrder", spec := "jobOrder", unfollowed := true, recurses := true, apart := false, narrowed := true }
def JobOrderUptoSaid : Prop := jobOrderUptoRow.holds Try.pinned (OpenSpec.upto jobOrderSpec)

end Rows
end Go.Proofs.Ythkmncddppfdaaa
