/-
  No cell of these rows narrows 'for every input' (looked for: loops, veiled, ifaces, maps, wideKeys, modest, calm, conditions, laid).
  DERIVED. THE GIVEN ROWS OF THIS SEAT. 6 by the template 'for every input the law returns true; each argument reads behind the call as it read before'; 0 by the template 'total and deterministic' (their statements: YtkjmmchmanofkaaTotals.lean).
  GIVEN WITH THE SEED: the statements are not yours to turn. If you find one false, say at which input.
  Laid BY PROGRAM, IN A SANDBOX (cutbox-rows.mjs): the forced cells as the released guide's own fill.sh prints them over the translation 22c1efa1ffafa6b8… (all of the seat's roots in one cut). By AI agents, Wed Nov 11 2026. No macro, syntax, notation, axiom, sorry.
-/
import Derived.Test.YtkjmmchmanofkaaChecked
import GoSem.Claim
import GoSem.ClaimJoined
import GoSem.ClaimMapViews
import Derived.JoinedTies
import Derived.KernelRfl
namespace Go.Proofs.Ytkjmmchmanofkaa
/- THE CELL 'sum', in the pinned program and in every row, IS THE sha256 OF THE DUMP (.gsa) THAT YtkjmmchmanofkaaProg.lean LOADS. Nothing in Lean hashes anything: it is a label: what it is worth is what the hold of that sum in a sandbox is worth. -/
noncomputable def Try.pinned : Pinned := { name := "ytkjmmchmanofkaa", sum := "22c1efa1ffafa6b8c8617eb3f850ca989f92cf7745217794722292f6a326e803", checked := Try.checked }
namespace Rows
def none {H : Type} : Left H := { results := [], args := [] }

/-- 'quintainlaw23.BranchPrune': WHATEVER THE INPUT: true; the input reads as it did. -/
def branchPruneSpec : ChangeSpec := { name := "branchPrune", fn := fun _ => fun
  | [d1, d2] => { results := [.lit (.bool true)], args := [d1, d2] }
  | _ => none }
def branchPruneRow : OpenClaim := { program := "ytkjmmchmanofkaa", sum := "22c1efa1ffafa6b8c8617eb3f850ca989f92cf7745217794722292f6a326e803", func := "quintain/quintainlaw23.BranchPrune", spec := "branchPrune", unfollowed := true, recurses := true, apart := false }
def BranchPruneSaid : Prop := branchPruneRow.holds Try.pinned (OpenSpec.ofChange branchPruneSpec)

/-- ITS FALSE NEIGHBOUR: 'it returns false'. Refute it at one input. -/
def branchPruneWrong : ChangeSpec := { name := "branchPrune", fn := fun _ => fun
  | [d1, d2] => { results := [.lit (.bool false)], args := [d1, d2] }
  | _ => none }
def BranchPruneWrongFalsely : Prop := branchPruneRow.holds Try.pinned (OpenSpec.ofChange branchPruneWrong)

/-- 'quintainlaw23.BranchBest': WHATEVER THE INPUT: true; the input reads as it did. -/
def branchBestSpec : ChangeSpec := { name := "branchBest", fn := fun _ => fun
  | [d1, d2] => { results := [.lit (.bool true)], args := [d1, d2] }
  | _ => none }
def branchBestRow : OpenClaim := { program := "ytkjmmchmanofkaa", sum := "22c1efa1ffafa6b8c8617eb3f850ca989f92cf7745217794722292f6a326e803", func := "quintain/quintainlaw23.BranchBest", spec := "branchBest", unfollowed := true, recurses := true, apart := false }
def BranchBestSaid : Prop := branchBestRow.holds Try.pinned (OpenSpec.ofChange branchBestSpec)

/-- ITS FALSE NEIGHBOUR: 'it returns false'. Refute it at one input. -/
def branchBestWrong : ChangeSpec := { name := "branchBest", fn := fun _ => fun
  | [d1, d2] => { results := [.lit (.bool false)], args := [d1, d2] }
  | _ => none }
def BranchBestWrongFalsely : Prop := branchBestRow.holds Try.pinned (OpenSpec.ofChange branchBestWrong)

/-- 'quintainlaw23.BranchMost': WHATEVER THE INPUT: true; the input reads as it did. -/
def branchMostSpec : ChangeSpec := { name := "branchMost", fn := fun _ => fun
  | [d1, d2] => { results := [.lit (.bool true)], args := [d1, d2] }
  | _ => none }
def branchMostRow : OpenClaim := { program := "ytkjmmchmanofkaa", sum := "22c1efa1ffafa6b8c8617eb3f850ca989f92cf7745217794722292f6a326e803", func := "quintain/quintainlaw23.BranchMost", spec := "branchMost", unfollowed := true, recurses := true, apart := false }
def BranchMostSaid : Prop := branchMostRow.holds Try.pinned (OpenSpec.ofChange branchMostSpec)

/-- ITS FALSE NEIGHBOUR: 'it returns false'. Refute it at one input. -/
def branchMostWrong : ChangeSpec := { name := "branchMost", fn := fun _ => fun
  | [d1, d2] => { results := [.lit (.bool false)], args := [d1, d2] }
  | _ => none }
def BranchMostWrongFalsely : Prop := branchMostRow.holds Try.pinned (OpenSpec.ofChange branchMostWrong)

/-- 'quintainlaw23.BranchNone': WHATEVER THE INPUT: true; the input reads as it did. -/
def branchNoneSpec : ChangeSpec := { name := "branchNone", fn := fun _ => fun
  | [] => { results := [.lit (.bool true)], args := [] }
  | _ => none }
def branchNoneRow : OpenClaim := { program := "ytkjmmchmanofkaa", sum := "22c1efa1ffafa6b8c8617eb3f850ca989f92cf7745217794722292f6a326e803", func := "quintain/quintainlaw23.BranchNone", spec := "branchNone", unfollowed := true, recurses := true, apart := false }
def BranchNoneSaid : Prop := branchNoneRow.holds Try.pinned (OpenSpec.ofChange branchNoneSpec)

/-- ITS FALSE NEIGHBOUR: 'it returns false'. Refute it at one input. -/
def branchNoneWrong : ChangeSpec := { name := "branchNone", fn := fun _ => fun
  | [] => { results := [.lit (.bool false)], args := [] }
  | _ => none }
def BranchNoneWrongFalsely : Prop := branchNoneRow.holds Try.pinned (OpenSpec.ofChange branchNoneWrong)

/-- 'quintainlaw23.BranchOwn': WHATEVER THE INPUT: true; the input reads as it did. -/
def branchOwnSpec : ChangeSpec := { name := "branchOwn", fn := fun _ => fun
  | [d] => { results := [.lit (.bool true)], args := [d] }
  | _ => none }
def branchOwnRow : OpenClaim := { program := "ytkjmmchmanofkaa", sum := "22c1efa1ffafa6b8c8617eb3f850ca989f92cf7745217794722292f6a326e803", func := "quintain/quintainlaw23.BranchOwn", spec := "branchOwn", unfollowed := true, recurses := true, apart := false }
def BranchOwnSaid : Prop := branchOwnRow.holds Try.pinned (OpenSpec.ofChange branchOwnSpec)

/-- ITS FALSE NEIGHBOUR: 'it returns false'. Refute it at one input. -/
def branchOwnWrong : ChangeSpec := { name := "branchOwn", fn := fun _ => fun
  | [d] => { results := [.lit (.bool false)], args := [d] }
  | _ => none }
def BranchOwnWrongFalsely : Prop := branchOwnRow.holds Try.pinned (OpenSpec.ofChange branchOwnWrong)

/-- 'quintainlaw23.BranchAll': WHATEVER THE INPUT: true; the input reads as it did. -/
def branchAllSpec : ChangeSpec := { name := "branchAll", fn := fun _ => fun
  | [d1, d2] => { results := [.lit (.bool true)], args := [d1, d2] }
  | _ => none }
def branchAllRow : OpenClaim := { program := "ytkjmmchmanofkaa", sum := "22c1efa1ffafa6b8c8617eb3f850ca989f92cf7745217794722292f6a326e803", func := "quintain/quintainlaw23.BranchAll", spec := "branchAll", unfollowed := true, recurses := true, apart := false }
def BranchAllSaid : Prop := branchAllRow.holds Try.pinned (OpenSpec.ofChange branchAllSpec)

/-- ITS FALSE NEIGHBOUR: 'it returns false'. Refute it at one input. -/
def branchAllWrong : ChangeSpec := { name := "branchAll", fn := fun _ => fun
  | [d1, d2] => { results := [.lit (.bool false)], args := [d1, d2] }
  | _ => none }
def BranchAllWrongFalsely : Prop := branchAllRow.holds Try.pinned (OpenSpec.ofChange branchAllWrong)

/- THE SECOND FORM. 'bulk': how many values and letters a reading holds, each counted each time it is reached (what is shared counts as often as it is met; a slice's spare places count too). A statement '..UptoSaid' is the law's where the arguments, and the package variables that the reading takes, are together of bulk at most 1048576: NARROWER than '..Said'. Prove '..Said' where nothing that the law and all that it calls make is longer than what came in: it says more and counts as full. Else prove '..UptoSaid'. A law counts once. -/
mutual
def uptoBulk {H : Type} : DataW H → Nat
  | .lit (.string bytes) => bytes.length + 1
  | .lit _ => 1
  | .nil => 1
  | .ptr d => uptoBulk d + 1
  | .slice elems spare => uptoBulkAll elems + uptoBulkAll spare + 1
  | .agg parts => uptoBulkAll parts + 1
  | .iface _ d => uptoBulk d + 1
  | .map entries => uptoBulkEntries entries + 1
  | .held _ => 1
def uptoBulkAll {H : Type} : List (DataW H) → Nat
  | [] => 0
  | d :: r => uptoBulk d + uptoBulkAll r
def uptoBulkEntries {H : Type} : List (Lit × DataW H) → Nat
  | [] => 0
  | x :: r => uptoBulkEntry x + uptoBulkEntries r
def uptoBulkEntry {H : Type} : Lit × DataW H → Nat
  | (.string bytes, d) => bytes.length + uptoBulk d + 1
  | (_, d) => uptoBulk d + 1
 end
def uptoSmall : (H : Type) → List (DataW H) → Bool := fun _ ds => decide (uptoBulkAll ds ≤ 1048576)
def OpenSpec.upto (s : _root_.Go.ChangeSpec) : _root_.Go.OpenSpec := { _root_.Go.OpenSpec.ofChange s with cond := some uptoSmall }

/-- 'quintainlaw23.BranchPrune', WHERE WHAT IT READS IS OF BULK AT MOST 1048576: true; the input reads as it did. -/
def branchPruneUptoRow : OpenClaim := { program := "ytkjmmchmanofkaa", sum := "22c1efa1ffafa6b8c8617eb3f850ca989f92cf7745217794722292f6a326e803", func := "quintain/quintainlaw23.BranchPrune", spec := "branchPrune", unfollowed := true, recurses := true, apart := false, narrowed := true }
def BranchPruneUptoSaid : Prop := branchPruneUptoRow.holds Try.pinned (OpenSpec.upto branchPruneSpec)

/-- 'quintainlaw23.BranchBest', WHERE WHAT IT READS IS OF BULK AT MOST 1048576: true; the input reads as it did. -/
def branchBestUptoRow : OpenClaim := { program := "ytkjmmchmanofkaa", sum := "22c1efa1ffafa6b8c8617eb3f850ca989f92cf7745217794722292f6a326e803", func := "quintain/quintainlaw23.BranchBest", spec := "branchBest", unfollowed := true, recurses := true, apart := false, narrowed := true }
def BranchBestUptoSaid : Prop := branchBestUptoRow.holds Try.pinned (OpenSpec.upto branchBestSpec)

/-- 'quintainlaw23.BranchMost', WHERE WHAT IT READS IS OF BULK AT MOST 1048576: true; the input reads as it did. -/
def branchMostUptoRow : OpenClaim := { program := "ytkjmmchmanofkaa", sum := "22c1efa1ffafa6b8c8617eb3f850ca989f92cf7745217794722292f6a326e803", func := "quintain/quintainlaw23.BranchMost", spec := "branchMost", unfollowed := true, recurses := true, apart := false, narrowed := true }
def BranchMostUptoSaid : Prop := branchMostUptoRow.holds Try.pinned (OpenSpec.upto branchMostSpec)

/-- 'quintainlaw23.BranchNone', WHERE WHAT IT READS IS OF BULK AT MOST 1048576: true; the input reads as it did. -/
def branchNoneUptoRow : OpenClaim := { program := "ytkjmmchmanofkaa", sum := "22c1efa1ffafa6b8c8617eb3f850ca989f92cf7745217794722292f6a326e803", func := "quintain/quintainlaw23.BranchNone", spec := "branchNone", unfollowed := true, recurses := true, apart := false, narrowed := true }
def BranchNoneUptoSaid : Prop := branchNoneUptoRow.holds Try.pinned (OpenSpec.upto branchNoneSpec)

/-- 'quintainlaw23.BranchOwn', WHERE WHAT IT READS IS OF BULK AT MOST 1048576: true; the input reads as it did. -/
def branchOwnUptoRow : OpenClaim := { program := "ytkjmmchmanofkaa", sum := "22c1efa1ffafa6b8c8617eb3f850ca989f92cf7745217794722292f6a326e803", func := "quintain/quintainlaw23.BranchOwn", spec := "branchOwn", unfollowed := true, recurses := true, apart := false, narrowed := true }
def BranchOwnUptoSaid : Prop := branchOwnUptoRow.holds Try.pinned (OpenSpec.upto branchOwnSpec)

/-- 'quintainlaw23.BranchAll', WHERE WHAT IT READS IS OF BULK AT MOST 1048576: true; the input reads as it did. -/
def branchAllUptoRow : OpenClaim := { program := "ytkjmmchmanofkaa", sum := "22c1efa1ffafa6b8c8617eb3f850ca989f92cf7745217794722292f6a326e803", func := "quintain/quintainlaw23.BranchAll", spec := "branchAll", unfollowed := true, recurses := true, apart := false, narrowed := true }
def BranchAllUptoSaid : Prop := branchAllUptoRow.holds Try.pinned (OpenSpec.upto branchAllSpec)

end Rows
end Go.Proofs.Ytkjmmchmanofkaa
