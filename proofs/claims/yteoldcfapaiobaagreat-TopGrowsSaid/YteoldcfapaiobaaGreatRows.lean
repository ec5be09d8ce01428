/-
  No cell of these rows narrows 'for every input' (looked for: loops, veiled, ifaces, maps, wideKeys, modest, calm, conditions, laid).
  DERIVED. THE GIVEN ROWS OF THIS SEAT. 10 by the template 'for every input the law returns true; each argument reads behind the call as it read before'; 0 by the template 'total and deterministic' (their statements: YteoldcfapaiobaaGreatTotals.lean).
  GIVEN WITH THE SEED: the statements are not yours to turn. If you find one false, say at which input.
  Laid BY PROGRAM, IN A SANDBOX (cutbox-rows.mjs): the forced cells as the released guide's own fill.sh prints them over the translation effab1a775cf9971… (all of the seat's roots in one cut). By AI agents, Wed Nov 11 2026. No macro, syntax, notation, axiom, sorry.
-/
import Derived.Test.YteoldcfapaiobaaGreatChecked
import GoSem.Claim
import GoSem.ClaimJoined
import GoSem.ClaimMapViews
import Derived.JoinedTies
import Derived.KernelRfl
namespace Go.Proofs.YteoldcfapaiobaaGreat
/- THE CELL 'sum', in the pinned program and in every row, IS THE sha256 OF THE DUMP (.gsa) THAT YteoldcfapaiobaaGreatProg.lean LOADS. Nothing in Lean hashes anything: it is a label: what it is worth is what the hold of that sum in a sandbox is worth. -/
noncomputable def Tryz.pinned : Pinned := { name := "yteoldcfapaiobaagreat", sum := "effab1a775cf9971cc2b6baa292ca440829578be6c63f86307e2746c6aef577d", checked := Tryz.checked }
namespace Rows
def none {H : Type} : Left H := { results := [], args := [] }

/-- 'quintaintop.TopPlays': WHATEVER THE INPUT: true; the input reads as it did. -/
def topPlaysSpec : ChangeSpec := { name := "topPlays", fn := fun _ => fun
  | [d1, d2, d3, d4] => { results := [.lit (.bool true)], args := [d1, d2, d3, d4] }
  | _ => none }
def topPlaysRow : OpenClaim := { program := "yteoldcfapaiobaagreat", sum := "effab1a775cf9971cc2b6baa292ca440829578be6c63f86307e2746c6aef577d", func := "quintain/quintaintop.TopPlays", spec := "topPlays", unfollowed := true, recurses := true, apart := false }
def TopPlaysSaid : Prop := topPlaysRow.holds Tryz.pinned (OpenSpec.ofChange topPlaysSpec)

/-- ITS FALSE NEIGHBOUR: 'it returns false'. Refute it at one input. -/
def topPlaysWrong : ChangeSpec := { name := "topPlays", fn := fun _ => fun
  | [d1, d2, d3, d4] => { results := [.lit (.bool false)], args := [d1, d2, d3, d4] }
  | _ => none }
def TopPlaysWrongFalsely : Prop := topPlaysRow.holds Tryz.pinned (OpenSpec.ofChange topPlaysWrong)

/-- 'quintaintop.TopGrows': WHATEVER THE INPUT: true; the input reads as it did. -/
def topGrowsSpec : ChangeSpec := { name := "topGrows", fn := fun _ => fun
  | [d1, d2, d3, d4, d5, d6] => { results := [.lit (.bool true)], args := [d1, d2, d3, d4, d5, d6] }
  | _ => none }
def topGrowsRow : OpenClaim := { program := "yteoldcfapaiobaagreat", sum := "effab1a775cf9971cc2b6baa292ca440829578be6c63f86307e2746c6aef577d", func := "quintain/quintaintop.TopGrows", spec := "topGrows", unfollowed := true, recurses := true, apart := false }
def TopGrowsSaid : Prop := topGrowsRow.holds Tryz.pinned (OpenSpec.ofChange topGrowsSpec)

/-- ITS FALSE NEIGHBOUR: 'it returns false'. Refute it at one input. -/
def topGrowsWrong : ChangeSpec := { name := "topGrows", fn := fun _ => fun
  | [d1, d2, d3, d4, d5, d6] => { results := [.lit (.bool false)], args := [d1, d2, d3, d4, d5, d6] }
  | _ => none }
def TopGrowsWrongFalsely : Prop := topGrowsRow.holds Tryz.pinned (OpenSpec.ofChange topGrowsWrong)

/-- 'quintaintop.TopSpoilt': WHATEVER THE INPUT: true; the input reads as it did. -/
def topSpoiltSpec : ChangeSpec := { name := "topSpoilt", fn := fun _ => fun
  | [d1, d2, d3, d4] => { results := [.lit (.bool true)], args := [d1, d2, d3, d4] }
  | _ => none }
def topSpoiltRow : OpenClaim := { program := "yteoldcfapaiobaagreat", sum := "effab1a775cf9971cc2b6baa292ca440829578be6c63f86307e2746c6aef577d", func := "quintain/quintaintop.TopSpoilt", spec := "topSpoilt", unfollowed := true, recurses := true, apart := false }
def TopSpoiltSaid : Prop := topSpoiltRow.holds Tryz.pinned (OpenSpec.ofChange topSpoiltSpec)

/-- ITS FALSE NEIGHBOUR: 'it returns false'. Refute it at one input. -/
def topSpoiltWrong : ChangeSpec := { name := "topSpoilt", fn := fun _ => fun
  | [d1, d2, d3, d4] => { results := [.lit (.bool false)], args := [d1, d2, d3, d4] }
  | _ => none }
def TopSpoiltWrongFalsely : Prop := topSpoiltRow.holds Tryz.pinned (OpenSpec.ofChange topSpoiltWrong)

/-- 'quintainlaw27.MatchNone': WHATEVER THE INPUT: true; the input reads as it did. -/
def matchNoneSpec : ChangeSpec := { name := "matchNone", fn := fun _ => fun
  | [] => { results := [.lit (.bool true)], args := [] }
  | _ => none }
def matchNoneRow : OpenClaim := { program := "yteoldcfapaiobaagreat", sum := "effab1a775cf9971cc2b6baa292ca440829578be6c63f86307e2746c6aef577d", func := "quintain/quintainlaw27.MatchNone", spec := "matchNone", unfollowed := true, recurses := true, apart := false }
def MatchNoneSaid : Prop := matchNoneRow.holds Tryz.pinned (OpenSpec.ofChange matchNoneSpec)

/-- ITS FALSE NEIGHBOUR: 'it returns false'. Refute it at one input. -/
def matchNoneWrong : ChangeSpec := { name := "matchNone", fn := fun _ => fun
  | [] => { results := [.lit (.bool false)], args := [] }
  | _ => none }
def MatchNoneWrongFalsely : Prop := matchNoneRow.holds Tryz.pinned (OpenSpec.ofChange matchNoneWrong)

/-- 'quintainlaw27.MatchAgree': WHATEVER THE INPUT: true; the input reads as it did. -/
def matchAgreeSpec : ChangeSpec := { name := "matchAgree", fn := fun _ => fun
  | [d1, d2] => { results := [.lit (.bool true)], args := [d1, d2] }
  | _ => none }
def matchAgreeRow : OpenClaim := { program := "yteoldcfapaiobaagreat", sum := "effab1a775cf9971cc2b6baa292ca440829578be6c63f86307e2746c6aef577d", func := "quintain/quintainlaw27.MatchAgree", spec := "matchAgree", unfollowed := true, recurses := true, apart := false }
def MatchAgreeSaid : Prop := matchAgreeRow.holds Tryz.pinned (OpenSpec.ofChange matchAgreeSpec)

/-- ITS FALSE NEIGHBOUR: 'it returns false'. Refute it at one input. -/
def matchAgreeWrong : ChangeSpec := { name := "matchAgree", fn := fun _ => fun
  | [d1, d2] => { results := [.lit (.bool false)], args := [d1, d2] }
  | _ => none }
def MatchAgreeWrongFalsely : Prop := matchAgreeRow.holds Tryz.pinned (OpenSpec.ofChange matchAgreeWrong)

/-- 'quintainlaw27.MatchErrors': WHATEVER THE INPUT: true; the input reads as it did. -/
def matchErrorsSpec : ChangeSpec := { name := "matchErrors", fn := fun _ => fun
  | [d1, d2] => { results := [.lit (.bool true)], args := [d1, d2] }
  | _ => none }
def matchErrorsRow : OpenClaim := { program := "yteoldcfapaiobaagreat", sum := "effab1a775cf9971cc2b6baa292ca440829578be6c63f86307e2746c6aef577d", func := "quintain/quintainlaw27.MatchErrors", spec := "matchErrors", unfollowed := true, recurses := true, apart := false }
def MatchErrorsSaid : Prop := matchErrorsRow.holds Tryz.pinned (OpenSpec.ofChange matchErrorsSpec)

/-- ITS FALSE NEIGHBOUR: 'it returns false'. Refute it at one input. -/
def matchErrorsWrong : ChangeSpec := { name := "matchErrors", fn := fun _ => fun
  | [d1, d2] => { results := [.lit (.bool false)], args := [d1, d2] }
  | _ => none }
def MatchErrorsWrongFalsely : Prop := matchErrorsRow.holds Tryz.pinned (OpenSpec.ofChange matchErrorsWrong)

/-- 'quintainlaw27.MatchEvents': WHATEVER THE INPUT: true; the input reads as it did. -/
def matchEventsSpec : ChangeSpec := { name := "matchEvents", fn := fun _ => fun
  | [d1, d2] => { results := [.lit (.bool true)], args := [d1, d2] }
  | _ => none }
def matchEventsRow : OpenClaim := { program := "yteoldcfapaiobaagreat", sum := "effab1a775cf9971cc2b6baa292ca440829578be6c63f86307e2746c6aef577d", func := "quintain/quintainlaw27.MatchEvents", spec := "matchEvents", unfollowed := true, recurses := true, apart := false }
def MatchEventsSaid : Prop := matchEventsRow.holds Tryz.pinned (OpenSpec.ofChange matchEventsSpec)

/-- ITS FALSE NEIGHBOUR: 'it returns false'. Refute it at one input. -/
def matchEventsWrong : ChangeSpec := { name := "matchEvents", fn := fun _ => fun
  | [d1, d2] => { results := [.lit (.bool false)], args := [d1, d2] }
  | _ => none }
def MatchEventsWrongFalsely : Prop := matchEventsRow.holds Tryz.pinned (OpenSpec.ofChange matchEventsWrong)

/-- 'quintaintop.TopProg': WHATEVER THE INPUT: true; the input reads as it did. -/
def topProgSpec : ChangeSpec := { name := "topProg", fn := fun _ => fun
  | [d1, d2, d3, d4] => { results := [.lit (.bool true)], args := [d1, d2, d3, d4] }
  | _ => none }
def topProgRow : OpenClaim := { program := "yteoldcfapaiobaagreat", sum := "effab1a775cf9971cc2b6baa292ca440829578be6c63f86307e2746c6aef577d", func := "quintain/quintaintop.TopProg", spec := "topProg", unfollowed := true, recurses := true, apart := false }
def TopProgSaid : Prop := topProgRow.holds Tryz.pinned (OpenSpec.ofChange topProgSpec)

/-- ITS FALSE NEIGHBOUR: 'it returns false'. Refute it at one input. -/
def topProgWrong : ChangeSpec := { name := "topProg", fn := fun _ => fun
  | [d1, d2, d3, d4] => { results := [.lit (.bool false)], args := [d1, d2, d3, d4] }
  | _ => none }
def TopProgWrongFalsely : Prop := topProgRow.holds Tryz.pinned (OpenSpec.ofChange topProgWrong)

/-- 'quintaintop.TopEachByte': WHATEVER THE INPUT: true; the input reads as it did. -/
def topEachByteSpec : ChangeSpec := { name := "topEachByte", fn := fun _ => fun
  | [d1, d2, d3] => { results := [.lit (.bool true)], args := [d1, d2, d3] }
  | _ => none }
def topEachByteRow : OpenClaim := { program := "yteoldcfapaiobaagreat", sum := "effab1a775cf9971cc2b6baa292ca440829578be6c63f86307e2746c6aef577d", func := "quintain/quintaintop.TopEachByte", spec := "topEachByte", unfollowed := true, recurses := true, apart := false }
def TopEachByteSaid : Prop := topEachByteRow.holds Tryz.pinned (OpenSpec.ofChange topEachByteSpec)

/-- ITS FALSE NEIGHBOUR: 'it returns false'. Refute it at one input. -/
def topEachByteWrong : ChangeSpec := { name := "topEachByte", fn := fun _ => fun
  | [d1, d2, d3] => { results := [.lit (.bool false)], args := [d1, d2, d3] }
  | _ => none }
def TopEachByteWrongFalsely : Prop := topEachByteRow.holds Tryz.pinned (OpenSpec.ofChange topEachByteWrong)

/-- 'quintaintop.TopRare': WHATEVER THE INPUT: true; the input reads as it did. -/
def topRareSpec : ChangeSpec := { name := "topRare", fn := fun _ => fun
  | [d1, d2, d3] => { results := [.lit (.bool true)], args := [d1, d2, d3] }
  | _ => none }
def topRareRow : OpenClaim := { program := "yteoldcfapaiobaagreat", sum := "effab1a775cf9971cc2b6baa292ca440829578be6c63f86307e2746c6aef577d", func := "quintain/quintaintop.TopRare", spec := "topRare", unfollowed := true, recurses := true, apart := false }
def TopRareSaid : Prop := topRareRow.holds Tryz.pinned (OpenSpec.ofChange topRareSpec)

/-- ITS FALSE NEIGHBOUR: 'it returns false'. Refute it at one input. -/
def topRareWrong : ChangeSpec := { name := "topRare", fn := fun _ => fun
  | [d1, d2, d3] => { results := [.lit (.bool false)], args := [d1, d2, d3] }
  | _ => none }
def TopRareWrongFalsely : Prop := topRareRow.holds Tryz.pinned (OpenSpec.ofChange topRareWrong)

/- THE SECOND FORM. 'bulk': how many values and letters a reading holds, each counted each time it is reached (what is shared counts as often as it is met; a slice's spare places count too). A statement '..UptoSaid' is the law's where the arguments, and the package variables that the reading takes, are together of bulk at most 1048576: NARROWER than '..Said'. Prove '..Said' where nothing that the law and all that it calls make is longer than what came in: it says more and counts as full. Else prove '..UptoSaid'. A law counts once. -/
mutual
def uptoBulk {H : Type} : DataW H → Nat
  | .lit (.string bytes) => bytes.length + 1
  | .lit _ => 1
  | .nil => 1
  | .ptr d => uptoBulk d + 1
  | .slice elems spare => uptoBulkAll elems + uptoBulkAll spare + 1
  | .agg parts => uptoBulkAll parts + 1
  | .iface _ d => uptoBulk d + 1
  | .map entries => uptoBulkEntries entries + 1
  | .held _ => 1
def uptoBulkAll {H : Type} : List (DataW H) → Nat
  | [] => 0
  | d :: r => uptoBulk d + uptoBulkAll r
def uptoBulkEntries {H : Type} : List (Lit × DataW H) → Nat
  | [] => 0
  | x :: r => uptoBulkEntry x + uptoBulkEntries r
def uptoBulkEntry {H : Type} : Lit × DataW H → Nat
  | (.string bytes, d) => bytes.length + uptoBulk d + 1
  | (_, d) => uptoBulk d + 1
 end
def uptoSmall : (H : Type) → List (DataW H) → Bool := fun _ ds => decide (uptoBulkAll ds ≤ 1048576)
def OpenSpec.upto (s : _root_.Go.ChangeSpec) : _root_.Go.OpenSpec := { _root_.Go.OpenSpec.ofChange s with cond := some uptoSmall }

/-- 'quintaintop.TopPlays', WHERE WHAT IT READS IS OF BULK AT MOST 1048576: true; the input reads as it did. -/
def topPlaysUptoRow : OpenClaim := { program := "yteoldcfapaiobaagreat", sum := "effab1a775cf9971cc2b6baa292ca440829578be6c63f86307e2746c6aef577d", func := "quintain/quintaintop.TopPlays", spec := "topPlays", unfollowed := true, recurses := true, apart := false, narrowed := true }
def TopPlaysUptoSaid : Prop := topPlaysUptoRow.holds Tryz.pinned (OpenSpec.upto topPlaysSpec)

/-- 'quintaintop.TopGrows', WHERE WHAT IT READS IS OF BULK AT MOST 1048576: true; the input reads as it did. -/
def topGrowsUptoRow : OpenClaim := { program := "yteoldcfapaiobaagreat", sum := "effab1a775cf9971cc2b6baa292ca440829578be6c63f86307e2746c6aef577d", func := "quintain/quintaintop.TopGrows", spec := "topGrows", unfollowed := true, recurses := true, apart := false, narrowed := true }
def TopGrowsUptoSaid : Prop := topGrowsUptoRow.holds Tryz.pinned (OpenSpec.upto topGrowsSpec)

/-- 'quintaintop.TopSpoilt', WHERE WHAT IT READS IS OF BULK AT MOST 1048576: true; the input reads as it did. -/
def topSpoiltUptoRow : OpenClaim := { program := "yteoldcfapaiobaagreat", sum := "effab1a775cf9971cc2b6baa292ca440829578be6c63f86307e2746c6aef577d", func := "quintain/quintaintop.TopSpoilt", spec := "topSpoilt", unfollowed := true, recurses := true, apart := false, narrowed := true }
def TopSpoiltUptoSaid : Prop := topSpoiltUptoRow.holds Tryz.pinned (OpenSpec.upto topSpoiltSpec)

/-- 'quintainlaw27.MatchNone', WHERE WHAT IT READS IS OF BULK AT MOST 1048576: true; the input reads as it did. -/
def matchNoneUptoRow : OpenClaim := { program := "yteoldcfapaiobaagreat", sum := "effab1a775cf9971cc2b6baa292ca440829578be6c63f86307e2746c6aef577d", func := "quintain/quintainlaw27.MatchNone", spec := "matchNone", unfollowed := true, recurses := true, apart := false, narrowed := true }
def MatchNoneUptoSaid : Prop := matchNoneUptoRow.holds Tryz.pinned (OpenSpec.upto matchNoneSpec)

/-- 'quintainlaw27.MatchAgree', WHERE WHAT IT READS IS OF BULK AT MOST 1048576: true; the input reads as it did. -/
def matchAgreeUptoRow : OpenClaim := { program := "yteoldcfapaiobaagreat", sum := "effab1a775cf9971cc2b6baa292ca440829578be6c63f86307e2746c6aef577d", func := "quintain/quintainlaw27.MatchAgree", spec := "matchAgree", unfollowed := true, recurses := true, apart := false, narrowed := true }
def MatchAgreeUptoSaid : Prop := matchAgreeUptoRow.holds Tryz.pinned (OpenSpec.upto matchAgreeSpec)

/-- 'quintainlaw27.MatchErrors', WHERE WHAT IT READS IS OF BULK AT MOST 1048576: true; the input reads as it did. -/
def matchErrorsUptoRow : OpenClaim := { program := "yteoldcfapaiobaagreat", sum := "effab1a775cf9971cc2b6baa292ca440829578be6c63f86307e2746c6aef577d", func := "quintain/quintainlaw27.MatchErrors", spec := "matchErrors", unfollowed := true, recurses := true, apart := false, narrowed := true }
def MatchErrorsUptoSaid : Prop := matchErrorsUptoRow.holds Tryz.pinned (OpenSpec.upto matchErrorsSpec)

/-- 'quintainlaw27.MatchEvents', WHERE WHAT IT READS IS OF BULK AT MOST 1048576: true; the input reads as it did. -/
def matchEventsUptoRow : OpenClaim := { program := "yteoldcfapaiobaagreat", sum := "effab1a775cf9971cc2b6baa292ca440829578be6c63f86307e2746c6aef577d", func := "quintain/quintainlaw27.MatchEvents", spec := "matchEvents", unfollowed := true, recurses := true, apart := false, narrowed := true }
def MatchEventsUptoSaid : Prop := matchEventsUptoRow.holds Tryz.pinned (OpenSpec.upto matchEventsSpec)

/-- 'quintaintop.TopProg', WHERE WHAT IT READS IS OF BULK AT MOST 1048576: true; the input reads as it did. -/
def topProgUptoRow : OpenClaim := { program := "yteoldcfapaiobaagreat", sum := "effab1a775cf9971cc2b6baa292ca440829578be6c63f86307e2746c6aef577d", func := "quintain/quintaintop.TopProg", spec := "topProg", unfollowed := true, recurses := true, apart := false, narrowed := true }
def TopProgUptoSaid : Prop := topProgUptoRow.holds Tryz.pinned (OpenSpec.upto topProgSpec)

/-- 'quintaintop.TopEachByte', WHERE WHAT IT READS IS OF BULK AT MOST 1048576: true; the input reads as it did. -/
def topEachByteUptoRow : OpenClaim := { program := "yteoldcfapaiobaagreat", sum := "effab1a775cf9971cc2b6baa292ca440829578be6c63f86307e2746c6aef577d", func := "quintain/quintaintop.TopEachByte", spec := "topEachByte", unfollowed := true, recurses := true, apart := false, narrowed := true }
def TopEachByteUptoSaid : Prop := topEachByteUptoRow.holds Tryz.pinned (OpenSpec.upto topEachByteSpec)

/-- 'quintaintop.TopRare', WHERE WHAT IT READS IS OF BULK AT MOST 1048576: true; the input reads as it did. -/
def topRareUptoRow : OpenClaim := { program := "yteoldcfapaiobaagreat", sum := "effab1a775cf9971cc2b6baa292ca440829578be6c63f86307e2746c6aef577d", func := "quintain/quintaintop.TopRare", spec := "topRare", unfollowed := true, recurses := true, apart := false, narrowed := true }
def TopRareUptoSaid : Prop := topRareUptoRow.holds Tryz.pinned (OpenSpec.upto topRareSpec)

end Rows
end Go.Proofs.YteoldcfapaiobaaGreat
