/-
  No cell of these rows narrows 'for every input' (looked for: loops, veiled, ifaces, maps, wideKeys, modest, calm, conditions, laid).
  DERIVED. THE GIVEN ROWS OF THIS SEAT. 8 by the template 'for every input the law returns true; each argument reads behind the call as it read before'; 0 by the template 'total and deterministic' (their statements: YtdilfdkendjjhaaGreatTotals.lean).
  GIVEN WITH THE SEED: the statements are not yours to turn. If you find one false, say at which input.
  Laid BY PROGRAM, IN A SANDBOX (cutbox-rows.mjs): the forced cells as the released guide's own fill.sh prints them over the translation ef863b107adaf76c… (all of the seat's roots in one cut). By AI agents, Wed Nov 11 2026. No macro, syntax, notation, axiom, sorry.
-/
import Derived.Test.YtdilfdkendjjhaaGreatChecked
import GoSem.Claim
import GoSem.ClaimJoined
import GoSem.ClaimMapViews
import Derived.JoinedTies
import Derived.KernelRfl
namespace Go.Proofs.YtdilfdkendjjhaaGreat
/- THE CELL 'sum', in the pinned program and in every row, IS THE sha256 OF THE DUMP (.gsa) THAT YtdilfdkendjjhaaGreatProg.lean LOADS. Nothing in Lean hashes anything: it is a label: what it is worth is what the hold of that sum in a sandbox is worth. -/
noncomputable def Tryz.pinned : Pinned := { name := "ytdilfdkendjjhaagreat", sum := "ef863b107adaf76c8c3f2c6dd2d883bb2722cd0392f167e3667ed9fef0abf234", checked := Tryz.checked }
namespace Rows
def none {H : Type} : Left H := { results := [], args := [] }

/-- 'quintainlaw26.MultiWorked': WHATEVER THE INPUT: true; the input reads as it did. -/
def multiWorkedSpec : ChangeSpec := { name := "multiWorked", fn := fun _ => fun
  | [d1, d2] => { results := [.lit (.bool true)], args := [d1, d2] }
  | _ => none }
def multiWorkedRow : OpenClaim := { program := "ytdilfdkendjjhaagreat", sum := "ef863b107adaf76c8c3f2c6dd2d883bb2722cd0392f167e3667ed9fef0abf234", func := "quintain/quintainlaw26.MultiWorked", spec := "multiWorked", unfollowed := true, recurses := true, apart := false }
def MultiWorkedSaid : Prop := multiWorkedRow.holds Tryz.pinned (OpenSpec.ofChange multiWorkedSpec)

/-- ITS FALSE NEIGHBOUR: 'it returns false'. Refute it at one input. -/
def multiWorkedWrong : ChangeSpec := { name := "multiWorked", fn := fun _ => fun
  | [d1, d2] => { results := [.lit (.bool false)], args := [d1, d2] }
  | _ => none }
def MultiWorkedWrongFalsely : Prop := multiWorkedRow.holds Tryz.pinned (OpenSpec.ofChange multiWorkedWrong)

/-- 'quintainlaw26.MultiMail': WHATEVER THE INPUT: true; the input reads as it did. -/
def multiMailSpec : ChangeSpec := { name := "multiMail", fn := fun _ => fun
  | [d1, d2, d3] => { results := [.lit (.bool true)], args := [d1, d2, d3] }
  | _ => none }
def multiMailRow : OpenClaim := { program := "ytdilfdkendjjhaagreat", sum := "ef863b107adaf76c8c3f2c6dd2d883bb2722cd0392f167e3667ed9fef0abf234", func := "quintain/quintainlaw26.MultiMail", spec := "multiMail", unfollowed := true, recurses := true, apart := false }
def MultiMailSaid : Prop := multiMailRow.holds Tryz.pinned (OpenSpec.ofChange multiMailSpec)

/-- ITS FALSE NEIGHBOUR: 'it returns false'. Refute it at one input. -/
def multiMailWrong : ChangeSpec := { name := "multiMail", fn := fun _ => fun
  | [d1, d2, d3] => { results := [.lit (.bool false)], args := [d1, d2, d3] }
  | _ => none }
def MultiMailWrongFalsely : Prop := multiMailRow.holds Tryz.pinned (OpenSpec.ofChange multiMailWrong)

/-- 'quintainlaw26.MultiRooms': WHATEVER THE INPUT: true; the input reads as it did. -/
def multiRoomsSpec : ChangeSpec := { name := "multiRooms", fn := fun _ => fun
  | [d1, d2, d3, d4, d5] => { results := [.lit (.bool true)], args := [d1, d2, d3, d4, d5] }
  | _ => none }
def multiRoomsRow : OpenClaim := { program := "ytdilfdkendjjhaagreat", sum := "ef863b107adaf76c8c3f2c6dd2d883bb2722cd0392f167e3667ed9fef0abf234", func := "quintain/quintainlaw26.MultiRooms", spec := "multiRooms", unfollowed := true, recurses := true, apart := false }
def MultiRoomsSaid : Prop := multiRoomsRow.holds Tryz.pinned (OpenSpec.ofChange multiRoomsSpec)

/-- ITS FALSE NEIGHBOUR: 'it returns false'. Refute it at one input. -/
def multiRoomsWrong : ChangeSpec := { name := "multiRooms", fn := fun _ => fun
  | [d1, d2, d3, d4, d5] => { results := [.lit (.bool false)], args := [d1, d2, d3, d4, d5] }
  | _ => none }
def MultiRoomsWrongFalsely : Prop := multiRoomsRow.holds Tryz.pinned (OpenSpec.ofChange multiRoomsWrong)

/-- 'quintainlaw26.MultiLone': WHATEVER THE INPUT: true; the input reads as it did. -/
def multiLoneSpec : ChangeSpec := { name := "multiLone", fn := fun _ => fun
  | [d1, d2, d3, d4] => { results := [.lit (.bool true)], args := [d1, d2, d3, d4] }
  | _ => none }
def multiLoneRow : OpenClaim := { program := "ytdilfdkendjjhaagreat", sum := "ef863b107adaf76c8c3f2c6dd2d883bb2722cd0392f167e3667ed9fef0abf234", func := "quintain/quintainlaw26.MultiLone", spec := "multiLone", unfollowed := true, recurses := true, apart := false }
def MultiLoneSaid : Prop := multiLoneRow.holds Tryz.pinned (OpenSpec.ofChange multiLoneSpec)

/-- ITS FALSE NEIGHBOUR: 'it returns false'. Refute it at one input. -/
def multiLoneWrong : ChangeSpec := { name := "multiLone", fn := fun _ => fun
  | [d1, d2, d3, d4] => { results := [.lit (.bool false)], args := [d1, d2, d3, d4] }
  | _ => none }
def MultiLoneWrongFalsely : Prop := multiLoneRow.holds Tryz.pinned (OpenSpec.ofChange multiLoneWrong)

/-- 'quintainlaw26.MultiRight': WHATEVER THE INPUT: true; the input reads as it did. -/
def multiRightSpec : ChangeSpec := { name := "multiRight", fn := fun _ => fun
  | [d1, d2, d3] => { results := [.lit (.bool true)], args := [d1, d2, d3] }
  | _ => none }
def multiRightRow : OpenClaim := { program := "ytdilfdkendjjhaagreat", sum := "ef863b107adaf76c8c3f2c6dd2d883bb2722cd0392f167e3667ed9fef0abf234", func := "quintain/quintainlaw26.MultiRight", spec := "multiRight", unfollowed := true, recurses := true, apart := false }
def MultiRightSaid : Prop := multiRightRow.holds Tryz.pinned (OpenSpec.ofChange multiRightSpec)

/-- ITS FALSE NEIGHBOUR: 'it returns false'. Refute it at one input. -/
def multiRightWrong : ChangeSpec := { name := "multiRight", fn := fun _ => fun
  | [d1, d2, d3] => { results := [.lit (.bool false)], args := [d1, d2, d3] }
  | _ => none }
def MultiRightWrongFalsely : Prop := multiRightRow.holds Tryz.pinned (OpenSpec.ofChange multiRightWrong)

/-- 'quintainlaw26.MultiClosed': WHATEVER THE INPUT: true; the input reads as it did. -/
def multiClosedSpec : ChangeSpec := { name := "multiClosed", fn := fun _ => fun
  | [d1, d2, d3] => { results := [.lit (.bool true)], args := [d1, d2, d3] }
  | _ => none }
def multiClosedRow : OpenClaim := { program := "ytdilfdkendjjhaagreat", sum := "ef863b107adaf76c8c3f2c6dd2d883bb2722cd0392f167e3667ed9fef0abf234", func := "quintain/quintainlaw26.MultiClosed", spec := "multiClosed", unfollowed := true, recurses := true, apart := false }
def MultiClosedSaid : Prop := multiClosedRow.holds Tryz.pinned (OpenSpec.ofChange multiClosedSpec)

/-- ITS FALSE NEIGHBOUR: 'it returns false'. Refute it at one input. -/
def multiClosedWrong : ChangeSpec := { name := "multiClosed", fn := fun _ => fun
  | [d1, d2, d3] => { results := [.lit (.bool false)], args := [d1, d2, d3] }
  | _ => none }
def MultiClosedWrongFalsely : Prop := multiClosedRow.holds Tryz.pinned (OpenSpec.ofChange multiClosedWrong)

/-- 'quintainlaw26.MultiNone': WHATEVER THE INPUT: true; the input reads as it did. -/
def multiNoneSpec : ChangeSpec := { name := "multiNone", fn := fun _ => fun
  | [] => { results := [.lit (.bool true)], args := [] }
  | _ => none }
def multiNoneRow : OpenClaim := { program := "ytdilfdkendjjhaagreat", sum := "ef863b107adaf76c8c3f2c6dd2d883bb2722cd0392f167e3667ed9fef0abf234", func := "quintain/quintainlaw26.MultiNone", spec := "multiNone", unfollowed := true, recurses := true, apart := false }
def MultiNoneSaid : Prop := multiNoneRow.holds Tryz.pinned (OpenSpec.ofChange multiNoneSpec)

/-- ITS FALSE NEIGHBOUR: 'it returns false'. Refute it at one input. -/
def multiNoneWrong : ChangeSpec := { name := "multiNone", fn := fun _ => fun
  | [] => { results := [.lit (.bool false)], args := [] }
  | _ => none }
def MultiNoneWrongFalsely : Prop := multiNoneRow.holds Tryz.pinned (OpenSpec.ofChange multiNoneWrong)

/-- 'quintainlaw26.MultiAll': WHATEVER THE INPUT: true; the input reads as it did. -/
def multiAllSpec : ChangeSpec := { name := "multiAll", fn := fun _ => fun
  | [d1, d2, d3, d4, d5] => { results := [.lit (.bool true)], args := [d1, d2, d3, d4, d5] }
  | _ => none }
def multiAllRow : OpenClaim := { program := "ytdilfdkendjjhaagreat", sum := "ef863b107adaf76c8c3f2c6dd2d883bb2722cd0392f167e3667ed9fef0abf234", func := "quintain/quintainlaw26.MultiAll", spec := "multiAll", unfollowed := true, recurses := true, apart := false }
def MultiAllSaid : Prop := multiAllRow.holds Tryz.pinned (OpenSpec.ofChange multiAllSpec)

/-- ITS FALSE NEIGHBOUR: 'it returns false'. Refute it at one input. -/
def multiAllWrong : ChangeSpec := { name := "multiAll", fn := fun _ => fun
  | [d1, d2, d3, d4, d5] => { results := [.lit (.bool false)], args := [d1, d2, d3, d4, d5] }
  | _ => none }
def MultiAllWrongFalsely : Prop := multiAllRow.holds Tryz.pinned (OpenSpec.ofChange multiAllWrong)

/- THE SECOND FORM. 'bulk': how many values and letters a reading holds, each counted each time it is reached (what is shared counts as often as it is met; a slice's spare places count too). A statement '..UptoSaid' is the law's where the arguments, and the package variables that the reading takes, are together of bulk at most 1048576: NARROWER than '..Said'. Prove '..Said' where nothing that the law and all that it calls make is longer than what came in: it says more and counts as full. Else prove '..UptoSaid'. A law counts once. -/
mutual
def uptoBulk {H : Type} : DataW H → Nat
  | .lit (.string bytes) => bytes.length + 1
  | .lit _ => 1
  | .nil => 1
  | .ptr d => uptoBulk d + 1
  | .slice elems spare => uptoBulkAll elems + uptoBulkAll spare + 1
  | .agg parts => uptoBulkAll parts + 1
  | .iface _ d => uptoBulk d + 1
  | .map entries => uptoBulkEntries entries + 1
  | .held _ => 1
def uptoBulkAll {H : Type} : List (DataW H) → Nat
  | [] => 0
  | d :: r => uptoBulk d + uptoBulkAll r
def uptoBulkEntries {H : Type} : List (Lit × DataW H) → Nat
  | [] => 0
  | x :: r => uptoBulkEntry x + uptoBulkEntries r
def uptoBulkEntry {H : Type} : Lit × DataW H → Nat
  | (.string bytes, d) => bytes.length + uptoBulk d + 1
  | (_, d) => uptoBulk d + 1
 end
def uptoSmall : (H : Type) → List (DataW H) → Bool := fun _ ds => decide (uptoBulkAll ds ≤ 1048576)
def OpenSpec.upto (s : _root_.Go.ChangeSpec) : _root_.Go.OpenSpec := { _root_.Go.OpenSpec.ofChange s with cond := some uptoSmall }

/-- 'quintainlaw26.MultiWorked', WHERE WHAT IT READS IS OF BULK AT MOST 1048576: true; the input reads as it did. -/
def multiWorkedUptoRow : OpenClaim := { program := "ytdilfdkendjjhaagreat", sum := "ef863b107adaf76c8c3f2c6dd2d883bb2722cd0392f167e3667ed9fef0abf234", func := "quintain/quintainlaw26.MultiWorked", spec := "multiWorked", unfollowed := true, recurses := true, apart := false, narrowed := true }
def MultiWorkedUptoSaid : Prop := multiWorkedUptoRow.holds Tryz.pinned (OpenSpec.upto multiWorkedSpec)

/-- 'quintainlaw26.MultiMail', WHERE WHAT IT READS IS OF BULK AT MOST 1048576: true; the input reads as it did. -/
def multiMailUptoRow : OpenClaim := { program := "ytdilfdkendjjhaagreat", sum := "ef863b107adaf76c8c3f2c6dd2d883bb2722cd0392f167e3667ed9fef0abf234", func := "quintain/quintainlaw26.MultiMail", spec := "multiMail", unfollowed := true, recurses := true, apart := false, narrowed := true }
def MultiMailUptoSaid : Prop := multiMailUptoRow.holds Tryz.pinned (OpenSpec.upto multiMailSpec)

/-- 'quintainlaw26.MultiRooms', WHERE WHAT IT READS IS OF BULK AT MOST 1048576: true; the input reads as it did. -/
def multiRoomsUptoRow : OpenClaim := { program := "ytdilfdkendjjhaagreat", sum := "ef863b107adaf76c8c3f2c6dd2d883bb2722cd0392f167e3667ed9fef0abf234", func := "quintain/quintainlaw26.MultiRooms", spec := "multiRooms", unfollowed := true, recurses := true, apart := false, narrowed := true }
def MultiRoomsUptoSaid : Prop := multiRoomsUptoRow.holds Tryz.pinned (OpenSpec.upto multiRoomsSpec)

/-- 'quintainlaw26.MultiLone', WHERE WHAT IT READS IS OF BULK AT MOST 1048576: true; the input reads as it did. -/
def multiLoneUptoRow : OpenClaim := { program := "ytdilfdkendjjhaagreat", sum := "ef863b107adaf76c8c3f2c6dd2d883bb2722cd0392f167e3667ed9fef0abf234", func := "quintain/quintainlaw26.MultiLone", spec := "multiLone", unfollowed := true, recurses := true, apart := false, narrowed := true }
def MultiLoneUptoSaid : Prop := multiLoneUptoRow.holds Tryz.pinned (OpenSpec.upto multiLoneSpec)

/-- 'quintainlaw26.MultiRight', WHERE WHAT IT READS IS OF BULK AT MOST 1048576: true; the input reads as it did. -/
def multiRightUptoRow : OpenClaim := { program := "ytdilfdkendjjhaagreat", sum := "ef863b107adaf76c8c3f2c6dd2d883bb2722cd0392f167e3667ed9fef0abf234", func := "quintain/quintainlaw26.MultiRight", spec := "multiRight", unfollowed := true, recurses := true, apart := false, narrowed := true }
def MultiRightUptoSaid : Prop := multiRightUptoRow.holds Tryz.pinned (OpenSpec.upto multiRightSpec)

/-- 'quintainlaw26.MultiClosed', WHERE WHAT IT READS IS OF BULK AT MOST 1048576: true; the input reads as it did. -/
def multiClosedUptoRow : OpenClaim := { program := "ytdilfdkendjjhaagreat", sum := "ef863b107adaf76c8c3f2c6dd2d883bb2722cd0392f167e3667ed9fef0abf234", func := "quintain/quintainlaw26.MultiClosed", spec := "multiClosed", unfollowed := true, recurses := true, apart := false, narrowed := true }
def MultiClosedUptoSaid : Prop := multiClosedUptoRow.holds Tryz.pinned (OpenSpec.upto multiClosedSpec)

/-- 'quintainlaw26.MultiNone', WHERE WHAT IT READS IS OF BULK AT MOST 1048576: true; the input reads as it did. -/
def multiNoneUptoRow : OpenClaim := { program := "ytdilfdkendjjhaagreat", sum := "ef863b107adaf76c8c3f2c6dd2d883bb2722cd0392f167e3667ed9fef0abf234", func := "quintain/quintainlaw26.MultiNone", spec := "multiNone", unfollowed := true, recurses := true, apart := false, narrowed := true }
def MultiNoneUptoSaid : Prop := multiNoneUptoRow.holds Tryz.pinned (OpenSpec.upto multiNoneSpec)

/-- 'quintainlaw26.MultiAll', WHERE WHAT IT READS IS OF BULK AT MOST 1048576: true; the input reads as it did. -/
def multiAllUptoRow : OpenClaim := { program := "ytdilfdkendjjhaagreat", sum := "ef863b107adaf76c8c3f2c6dd2d883bb2722cd0392f167e3667ed9fef0abf234", func := "quintain/quintainlaw26.MultiAll", spec := "multiAll", unfollowed := true, recurses := true, apart := false, narrowed := true }
def MultiAllUptoSaid : Prop := multiAllUptoRow.holds Tryz.pinned (OpenSpec.upto multiAllSpec)

end Rows
end Go.Proofs.YtdilfdkendjjhaaGreat
