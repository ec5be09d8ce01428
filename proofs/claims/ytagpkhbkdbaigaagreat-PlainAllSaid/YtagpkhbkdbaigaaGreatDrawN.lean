/- Regions in which several operations that act may come at once. -/
import Derived.Test.YtagpkhbkdbaigaaGreatFast
namespace Go.Proofs.YtagpkhbkdbaigaaGreat
open Go.RowKit
set_option linter.unusedVariables false
section
variable {P : Program} {ops : Array Oper} {Q : Exit→Act→World→Prop} {C : World→Prop} {need : List Nat} {fuel m : Nat} {a : Act} {w : World}
def BrN (P : Program) (ops : Array Oper) (Q : Exit→Act→World→Prop) (C : World→Prop) (need : List Nat) (fuel m : Nat) (a : Act) (w : World) : List (Nat × List Nat)→Prop
 | []=>True
 | (i,od)::r=>(∃ o,ops[i]?=some o∧StepK P ops Q o (fun a' w'=>(need.contains i=true→C w')∧wpO P ops Q C need od fuel (bitOn m i) a' w') a w)∧BrN P ops Q C need fuel m a w r
theorem BrN.get : ∀ {l : List (Nat × List Nat)} {i : Nat},BrN P ops Q C need fuel m a w l→i∈l.map (·.1)→∃ (o : Oper) (od : List Nat),ops[i]?=some o∧StepK P ops Q o (fun a' w'=>(need.contains i=true→C w')∧wpO P ops Q C need od fuel (bitOn m i) a' w') a w
 | [],_,_,h=>by simp at h
 | (j,od)::r,i,⟨⟨o,h1,h2⟩,h3⟩,h=>by
   rw [List.map_cons] at h
   rcases List.mem_cons.1 h with rfl | h
   · exact ⟨o,od,h1,h2⟩
   · exact BrN.get h3 h
theorem DN {od : List Nat} (l : List (Nat × List Nat)) (hr : Region.ready .any ops (lb ops.size m)=l.map (·.1)) (hne : l.isEmpty=false) (h : BrN P ops Q C need fuel m a w l) : wpO P ops Q C need od (fuel+1) m a w:=by
 refine ⟨fun h0=>?_,fun j hj=>?_⟩
 · rw [hr] at h0
   cases l with
   | nil=>cases hne
   | cons x r=>cases h0
 · rw [hr] at hj
   obtain ⟨o,od,h1,h2⟩:=h.get hj
   simp only [wpOp,h1,lb_on]
   exact h2
end
end Go.Proofs.YtagpkhbkdbaigaaGreat
