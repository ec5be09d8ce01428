/- 'make' of slices. -/
import Derived.Test.YtagpkhbkdbaigaaGreatTy
import Derived.Laws.MakeOwn
namespace Go.Proofs.YtagpkhbkdbaigaaGreat
open Go.RowKit
set_option linter.unusedVariables false
set_option linter.unusedSimpArgs false
section
variable {P : Program} {ops : Array Oper} {Q : Exit→Act→World→Prop} {a : Act} {w w' W : World} {K : Act→World→Prop} {n d : Nat} {l : List (Nat × Value)} {L R : List SP}
theorem st_makeSlice {t el z sz by' x y k k' i j ty ps af g} (ha : Fr a n l) (hw : Region.wanted ⟨some d,.makeSlice t x y,ty,ps,af,g⟩ (yielded ops a.tmps)=true) (hs : St W w L) (ht : P.underlying t=some (.slice el))
   (hi : TI P el z sz by') (hf : okB d n l=true) (hb : by'*j≤281474976710656) (hj : j≤9223372036854775807) [e : Ev l x (.int k i)] [e2 : Ev l y (.int k' i)] [nj : NatOf i j]
   (h : ∀ b a' w',Fr a' n ((d,.slice (some ⟨b,0,none⟩) j j)::l)→St W w' (blk b el (madeCells z.cells (j*sz)).toList::L)→Old w w'→K a' w') :
   StepK P ops Q ⟨some d,.makeSlice t x y,ty,ps,af,g⟩ K a w:=by
 have hnj:=nj.h
 subst hnj
 obtain ⟨ti,hi1,hi2,hi3,hi4⟩:=info_parts hi
 have hbi : (ti.bytes : Int)*(j : Int)≤281474976710656:=by
   rw [hi4]
   have : ((by'*j : Nat) : Int)≤281474976710656:=by omega
   rwa [Int.natCast_mul] at this
 have hr:=run_make (P:=P) w t el ti z ht hi1 hi2 k k' (j : Int) (j : Int) (by omega) (Int.le_refl _) hbi (by omega)
 rw [Int.toNat_natCast,hi3] at hr
 refine st_set (v:=.slice (some ⟨w.heap.size,0,none⟩) j j) (w':=w.alloc (.cells (madeCells z.cells (j*sz)) el)) ha hw ?_ hf (fun a' ha'=>h _ _ _ ha' (by
   have:=hs.alloc (.cells (madeCells z.cells (j*sz)) el)
   simpa [blk] using this) (Old.alloc _ _))
 simp [execOp,e.ev a n ha,e2.ev a n ha,hr]
end
end Go.Proofs.YtagpkhbkdbaigaaGreat
