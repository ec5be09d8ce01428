import Derived.Test.YtagpkhbkdbaigaaGreatRow
import Derived.Test.YtagpkhbkdbaigaaGreatByt
namespace Go.Proofs.YtagpkhbkdbaigaaGreat
open Go.RowKit
set_option linter.unusedVariables false
set_option linter.unusedSimpArgs false
section
variable {P : Program} {a : Act} {w : World} {n : Nat} {l : List (Nat × Value)} {v : Value}
theorem ex_field1 {x vs t f fs fl dd dst ty ps af g} (ha : Fr a n l) (hu : P.underlying t=some (.struct fs)) (hf : fs[f]?=some fl) (hd : P.underlying fl.type=some dd) (h1 : isOne dd=true)
   [ev : Ev l x (.agg (List.toArray vs))] (hv : vs[fl.offset]?=some v) :
   (execOp a.eval ⟨dst,.field t x f,ty,ps,af,g⟩).run P w=.ok (.value v) w:=by
 have hpa : (part fl.type vs.toArray fl.offset).run P w=.ok v w:=by
   have hagg : (isAgg fl.type).run P w=.ok false w:=by
     simp only [isAgg,Sem.run_bind,run_underlying hd,Result.andThen_ok]
     cases dd <;> first | rfl | (simp [isOne] at h1)
   simp [part,hagg,hv]
 simp [execOp,ev.ev a n ha,Instr.field,run_underlying hu,hf,asAgg,hpa]
end
end Go.Proofs.YtagpkhbkdbaigaaGreat
namespace Go.Proofs.YtagpkhbkdbaigaaGreat
open Go.RowKit
set_option linter.unusedVariables false
set_option linter.unusedSimpArgs false
section
variable {P : Program} {ops : Array Oper} {Q : Exit→Act→World→Prop} {a : Act} {w w' W : World} {K : Act→World→Prop} {n d : Nat} {l : List (Nat × Value)} {L R : List SP}
theorem ex_sliceHM {x u z3 k' k'' i' i'' j' j'' ad m c t el z sz by' dst ty ps af g} (ha : Fr a n l) (ht : P.underlying t=some (.slice el)) (hi : TI P el z sz by') [ev : Ev l x (.slice ad m c)] [eu : Ev l u (.int k' i')] [ez : Ev l z3 (.int k'' i'')]
   [nj' : NatOf i' j'] [nj'' : NatOf i'' j''] (h' : j'≤j'') (h'' : j''≤c) :
   (execOp a.eval ⟨dst,.slice t x none (some u) (some z3),ty,ps,af,g⟩).run P w=.ok (.value (.slice (cutAd ad 0 j'' sz) j' j'')) w:=by
 have hj':=nj'.h
 subst hj'
 have hj'':=nj''.h
 subst hj''
 have e1:=(elem_of ht).1
 have e2:=(elem_of ht).2
 have:=run_slice_hm (P:=P) (w:=w) t ad m c e1 k' k'' (j' : Int) (j'' : Int) (by omega) (by omega) (by omega)
 rw [e2,run_size hi] at this
 simp only [Result.andThen_ok,Int.toNat_natCast] at this
 simp [execOp,ev.ev a n ha,eu.ev a n ha,ez.ev a n ha,run_sliceAt_slice (P:=P) (w:=w) t _ _ _ _ e1,this,sliced,cutAd]
theorem St.cutSlM {e sz k c : Nat} {cs : List Value} (hs : St W w L) (ad : Option Addr) (m : Nat) [pk : PickSl L ad k c e sz cs R] (hm : m≤k) : St W w (Sl e sz (cutAd ad 0 m sz) m m (cs.take (m*sz))::R):=by
 have h1:=hs.perm pk.perm
 rcases Nat.eq_zero_or_pos m with h0 | h0
 · subst h0
   simpa using h1.tail.sl0 e sz (cutAd ad 0 0 sz)
 · have hc:=(hs.sl ad)
   obtain ⟨b,pre,post,⟨g1,g2,g3,g4⟩,h2⟩:=h1.slOpen (by omega)
   subst g3
   rw [cutAd_some (by omega),Nat.zero_mul,Nat.add_zero]
   have hml : m*sz≤cs.length:=by rw [g1]; exact Nat.mul_le_mul_right _ hm
   rw [show pre++cs++post=pre++cs.take (m*sz)++(cs.drop (m*sz)++post) from by
     conv=>lhs; rw [← List.take_append_drop (m*sz) cs]
     simp only [List.append_assoc]] at h2
   exact St.slShut h2 (by rw [List.length_take]; omega) (Nat.le_refl _) (by simp)
end
end Go.Proofs.YtagpkhbkdbaigaaGreat
