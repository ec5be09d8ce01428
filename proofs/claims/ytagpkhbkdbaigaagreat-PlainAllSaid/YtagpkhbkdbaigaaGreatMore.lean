/- Further operations: structs written out, bools compared, the lesser and the greater, clear. -/
import Derived.Test.YtagpkhbkdbaigaaGreatDraw
namespace Go.Proofs.YtagpkhbkdbaigaaGreat
open Go.RowKit
set_option linter.unusedVariables false
set_option linter.unusedSimpArgs false
def BuildT (P : Program) (t : TypeId) (places : List (Nat × Nat)) : Prop :=
 ∃ fs,P.underlying t=some (.struct fs)∧∀ w,(fs.mapM (fun f=>do pure (f.offset,← sizeOf f.type)) : Sem (Array (Nat × Nat))).run P w=.ok places.toArray w
class NthP (ps : List (Nat × Nat)) (i : Nat) (off sz : outParam Nat) : Prop where h : ps[i]?=some (off,sz)
instance NthP.zero {off sz ps} : NthP ((off,sz)::ps) 0 off sz:=⟨rfl⟩
instance NthP.succ {p ps i off sz} [h : NthP ps i off sz] : NthP (p::ps) (i+1) off sz:=⟨by rw [List.getElem?_cons_succ]; exact h.h⟩
class SplC (cs : List Value) (off : Nat) (vs : List Value) (out : outParam (List Value)) : Prop where h : off+vs.length≤cs.length→splice cs off vs=out
theorem splice_cons {cs vs : List Value} {off : Nat} {v : Value} (h : off+(vs.length+1)≤cs.length) : splice cs off (v::vs)=splice (cs.set off v) (off+1) vs:=by
 have hl : (cs.take off).length=off:=by simp; omega
 simp only [splice,List.length_cons]
 rw [List.set_eq_take_append_cons_drop,if_pos (by omega)]
 have e1 : (cs.take off++v::cs.drop (off+1)).take (off+1)=cs.take off++[v]:=by
   rw [List.take_append,hl,List.take_of_length_le (by omega),show off+1 - off=1 from by omega]; simp
 have e2 : (cs.take off++v::cs.drop (off+1)).drop (off+1+vs.length)=cs.drop (off+(vs.length+1)):=by
   rw [List.drop_append,hl,List.drop_of_length_le (by rw [hl]; omega),List.nil_append,show off+1+vs.length - off=vs.length+1 from by omega,List.drop_succ_cons,List.drop_drop]
   congr 1; omega
 rw [e1,e2]; simp
instance (priority:=low) SplC.any {cs off vs} : SplC cs off vs (splice cs off vs):=⟨fun _=>rfl⟩
instance SplC.nil {cs off} : SplC cs off [] cs:=⟨fun _=>by simp [splice]⟩
instance SplC.cons {cs off v vs cs1 out} [h1 : SetC cs off v cs1] [h2 : SplC cs1 (off+1) vs out] : SplC cs off (v::vs) out:=⟨fun h=>by
 simp only [List.length_cons] at h
 rw [splice_cons h,h1.h]
 exact h2.h (by rw [← h1.h]; simp; omega)⟩
theorem splice_len {cs vs : List Value} {off : Nat} (h : off+vs.length≤cs.length) : (splice cs off vs).length=cs.length:=by simp [splice]; omega
class LenEq (c : List Value) (n : Nat) : Prop where h : c.length=n
instance LenEq.nil : LenEq [] 0:=⟨rfl⟩
instance LenEq.cons {x c n} [h : LenEq c n] : LenEq (x::c) (n+1):=⟨by simp [h.h]⟩
class FillQ (places : List (Nat × Nat)) (zs : List Value) (l : List (Nat × Value)) (parts : List (Nat × Operand)) (out : outParam (List Value)) : Prop where
 h : (∀ p∈places,p.1+p.2≤zs.length)→∀ a n,Fr a n l→Instr.fill (places.toArray[·]?) zs.toArray (parts.map fun p=>(p.1,a.eval p.2))=some out.toArray
instance FillQ.nil {places zs l} : FillQ places zs l [] zs:=⟨fun _ _ _ _=>rfl⟩
instance FillQ.cons {places zs l i o ps off sz v c zs1 out} [h1 : NthP places i off sz] [h2 : Ev l o v] [h3 : Cells v c] [h4 : LenEq c sz] [h5 : SplC zs off c zs1] [h6 : FillQ places zs1 l ps out] :
   FillQ places zs l ((i,o)::ps) out:=⟨fun hp a n ha=>by
 have hin:=hp _ (List.mem_of_getElem? h1.h)
 simp only at hin
 have hl:=h4.h
 have e1:=h5.h (by rw [hl]; exact hin)
 have hz1 : zs1.length=zs.length:=by rw [← e1]; exact splice_len (by rw [hl]; exact hin)
 have ih:=h6.h (by rw [hz1]; exact hp) a n ha
 simp only [List.map_cons,Instr.fill,h2.ev a n ha]
 have hg : places.toArray[i]?=some (off,sz):=by rw [List.getElem?_toArray]; exact h1.h
 simp only [hg]
 have hcs : v.cells.size=sz:=by rw [h3.h]; simpa using hl
 rw [if_neg (by simp [hcs]; omega)]
 have hf:=foldl_set c 0 off zs (by rw [hl]; omega)
 have e3 : (v.cells.zipIdx.foldl (fun (cs : Array Value) (x : Value × Nat)=>cs.setIfInBounds (off+x.2) x.1) zs.toArray)=zs1.toArray:=by
   rw [h3.h,← Array.foldl_toList,Array.toList_zipIdx,← e1]
   simpa [splice] using hf
 rw [← ih]
 congr 1⟩
section
variable {P : Program} {ops : Array Oper} {Q : Exit→Act→World→Prop} {a : Act} {w w' W : World} {K : Act→World→Prop} {o : Oper} {n d : Nat} {l : List (Nat × Value)} {v : Value} {L R : List SP}
theorem ex_build {t places z zs sz by' parts cs dst ty ps af g} (ha : Fr a n l) (hb : BuildT P t places) (hi : TI P t z sz by') [kz : Cells z zs] [fq : FillQ places zs l parts cs] (hp : (places.all fun p=>Nat.ble (p.1+p.2) zs.length)=true) :
   (execOp a.eval ⟨dst,.build t (List.toArray parts),ty,ps,af,g⟩).run P w=.ok (.value (.agg cs.toArray)) w:=by
 obtain ⟨fs,hu,hm⟩:=hb
 have hf:=fq.h (fun p hpm=>Nat.le_of_ble_eq_true (List.all_eq_true.1 hp p hpm)) a n ha
 simp only [execOp,Sem.run_bind,Instr.build,run_zero hi,Result.andThen_ok,run_underlying hu,hm,kz.h]
 simp only [List.getElem?_toArray] at hf
 simp [hf]
theorem ex_extract {x i vs dst ty ps af g} (ha : Fr a n l) [e : Ev l x (.tuple (List.toArray vs))] (h : vs[i]?=some v) : (execOp a.eval ⟨dst,.extract x i,ty,ps,af,g⟩).run P w=.ok (.value v) w:=by
 simp [execOp,e.ev a n ha,Instr.extract,h]
theorem run_equalIn_bool {t : TypeId} (ht : P.underlying t=some .bool) (i j : Bool) (k : Nat) : (Op.equalIn (k+1) t (.bool i) (.bool j)).run P w=.ok (i == j) w:=by
 simp [Op.equalIn,run_underlying ht]
theorem run_equal_bool {t : TypeId} (ht : P.underlying t=some .bool) (i j : Bool) : (Op.equal t (.bool i) (.bool j)).run P w=.ok (i == j) w:=run_equalIn_bool ht i j 9999
theorem run_eql_bool {t : TypeId} (ht : P.underlying t=some .bool) (i j : Bool) : (binOp .eql t (.bool i) (.bool j)).run P w=.ok (.bool (i == j)) w:=by
 simp only [binOp]
 simp [run_equal_bool ht]
theorem run_neq_bool {t : TypeId} (ht : P.underlying t=some .bool) (i j : Bool) : (binOp .neq t (.bool i) (.bool j)).run P w=.ok (.bool (i != j)) w:=by
 simp only [binOp]
 simp [run_equal_bool ht,bne]
theorem ex_eqlB {x y i j t u dst ty ps af g} (ha : Fr a n l) (ht : P.underlying t=some .bool) [e : Ev l x (.bool i)] [f : Ev l y (.bool j)] :
   (execOp a.eval ⟨dst,.binOp .eql t x y u,ty,ps,af,g⟩).run P w=.ok (.value (.bool (i == j))) w:=by
 simp only [execOp,e.ev a n ha,f.ev a n ha,Sem.run_bind]; simp [eqGuard,run_eql_bool ht]
theorem ex_neqB {x y i j t u dst ty ps af g} (ha : Fr a n l) (ht : P.underlying t=some .bool) [e : Ev l x (.bool i)] [f : Ev l y (.bool j)] :
   (execOp a.eval ⟨dst,.binOp .neq t x y u,ty,ps,af,g⟩).run P w=.ok (.value (.bool (i != j))) w:=by
 simp only [execOp,e.ev a n ha,f.ev a n ha,Sem.run_bind]; simp [eqGuard,run_neq_bool ht]
theorem ex_min {x y k i j ty' dst ty ps af g} (ha : Fr a n l) [e : Ev l x (.int k i)] [f : Ev l y (.int k j)] :
   (execOp a.eval ⟨dst,.call ⟨.builtin .min,#[x,y],ty'⟩,ty,ps,af,g⟩).run P w=.ok (.value (.int k (min i j))) w:=by
 simp [execOp,resolve,e.ev a n ha,f.ev a n ha,invoke,builtin,Builtin.min_,Builtin.min2]
 rw [Int.min_def]; split <;> split <;> omega
theorem ex_max {x y k i j ty' dst ty ps af g} (ha : Fr a n l) [e : Ev l x (.int k i)] [f : Ev l y (.int k j)] :
   (execOp a.eval ⟨dst,.call ⟨.builtin .max,#[x,y],ty'⟩,ty,ps,af,g⟩).run P w=.ok (.value (.int k (max i j))) w:=by
 simp [execOp,resolve,e.ev a n ha,f.ev a n ha,invoke,builtin,Builtin.max_,Builtin.max2]
 rw [Int.max_def]; split <;> split <;> omega
end
end Go.Proofs.YtagpkhbkdbaigaaGreat
