/- Further operations: an append that stays in its block; slices with three bounds, of nil; bytes and strings; bits. -/
import Derived.Test.YtagpkhbkdbaigaaGreatMore
import Derived.Laws.BytesString
import Derived.Lib.SliceRun
namespace Go.Proofs.YtagpkhbkdbaigaaGreat
open Go.RowKit
set_option linter.unusedVariables false
set_option linter.unusedSimpArgs false
def bc (bs : List UInt8) : List Value:=bs.map fun b=>.int .u8 b.toNat
theorem bc_len (bs : List UInt8) : (bc bs).length=bs.length:=by simp [bc]
theorem bc_one (bs : List UInt8) : ∀ v∈bc bs,v.oneCell'=true:=by
 intro v hv
 simp only [bc,List.mem_map] at hv
 obtain ⟨b,_,rfl⟩:=hv; rfl
section
variable {P : Program} {ops : Array Oper} {Q : Exit→Act→World→Prop} {a : Act} {w w' W : World} {K : Act→World→Prop} {o : Oper} {n d : Nat} {l : List (Nat × Value)} {v : Value} {L R : List SP}
theorem ex_eqnilS {x ad m c t el u dst ty ps af g} (ha : Fr a n l) (ht : P.underlying t=some (.slice el)) [e : Ev l x (.slice ad m c)] :
   (execOp a.eval ⟨dst,.binOp .eql t x (.const (.slice none 0 0)) u,ty,ps,af,g⟩).run P w=.ok (.value (.bool ad.isNone)) w:=by
 have hc : a.eval (.const (.slice none 0 0))=.slice none 0 0:=rfl
 have:=Lib.run_eql_slice_nil (P:=P) w t el ad m c 0 0 ht
 simp only [execOp,e.ev a n ha,hc,Sem.run_bind]; simp [eqGuard,this]
def RdB (w : World) (ad : Option Addr) (m : Nat) (bs : List UInt8) : Prop :=
 bs.length=m∧(ad=none→m=0)∧∀ x,ad=some x→0 < m→∃ b off,x=⟨b,off,none⟩∧Rd w b off (bc bs)
theorem push_all (bs : List UInt8) : ∀ r : List UInt8,(bs.map fun b=>(b.toNat : Int)).foldl (fun (r : ByteArray) n=>r.push (UInt8.ofNat n.toNat)) ⟨r.toArray⟩=⟨(r++bs).toArray⟩:=by
 induction bs with
 | nil=>intro r; simp
 | cons b bs ih =>
   intro r
   simp only [List.map_cons,List.foldl_cons]
   have : (ByteArray.mk r.toArray).push (UInt8.ofNat (b.toNat : Int).toNat)=ByteArray.mk (r++[b]).toArray:=by
     simp [ByteArray.push]
   rw [this,ih]; simp
theorem ex_toString {x t u el ad m c bs dst ty ps af g} (ha : Fr a n l) (ht : P.underlying t=some (.slice el)) (hu : P.underlying el=some (.int .u8)) (hs' : P.underlying u=some .string) [ev : Ev l x (.slice ad m c)]
   (hr : RdB w ad m bs) : (execOp a.eval ⟨dst,.convert t u x,ty,ps,af,g⟩).run P w=.ok (.value (.string ⟨bs.toArray⟩)) w:=by
 have h0:=run_convert_bytes_string (P:=P) w t u el ad m c ht hu hs'
 obtain ⟨h1,h2,h3⟩:=hr
 have h4 : (Conv.bytesToString (.slice ad m c)).run P w=.ok (.string ⟨bs.toArray⟩) w:=by
   cases ad with
   | none =>
     have : bs=[]:=List.eq_nil_of_length_eq_zero (by rw [h1]; exact h2 rfl)
     subst this
     rfl
   | some x =>
     have hl : (loadCells x m).run P w=.ok ((bs.map fun b=>(b.toNat : Int)).map (Value.int .u8)).toArray w:=by
       have:=run_loadCells_list (P:=P) w x ((bs.map fun b=>(b.toNat : Int)).map (Value.int .u8)) (fun j v hj=>by
         have hm : 0 < m:=by
           rcases Nat.eq_zero_or_pos m with h | h
           · rw [h] at h1
             rw [List.eq_nil_of_length_eq_zero h1] at hj; simp at hj
           · exact h
         obtain ⟨b,off,rfl,hrd⟩:=h3 x rfl hm
         rw [add_off]
         refine hrd j v ?_
         simpa [bc] using hj)
       simpa [h1] using this
     have:=run_bytesToString (P:=P) w x m c _ hl
     rw [this]
     have h5:=push_all bs []
     simp only [List.nil_append] at h5
     exact congrArg (fun s=>Result.ok (Value.string s) w) h5
 simp [execOp,ev.ev a n ha,h0,h4]
theorem ex_eqlS {x y i j t u dst ty ps af g} (ha : Fr a n l) [e : Ev l x (.string i)] [f : Ev l y (.string j)] :
   (execOp a.eval ⟨dst,.binOp .eql t x y u,ty,ps,af,g⟩).run P w=.ok (.value (.bool (i.data.toList == j.data.toList))) w:=by
 simp [execOp,e.ev a n ha,f.ev a n ha,eqGuard,binOp,Op.stringOp,ByteArray.toList_eq]
theorem xor_u8 (x y : UInt8) : IntKind.u8.wrap ((x.toNat ^^^ y.toNat : Nat) : Int)=((x ^^^ y).toNat : Int):=by
 rw [UInt8.toNat_xor]
 have h:=(x ^^^ y).toNat_lt
 rw [UInt8.toNat_xor] at h
 simp only [IntKind.wrap,IntKind.bits,IntKind.signed,Bool.false_and,Bool.false_eq_true,if_false]
 omega
theorem ex_xor8 {x y t u dst ty ps af g} {i j : UInt8} (ha : Fr a n l) [e : Ev l x (.int .u8 (i.toNat : Int))] [f : Ev l y (.int .u8 (j.toNat : Int))] :
   (execOp a.eval ⟨dst,.binOp .xor t x y u,ty,ps,af,g⟩).run P w=.ok (.value (.int .u8 ((i ^^^ j).toNat : Int))) w:=by
 rw [← xor_u8]
 simp [execOp,e.ev a n ha,f.ev a n ha,eqGuard,binOp,Op.intBits]
 have h1 : i.toNat % 2 ^ IntKind.u8.bits=i.toNat:=Nat.mod_eq_of_lt i.toNat_lt
 have h2 : j.toNat % 2 ^ IntKind.u8.bits=j.toNat:=Nat.mod_eq_of_lt j.toNat_lt
 rw [h1,h2]
theorem st_buildSlice0 {t el z sz by' ty ps af g} (ha : Fr a n l) (hw : Region.wanted ⟨some d,.buildSlice t 0 #[],ty,ps,af,g⟩ (yielded ops a.tmps)=true) (hs : St W w L) (ht : P.underlying t=some (.slice el))
   (hi : TI P el z sz by') (hf : okB d n l=true)
   (h : ∀ b a' w',Fr a' n ((d,.slice (some ⟨b,0,none⟩) 0 0)::l)→St W w' (Sl el sz (some ⟨b,0,none⟩) 0 0 []::L)→Old w w'→K a' w') :
   StepK P ops Q ⟨some d,.buildSlice t 0 #[],ty,ps,af,g⟩ K a w:=by
 refine st_set (v:=.slice (some ⟨w.heap.size,0,none⟩) 0 0) (w':=w.alloc (.cells #[] el)) ha hw ?_ hf (fun a' ha'=>h _ _ _ ha' ((hs.alloc (.cells #[] el)).tail.sl0 _ _ _) (Old.alloc _ _))
 simp [execOp,Sem.run_bind,Instr.buildSlice,run_underlying ht,Result.andThen_ok,run_size hi,Instr.fill,newRow,newObj,Sem.run]
 rw [show Array.range 0=#[] from Array.eq_empty_of_size_eq_zero (by simp)]; simp
theorem st_append0 {s x t z by' e sz ad k c ad2 c2 ty ps af g} (ha : Fr a n l) (hw : Region.wanted ⟨some d,.call ⟨.builtin .append,#[s,x],#[t,t]⟩,ty,ps,af,g⟩ (yielded ops a.tmps)=true)
   (ht : P.underlying t=some (.slice e)) (hi : TI P e z sz by') (hf : okB d n l=true) [e1 : Ev l s (.slice ad k c)] [e2 : Ev l x (.slice ad2 0 c2)] (hkc : k≤c)
   (h : ∀ a',Fr a' n ((d,.slice ad k c)::l)→K a' w) : StepK P ops Q ⟨some d,.call ⟨.builtin .append,#[s,x],#[t,t]⟩,ty,ps,af,g⟩ K a w:=by
 obtain ⟨i,hi1,hi2,hi3,hi4⟩:=info_parts hi
 have hf1 : (Builtin.firstCells sz 0 (.slice ad2 0 c2)).run P w=.ok #[] w:=by
   cases ad2 with
   | none=>exact run_firstCells_none (P:=P) w sz 0 0 c2
   | some b=>exact run_firstCells_some (P:=P) w sz 0 b 0 c2 [] (by simp) (fun j v hj=>by simp at hj)
 refine st_set (v:=.slice ad k c) (w':=w) ha hw ?_ hf h
 cases ad <;> simp [execOp,resolve,e1.ev a n ha,e2.ev a n ha,invoke,builtin,Builtin.append_,run_underlying ht,sizeOf,typeInfo,hi1,hi3,Builtin.lenOf,hkc,hf1,storeCells]
end
end Go.Proofs.YtagpkhbkdbaigaaGreat
