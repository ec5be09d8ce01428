/- Further operations: texts (length, bytes, pieces, runes one by one), bits, interface values and their methods. -/
import Derived.Test.YtagpkhbkdbaigaaGreatRow
import Derived.Test.YtagpkhbkdbaigaaGreatMore2
import Derived.Laws.RangeAny
import Derived.Laws.Strings
namespace Go.Proofs.YtagpkhbkdbaigaaGreat
open Go.RowKit
set_option linter.unusedVariables false
set_option linter.unusedSimpArgs false
def nx (s : ByteArray) (pos : Nat) : List Value:=if pos < s.size then [.bool true,.int .i64 pos,.int .i32 (Utf8.decode s pos).1] else [.bool false]
def adv (s : ByteArray) (pos : Nat) : Nat:=if pos < s.size then pos+(Utf8.decode s pos).2 else pos
theorem nx0 (s : ByteArray) (pos : Nat) : (nx s pos)[0]?=some (.bool (decide (pos < s.size))):=by
 by_cases h : pos < s.size <;> simp [nx,h]
theorem nx1 {s : ByteArray} {pos : Nat} (h : pos < s.size) : (nx s pos)[1]?=some (.int .i64 pos):=by simp [nx,h]
theorem nx2 {s : ByteArray} {pos : Nat} (h : pos < s.size) : (nx s pos)[2]?=some (.int .i32 (Utf8.decode s pos).1):=by simp [nx,h]
section
variable {P : Program} {ops : Array Oper} {Q : Exit→Act→World→Prop} {a : Act} {w w' W : World} {K : Act→World→Prop} {o : Oper} {n d : Nat} {l : List (Nat × Value)} {v : Value} {L R : List SP}
theorem st_range {t x s ty ps af g} (ha : Fr a n l) (hw : Region.wanted ⟨some d,.range t x,ty,ps,af,g⟩ (yielded ops a.tmps)=true) (hs : St W w L) (ht : P.underlying t=some .string) [ev : Ev l x (.string s)]
   (hf : okB d n l=true) (h : ∀ b a' w',Fr a' n ((d,.pointer (some ⟨b,0,none⟩))::l)→St W w' (pts b (.stringIter s 0)::L)→Old w w'→K a' w') : StepK P ops Q ⟨some d,.range t x,ty,ps,af,g⟩ K a w:=by
 refine st_set (v:=.pointer (some ⟨w.heap.size,0,none⟩)) (w':=w.alloc (.stringIter s 0)) ha hw ?_ hf (fun a' ha'=>h _ _ _ ha' (hs.alloc _) (Old.alloc _ _))
 have:=run_range_string (P:=P) w t s ht
 simp [execOp,ev.ev a n ha,this,World.iter]
class PickP (L : List SP) (b : Nat) (o : outParam Obj) (R : outParam (List SP)) : Prop where perm : L.Perm (pts b o::R)
instance PickP.head {L b o} : PickP (pts b o::L) b o L:=⟨List.Perm.refl _⟩
instance (priority:=low) PickP.tail {A L b o R} [h : PickP L b o R] : PickP (A::L) b o (A::R):=⟨(List.Perm.cons A h.perm).trans (List.Perm.swap _ _ _)⟩
theorem st_next {x s pos b ty ps af g} (ha : Fr a n l) (hw : Region.wanted ⟨some d,.next x true,ty,ps,af,g⟩ (yielded ops a.tmps)=true) (hs : St W w L) [ev : Ev l x (.pointer (some ⟨b,0,none⟩))] [k : PickP L b (.stringIter s pos) R]
   (hf : okB d n l=true) (h : ∀ a' w',Fr a' n ((d,.tuple (List.toArray (nx s pos)))::l)→St W w' (pts b (.stringIter s (adv s pos))::R)→K a' w') : StepK P ops Q ⟨some d,.next x true,ty,ps,af,g⟩ K a w:=by
 have hs1:=hs.perm k.perm
 have hb:=hs1.has.2
 by_cases hp : pos < s.size
 · have hs2:=hs1.upd (o':=.stringIter s (adv s pos)) (w':={ w with heap:=w.heap.setIfInBounds b (.stringIter s (adv s pos)) }) rfl rfl rfl rfl
   refine st_set (v:=.tuple (List.toArray (nx s pos))) (w':={ w with heap:=w.heap.setIfInBounds b (.stringIter s (adv s pos)) }) ha hw ?_ hf (fun a' ha'=>h a' _ ha' hs2)
   simp [execOp,ev.ev a n ha,Instr.next,getObj,setObj,Sem.run,hb,hp,goInt,nx,adv,Sem.run_bind]
 · have e : adv s pos=pos:=by simp [adv,hp]
   refine st_set (v:=.tuple (List.toArray (nx s pos))) (w':=w) ha hw ?_ hf (fun a' ha'=>h a' _ ha' (by rw [e]; exact hs1))
   simp [execOp,ev.ev a n ha,Instr.next,getObj,Sem.run,hb,hp,nx,Sem.run_bind]
theorem ex_lenS {x s t dst ty ps af g} (ha : Fr a n l) [ev : Ev l x (.string s)] (hu : P.underlying t=some .string) :
   (execOp a.eval ⟨dst,.call ⟨.builtin .len,#[x],#[t]⟩,ty,ps,af,g⟩).run P w=.ok (.value (.int .i64 s.size)) w:=by
 simp [execOp,resolve,ev.ev a n ha,invoke,builtin,Builtin.len_,run_underlying hu,goInt]
theorem ex_indexS {x y s k i j t dst ty ps af g} (ha : Fr a n l) (hu : P.underlying t=some .string) [ev : Ev l x (.string s)] [ey : Ev l y (.int k i)] [nj : NatOf i j] (h : j < s.size) :
   (execOp a.eval ⟨dst,.index t x y,ty,ps,af,g⟩).run P w=.ok (.value (.int .u8 (s[j]'h).toNat)) w:=by
 have:=nj.h; subst this
 have h2:=run_index_string (P:=P) w t s k (j : Int) hu
 have h3 : 0≤(j : Int)∧(j : Int) < s.size:=by omega
 rw [dif_pos h3] at h2
 simp [execOp,ev.ev a n ha,ey.ev a n ha,h2]
theorem ex_sliceSH {x y s k i j t dst ty ps af g} (ha : Fr a n l) (hu : P.underlying t=some .string) [ev : Ev l x (.string s)] [ey : Ev l y (.int k i)] [nj : NatOf i j] (h : j≤s.size) :
   (execOp a.eval ⟨dst,.slice t x none (some y) none,ty,ps,af,g⟩).run P w=.ok (.value (.string (s.extract 0 j))) w:=by
 have:=nj.h; subst this
 have h2:=run_slice_string_h (P:=P) w t s hu k (j : Int) (by omega) (by omega)
 simp only [Int.toNat_natCast] at h2
 simp [execOp,ev.ev a n ha,ey.ev a n ha,run_sliceAt_string (P:=P) (w:=w) t _ _ _ _ hu,h2]
theorem ex_sliceSL {x y s k i j t dst ty ps af g} (ha : Fr a n l) (hu : P.underlying t=some .string) [ev : Ev l x (.string s)] [ey : Ev l y (.int k i)] [nj : NatOf i j] (h : j≤s.size) :
   (execOp a.eval ⟨dst,.slice t x (some y) none none,ty,ps,af,g⟩).run P w=.ok (.value (.string (s.extract j s.size))) w:=by
 have:=nj.h; subst this
 have h2:=run_slice_string_l (P:=P) w t s hu k (j : Int) (by omega) (by omega)
 simp only [Int.toNat_natCast] at h2
 simp [execOp,ev.ev a n ha,ey.ev a n ha,run_sliceAt_string (P:=P) (w:=w) t _ _ _ _ hu,h2]
/-! Bits. -/
theorem ex_shl {x y k i k' j jn t u dst ty ps af g} (ha : Fr a n l) [e : Ev l x (.int k i)] [f : Ev l y (.int k' j)] [nj : NatOf j jn] (h : jn≤k.bits) :
   (execOp a.eval ⟨dst,.binOp .shl t x y u,ty,ps,af,g⟩).run P w=.ok (.value (.int k (k.wrap (i*2 ^ jn)))) w:=by
 have:=nj.h; subst this
 have h2 : min jn k.bits=jn:=Nat.min_eq_left h
 have h3 : ¬ ((jn : Int) < 0):=by omega
 simp [execOp,e.ev a n ha,f.ev a n ha,eqGuard,binOp,Op.shift,h2,h3]
theorem ex_shr {x y k i k' j jn t u dst ty ps af g} (ha : Fr a n l) [e : Ev l x (.int k i)] [f : Ev l y (.int k' j)] [nj : NatOf j jn] (h : jn≤k.bits) :
   (execOp a.eval ⟨dst,.binOp .shr t x y u,ty,ps,af,g⟩).run P w=.ok (.value (.int k (i.fdiv (2 ^ jn)))) w:=by
 have:=nj.h; subst this
 have h2 : min jn k.bits=jn:=Nat.min_eq_left h
 have h3 : ¬ ((jn : Int) < 0):=by omega
 simp [execOp,e.ev a n ha,f.ev a n ha,eqGuard,binOp,Op.shift,h2,h3]
theorem ex_or {x y k i j t u dst ty ps af g} (ha : Fr a n l) [e : Ev l x (.int k i)] [f : Ev l y (.int k j)] :
   (execOp a.eval ⟨dst,.binOp .or t x y u,ty,ps,af,g⟩).run P w=.ok (.value (.int k (k.wrap ((BitVec.ofInt k.bits i ||| BitVec.ofInt k.bits j).toNat)))) w:=by
 simp [execOp,e.ev a n ha,f.ev a n ha,eqGuard,binOp,Op.intBits]
theorem ex_and {x y k i j t u dst ty ps af g} (ha : Fr a n l) [e : Ev l x (.int k i)] [f : Ev l y (.int k j)] :
   (execOp a.eval ⟨dst,.binOp .and t x y u,ty,ps,af,g⟩).run P w=.ok (.value (.int k (k.wrap ((BitVec.ofInt k.bits i &&& BitVec.ofInt k.bits j).toNat)))) w:=by
 simp [execOp,e.ev a n ha,f.ev a n ha,eqGuard,binOp,Op.intBits]
theorem ex_xor {x y k i j t u dst ty ps af g} (ha : Fr a n l) [e : Ev l x (.int k i)] [f : Ev l y (.int k j)] :
   (execOp a.eval ⟨dst,.binOp .xor t x y u,ty,ps,af,g⟩).run P w=.ok (.value (.int k (k.wrap ((BitVec.ofInt k.bits i ^^^ BitVec.ofInt k.bits j).toNat)))) w:=by
 simp [execOp,e.ev a n ha,f.ev a n ha,eqGuard,binOp,Op.intBits]
theorem ex_com {x k i t dst ty ps af g} (ha : Fr a n l) [e : Ev l x (.int k i)] :
   (execOp a.eval ⟨dst,.unOp .xor t x,ty,ps,af,g⟩).run P w=.ok (.value (.int k (k.wrap ((BitVec.ofInt k.bits (if k.signed then -1 else k.max) ^^^ BitVec.ofInt k.bits i).toNat)))) w:=by
 simp [execOp,e.ev a n ha,Op.unary,Op.intBits]
theorem ex_neg {x k i t dst ty ps af g} (ha : Fr a n l) [e : Ev l x (.int k i)] :
   (execOp a.eval ⟨dst,.unOp .neg t x,ty,ps,af,g⟩).run P w=.ok (.value (.int k (k.wrap (0 - i)))) w:=by
 simp [execOp,e.ev a n ha,Op.unary,Op.intArith]
theorem ex_quoW {x y k i j t u dst ty ps af g} (ha : Fr a n l) (h : j≠0) [e : Ev l x (.int k i)] [f : Ev l y (.int k j)] :
   (execOp a.eval ⟨dst,.binOp .quo t x y u,ty,ps,af,g⟩).run P w=.ok (.value (.int k (k.wrap (i.tdiv j)))) w:=by
 simp [execOp,e.ev a n ha,f.ev a n ha,eqGuard,binOp,Op.intDiv,h]
/-! Interface values. -/
theorem run_equalIn_I {t t' : TypeId} {ms} (ht : P.underlying t=some (.interface ms)) (v : Value) (k : Nat) : (Op.equalIn (k+1) t (.iface t' v) .nilIface).run P w=.ok false w:=by
 simp [Op.equalIn,run_underlying ht]
theorem ex_eqnilI {x t v t' ms u dst ty ps af g} (ha : Fr a n l) (ht : P.underlying t=some (.interface ms)) [e : Ev l x (.iface t' v)] :
   (execOp a.eval ⟨dst,.binOp .eql t x (.const .nilIface) u,ty,ps,af,g⟩).run P w=.ok (.value (.bool false)) w:=by
 have hc : a.eval (.const .nilIface)=.nilIface:=rfl
 have h2 : (Op.equal t (.iface t' v) .nilIface).run P w=.ok false w:=run_equalIn_I ht v 9999
 simp only [execOp,e.ev a n ha,hc,Sem.run_bind]
 simp [eqGuard,binOp,h2]
theorem ex_makeI {x t dd dst ty ps af g} (ha : Fr a n l) (ht : P.underlying t=some dd) (hd : (match dd with | .interface _=>false | _=>true)=true) [e : Ev l x v] :
   (execOp a.eval ⟨dst,.makeInterface t x,ty,ps,af,g⟩).run P w=.ok (.value (.iface t v)) w:=by
 cases dd <;> first | (simp at hd) | skip
 all_goals simp [execOp,e.ev a n ha,Instr.makeInterface,run_underlying ht]
def MethodT (P : Program) (t : TypeId) (name : String) (f : FuncId) : Prop:=∀ (ad : Option Addr) (w : World),(method (P.types.size+Made.depth) t (.pointer ad) name).run P w=.ok (f,.pointer ad) w
theorem st_callI {x t ad name f args tys ty ps af g vs all} {X : Ending→World→Prop} (ha : Fr a n l) (hw : Region.wanted ⟨some d,.call ⟨.invoke x name,List.toArray args,tys⟩,ty,ps,af,g⟩ (yielded ops a.tmps)=true)
   [ex : Ev l x (.iface t (.pointer ad))] (hm : MethodT P t name f) (hb : callable P f=true) (hf : okB d n l=true) [ev : EvL l args vs] (hc : Calls P f (List.toArray all) w X) (hall : .pointer ad::vs=all)
   (h : ∀ e w',X e w'→∃ v,e=.returned v∧∀ a',Fr a' n ((d,v)::l)→K a' w') :
   StepK P ops Q ⟨some d,.call ⟨.invoke x name,List.toArray args,tys⟩,ty,ps,af,g⟩ K a w:=by
 subst hall
 refine st_enter hw ?_ hc fun e w' hx=>let ⟨v,he,hv⟩:=h e w' hx; ⟨v,he,hv _ (ha.put hf v)⟩
 have h3:=hm ad w
 simp [execOp,resolve,ex.ev a n ha,invoke,callMethod,ev.ev a n ha,h3,run_callFunc hb,program,Sem.run]
end
end Go.Proofs.YtagpkhbkdbaigaaGreat
