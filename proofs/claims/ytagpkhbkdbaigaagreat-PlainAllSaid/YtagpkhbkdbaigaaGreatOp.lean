/- Steps of a walk over frames that are known slot by slot: what each operation gives. -/
import Derived.Test.YtagpkhbkdbaigaaGreatSl
import Derived.WalkSpells
import Derived.WalkLawsBesides
namespace Go.Proofs.YtagpkhbkdbaigaaGreat
open Go.RowKit
set_option linter.unusedVariables false
set_option linter.unusedSimpArgs false
structure Fr (a : Act) (n : Nat) (l : List (Nat × Value)) : Prop where
 defers : a.defers=[]
 size : a.tmps.size=n
 has : ∀ p∈l,a.tmps[p.1]?=some p.2
def freshB (d : Nat) (l : List (Nat × Value)) : Bool:=l.all fun p=>!(Nat.beq p.1 d)
def okB (d n : Nat) (l : List (Nat × Value)) : Bool:=Nat.ble (d+1) n && freshB d l
class Get (l : List (Nat × Value)) (t : Nat) (v : outParam Value) : Prop where mem : (t,v)∈l
instance Get.head {l t v} : Get ((t,v)::l) t v:=⟨List.mem_cons_self⟩
instance (priority:=low) Get.tail {l t v p} [h : Get l t v] : Get (p::l) t v:=⟨List.mem_cons_of_mem _ h.mem⟩
class Ev (l : List (Nat × Value)) (o : Operand) (v : outParam Value) : Prop where ev : ∀ a n,Fr a n l→a.eval o=v
instance Ev.tmp {l t v} [h : Get l t v] : Ev l (.tmp t) v:=⟨fun a n ha=>by
 have:=ha.has _ h.mem
 simp only [Act.eval]
 simp [Array.getD_eq_getD_getElem?,this]⟩
instance Ev.const {l v} : Ev l (.const v) v:=⟨fun _ _ _=>rfl⟩
instance Ev.func {l f} : Ev l (.func f) (.func (.func f) #[] #[]):=⟨fun _ _ _=>rfl⟩
instance Ev.global {l g} : Ev l (.global g) (.pointer (some ⟨g,0,none⟩)):=⟨fun _ _ _=>rfl⟩
class EvL (l : List (Nat × Value)) (os : List Operand) (vs : outParam (List Value)) : Prop where ev : ∀ a n,Fr a n l→os.map a.eval=vs
instance EvL.nil {l} : EvL l [] []:=⟨fun _ _ _=>rfl⟩
instance EvL.cons {l o os v vs} [h : Ev l o v] [k : EvL l os vs] : EvL l (o::os) (v::vs):=⟨fun a n ha=>by
 simp [h.ev a n ha,k.ev a n ha]⟩
class Keep (l : List (Nat × Value)) (ks : List Nat) (l' : outParam (List (Nat × Value))) : Prop where sub : ∀ p∈l',p∈l
instance Keep.nil {l} : Keep l [] []:=⟨fun _ h=>by cases h⟩
instance Keep.cons {l k ks v l'} [h : Get l k v] [r : Keep l ks l'] : Keep l (k::ks) ((k,v)::l'):=⟨fun p hp=>by
 rcases List.mem_cons.1 hp with rfl | h'
 · exact h.mem
 · exact r.sub _ h'⟩
theorem Fr.keep {a n l l'} (h : Fr a n l) (ks : List Nat) [k : Keep l ks l'] : Fr a n l':=⟨h.defers,h.size,fun p hp=>h.has _ (k.sub _ hp)⟩
class Del (l : List (Nat × Value)) (d : Nat) (l' : outParam (List (Nat × Value))) : Prop where sub : ∀ p∈l',p∈l
instance Del.nil {d} : Del [] d []:=⟨fun _ h=>h⟩
instance Del.head {l d v} : Del ((d,v)::l) d l:=⟨fun _ h=>List.mem_cons_of_mem _ h⟩
instance (priority:=low) Del.tail {l d p l'} [h : Del l d l'] : Del (p::l) d (p::l'):=⟨fun q hq=>by
 rcases List.mem_cons.1 hq with rfl | h'
 · exact List.mem_cons_self
 · exact List.mem_cons_of_mem _ (h.sub _ h')⟩
theorem Fr.del {a n l l'} (h : Fr a n l) (d : Nat) [k : Del l d l'] : Fr a n l':=⟨h.defers,h.size,fun p hp=>h.has _ (k.sub _ hp)⟩
theorem okB_lt {d n l} (h : okB d n l=true) : d < n:=by
 simp only [okB,Bool.and_eq_true] at h; exact Nat.le_of_ble_eq_true h.1
theorem okB_fresh {d n l} (h : okB d n l=true) : ∀ p∈l,p.1≠d:=by
 simp only [okB,freshB,Bool.and_eq_true,List.all_eq_true] at h
 intro p hp e
 have:=h.2 p hp
 rw [e] at this
 have : Nat.beq d d=true:=Nat.beq_refl d
 simp [this] at *
theorem Fr.put {a n l d} (h : Fr a n l) (hf : okB d n l=true) (v : Value) : Fr (a.put (some d) v) n ((d,v)::l):=by
 have hl:=okB_lt hf
 refine ⟨h.defers,by simp [Act.put,h.size],fun p hp=>?_⟩
 rcases List.mem_cons.1 hp with rfl | hp
 · simp [Act.put,h.size,hl]
 · have hne:=okB_fresh hf p hp
   simp only [Act.put]
   rw [Array.getElem?_setIfInBounds,if_neg (fun e=>hne e.symm)]
   exact h.has _ hp
theorem Fr.putOff {a n l d} (h : Fr a n l) (hf : okB d n l=true) (v : Value) : Fr (a.put (some d) v) n l :=
 ⟨h.defers,by simp [Act.put,h.size],fun p hp=>(h.put hf v).has p (List.mem_cons_of_mem _ hp)⟩
theorem Fr.enter {m : Nat} {vs : List Value} (hm : vs.length≤m) :
   Fr { tmps:=vs.toArray++Array.replicate (m - vs.toArray.size) undef,defers:=[] } m ((List.range vs.length).zip vs):=by
 refine ⟨rfl,by simp; omega,fun p hp=>?_⟩
 obtain ⟨i,hi,rfl⟩:=List.mem_iff_getElem.1 hp
 simp only [List.length_zip,List.length_range] at hi
 have hv : i < vs.length:=by omega
 simp only [List.getElem_zip,List.getElem_range]
 rw [Array.getElem?_append_left (by simp; omega)]
 simp [hv]
section
variable {P : Program} {ops : Array Oper} {Q : Exit→Act→World→Prop} {a : Act} {w w' : World} {K : Act→World→Prop} {o : Oper} {n d : Nat} {l : List (Nat × Value)} {v : Value}
def StepK (P : Program) (ops : Array Oper) (Q : Exit→Act→World→Prop) (o : Oper) (K : Act→World→Prop) (a : Act) (w : World) : Prop :=
 if Region.wanted o (yielded ops a.tmps) then o.wp P a w K Q∨(o.asks P a w∧LetsOut Q) else K (a.put o.dst undef) w
theorem wpList_k {rest : List Oper} (h : StepK P ops Q o (wpList P ops Q rest) a w) : wpList P ops Q (o::rest) a w:=h
theorem st_run (hw : Region.wanted o (yielded ops a.tmps)=true) (hr : (execOp a.eval o).run P w=.ok (.value v) w')
   (h : K (a.put o.dst v) w') : StepK P ops Q o K a w:=by
 unfold StepK; rw [if_pos hw]; left; unfold Oper.wp; rw [hr]; exact h
theorem st_set {op ty ps af g} (ha : Fr a n l) (hw : Region.wanted ⟨some d,op,ty,ps,af,g⟩ (yielded ops a.tmps)=true)
   (hr : (execOp a.eval ⟨some d,op,ty,ps,af,g⟩).run P w=.ok (.value v) w') (hf : okB d n l=true)
   (h : ∀ a',Fr a' n ((d,v)::l)→K a' w') : StepK P ops Q ⟨some d,op,ty,ps,af,g⟩ K a w :=
 st_run hw hr (h _ (ha.put hf v))
theorem st_act {op ty ps af g} (ha : Fr a n l) (hw : Region.wanted ⟨none,op,ty,ps,af,g⟩ (yielded ops a.tmps)=true)
   (hr : (execOp a.eval ⟨none,op,ty,ps,af,g⟩).run P w=.ok .skip w')
   (h : ∀ a',Fr a' n l→K a' w') : StepK P ops Q ⟨none,op,ty,ps,af,g⟩ K a w:=by
 unfold StepK; rw [if_pos hw]; left; unfold Oper.wp; rw [hr]; exact h _ ha
theorem st_off {op ty ps af g} (ha : Fr a n l) (hw : Region.wanted ⟨some d,op,ty,ps,af,g⟩ (yielded ops a.tmps)=false) (hf : okB d n l=true)
   (h : ∀ a',Fr a' n l→K a' w) : StepK P ops Q ⟨some d,op,ty,ps,af,g⟩ K a w:=by
 unfold StepK
 rw [if_neg (by rw [hw]; simp)]
 exact h _ (ha.putOff hf undef)
theorem st_offU {op ty ps af g} (ha : Fr a n l) (hw : Region.wanted ⟨some d,op,ty,ps,af,g⟩ (yielded ops a.tmps)=false) (hf : okB d n l=true)
   (h : ∀ a',Fr a' n ((d,undef)::l)→K a' w) : StepK P ops Q ⟨some d,op,ty,ps,af,g⟩ K a w:=by
 unfold StepK
 rw [if_neg (by rw [hw]; simp)]
 exact h _ (ha.put hf undef)
theorem wgU {op ty ps af j s b dst} (ha : Fr a n l) (hj : (ops[j]?).bind (·.dst)=some s) [k : Get l s undef] :
   Region.wanted ⟨dst,op,ty,ps,af,some (j,b)⟩ (yielded ops a.tmps)=false:=by
 have:=ha.has _ k.mem
 simp [Region.wanted,yielded,hj,this,undef]
theorem wg {op ty ps af j s b c dst} (ha : Fr a n l) (hj : (ops[j]?).bind (·.dst)=some s) [k : Get l s (.bool c)] :
   Region.wanted ⟨dst,op,ty,ps,af,some (j,b)⟩ (yielded ops a.tmps)=(c == b):=by
 have:=ha.has _ k.mem
 simp [Region.wanted,yielded,hj,this]
theorem wgT {op ty ps af j s b dst} (ha : Fr a n l) (hj : (ops[j]?).bind (·.dst)=some s) [k : Get l s (.bool b)] :
   Region.wanted ⟨dst,op,ty,ps,af,some (j,b)⟩ (yielded ops a.tmps)=true:=by rw [wg ha hj]; simp
theorem wgF {op ty ps af j s b c dst} (ha : Fr a n l) (hj : (ops[j]?).bind (·.dst)=some s) [k : Get l s (.bool c)] (hc : (c == b)=false) :
   Region.wanted ⟨dst,op,ty,ps,af,some (j,b)⟩ (yielded ops a.tmps)=false:=by rw [wg ha hj]; exact hc
theorem Fr.bool {s : Nat} {c : Bool} {l'} (ha : Fr a n l) [k : Get l s (.bool c)] [e : Del l s l'] {G : Prop}
   (ht : c=true→Fr a n ((s,.bool true)::l')→G) (hf : c=false→Fr a n ((s,.bool false)::l')→G) : G:=by
 have hm:=ha.has _ k.mem
 have hd:=ha.del s
 cases c with
 | true => exact ht rfl ⟨ha.defers, ha.size, fun p hp => by
     rcases List.mem_cons.1 hp with rfl | hp
     · exact hm
     · exact hd.has _ hp⟩
 | false => exact hf rfl ⟨ha.defers, ha.size, fun p hp => by
     rcases List.mem_cons.1 hp with rfl | hp
     · exact hm
     · exact hd.has _ hp⟩
theorem ex_move {x dst ty ps af g} (ha : Fr a n l) [e : Ev l x v] : (execOp a.eval ⟨dst,.move x,ty,ps,af,g⟩).run P w=.ok (.value v) w:=by
 simp [execOp,e.ev a n ha,pure,Sem.run]
theorem ex_assign {x dst ty ps af g} (ha : Fr a n l) [e : Ev l x v] : (execOp a.eval ⟨dst,.assign x,ty,ps,af,g⟩).run P w=.ok (.value v) w:=by
 simp [execOp,e.ev a n ha,pure,Sem.run]
theorem ex_pickT {c x y dst ty ps af g} (ha : Fr a n l) [e : Ev l c (.bool true)] [f : Ev l x v] : (execOp a.eval ⟨dst,.pick c x y,ty,ps,af,g⟩).run P w=.ok (.value v) w:=by
 simp [execOp,e.ev a n ha,f.ev a n ha,asBool]
theorem ex_pickF {c x y dst ty ps af g} (ha : Fr a n l) [e : Ev l c (.bool false)] [f : Ev l y v] : (execOp a.eval ⟨dst,.pick c x y,ty,ps,af,g⟩).run P w=.ok (.value v) w:=by
 simp [execOp,e.ev a n ha,f.ev a n ha,asBool]
class NotNil (v : Value) : Prop where h : (∃ ad,v=.pointer (some ad))∨∃ t u,v=.iface t u
instance {ad} : NotNil (.pointer (some ad)):=⟨.inl ⟨_,rfl⟩⟩
instance {t u} : NotNil (.iface t u):=⟨.inr ⟨_,_,rfl⟩⟩
theorem ex_nilCheck {x dst ty ps af g} (ha : Fr a n l) [e : Ev l x v] [k : NotNil v] : (execOp a.eval ⟨dst,.nilCheck x,ty,ps,af,g⟩).run P w=.ok (.value v) w:=by
 rcases k.h with ⟨ad,rfl⟩ | ⟨t,u,rfl⟩ <;> simp [execOp,e.ev a n ha]
/-! Integers. -/
theorem ex_add {x y k i j t u dst ty ps af g} (ha : Fr a n l) [e : Ev l x (.int k i)] [f : Ev l y (.int k j)] :
   (execOp a.eval ⟨dst,.binOp .add t x y u,ty,ps,af,g⟩).run P w=.ok (.value (.int k (k.wrap (i+j)))) w:=by
 simp [execOp,e.ev a n ha,f.ev a n ha,eqGuard,binOp,Op.intArith]
theorem ex_sub {x y k i j t u dst ty ps af g} (ha : Fr a n l) [e : Ev l x (.int k i)] [f : Ev l y (.int k j)] :
   (execOp a.eval ⟨dst,.binOp .sub t x y u,ty,ps,af,g⟩).run P w=.ok (.value (.int k (k.wrap (i - j)))) w:=by
 simp [execOp,e.ev a n ha,f.ev a n ha,eqGuard,binOp,Op.intArith]
theorem ex_mul {x y k i j t u dst ty ps af g} (ha : Fr a n l) [e : Ev l x (.int k i)] [f : Ev l y (.int k j)] :
   (execOp a.eval ⟨dst,.binOp .mul t x y u,ty,ps,af,g⟩).run P w=.ok (.value (.int k (k.wrap (i*j)))) w:=by
 simp [execOp,e.ev a n ha,f.ev a n ha,eqGuard,binOp,Op.intArith]
theorem wrap_in {i : Int} (h1 : -9223372036854775808≤i) (h2 : i≤9223372036854775807) : IntKind.i64.wrap i=i:=IntWalk.i64_in _ (by omega)
theorem ex_addI {x y i j t u dst ty ps af g} (ha : Fr a n l) [e : Ev l x (.int .i64 i)] [f : Ev l y (.int .i64 j)] (h1 : -9223372036854775808≤i+j) (h2 : i+j≤9223372036854775807) :
   (execOp a.eval ⟨dst,.binOp .add t x y u,ty,ps,af,g⟩).run P w=.ok (.value (.int .i64 (i+j))) w:=by
 rw [ex_add ha,wrap_in h1 h2]
theorem ex_subI {x y i j t u dst ty ps af g} (ha : Fr a n l) [e : Ev l x (.int .i64 i)] [f : Ev l y (.int .i64 j)] (h1 : -9223372036854775808≤i - j) (h2 : i - j≤9223372036854775807) :
   (execOp a.eval ⟨dst,.binOp .sub t x y u,ty,ps,af,g⟩).run P w=.ok (.value (.int .i64 (i - j))) w:=by
 rw [ex_sub ha,wrap_in h1 h2]
theorem ex_mulI {x y i j t u dst ty ps af g} (ha : Fr a n l) [e : Ev l x (.int .i64 i)] [f : Ev l y (.int .i64 j)] (h1 : -9223372036854775808≤i*j) (h2 : i*j≤9223372036854775807) :
   (execOp a.eval ⟨dst,.binOp .mul t x y u,ty,ps,af,g⟩).run P w=.ok (.value (.int .i64 (i*j))) w:=by
 rw [ex_mul ha,wrap_in h1 h2]
theorem ex_lss {x y k i j t u dst ty ps af g} (ha : Fr a n l) [e : Ev l x (.int k i)] [f : Ev l y (.int k j)] :
   (execOp a.eval ⟨dst,.binOp .lss t x y u,ty,ps,af,g⟩).run P w=.ok (.value (.bool (decide (i < j)))) w:=by
 simp [execOp,e.ev a n ha,f.ev a n ha,eqGuard,binOp,Op.intCmp]
theorem ex_leq {x y k i j t u dst ty ps af g} (ha : Fr a n l) [e : Ev l x (.int k i)] [f : Ev l y (.int k j)] :
   (execOp a.eval ⟨dst,.binOp .leq t x y u,ty,ps,af,g⟩).run P w=.ok (.value (.bool (decide (i≤j)))) w:=by
 simp [execOp,e.ev a n ha,f.ev a n ha,eqGuard,binOp,Op.intCmp]
theorem ex_gtr {x y k i j t u dst ty ps af g} (ha : Fr a n l) [e : Ev l x (.int k i)] [f : Ev l y (.int k j)] :
   (execOp a.eval ⟨dst,.binOp .gtr t x y u,ty,ps,af,g⟩).run P w=.ok (.value (.bool (decide (j < i)))) w:=by
 simp [execOp,e.ev a n ha,f.ev a n ha,eqGuard,binOp,Op.intCmp]
theorem ex_geq {x y k i j t u dst ty ps af g} (ha : Fr a n l) [e : Ev l x (.int k i)] [f : Ev l y (.int k j)] :
   (execOp a.eval ⟨dst,.binOp .geq t x y u,ty,ps,af,g⟩).run P w=.ok (.value (.bool (decide (j≤i)))) w:=by
 simp [execOp,e.ev a n ha,f.ev a n ha,eqGuard,binOp,Op.intCmp]
theorem ex_eql {x y k i j t u dst ty ps af g} (ha : Fr a n l) [e : Ev l x (.int k i)] [f : Ev l y (.int k j)] :
   (execOp a.eval ⟨dst,.binOp .eql t x y u,ty,ps,af,g⟩).run P w=.ok (.value (.bool (decide (i=j)))) w:=by
 simp [execOp,e.ev a n ha,f.ev a n ha,eqGuard,binOp,Op.intCmp]; rfl
theorem ex_neq {x y k i j t u dst ty ps af g} (ha : Fr a n l) [e : Ev l x (.int k i)] [f : Ev l y (.int k j)] :
   (execOp a.eval ⟨dst,.binOp .neq t x y u,ty,ps,af,g⟩).run P w=.ok (.value (.bool (decide (i≠j)))) w:=by
 simp [execOp,e.ev a n ha,f.ev a n ha,eqGuard,binOp,Op.intCmp,bne]; rfl
theorem ex_not {x b t dst ty ps af g} (ha : Fr a n l) [e : Ev l x (.bool b)] : (execOp a.eval ⟨dst,.unOp .not t x,ty,ps,af,g⟩).run P w=.ok (.value (.bool (!b))) w:=by
 simp [execOp,e.ev a n ha,Op.unary]
class IsNil (v : Value) (b : outParam Bool) : Prop where h : v=.pointer none∧b=true∨(∃ ad,v=.pointer (some ad))∧b=false
instance : IsNil (.pointer none) true:=⟨.inl ⟨rfl,rfl⟩⟩
instance {ad} : IsNil (.pointer (some ad)) false:=⟨.inr ⟨⟨_,rfl⟩,rfl⟩⟩
theorem pointee_of {t el : TypeId} (ht : P.underlying t=some (.pointer el)) : P.underlying t=some (.pointer (P.pointee t)):=by
 rw [ht]; simp [Program.pointee,ht]
theorem ex_eqnil {x b t u el dst ty ps af g} (ha : Fr a n l) (ht : P.underlying t=some (.pointer el)) [e : Ev l x v] [k : IsNil v b] :
   (execOp a.eval ⟨dst,.binOp .eql t x (.const (.pointer none)) u,ty,ps,af,g⟩).run P w=.ok (.value (.bool b)) w:=by
 have hc : a.eval (.const (.pointer none))=.pointer none:=rfl
 rcases k.h with ⟨rfl,rfl⟩ | ⟨⟨ad,rfl⟩,rfl⟩
 · have:=run_eql_pointer_nil (P:=P) (w:=w) t none (pointee_of ht)
   simp only [execOp,e.ev a n ha,hc,Sem.run_bind]; simp [eqGuard,this]
 · have:=run_eql_pointer_nil (P:=P) (w:=w) t (some ad) (pointee_of ht)
   simp only [execOp,e.ev a n ha,hc,Sem.run_bind]; simp [eqGuard,this]
theorem ex_neqnil {x b t u el dst ty ps af g} (ha : Fr a n l) (ht : P.underlying t=some (.pointer el)) [e : Ev l x v] [k : IsNil v b] :
   (execOp a.eval ⟨dst,.binOp .neq t x (.const (.pointer none)) u,ty,ps,af,g⟩).run P w=.ok (.value (.bool (!b))) w:=by
 have hc : a.eval (.const (.pointer none))=.pointer none:=rfl
 rcases k.h with ⟨rfl,rfl⟩ | ⟨⟨ad,rfl⟩,rfl⟩
 · have:=run_neq_pointer_nil (P:=P) (w:=w) t none (pointee_of ht)
   simp only [execOp,e.ev a n ha,hc,Sem.run_bind]; simp [eqGuard,this]
 · have:=run_neq_pointer_nil (P:=P) (w:=w) t (some ad) (pointee_of ht)
   simp only [execOp,e.ev a n ha,hc,Sem.run_bind]; simp [eqGuard,this]
end
end Go.Proofs.YtagpkhbkdbaigaaGreat
