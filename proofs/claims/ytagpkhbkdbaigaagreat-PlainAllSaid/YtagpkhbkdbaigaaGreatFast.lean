/- Short names for the steps of a walk. -/
import Derived.Test.YtagpkhbkdbaigaaGreatMore2
namespace Go.Proofs.YtagpkhbkdbaigaaGreat
open Go.RowKit
set_option linter.unusedVariables false
set_option linter.unusedSimpArgs false
class UPtr (P : Program) (t : TypeId) : Prop where h : ∃ el,P.underlying t=some (.pointer el)
class USl (P : Program) (t : TypeId) : Prop where h : ∃ el,P.underlying t=some (.slice el)
class UOne (P : Program) (t : TypeId) : Prop where h : ∃ dd,P.underlying t=some dd∧isOne dd=true
class UFld (P : Program) (t : TypeId) (f : Nat) (k : outParam Nat) : Prop where h : ∃ fs fl z sz by',P.underlying t=some (.struct fs)∧fs[f]?=some fl∧TI P fl.type z (sz+1) by'∧fl.offset=k
class Ex (P : Program) (l : List (Nat × Value)) (op : Go.Op) (v : outParam Value) : Prop where
 ex : ∀ (a : Act) (n : Nat),Fr a n l→∀ (w : World) (dst ty ps af g),(execOp a.eval ⟨dst,op,ty,ps,af,g⟩).run P w=.ok (.value v) w
section
variable {P : Program} {l : List (Nat × Value)} {v v1 v2 : Value} {x y c : Operand} {t u : TypeId} {k : IntKind} {i j : Int} {b : Bool}
instance Ex.move [Ev l x v] : Ex P l (.move x) v:=⟨fun _ _ ha _ _ _ _ _ _=>ex_move ha⟩
instance Ex.assign [Ev l x v] : Ex P l (.assign x) v:=⟨fun _ _ ha _ _ _ _ _ _=>ex_assign ha⟩
instance Ex.nilCheck [Ev l x v] [NotNil v] : Ex P l (.nilCheck x) v:=⟨fun _ _ ha _ _ _ _ _ _=>ex_nilCheck ha⟩
instance Ex.not [Ev l x (.bool b)] : Ex P l (.unOp .not t x) (.bool (!b)):=⟨fun _ _ ha _ _ _ _ _ _=>ex_not ha⟩
instance Ex.lss [Ev l x (.int k i)] [Ev l y (.int k j)] : Ex P l (.binOp .lss t x y u) (.bool (decide (i < j))):=⟨fun _ _ ha _ _ _ _ _ _=>ex_lss ha⟩
instance Ex.leq [Ev l x (.int k i)] [Ev l y (.int k j)] : Ex P l (.binOp .leq t x y u) (.bool (decide (i≤j))):=⟨fun _ _ ha _ _ _ _ _ _=>ex_leq ha⟩
instance Ex.gtr [Ev l x (.int k i)] [Ev l y (.int k j)] : Ex P l (.binOp .gtr t x y u) (.bool (decide (j < i))):=⟨fun _ _ ha _ _ _ _ _ _=>ex_gtr ha⟩
instance Ex.geq [Ev l x (.int k i)] [Ev l y (.int k j)] : Ex P l (.binOp .geq t x y u) (.bool (decide (j≤i))):=⟨fun _ _ ha _ _ _ _ _ _=>ex_geq ha⟩
instance Ex.eql [Ev l x (.int k i)] [Ev l y (.int k j)] : Ex P l (.binOp .eql t x y u) (.bool (decide (i=j))):=⟨fun _ _ ha _ _ _ _ _ _=>ex_eql ha⟩
instance Ex.neq [Ev l x (.int k i)] [Ev l y (.int k j)] : Ex P l (.binOp .neq t x y u) (.bool (decide (i≠j))):=⟨fun _ _ ha _ _ _ _ _ _=>ex_neq ha⟩
instance Ex.eqnil [UPtr P t] [Ev l x v] [IsNil v b] : Ex P l (.binOp .eql t x (.const (.pointer none)) u) (.bool b):=⟨fun _ _ ha _ _ _ _ _ _=>(UPtr.h (P:=P) (t:=t)).elim fun _ h=>ex_eqnil ha h⟩
instance Ex.neqnil [UPtr P t] [Ev l x v] [IsNil v b] : Ex P l (.binOp .neq t x (.const (.pointer none)) u) (.bool (!b)):=⟨fun _ _ ha _ _ _ _ _ _=>(UPtr.h (P:=P) (t:=t)).elim fun _ h=>ex_neqnil ha h⟩
instance Ex.extr0 [Ev l x (.tuple #[v1,v2])] : Ex P l (.extract x 0) v1:=⟨fun _ _ ha _ _ _ _ _ _=>ex_extract ha rfl⟩
instance Ex.extr1 [Ev l x (.tuple #[v1,v2])] : Ex P l (.extract x 1) v2:=⟨fun _ _ ha _ _ _ _ _ _=>ex_extract ha rfl⟩
instance Ex.len {ad : Option Addr} {m c : Nat} [USl P t] [Ev l x (.slice ad m c)] : Ex P l (.call ⟨.builtin .len,#[x],#[t]⟩) (.int .i64 m):=⟨fun _ _ ha _ _ _ _ _ _=>(USl.h (P:=P) (t:=t)).elim fun _ h=>ex_len ha h⟩
instance Ex.field {bb off f kk r : Nat} [Ev l x (.pointer (some ⟨bb,off,none⟩))] [UFld P t f kk] [AddOff off kk r] : Ex P l (.fieldAddr t x f) (.pointer (some ⟨bb,r,none⟩)):=⟨fun _ _ ha _ _ _ _ _ _=>by
 obtain ⟨fs,fl,z,sz,by',h1,h2,h3,h4⟩:=UFld.h (P:=P) (t:=t) (f:=f) (k:=kk)
 exact ex_fieldAddr ha h1 h2 h3 h4⟩
end
class BP (b : Bool) (p q : outParam Prop) : Prop where
 t : b=true→p
 f : b=false→q
instance BP.lt {i j : Int} : BP (decide (i < j)) (i < j) (j≤i):=⟨of_decide_eq_true,fun h=>Int.not_lt.1 (of_decide_eq_false h)⟩
instance BP.le {i j : Int} : BP (decide (i≤j)) (i≤j) (j < i):=⟨of_decide_eq_true,fun h=>Int.not_le.1 (of_decide_eq_false h)⟩
instance BP.eq {i j : Int} : BP (decide (i=j)) (i=j) (¬ i=j):=⟨of_decide_eq_true,of_decide_eq_false⟩
instance BP.ne {i j : Int} : BP (decide (i≠j)) (¬ i=j) (i=j):=⟨of_decide_eq_true,fun h=>Decidable.of_not_not (of_decide_eq_false h)⟩
instance BP.not {b : Bool} {p q : Prop} [h : BP b p q] : BP (!b) q p:=⟨fun e=>h.f (by simpa using e),fun e=>h.t (by simpa using e)⟩
instance (priority:=low) BP.dec {p : Prop} [Decidable p] : BP (decide p) p (¬ p):=⟨of_decide_eq_true,of_decide_eq_false⟩
instance (priority:=10) BP.any {b : Bool} : BP b (b=true) (b=false):=⟨id,id⟩
section
variable {P : Program} {ops : Array Oper} {Q : Exit→Act→World→Prop} {a : Act} {w w' W : World} {K : Act→World→Prop} {o : Oper} {n d : Nat} {l l' : List (Nat × Value)} {v : Value} {L R : List SP} {op : Go.Op} {ty : TypeId} {ps : String} {af : Array Edge} {rest : List Oper}
theorem S1 (ha : Fr a n l) [e : Ex P l op v] (h : ∀ a',Fr a' n ((d,v)::l)→wpList P ops Q rest a' w) (hf : okB d n l=true:=by rfl) : wpList P ops Q (⟨some d,op,ty,ps,af,none⟩::rest) a w :=
 wpList_k (st_set ha rfl (e.ex a n ha w _ _ _ _ _) hf h)
theorem S1d (ha : Fr a n l) [e : Ex P l op v] [k : Del l d l'] (h : ∀ a',Fr a' n ((d,v)::l')→wpList P ops Q rest a' w) (hf : okB d n l'=true:=by rfl) : wpList P ops Q (⟨some d,op,ty,ps,af,none⟩::rest) a w :=
 wpList_k (st_set (ha.del d) rfl (e.ex a n ha w _ _ _ _ _) hf h)
theorem S1g {s j : Nat} {b : Bool} (ha : Fr a n l) [k : Get l s (.bool b)] [e : Ex P l op v] (h : ∀ a',Fr a' n ((d,v)::l)→wpList P ops Q rest a' w) (hj : (ops[j]?).bind (·.dst)=some s:=by rfl) (hf : okB d n l=true:=by rfl) :
   wpList P ops Q (⟨some d,op,ty,ps,af,some (j,b)⟩::rest) a w :=
 wpList_k (st_set ha (wgT ha hj) (e.ex a n ha w _ _ _ _ _) hf h)
theorem SO {s j : Nat} {b c : Bool} (ha : Fr a n l) [k : Get l s (.bool c)] (h : ∀ a',Fr a' n l→wpList P ops Q rest a' w) (hj : (ops[j]?).bind (·.dst)=some s:=by rfl) (hc : (c == b)=false:=by rfl) (hf : okB d n l=true:=by rfl) :
   wpList P ops Q (⟨some d,op,ty,ps,af,some (j,b)⟩::rest) a w :=
 wpList_k (st_off ha (wgF ha hj hc) hf h)
theorem PT {c x y : Operand} (ha : Fr a n l) [e1 : Ev l c (.bool true)] [e2 : Ev l x v] (h : ∀ a',Fr a' n ((d,v)::l)→wpList P ops Q rest a' w) (hf : okB d n l=true:=by rfl) : wpList P ops Q (⟨some d,.pick c x y,ty,ps,af,none⟩::rest) a w :=
 wpList_k (st_set ha rfl (ex_pickT ha) hf h)
theorem PTg {s j : Nat} {b : Bool} {c x y : Operand} (ha : Fr a n l) [k : Get l s (.bool b)] [e1 : Ev l c (.bool true)] [e2 : Ev l x v] (h : ∀ a',Fr a' n ((d,v)::l)→wpList P ops Q rest a' w) (hj : (ops[j]?).bind (·.dst)=some s:=by rfl) (hf : okB d n l=true:=by rfl) :
   wpList P ops Q (⟨some d,.pick c x y,ty,ps,af,some (j,b)⟩::rest) a w :=
 wpList_k (st_set ha (wgT ha hj) (ex_pickT ha) hf h)
theorem PF {c x y : Operand} (ha : Fr a n l) [e1 : Ev l c (.bool false)] [e2 : Ev l y v] (h : ∀ a',Fr a' n ((d,v)::l)→wpList P ops Q rest a' w) (hf : okB d n l=true:=by rfl) : wpList P ops Q (⟨some d,.pick c x y,ty,ps,af,none⟩::rest) a w :=
 wpList_k (st_set ha rfl (ex_pickF ha) hf h)
theorem PFg {s j : Nat} {b : Bool} {c x y : Operand} (ha : Fr a n l) [k : Get l s (.bool b)] [e1 : Ev l c (.bool false)] [e2 : Ev l y v] (h : ∀ a',Fr a' n ((d,v)::l)→wpList P ops Q rest a' w) (hj : (ops[j]?).bind (·.dst)=some s:=by rfl) (hf : okB d n l=true:=by rfl) :
   wpList P ops Q (⟨some d,.pick c x y,ty,ps,af,some (j,b)⟩::rest) a w :=
 wpList_k (st_set ha (wgT ha hj) (ex_pickF ha) hf h)
theorem SL {x : Operand} {t : TypeId} {ad : Addr} (ha : Fr a n l) [ev : Ev l x (.pointer (some ad))] [u : UOne P t] (hc : w.cell? ad=some v) (h : ∀ a',Fr a' n ((d,v)::l)→wpList P ops Q rest a' w) (hf : okB d n l=true:=by rfl) :
   wpList P ops Q (⟨some d,.load t x,ty,ps,af,none⟩::rest) a w:=by
 obtain ⟨dd,h1,h2⟩:=u.h
 exact wpList_k (st_set ha rfl (ex_load1 ha h1 h2 hc) hf h)
theorem SLg {s j : Nat} {b : Bool} {x : Operand} {t : TypeId} {ad : Addr} (ha : Fr a n l) [k : Get l s (.bool b)] [ev : Ev l x (.pointer (some ad))] [u : UOne P t] (hc : w.cell? ad=some v) (h : ∀ a',Fr a' n ((d,v)::l)→wpList P ops Q rest a' w)
   (hj : (ops[j]?).bind (·.dst)=some s:=by rfl) (hf : okB d n l=true:=by rfl) : wpList P ops Q (⟨some d,.load t x,ty,ps,af,some (j,b)⟩::rest) a w:=by
 obtain ⟨dd,h1,h2⟩:=u.h
 exact wpList_k (st_set ha (wgT ha hj) (ex_load1 ha h1 h2 hc) hf h)
theorem SK (h : StepK P ops Q o (wpList P ops Q rest) a w) : wpList P ops Q (o::rest) a w:=h
theorem LN (h : Q .normal a w) : wpList P ops Q [] a w:=h
theorem TN {K : Act→World→Prop} (h : K a w) : Exit.then K Q .normal a w:=h
theorem TR {K : Act→World→Prop} (h : Q .ret a w) : Exit.then K Q .ret a w:=h
theorem TE {K : Act→World→Prop} {i : Nat} (h : Q (.exit i) a w) : Exit.then K Q (.exit i) a w:=h
theorem BN {i : Nat} (h : Q .normal a w) : Exit.inBlock i Q .normal a w:=h
theorem BR {i : Nat} (h : Q .ret a w) : Exit.inBlock i Q .ret a w:=h
theorem WS {x y : Code} (h : x.wp P (Exit.then (fun a w=>y.wp P Q a w) Q) a w) : (Code.seq x y).wp P Q a w:=wp_seq h
theorem WR {id : Nat} {l : List Oper} (h : wpList P l.toArray Q l a w) : (Code.region id l.toArray false).wp P Q a w:=wp_region_lit h
theorem WK (h : Q .normal a w) : (Code.skip).wp P Q a w:=wp_skip h
theorem WTr {c : Operand} {x y : Code} (ha : Fr a n l) [e : Ev l c (.bool true)] (h : x.wp P Q a w) : (Code.cond c x y).wp P Q a w:=wp_ifT ha h
theorem WFa {c : Operand} {x y : Code} (ha : Fr a n l) [e : Ev l c (.bool false)] (h : y.wp P Q a w) : (Code.cond c x y).wp P Q a w:=wp_ifF ha h
theorem WI {c : Operand} {b : Bool} {x y : Code} {p q : Prop} (ha : Fr a n l) [e : Ev l c (.bool b)] [B : BP b p q] (ht : p→x.wp P Q a w) (hf : q→y.wp P Q a w) : (Code.cond c x y).wp P Q a w :=
 wp_if ha (fun h=>ht (B.t h)) (fun h=>hf (B.f h))
theorem Fr.by {s : Nat} {c : Bool} {l'} {p q : Prop} (ha : Fr a n l) [k : Get l s (.bool c)] [e : Del l s l'] [B : BP c p q] {G : Prop}
   (ht : p→Fr a n ((s,.bool true)::l')→G) (hf : q→Fr a n ((s,.bool false)::l')→G) : G :=
 ha.bool (s:=s) (fun h=>ht (B.t h)) (fun h=>hf (B.f h))
/-! Orders. -/
variable {C : World→Prop} {need : List Nat} {i fuel m : Nat} {od : List Nat} {g : Option (Nat × Bool)}
abbrev wpO (P : Program) (ops : Array Oper) (Q : Exit→Act→World→Prop) (C : World→Prop) (need : List Nat) (_od : List Nat) (fuel m : Nat) (a : Act) (w : World) : Prop:=wpN P ops Q C need fuel (lb ops.size m) a w
def bitOn (m i : Nat) : Nat:=m ||| 2 ^ i
theorem lb_on (k m i : Nat) : (lb k m).setIfInBounds i true=lb k (bitOn m i):=by
 apply Array.ext_getElem?
 intro j
 simp only [lb,List.setIfInBounds_toArray,List.getElem?_toArray,List.getElem?_set,List.getElem?_map,List.length_map,List.length_range]
 by_cases hj : i=j
 · subst hj
   rw [if_pos rfl]
   by_cases hi : i < k
   · rw [if_pos hi,List.getElem?_range hi]; simp [bitOn]
   · rw [if_neg hi,List.getElem?_eq_none (by simpa using hi)]; rfl
 · rw [if_neg hj]
   by_cases hk : j < k
   · rw [List.getElem?_range hk]
     simp [bitOn,Nat.testBit_two_pow,hj]
   · rw [List.getElem?_eq_none (by simpa using hk)]; rfl
theorem DW {id m : Nat} (C : World→Prop) (need od : List Nat) (hm : P.follows .mixedOrders=true) (hQ : PanOk Q) (h : PanOk Q→wpO P ops Q C need od m 0 a w.drew) (hn : ops.size=m:=by kernel_rfl) : (Code.region id ops true).wp P Q a w:=by
 subst hn
 refine wp_draw (m:=ops.size) (l0:=lb ops.size 0) C need hm rfl ?_ hQ h
 apply Array.ext_getElem?
 intro j
 simp only [lb,Nat.zero_testBit,List.getElem?_toArray,List.getElem?_map,Array.getElem?_replicate]
 by_cases hj : j < ops.size
 · rw [if_pos hj,List.getElem?_range hj]; simp
 · rw [if_neg hj,List.getElem?_eq_none (by simpa using hj)]; rfl
theorem DQ (hQ : PanOk Q) (ha : Fr a n l) (hi : ops[i]?=some ⟨some d,op,ty,ps,af,g⟩) (hw : Region.wanted ⟨some d,op,ty,ps,af,g⟩ (yielded ops a.tmps)=true) (hr : ∀ w,(execOp a.eval ⟨some d,op,ty,ps,af,g⟩).run P w=.ok (.value v) w)
   (h : ∀ a',Fr a' n ((d,v)::l)→wpO P ops Q C need od fuel (bitOn m i) a' w) (ht : takeB ops (lb ops.size m) need true i=true:=by kernel_rfl) (hn : need.contains i=false:=by rfl) (hf : okB d n l=true:=by rfl) : wpO P ops Q C need (i::od) (fuel+1) m a w :=
 nt_pure (lb_on _ _ _) hi ht hn hQ ha hw hr hf h
theorem DP (hQ : PanOk Q) (ha : Fr a n l) (hi : ops[i]?=some ⟨some d,op,ty,ps,af,none⟩) [e : Ex P l op v]
   (h : ∀ a',Fr a' n ((d,v)::l)→wpO P ops Q C need od fuel (bitOn m i) a' w) (ht : takeB ops (lb ops.size m) need true i=true:=by kernel_rfl) (hn : need.contains i=false:=by rfl) (hf : okB d n l=true:=by rfl) : wpO P ops Q C need (i::od) (fuel+1) m a w :=
 nt_pure (lb_on _ _ _) hi ht hn hQ ha rfl (fun w=>e.ex a n ha w _ _ _ _ _) hf h
theorem DPg {s j : Nat} {b : Bool} (hQ : PanOk Q) (ha : Fr a n l) (hi : ops[i]?=some ⟨some d,op,ty,ps,af,some (j,b)⟩) [k : Get l s (.bool b)] [e : Ex P l op v]
   (h : ∀ a',Fr a' n ((d,v)::l)→wpO P ops Q C need od fuel (bitOn m i) a' w) (ht : takeB ops (lb ops.size m) need true i=true:=by kernel_rfl) (hn : need.contains i=false:=by rfl) (hj : (ops[j]?).bind (·.dst)=some s:=by rfl) (hf : okB d n l=true:=by rfl) : wpO P ops Q C need (i::od) (fuel+1) m a w :=
 nt_pure (lb_on _ _ _) hi ht hn hQ ha (wgT ha hj) (fun w=>e.ex a n ha w _ _ _ _ _) hf h
theorem DT {c x y : Operand} (hQ : PanOk Q) (ha : Fr a n l) (hi : ops[i]?=some ⟨some d,.pick c x y,ty,ps,af,none⟩) [e1 : Ev l c (.bool true)] [e2 : Ev l x v]
   (h : ∀ a',Fr a' n ((d,v)::l)→wpO P ops Q C need od fuel (bitOn m i) a' w) (ht : takeB ops (lb ops.size m) need true i=true:=by kernel_rfl) (hn : need.contains i=false:=by rfl) (hf : okB d n l=true:=by rfl) : wpO P ops Q C need (i::od) (fuel+1) m a w :=
 nt_pure (lb_on _ _ _) hi ht hn hQ ha rfl (fun w=>ex_pickT ha) hf h
theorem DF {c x y : Operand} (hQ : PanOk Q) (ha : Fr a n l) (hi : ops[i]?=some ⟨some d,.pick c x y,ty,ps,af,none⟩) [e1 : Ev l c (.bool false)] [e2 : Ev l y v]
   (h : ∀ a',Fr a' n ((d,v)::l)→wpO P ops Q C need od fuel (bitOn m i) a' w) (ht : takeB ops (lb ops.size m) need true i=true:=by kernel_rfl) (hn : need.contains i=false:=by rfl) (hf : okB d n l=true:=by rfl) : wpO P ops Q C need (i::od) (fuel+1) m a w :=
 nt_pure (lb_on _ _ _) hi ht hn hQ ha rfl (fun w=>ex_pickF ha) hf h
theorem DH (hQ : PanOk Q) (ha : Fr a n l) (hi : ops[i]?=some ⟨some d,op,ty,ps,af,g⟩) (hw : Region.wanted ⟨some d,op,ty,ps,af,g⟩ (yielded ops a.tmps)=true) (hr : ∀ w,C w→(execOp a.eval ⟨some d,op,ty,ps,af,g⟩).run P w=.ok (.value v) w) (hC : C w)
   (h : ∀ a',Fr a' n ((d,v)::l)→wpO P ops Q C need od fuel (bitOn m i) a' w) (ht : takeB ops (lb ops.size m) need false i=true:=by kernel_rfl) (hf : okB d n l=true:=by rfl) : wpO P ops Q C need (i::od) (fuel+1) m a w :=
 nt_held (lb_on _ _ _) hi ht hQ ha hw hr hC hf h
theorem DL {x : Operand} {t : TypeId} {ad : Addr} (hQ : PanOk Q) (ha : Fr a n l) (hi : ops[i]?=some ⟨some d,.load t x,ty,ps,af,none⟩) [ev : Ev l x (.pointer (some ad))] [u : UOne P t] (hc : ∀ w,C w→w.cell? ad=some v) (hC : C w)
   (h : ∀ a',Fr a' n ((d,v)::l)→wpO P ops Q C need od fuel (bitOn m i) a' w) (ht : takeB ops (lb ops.size m) need false i=true:=by kernel_rfl) (hf : okB d n l=true:=by rfl) : wpO P ops Q C need (i::od) (fuel+1) m a w:=by
 obtain ⟨dd,h1,h2⟩:=u.h
 exact nt_held (lb_on _ _ _) hi ht hQ ha rfl (fun w h=>ex_load1 ha h1 h2 (hc w h)) hC hf h
theorem DO {s j : Nat} {b c : Bool} (hQ : PanOk Q) (ha : Fr a n l) (hi : ops[i]?=some ⟨some d,op,ty,ps,af,some (j,b)⟩) [k : Get l s (.bool c)]
   (h : ∀ a',Fr a' n l→wpO P ops Q C need od fuel (bitOn m i) a' w) (ht : takeB ops (lb ops.size m) need true i=true:=by kernel_rfl) (hn : need.contains i=false:=by rfl) (hj : (ops[j]?).bind (·.dst)=some s:=by rfl) (hc : (c == b)=false:=by rfl) (hf : okB d n l=true:=by rfl) : wpO P ops Q C need (i::od) (fuel+1) m a w :=
 nt_off (lb_on _ _ _) hi ht hn hQ ha (wgF ha hj hc) hf h
theorem DOH {s j : Nat} {b c : Bool} (hQ : PanOk Q) (ha : Fr a n l) (hi : ops[i]?=some ⟨some d,op,ty,ps,af,some (j,b)⟩) [k : Get l s (.bool c)] (hC : C w)
   (h : ∀ a',Fr a' n l→wpO P ops Q C need od fuel (bitOn m i) a' w) (ht : takeB ops (lb ops.size m) need false i=true:=by kernel_rfl) (hj : (ops[j]?).bind (·.dst)=some s:=by rfl) (hc : (c == b)=false:=by rfl) (hf : okB d n l=true:=by rfl) : wpO P ops Q C need (i::od) (fuel+1) m a w :=
 nt_offH (lb_on _ _ _) hi ht hQ ha (wgF ha hj hc) hC hf h
theorem D1 (hi : ops[i]?=some o) (h : StepK P ops Q o (fun a' w'=>(need.contains i=true→C w')∧wpO P ops Q C need od fuel (bitOn m i) a' w') a w) (hr : Region.ready .any ops (lb ops.size m)=[i]:=by kernel_rfl) : wpO P ops Q C need (i::od) (fuel+1) m a w :=
 nt_one (lb_on _ _ _) hr hi h
theorem D2 {j : Nat} {o' : Oper} (od1 od2 : List Nat) (hr : Region.ready .any ops (lb ops.size m)=[i,j]) (hi : ops[i]?=some o) (hj : ops[j]?=some o')
   (h1 : StepK P ops Q o (fun a' w'=>(need.contains i=true→C w')∧wpO P ops Q C need od1 fuel (bitOn m i) a' w') a w) (h2 : StepK P ops Q o' (fun a' w'=>(need.contains j=true→C w')∧wpO P ops Q C need od2 fuel (bitOn m j) a' w') a w) : wpO P ops Q C need od (fuel+1) m a w :=
 nt_two (lb_on _ _ _) (lb_on _ _ _) hr hi hj h1 h2
theorem DD (h : Q .normal a w) (hr : Region.ready .any ops (lb ops.size m)=[]:=by kernel_rfl) : wpO P ops Q C need [] fuel m a w:=nt_done hr h fuel
end
end Go.Proofs.YtagpkhbkdbaigaaGreat
