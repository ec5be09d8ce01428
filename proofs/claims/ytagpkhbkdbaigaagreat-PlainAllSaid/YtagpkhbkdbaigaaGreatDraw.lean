/- A statement whose order is open: what is sure is taken first, in the order of the text; what acts comes when nothing else can. -/
import Derived.Test.YtagpkhbkdbaigaaGreatSlice
import Derived.OrdersHeld
namespace Go.Proofs.YtagpkhbkdbaigaaGreat
open Go.RowKit
set_option linter.unusedVariables false
set_option linter.unusedSimpArgs false
def wpN (P : Program) (ops : Array Oper) (Q : Exit→Act→World→Prop) (C : World→Prop) (need : List Nat) : Nat→Array Bool→Act→World→Prop
 | 0,listed,a,w=>Region.ready .any ops listed=[]∧Q .normal a w
 | fuel+1,listed,a,w =>
   (Region.ready .any ops listed=[]→Q .normal a w) ∧
   ∀ i∈Region.ready .any ops listed,wpOp P ops Q i (fun a' w'=>(need.contains i=true→C w')∧wpN P ops Q C need fuel (listed.setIfInBounds i true) a' w') a w
def maskOf (acc : List Nat) (es : List Edge) : Nat:=es.foldl (fun s e=>if Region.binds .any e then s ||| 2 ^ e.on ||| acc.getD e.on 0 else s) 0
def masks : List Oper→List Nat→List Nat
 | [],acc=>acc
 | o::r,acc=>masks r (acc++[maskOf acc o.after.toList])
def dcB (ops : Array Oper) (listed : Array Bool) : Bool :=
 (List.range ops.size).all fun j=>!listed.getD j false || match ops[j]? with
   | none=>true
   | some o=>o.after.all fun e=>!Region.binds .any e || listed.getD e.on false
def DC (ops : Array Oper) (listed : Array Bool) : Prop:=∀ j o,ops[j]?=some o→listed.getD j false=true→∀ e∈o.after,Region.binds .any e=true→listed.getD e.on false=true
def takeB (ops : Array Oper) (listed : Array Bool) (need : List Nat) (pure : Bool) (i : Nat) : Bool :=
 Region.noSelect ops && dcB ops listed && (Region.ready .any ops listed).contains i && match ops[i]? with
   | none=>false
   | some oi=>(List.range ops.size).all fun j=>j == i || listed.getD j true || ((masks ops.toList []).getD j 0).testBit i || match ops[j]? with
     | none=>true
     | some oj=>oi.apart ops oj && (pure || need.contains j)
def lb (n m : Nat) : Array Bool:=((List.range n).map m.testBit).toArray
def PanOk (Q : Exit→Act→World→Prop) : Prop:=∀ c a (o : Option Tmp) v w,Q (.panic c) (a.put o v) w→Q (.panic c) a w
theorem pk_then {K Q} (h : PanOk Q) : PanOk (Exit.then K Q):=h
theorem pk_blk {i Q} (h : PanOk Q) : PanOk (Exit.inBlock i Q):=h
theorem pk_body {P fn X} : PanOk (bodyPost P fn X):=fun c a o v w h=>by
 cases o <;> exact h
section
variable {P : Program} {ops : Array Oper} {Q : Exit→Act→World→Prop} {C : World→Prop} {need : List Nat} {a : Act} {w : World} {n d : Nat} {l : List (Nat × Value)} {v : Value}
theorem wpN_any : ∀ (fuel : Nat) (listed : Array Bool) (a : Act) (w : World),wpN P ops Q C need fuel listed a w→wpAny P .any ops Q fuel listed a w
 | 0,_,_,_,h=>h
 | fuel+1,_,_,_,h=>⟨h.1,fun i hi=>wpOp_mono (fun a' w' h'=>wpN_any fuel _ a' w' h'.2) (h.2 i hi)⟩
theorem dc_of {listed : Array Bool} (h : dcB ops listed=true) : DC ops listed:=by
 intro j o hj hl e he hb
 have hlt : j < ops.size:=(Array.getElem?_eq_some_iff.1 hj).1
 have h1:=List.all_eq_true.1 h j (List.mem_range.2 hlt)
 simp only [hl,hj,Bool.not_true,Bool.false_or] at h1
 have h2:=Array.all_eq_true_iff_forall_mem.1 h1 e he
 simpa [hb] using h2
theorem DC.set {listed : Array Bool} (h : DC ops listed) {i : Nat} (hi : i∈Region.ready .any ops listed) : DC ops (listed.setIfInBounds i true):=by
 intro j o hj hl e he hb
 obtain ⟨_,oi,hoi,hall⟩:=mem_ready.1 hi
 by_cases hji : j=i
 · subst hji
   rw [hoi] at hj; cases hj
   exact getD_set_true (hall e he hb)
 · rw [getD_set_ne false (Ne.symm hji)] at hl
   exact getD_set_true (h j o hj hl e he hb)
theorem maskOf_bit {acc : List Nat} {i : Nat} : ∀ (es : List Edge) (s : Nat),(es.foldl (fun s e=>if Region.binds .any e then s ||| 2 ^ e.on ||| acc.getD e.on 0 else s) s).testBit i=true →
   s.testBit i=true∨∃ e∈es,Region.binds .any e=true∧(e.on=i∨(acc.getD e.on 0).testBit i=true)
 | [],s,h=>.inl h
 | e::es,s,h=>by
   simp only [List.foldl_cons] at h
   rcases maskOf_bit es _ h with h1 | ⟨x,hx,hb,hi⟩
   · cases hb : Region.binds .any e with
     | false=>rw [hb] at h1; exact .inl (by simpa using h1)
     | true =>
       rw [hb,if_pos rfl] at h1
       simp only [Nat.testBit_or,Bool.or_eq_true,Nat.testBit_two_pow,decide_eq_true_eq] at h1
       rcases h1 with (h1 | h1) | h1
       · exact .inl h1
       · exact .inr ⟨e,List.mem_cons_self,hb,.inl h1⟩
       · exact .inr ⟨e,List.mem_cons_self,hb,.inr h1⟩
   · exact .inr ⟨x,List.mem_cons_of_mem _ hx,hb,hi⟩
theorem masks_in {listed : Array Bool} (h : DC ops listed) : ∀ (r : List Oper) (acc : List Nat),(∀ j,r[j]?=ops[acc.length+j]?) →
   (∀ k,k < acc.length→(∀ o,ops[k]?=some o→∀ e∈o.after,Region.binds .any e=true→listed.getD e.on false=true)→∀ i,(acc.getD k 0).testBit i=true→listed.getD i false=true) →
   ∀ k,(∀ o,ops[k]?=some o→∀ e∈o.after,Region.binds .any e=true→listed.getD e.on false=true)→∀ i,((masks r acc).getD k 0).testBit i=true→listed.getD i false=true
 | [],acc,_,hinv,k,hk,i,hb=>by
   rcases Nat.lt_or_ge k acc.length with hlt | hge
   · exact hinv k hlt hk i hb
   · simp [masks,List.getD_eq_getElem?_getD,List.getElem?_eq_none hge] at hb
 | o::r,acc,hr,hinv,k,hk,i,hb=>by
   refine masks_in h r (acc++[maskOf acc o.after.toList]) (fun j=>?_) ?_ k hk i hb
   · have:=hr (j+1)
     simp only [List.getElem?_cons_succ] at this
     rw [this]; congr 1; simp; omega
   · intro k' hk' hk2 i' hb'
     simp only [List.length_append,List.length_cons,List.length_nil] at hk'
     rcases Nat.lt_or_ge k' acc.length with hlt | hge
     · rw [List.getD_eq_getElem?_getD,List.getElem?_append_left hlt,← List.getD_eq_getElem?_getD] at hb'
       exact hinv k' hlt hk2 i' hb'
     · obtain rfl : k'=acc.length:=by omega
       rw [List.getD_eq_getElem?_getD,List.getElem?_append_right (Nat.le_refl _)] at hb'
       simp only [Nat.sub_self,List.getElem?_cons_zero,Option.getD_some] at hb'
       have ho : ops[acc.length]?=some o:=by have:=hr 0; simpa using this.symm
       rcases maskOf_bit _ _ hb' with h1 | ⟨e,he,hbd,h1⟩
       · simp at h1
       · have hle:=hk2 o ho e (Array.mem_toList_iff.1 he) hbd
         rcases h1 with h1 | h1
         · rw [← h1]; exact hle
         · rcases Nat.lt_or_ge e.on acc.length with hlt | hge2
           · exact hinv e.on hlt (fun o' ho' e' he' hb2=>h e.on o' ho' hle e' he' hb2) i' h1
           · simp [List.getD_eq_getElem?_getD,List.getElem?_eq_none hge2] at h1
theorem not_waits {listed : Array Bool} (h : DC ops listed) {i : Nat} (hi : listed.getD i false=false) (k : Nat) (hk : ∀ o,ops[k]?=some o→∀ e∈o.after,Region.binds .any e=true→listed.getD e.on false=true) :
   ((masks ops.toList []).getD k 0).testBit i=false:=by
 cases hb : ((masks ops.toList []).getD k 0).testBit i with
 | false=>rfl
 | true =>
   have:=masks_in h ops.toList [] (fun j=>by simp) (fun k hk=>by simp at hk) k hk i hb
   rw [hi] at this; cases this
theorem wpN_first {T : World→Prop} {i : Nat} {oi : Oper} (hi : ops[i]?=some oi) (hs : Region.noSelect ops=true) (hQ : PanOk Q) :
   ∀ (fuel : Nat) (listed : Array Bool) (a : Act) (w : World),
     (∀ j oj,ops[j]?=some oj→j≠i→listed.getD j true=false→((masks ops.toList []).getD j 0).testBit i=false→oi.apart ops oj=true∧∀ w',(need.contains j=true→C w')→T w') →
     DC ops listed→i∈Region.ready .any ops listed→YieldsIf P ops T oi v a→T w→(∀ w',T w'→need.contains i=true→C w') →
     wpN P ops Q C need fuel (listed.setIfInBounds i true) (a.put oi.dst v) w→wpN P ops Q C need (fuel+1) listed a w:=by
 have hsel:=Region.noSelect_spec hs
 intro fuel
 induction fuel with
 | zero =>
   intro listed a w _ _ hr hy hT hTC H
   refine ⟨fun h=>(by rw [h] at hr; cases hr),fun j hj=>?_⟩
   by_cases hji : j=i
   · subst hji; exact hy.wpOp hi hT ⟨hTC w hT,H⟩
   · have:=ready_mono hj hji
     rw [H.1] at this
     cases this
 | succ fuel ih =>
   intro listed a w hfree hdc hr hy hT hTC H
   refine ⟨fun h=>(by rw [h] at hr; cases hr),fun j hj=>?_⟩
   by_cases hji : j=i
   · subst hji; exact hy.wpOp hi hT ⟨hTC w hT,H⟩
   · have h1:=H.2 j (ready_mono hj hji)
     obtain ⟨hjun,oj,hoj,hall⟩:=mem_ready.1 hj
     have hiun : listed.getD i false=false:=by
       have h0:=(mem_ready.1 hr).1
       rcases Nat.lt_or_ge i listed.size with h' | h'
       · simp [h'] at h0 ⊢; exact h0
       · simp [Array.getElem?_eq_none h']
     have hnw:=not_waits hdc hiun j (fun o ho e he hb=>by rw [hoj] at ho; cases ho; exact hall e he hb)
     obtain ⟨hap,hst⟩:=hfree j oj hoj hji hjun hnw
     have h2:=wpOp_putIf (S:=T) hoj hap (fun cs b=>hsel i oi cs b hi) (fun cs b=>hsel j oj cs b hoj) (fun c a w=>hQ c a oi.dst v w) hy h1
     have hfree' : ∀ k ok,ops[k]?=some ok→k≠i→(listed.setIfInBounds j true).getD k true=false→((masks ops.toList []).getD k 0).testBit i=false→oi.apart ops ok=true∧∀ w',(need.contains k=true→C w')→T w':=fun k ok hk hki hun hno=>by
       refine hfree k ok hk hki ?_ hno
       by_cases hjk : j=k
       · subst hjk; exact hjun
       · rw [getD_set_ne true hjk] at hun; exact hun
     refine wpOp_mono (fun a' w' h3=>⟨h3.2.1,ih (listed.setIfInBounds j true) a' w' hfree' (hdc.set hj) (ready_mono hr (Ne.symm hji)) h3.1 (hst w' h3.2.1) hTC ?_⟩) h2
     rw [Array.setIfInBounds_comm _ _ hji]
     exact h3.2.2
theorem wpN_pure {i fuel : Nat} {listed : Array Bool} {oi : Oper} (hi : ops[i]?=some oi) (ht : takeB ops listed need true i=true) (hn : need.contains i=false) (hQ : PanOk Q)
   (hy : YieldsIf P ops (fun _=>True) oi v a)
   (h : wpN P ops Q C need fuel (listed.setIfInBounds i true) (a.put oi.dst v) w) : wpN P ops Q C need (fuel+1) listed a w:=by
 simp only [takeB,hi,Bool.and_eq_true,List.all_eq_true,List.mem_range] at ht
 obtain ⟨⟨⟨h1,h2⟩,h3⟩,h4⟩:=ht
 refine wpN_first (T:=fun _=>True) hi h1 hQ fuel listed a w (fun j oj hj hne hun hnw=>?_) (dc_of h2) (by simpa using h3) hy trivial (fun _ _ h=>by rw [hn] at h; cases h) h
 have h5:=h4 j (Array.getElem?_eq_some_iff.1 hj).1
 simp only [hj,hnw,hun,Bool.or_eq_true,beq_iff_eq,hne,Bool.false_eq_true,Bool.and_eq_true,false_or,or_false] at h5
 exact ⟨h5.1,fun _ _=>trivial⟩
theorem wpN_held {i fuel : Nat} {listed : Array Bool} {oi : Oper} (hi : ops[i]?=some oi) (ht : takeB ops listed need false i=true) (hQ : PanOk Q)
   (hy : YieldsIf P ops C oi v a) (hC : C w)
   (h : wpN P ops Q C need fuel (listed.setIfInBounds i true) (a.put oi.dst v) w) : wpN P ops Q C need (fuel+1) listed a w:=by
 simp only [takeB,hi,Bool.and_eq_true,List.all_eq_true,List.mem_range] at ht
 obtain ⟨⟨⟨h1,h2⟩,h3⟩,h4⟩:=ht
 refine wpN_first (T:=C) hi h1 hQ fuel listed a w (fun j oj hj hne hun hnw=>?_) (dc_of h2) (by simpa using h3) hy hC (fun _ h _=>h) h
 have h5:=h4 j (Array.getElem?_eq_some_iff.1 hj).1
 simp only [hj,hnw,hun,Bool.or_eq_true,beq_iff_eq,hne,Bool.false_eq_true,Bool.and_eq_true,false_or,or_false] at h5
 exact ⟨h5.1,fun w' hw'=>hw' h5.2⟩
theorem nt_pure {i fuel : Nat} {listed listed' : Array Bool} (hl : listed.setIfInBounds i true=listed') {op ty ps af g} (hi : ops[i]?=some ⟨some d,op,ty,ps,af,g⟩) (ht : takeB ops listed need true i=true) (hn : need.contains i=false) (hQ : PanOk Q)
   (ha : Fr a n l) (hw : Region.wanted ⟨some d,op,ty,ps,af,g⟩ (yielded ops a.tmps)=true) (hr : ∀ w,(execOp a.eval ⟨some d,op,ty,ps,af,g⟩).run P w=.ok (.value v) w) (hf : okB d n l=true)
   (h : ∀ a',Fr a' n ((d,v)::l)→wpN P ops Q C need fuel listed' a' w) : wpN P ops Q C need (fuel+1) listed a w:=by
 subst hl; exact wpN_pure hi ht hn hQ (.inl ⟨hw,fun w _=>hr w⟩) (h _ (ha.put hf v))
theorem nt_held {i fuel : Nat} {listed listed' : Array Bool} (hl : listed.setIfInBounds i true=listed') {op ty ps af g} (hi : ops[i]?=some ⟨some d,op,ty,ps,af,g⟩) (ht : takeB ops listed need false i=true) (hQ : PanOk Q)
   (ha : Fr a n l) (hw : Region.wanted ⟨some d,op,ty,ps,af,g⟩ (yielded ops a.tmps)=true) (hr : ∀ w,C w→(execOp a.eval ⟨some d,op,ty,ps,af,g⟩).run P w=.ok (.value v) w) (hC : C w) (hf : okB d n l=true)
   (h : ∀ a',Fr a' n ((d,v)::l)→wpN P ops Q C need fuel listed' a' w) : wpN P ops Q C need (fuel+1) listed a w:=by
 subst hl; exact wpN_held hi ht hQ (.inl ⟨hw,hr⟩) hC (h _ (ha.put hf v))
theorem nt_off {i fuel : Nat} {listed listed' : Array Bool} (hl : listed.setIfInBounds i true=listed') {op ty ps af g} (hi : ops[i]?=some ⟨some d,op,ty,ps,af,g⟩) (ht : takeB ops listed need true i=true) (hn : need.contains i=false) (hQ : PanOk Q)
   (ha : Fr a n l) (hw : Region.wanted ⟨some d,op,ty,ps,af,g⟩ (yielded ops a.tmps)=false) (hf : okB d n l=true)
   (h : ∀ a',Fr a' n l→wpN P ops Q C need fuel listed' a' w) : wpN P ops Q C need (fuel+1) listed a w:=by
 subst hl; exact wpN_pure hi ht hn hQ (.inr ⟨hw,rfl⟩) (h _ (ha.putOff hf undef))
theorem nt_offH {i fuel : Nat} {listed listed' : Array Bool} (hl : listed.setIfInBounds i true=listed') {op ty ps af g} (hi : ops[i]?=some ⟨some d,op,ty,ps,af,g⟩) (ht : takeB ops listed need false i=true) (hQ : PanOk Q)
   (ha : Fr a n l) (hw : Region.wanted ⟨some d,op,ty,ps,af,g⟩ (yielded ops a.tmps)=false) (hC : C w) (hf : okB d n l=true)
   (h : ∀ a',Fr a' n l→wpN P ops Q C need fuel listed' a' w) : wpN P ops Q C need (fuel+1) listed a w:=by
 subst hl; exact wpN_held hi ht hQ (.inr ⟨hw,rfl⟩) hC (h _ (ha.putOff hf undef))
theorem nt_one {i fuel : Nat} {listed listed' : Array Bool} (hl : listed.setIfInBounds i true=listed') {o : Oper} (hr : Region.ready .any ops listed=[i]) (hi : ops[i]?=some o)
   (h : StepK P ops Q o (fun a' w'=>(need.contains i=true→C w')∧wpN P ops Q C need fuel listed' a' w') a w) : wpN P ops Q C need (fuel+1) listed a w:=by
 subst hl
 refine ⟨fun h0=>(by rw [hr] at h0; cases h0),fun j hj=>?_⟩
 rw [hr] at hj
 obtain rfl : j=i:=by simpa using hj
 simp only [wpOp,hi]
 exact h
theorem nt_done {listed : Array Bool} (hr : Region.ready .any ops listed=[]) (h : Q .normal a w) : ∀ fuel,wpN P ops Q C need fuel listed a w
 | 0=>⟨hr,h⟩
 | _+1=>⟨fun _=>h,by rw [hr]; simp⟩
theorem wp_draw {id m : Nat} {l0 : Array Bool} (C : World→Prop) (need : List Nat) (hm : P.follows .mixedOrders=true) (hn : ops.size=m) (hl : Array.replicate m false=l0) (hQ : PanOk Q) (h : PanOk Q→wpN P ops Q C need m l0 a w.drew) : (Code.region id ops true).wp P Q a w:=by
 subst hl; subst hn
 exact wp_region_any hm (wpN_any _ _ _ _ (h hQ))
theorem Old.rd {w0 w : World} (h : Old w0 w) {b off : Nat} {vs : List Value} (hc : Rd w0 b off vs) : Rd w b off vs:=fun j v hj=>h.cell (hc j v hj)
end
section
variable {P : Program} {ops : Array Oper} {Q : Exit→Act→World→Prop} {C : World→Prop} {need : List Nat} {a : Act} {w : World}
theorem nt_two {i j fuel : Nat} {listed li lj : Array Bool} (hli : listed.setIfInBounds i true=li) (hlj : listed.setIfInBounds j true=lj) {o o' : Oper} (hr : Region.ready .any ops listed=[i,j]) (hi : ops[i]?=some o) (hj : ops[j]?=some o')
   (h1 : StepK P ops Q o (fun a' w'=>(need.contains i=true→C w')∧wpN P ops Q C need fuel li a' w') a w) (h2 : StepK P ops Q o' (fun a' w'=>(need.contains j=true→C w')∧wpN P ops Q C need fuel lj a' w') a w) : wpN P ops Q C need (fuel+1) listed a w:=by
 subst hli; subst hlj
 refine ⟨fun h0=>(by rw [hr] at h0; cases h0),fun k hk=>?_⟩
 rw [hr] at hk
 rcases List.mem_cons.1 hk with rfl | hk
 · simp only [wpOp,hi]; exact h1
 · obtain rfl:=List.mem_singleton.1 hk
   simp only [wpOp,hj]; exact h2
end
end Go.Proofs.YtagpkhbkdbaigaaGreat
