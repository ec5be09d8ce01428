/- Steps that look into memory, write it, make it; calls. -/
import Derived.Test.YtagpkhbkdbaigaaGreatOp
import Derived.Deep.LoopGhost
namespace Go.Proofs.YtagpkhbkdbaigaaGreat
open Go.RowKit
set_option linter.unusedVariables false
set_option linter.unusedSimpArgs false
def TI (P : Program) (t : TypeId) (z : Value) (size bytes : Nat) : Prop:=(P.info? t).map (fun i=>(i.zero,i.size,i.bytes))=some (some z,size,bytes)
theorem TI.of {P : Program} {t : TypeId} {z : Value} {size bytes : Nat} (h : (P.info? t).map (fun i=>(i.zero,i.size,i.bytes))=some (some z,size,bytes)) : TI P t z size bytes:=h
def isOne : TypeDesc→Bool | .struct _ | .array _ _=>false | _=>true
class Blk (L : List SP) (b : Nat) (e : outParam TypeId) (cs : outParam (List Value)) (R : outParam (List SP)) : Prop where perm : L.Perm (blk b e cs::R)
instance Blk.head {L b e cs} : Blk (blk b e cs::L) b e cs L:=⟨List.Perm.refl _⟩
instance (priority:=low) Blk.tail {A L b e cs R} [h : Blk L b e cs R] : Blk (A::L) b e cs (A::R) :=
 ⟨(List.Perm.cons A h.perm).trans (List.Perm.swap _ _ _)⟩
class Cells (v : Value) (vs : outParam (List Value)) : Prop where h : v.cells=vs.toArray
instance {vs : List Value} : Cells (.agg vs.toArray) vs:=⟨rfl⟩
instance {b} : Cells (.bool b) [.bool b]:=⟨rfl⟩
instance {k i} : Cells (.int k i) [.int k i]:=⟨rfl⟩
instance {s} : Cells (.string s) [.string s]:=⟨rfl⟩
instance {p} : Cells (.pointer p) [.pointer p]:=⟨rfl⟩
instance {p n c} : Cells (.slice p n c) [.slice p n c]:=⟨rfl⟩
instance {m} : Cells (.map m) [.map m]:=⟨rfl⟩
instance {f x y} : Cells (.func f x y) [.func f x y]:=⟨rfl⟩
instance : Cells .nilFunc [.nilFunc]:=⟨rfl⟩
instance : Cells .nilIface [.nilIface]:=⟨rfl⟩
instance {t v} : Cells (.iface t v) [.iface t v]:=⟨rfl⟩
class SetC (cs : List Value) (i : Nat) (v : Value) (cs' : outParam (List Value)) : Prop where h : cs.set i v=cs'
instance (priority:=low) SetC.any {cs i v} : SetC cs i v (cs.set i v):=⟨rfl⟩
instance SetC.zero {c cs v} : SetC (c::cs) 0 v (v::cs):=⟨rfl⟩
instance SetC.succ {c cs i v cs'} [h : SetC cs i v cs'] : SetC (c::cs) (i+1) v (c::cs'):=⟨by rw [List.set_cons_succ,h.h]⟩
class SubC (cs : List Value) (off m : Nat) (vs : outParam (List Value)) : Prop where h : (cs.drop off).take m=vs
instance (priority:=low) SubC.any {cs off m} : SubC cs off m ((cs.drop off).take m):=⟨rfl⟩
instance SubC.nil {cs} : SubC cs 0 0 []:=⟨by simp⟩
instance SubC.cons {x cs m vs} [h : SubC cs 0 m vs] : SubC (x::cs) 0 (m+1) (x::vs):=⟨by
 have:=h.h; simp only [List.drop_zero] at *; rw [List.take_succ_cons,this]⟩
instance SubC.skip {x cs o m vs} [h : SubC cs o m vs] : SubC (x::cs) (o+1) m vs:=⟨by rw [List.drop_succ_cons]; exact h.h⟩
class AddOff (o k : Nat) (r : outParam Nat) : Prop where h : o+k=r
instance (priority:=low) AddOff.any {o k} : AddOff o k (o+k):=⟨rfl⟩
instance AddOff.left {o} : AddOff o 0 o:=⟨rfl⟩
instance AddOff.right {k} : AddOff 0 k k:=⟨Nat.zero_add k⟩
def Rd (w : World) (b off : Nat) (vs : List Value) : Prop:=∀ j v,vs[j]?=some v→w.cell? ⟨b,off+j,none⟩=some v
theorem add_off (b o k : Nat) : (⟨b,o,none⟩ : Addr).add k=⟨b,o+k,none⟩:=by unfold Addr.add; split <;> simp_all
section
variable {P : Program} {W w : World} {L R : List SP} {b e : Nat} {cs : List Value}
theorem St.bring (s : St W w L) (b : Nat) [k : Blk L b e cs R] : St W w (blk b e cs::R):=s.perm k.perm
theorem St.rd1 (s : St W w L) [k : Blk L b e cs R] {off : Nat} {v : Value} (h : cs[off]?=some v) : w.cell? ⟨b,off,none⟩=some v:=by
 rw [(s.perm k.perm).cell]; exact h
theorem St.rdN (s : St W w L) [k : Blk L b e cs R] {off : Nat} (m : Nat) {vs : List Value} [sc : SubC cs off m vs] : Rd w b off vs:=by
 have h:=sc.h
 intro j v hj
 rw [(s.perm k.perm).cell]
 rw [← h,List.getElem?_take] at hj
 by_cases hm : j < m
 · rw [if_pos hm,List.getElem?_drop] at hj; exact hj
 · rw [if_neg hm] at hj; cases hj
theorem St.rdAll (s : St W w L) [k : Blk L b e cs R] : Rd w b 0 cs:=by
 intro j v hj
 rw [(s.perm k.perm).cell,Nat.zero_add]; exact hj
theorem run_load1 {t dd} {ad : Addr} {v : Value} (hu : P.underlying t=some dd) (hd : isOne dd=true) (hc : w.cell? ad=some v) : (loadVar t ad).run P w=.ok v w:=by
 have : (isAgg t).run P w=.ok false w:=by
   simp only [isAgg,Sem.run_bind,run_underlying hu,Result.andThen_ok]
   cases dd <;> first | rfl | (simp [isOne] at hd)
 simp [loadVar,this,load,Sem.run,hc]
theorem run_loadN {t dd z by'} {off : Nat} {vs : List Value} (hu : P.underlying t=some dd) (hd : isOne dd=false) (hi : TI P t z vs.length by') (hc : Rd w b off vs) :
   (loadVar t ⟨b,off,none⟩).run P w=.ok (.agg vs.toArray) w:=by
 have h1 : (isAgg t).run P w=.ok true w:=by
   simp only [isAgg,Sem.run_bind,run_underlying hu,Result.andThen_ok]
   cases dd <;> first | rfl | (simp [isOne] at hd)
 obtain ⟨i,h2,_,h3,_⟩:=info_parts hi
 have h4 : (sizeOf t).run P w=.ok vs.length w:=by simp [sizeOf,typeInfo,h2,h3]
 have h5:=run_loadCells_list (P:=P) w ⟨b,off,none⟩ vs (fun j v hj=>by rw [add_off]; exact hc j v hj)
 simp [loadVar,h1,h4,h5]
end
section
variable {P : Program} {ops : Array Oper} {Q : Exit→Act→World→Prop} {a : Act} {w w' W : World} {K : Act→World→Prop} {o : Oper} {n d : Nat} {l : List (Nat × Value)} {v : Value} {L R : List SP}
theorem ex_load1 {x ad t dd dst ty ps af g} (ha : Fr a n l) (hu : P.underlying t=some dd) (hd : isOne dd=true) [ev : Ev l x (.pointer (some ad))] (hc : w.cell? ad=some v) :
   (execOp a.eval ⟨dst,.load t x,ty,ps,af,g⟩).run P w=.ok (.value v) w:=by
 simp [execOp,ev.ev a n ha,Instr.loadAt,Instr.sureAddr,run_load1 hu hd hc]
theorem ex_loadN {x b off t dd z by' vs dst ty ps af g} (ha : Fr a n l) (hu : P.underlying t=some dd) (hd : isOne dd=false) (hi : TI P t z (List.length vs) by') [ev : Ev l x (.pointer (some ⟨b,off,none⟩))] (hc : Rd w b off vs) :
   (execOp a.eval ⟨dst,.load t x,ty,ps,af,g⟩).run P w=.ok (.value (.agg vs.toArray)) w:=by
 simp [execOp,ev.ev a n ha,Instr.loadAt,Instr.sureAddr,run_loadN hu hd hi hc]
theorem run_size {t z sz by'} (hi : TI P t z sz by') : (sizeOf t).run P w=.ok sz w:=by
 obtain ⟨i,h2,_,h3,_⟩:=info_parts hi
 simp [sizeOf,typeInfo,h2,h3]
theorem run_zero {t z sz by'} (hi : TI P t z sz by') : (zeroValue t).run P w=.ok z w:=by
 obtain ⟨i,h2,h1,h3,_⟩:=info_parts hi
 simp [zeroValue,typeInfo,h2,h1]
theorem st_alloc {t z sz by' zs ty ps af g} (ha : Fr a n l) (hw : Region.wanted ⟨some d,.alloc t,ty,ps,af,g⟩ (yielded ops a.tmps)=true) (hs : St W w L) (hi : TI P t z sz by') [k : Cells z zs]
   (hf : okB d n l=true) (h : ∀ b a' w',Fr a' n ((d,.pointer (some ⟨b,0,none⟩))::l)→St W w' (blk b t zs::L)→Old w w'→K a' w') :
   StepK P ops Q ⟨some d,.alloc t,ty,ps,af,g⟩ K a w:=by
 refine st_set (v:=.pointer (some ⟨w.heap.size,0,none⟩)) (w':=w.alloc (.cells zs.toArray t)) ha hw ?_ hf (fun a' ha'=>h _ _ _ ha' (hs.alloc _) (Old.alloc _ _))
 simp [execOp,Instr.alloc,run_zero hi,newVar,newRow,newObj,Sem.run,k.h,Sem.run_bind]
theorem st_box {t x vs ty ps af g} (ha : Fr a n l) (hw : Region.wanted ⟨some d,.box t x,ty,ps,af,g⟩ (yielded ops a.tmps)=true) (hs : St W w L) [ev : Ev l x v] [k : Cells v vs]
   (hf : okB d n l=true) (h : ∀ b a' w',Fr a' n ((d,.pointer (some ⟨b,0,none⟩))::l)→St W w' (blk b t vs::L)→Old w w'→K a' w') :
   StepK P ops Q ⟨some d,.box t x,ty,ps,af,g⟩ K a w:=by
 refine st_set (v:=.pointer (some ⟨w.heap.size,0,none⟩)) (w':=w.alloc (.cells vs.toArray t)) ha hw ?_ hf (fun a' ha'=>h _ _ _ ha' (hs.alloc _) (Old.alloc _ _))
 simp [execOp,Instr.box,ev.ev a n ha,newVar,newRow,newObj,Sem.run,k.h,Sem.run_bind]
theorem run_storeVar {t z by' b e off} {v : Value} {vs cs : List Value} (hs : St W w (blk b e cs::R)) (hi : TI P t z vs.length by') (hv : v.cells=vs.toArray) (h1 : ∀ v∈vs,v.oneCell'=true)
   (hle : off+vs.length≤cs.length) : (storeVar t ⟨b,off,none⟩ v).run P w=.ok () (w.setRow b (splice cs off vs).toArray):=by
 have:=run_storeCells_at (P:=P) b off e vs 0 cs.toArray w hs.has.2 (by simpa using hle) h1
 simp [storeVar,hv,run_size hi,this,splice]
theorem st_store {t z by' x y b e off cs cs' ty ps af g} (ha : Fr a n l) (hw : Region.wanted ⟨none,.store t x y,ty,ps,af,g⟩ (yielded ops a.tmps)=true) (hs : St W w L)
   (hi : TI P t z 1 by') [ev : Ev l x (.pointer (some ⟨b,off,none⟩))] [ew : Ev l y v] [kc : Cells v [v]] [k : Blk L b e cs R] (h1 : v.oneCell'=true) (hlt : off < cs.length) [sc : SetC cs off v cs']
   (h : ∀ a' w',Fr a' n l→St W w' (blk b e cs'::R)→K a' w') : StepK P ops Q ⟨none,.store t x y,ty,ps,af,g⟩ K a w:=by
 have hs':=hs.bring b
 have hr:=run_storeVar (P:=P) (t:=t) (off:=off) (vs:=[v]) hs' hi kc.h (by simpa using h1) (by simp; omega)
 have he : splice cs off [v]=cs':=by
   rw [← sc.h,splice,List.set_eq_take_append_cons_drop,if_pos hlt]; simp
 refine st_act (w':=w.setRow b (splice cs off [v]).toArray) ha hw ?_ (fun a' ha'=>h a' _ ha' (he ▸ hs'.setRow))
 simp [execOp,ev.ev a n ha,ew.ev a n ha,Instr.storeAt,Instr.sureAddr,hr]
theorem st_storeN {t z by' x y b e off cs vs ty ps af g} (ha : Fr a n l) (hw : Region.wanted ⟨none,.store t x y,ty,ps,af,g⟩ (yielded ops a.tmps)=true) (hs : St W w L)
   (hi : TI P t z (List.length vs) by') [ev : Ev l x (.pointer (some ⟨b,off,none⟩))] [ew : Ev l y v] [kc : Cells v vs] [k : Blk L b e cs R] (h1 : ∀ v∈vs,v.oneCell'=true) (hle : off+vs.length≤cs.length)
   (h : ∀ a' w',Fr a' n l→St W w' (blk b e (splice cs off vs)::R)→K a' w') : StepK P ops Q ⟨none,.store t x y,ty,ps,af,g⟩ K a w:=by
 have hs':=hs.bring b
 have hr:=run_storeVar (P:=P) (t:=t) (off:=off) (vs:=vs) hs' hi kc.h h1 hle
 refine st_act (w':=w.setRow b (splice cs off vs).toArray) ha hw ?_ (fun a' ha'=>h a' _ ha' hs'.setRow)
 simp [execOp,ev.ev a n ha,ew.ev a n ha,Instr.storeAt,Instr.sureAddr,hr]
theorem st_storeAll {t z by' x y b e cs vs ty ps af g} (ha : Fr a n l) (hw : Region.wanted ⟨none,.store t x y,ty,ps,af,g⟩ (yielded ops a.tmps)=true) (hs : St W w L)
   (hi : TI P t z (List.length vs) by') [ev : Ev l x (.pointer (some ⟨b,0,none⟩))] [ew : Ev l y v] [kc : Cells v vs] [k : Blk L b e cs R] (h1 : ∀ v∈vs,v.oneCell'=true) (hle : vs.length=cs.length)
   (h : ∀ a' w',Fr a' n l→St W w' (blk b e vs::R)→K a' w') : StepK P ops Q ⟨none,.store t x y,ty,ps,af,g⟩ K a w:=by
 refine st_storeN ha hw hs hi h1 (by omega) (fun a' w' ha' hs'=>h a' w' ha' ?_)
 rwa [show splice cs 0 vs=vs from by simp [splice,hle]] at hs'
theorem ex_fieldAddr {x b off t f k r fs fl z sz by' dst ty ps af g} (ha : Fr a n l) [ev : Ev l x (.pointer (some ⟨b,off,none⟩))] (hu : P.underlying t=some (.struct fs)) (hf : fs[f]?=some fl) (hi : TI P fl.type z (sz+1) by')
   (hk : fl.offset=k) [ao : AddOff off k r] : (execOp a.eval ⟨dst,.fieldAddr t x f,ty,ps,af,g⟩).run P w=.ok (.value (.pointer (some ⟨b,r,none⟩))) w:=by
 simp [execOp,ev.ev a n ha,Instr.fieldAt,run_underlying hu,hf,Instr.sureAddr,fieldPlace,run_size hi,add_off,hk,ao.h]
class NatOf (i : Int) (j : outParam Nat) : Prop where h : i=(j : Int)
instance {j : Nat} : NatOf (j : Int) j:=⟨rfl⟩
instance : NatOf 0 0:=⟨rfl⟩
instance : NatOf 1 1:=⟨rfl⟩
instance : NatOf 2 2:=⟨rfl⟩
instance : NatOf 3 3:=⟨rfl⟩
instance : NatOf 4 4:=⟨rfl⟩
instance : NatOf 5 5:=⟨rfl⟩
instance : NatOf 6 6:=⟨rfl⟩
instance : NatOf 7 7:=⟨rfl⟩
instance : NatOf 8 8:=⟨rfl⟩
instance : NatOf 9 9:=⟨rfl⟩
instance : NatOf 10 10:=⟨rfl⟩
instance : NatOf 11 11:=⟨rfl⟩
instance : NatOf 12 12:=⟨rfl⟩
instance : NatOf 13 13:=⟨rfl⟩
instance : NatOf 14 14:=⟨rfl⟩
instance : NatOf 15 15:=⟨rfl⟩
instance : NatOf 16 16:=⟨rfl⟩
instance : NatOf 17 17:=⟨rfl⟩
instance : NatOf 18 18:=⟨rfl⟩
instance : NatOf 19 19:=⟨rfl⟩
instance : NatOf 20 20:=⟨rfl⟩
instance : NatOf 21 21:=⟨rfl⟩
instance : NatOf 22 22:=⟨rfl⟩
instance : NatOf 23 23:=⟨rfl⟩
instance : NatOf 24 24:=⟨rfl⟩
instance : NatOf 25 25:=⟨rfl⟩
instance : NatOf 26 26:=⟨rfl⟩
instance : NatOf 27 27:=⟨rfl⟩
instance : NatOf 28 28:=⟨rfl⟩
instance : NatOf 29 29:=⟨rfl⟩
instance : NatOf 30 30:=⟨rfl⟩
instance : NatOf 31 31:=⟨rfl⟩
instance : NatOf 32 32:=⟨rfl⟩
instance : NatOf 33 33:=⟨rfl⟩
instance : NatOf 34 34:=⟨rfl⟩
instance : NatOf 35 35:=⟨rfl⟩
instance : NatOf 36 36:=⟨rfl⟩
instance : NatOf 37 37:=⟨rfl⟩
instance : NatOf 38 38:=⟨rfl⟩
instance : NatOf 39 39:=⟨rfl⟩
instance : NatOf 40 40:=⟨rfl⟩
instance : NatOf 64 64:=⟨rfl⟩
instance {x y : Int} {i j : Nat} [h : NatOf x i] [k : NatOf y j] : NatOf (x+y) (i+j):=⟨by rw [h.h,k.h]; rfl⟩
theorem ex_indexAddr {x y k i j b off m c t el z sz by' dst ty ps af g} (ha : Fr a n l) [ev : Ev l x (.slice (some ⟨b,off,none⟩) m c)] [ey : Ev l y (.int k i)] (hu : P.underlying t=some (.slice el)) (hi : TI P el z sz by') [nj : NatOf i j]
   (hlt : j < m) : (execOp a.eval ⟨dst,.indexAddr t x y,ty,ps,af,g⟩).run P w=.ok (.value (.pointer (some ⟨b,off+j*sz,none⟩))) w:=by
 have:=nj.h; subst this
 simp [execOp,ev.ev a n ha,ey.ev a n ha,Instr.indexAt,asIntOf,run_underlying hu,run_size hi,add_off,hlt]
theorem ex_indexAddrA {x y k i j b off m t el z sz by' dst ty ps af g} (ha : Fr a n l) [ev : Ev l x (.pointer (some ⟨b,off,none⟩))] [ey : Ev l y (.int k i)] (hu : P.underlying t=some (.array m el)) (hi : TI P el z sz by') [nj : NatOf i j]
   (hlt : j < m) : (execOp a.eval ⟨dst,.indexAddr t x y,ty,ps,af,g⟩).run P w=.ok (.value (.pointer (some ⟨b,off+j*sz,none⟩))) w:=by
 have:=nj.h; subst this
 simp [execOp,ev.ev a n ha,ey.ev a n ha,Instr.indexAt,asIntOf,run_underlying hu,run_size hi,add_off,hlt,Instr.sureAddr]
theorem ex_len {x ad m c t el dst ty ps af g} (ha : Fr a n l) [ev : Ev l x (.slice ad m c)] (hu : P.underlying t=some (.slice el)) :
   (execOp a.eval ⟨dst,.call ⟨.builtin .len,#[x],#[t]⟩,ty,ps,af,g⟩).run P w=.ok (.value (.int .i64 m)) w:=by
 simp [execOp,resolve,ev.ev a n ha,invoke,builtin,Builtin.len_,run_underlying hu,goInt]
theorem ex_makeFunc {fn xs ys us vs dst ty ps af g} (ha : Fr a n l) [e1 : EvL l xs us] [e2 : EvL l ys vs] :
   (execOp a.eval ⟨dst,.makeFunc fn xs.toArray ys.toArray,ty,ps,af,g⟩).run P w=.ok (.value (.func fn us.toArray vs.toArray)) w:=by
 simp [execOp,Instr.makeFunc,e1.ev a n ha,e2.ev a n ha]
/-! Calls. -/
def callable (P : Program) (f : FuncId) : Bool := match P.funcs[f]? with | some fn => !(fn.name == "runtime.NumGoroutine") && fn.body.isSome | none => false
theorem run_callFunc {f} {vs : Array Value} (h : callable P f=true) : (callFunc f vs).run P w=.ok (.enter f vs) w:=by
 simp only [callable] at h
 cases hf : P.funcs[f]? with
 | none=>simp [hf] at h
 | some fn =>
   simp only [hf,Bool.and_eq_true,Bool.not_eq_true'] at h
   have hb : fn.body.isNone=false:=by cases hb : fn.body <;> simp_all
   simp only [callFunc,program,Sem.run,Sem.run_bind,Result.andThen_ok,hf,h.1,hb]
   simp
theorem st_enter {op ty ps af g dst f} {vs : Array Value} {X : Ending→World→Prop} (hw : Region.wanted ⟨dst,op,ty,ps,af,g⟩ (yielded ops a.tmps)=true)
   (hr : (execOp a.eval ⟨dst,op,ty,ps,af,g⟩).run P w=.ok (.enter f vs) w) (hc : Calls P f vs w X)
   (h : ∀ e w',X e w'→∃ v,e=.returned v∧K (a.put dst v) w') : StepK P ops Q ⟨dst,op,ty,ps,af,g⟩ K a w:=by
 unfold StepK; rw [if_pos hw]; left; unfold Oper.wp; rw [hr,Oper.upon_enter]
 refine hc.mono fun e w' hx=>?_
 obtain ⟨v,rfl,hv⟩:=h e w' hx
 exact hv
theorem st_call {f args tys ty ps af g vs} {X : Ending→World→Prop} (ha : Fr a n l) (hw : Region.wanted ⟨some d,.call ⟨.value (.func f),List.toArray args,tys⟩,ty,ps,af,g⟩ (yielded ops a.tmps)=true)
   (hb : callable P f=true) (hf : okB d n l=true) [ev : EvL l args vs] (hc : Calls P f vs.toArray w X)
   (h : ∀ e w',X e w'→∃ v,e=.returned v∧∀ a',Fr a' n ((d,v)::l)→K a' w') :
   StepK P ops Q ⟨some d,.call ⟨.value (.func f),List.toArray args,tys⟩,ty,ps,af,g⟩ K a w:=by
 refine st_enter hw ?_ hc fun e w' hx=>let ⟨v,he,hv⟩:=h e w' hx; ⟨v,he,hv _ (ha.put hf v)⟩
 have h2 : a.eval (.func f)=.func (.func f) #[] #[]:=rfl
 simp [execOp,resolve,h2,Deferred.ofValue,invoke,ev.ev a n ha,run_callFunc hb]
theorem st_callv {x f us args tys ty ps af g vs} {X : Ending→World→Prop} (ha : Fr a n l) (hw : Region.wanted ⟨some d,.call ⟨.value (.tmp x),List.toArray args,tys⟩,ty,ps,af,g⟩ (yielded ops a.tmps)=true)
   [ex : Ev l (.tmp x) (.func (.func f) #[] (List.toArray us))] (hb : callable P f=true) (hf : okB d n l=true) [ev : EvL l args vs] (hc : Calls P f (vs++us).toArray w X)
   (h : ∀ e w',X e w'→∃ v,e=.returned v∧∀ a',Fr a' n ((d,v)::l)→K a' w') :
   StepK P ops Q ⟨some d,.call ⟨.value (.tmp x),List.toArray args,tys⟩,ty,ps,af,g⟩ K a w:=by
 refine st_enter hw ?_ hc fun e w' hx=>let ⟨v,he,hv⟩:=h e w' hx; ⟨v,he,hv _ (ha.put hf v)⟩
 simp [execOp,resolve,ex.ev a n ha,Deferred.ofValue,invoke,ev.ev a n ha,run_callFunc hb]
/-! A function's end. -/
class Res (l : List (Nat × Value)) (w : World) (P : Program) (r : ResultVar) (v : outParam Value) : Prop where h : ∀ a n,Fr a n l→(match r with | .tmp t=>pure (a.tmps.getD t undef) | .cell x t=>(do loadVar t (← asAddr (a.tmps.getD x undef)) : Sem Value)).run P w=.ok v w
theorem ret1 {fn : Func} {t} {X : Ending→World→Prop} (ha : Fr a n l) (hr : fn.results=#[.tmp t]) [k : Get l t v] (h : X (.returned v) w) : bodyPost P fn X .ret a w:=by
 refine bodyPost_ret (results_tmp hr _ _ _) ha.defers ?_
 have:=ha.has _ k.mem
 simpa [Array.getD_eq_getD_getElem?,this] using h
theorem ret2 {fn : Func} {t u v2} {X : Ending→World→Prop} (ha : Fr a n l) (hr : fn.results=#[.tmp t,.tmp u]) [k : Get l t v] [k2 : Get l u v2] (h : X (.returned (.tuple #[v,v2])) w) : bodyPost P fn X .ret a w:=by
 refine bodyPost_ret (results_tmp2 hr _ _ _) ha.defers ?_
 have h1:=ha.has _ k.mem
 have h2:=ha.has _ k2.mem
 simpa [Array.getD_eq_getD_getElem?,h1,h2] using h
theorem end0 {fn : Func} {X : Ending→World→Prop} (ha : Fr a n l) (hr : fn.results=#[]) (h : X (.returned (.tuple #[])) w) : bodyPost P fn X .normal a w :=
 bodyPost_end (results_none hr _ _ _) ha.defers h
theorem retC1 {fn : Func} {x ad t} {X : Ending→World→Prop} (ha : Fr a n l) (hr : fn.results=#[.cell x t]) [k : Get l x (.pointer (some ad))] (hl : (loadVar t ad).run P w=.ok v w) (h : X (.returned v) w) : bodyPost P fn X .ret a w:=by
 refine bodyPost_ret ?_ ha.defers h
 have h1:=ha.has _ k.mem
 simp [results,hr,Array.getD_eq_getD_getElem?,h1,asAddr,hl]
theorem retC2 {fn : Func} {x ad t u v2} {X : Ending→World→Prop} (ha : Fr a n l) (hr : fn.results=#[.cell x t,.tmp u]) [k : Get l x (.pointer (some ad))] [k2 : Get l u v2] (hl : (loadVar t ad).run P w=.ok v w)
   (h : X (.returned (.tuple #[v,v2])) w) : bodyPost P fn X .ret a w:=by
 refine bodyPost_ret ?_ ha.defers h
 have h1:=ha.has _ k.mem
 have h2:=ha.has _ k2.mem
 simp [results,hr,Array.getD_eq_getD_getElem?,h1,h2,asAddr,hl]
theorem calls_enter {f m : Nat} {fn : Func} {c : Code} {vs : List Value} {X : Ending→World→Prop} (hf : P.funcs[f]?=some fn) (hb : fn.body=some c) (hn : fn.ntmps=m) (hm : vs.length≤m)
   (h : ∀ a,Fr a m ((List.range vs.length).zip vs)→c.wp P (bodyPost P fn X) a w) : Calls P f vs.toArray w X :=
 calls_of_wp hf hb (by rw [hn]; exact h _ (Fr.enter hm))
theorem wp_seq_cut {x y : Code} {M : Act→World→Prop} (h : x.wp P (Exit.then M Q) a w) (k : ∀ a w,M a w→y.wp P Q a w) : (Code.seq x y).wp P Q a w:=by
 refine wp_seq (wp_mono h ?_)
 intro e a' w' hq
 cases e <;> first | exact k _ _ hq | exact hq
theorem wp_ifT {c : Operand} {x y : Code} (ha : Fr a n l) [e : Ev l c (.bool true)] (h : x.wp P Q a w) : (Code.cond c x y).wp P Q a w:=wp_cond_true (e.ev a n ha) h
theorem wp_ifF {c : Operand} {x y : Code} (ha : Fr a n l) [e : Ev l c (.bool false)] (h : y.wp P Q a w) : (Code.cond c x y).wp P Q a w:=wp_cond_false (e.ev a n ha) h
/-! What stands round a piece of code. -/
theorem blk_e {i : Nat} (h : Q .normal a w) : Exit.inBlock i Q (.exit i) a w:=by simp only [Exit.inBlock,if_true]; exact h
theorem blk_ne {i j : Nat} (hn : Nat.beq j i=false) (h : Q (.exit j) a w) : Exit.inBlock i Q (.exit j) a w:=by
 simp only [Exit.inBlock]; rw [if_neg (by intro e; subst e; rw [Nat.beq_refl] at hn; cases hn)]; exact h
theorem wp_if {c : Operand} {b : Bool} {x y : Code} (ha : Fr a n l) [e : Ev l c (.bool b)] (ht : b=true→x.wp P Q a w) (hf : b=false→y.wp P Q a w) : (Code.cond c x y).wp P Q a w :=
 wp_cond_split (e.ev a n ha) ht hf
end
end Go.Proofs.YtagpkhbkdbaigaaGreat
