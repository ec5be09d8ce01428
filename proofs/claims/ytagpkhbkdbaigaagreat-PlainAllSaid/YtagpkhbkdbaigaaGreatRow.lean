/- Rows of structs: a list laid out flat, so many cells each. -/
import Derived.Test.YtagpkhbkdbaigaaGreatMore2
namespace Go.Proofs.YtagpkhbkdbaigaaGreat
open Go.RowKit
set_option linter.unusedVariables false
set_option linter.unusedSimpArgs false
def rows {α : Type} (f : α→List Value) (l : List α) : List Value:=l.flatMap f
section
variable {α : Type} {f : α→List Value} {sz : Nat}
theorem rows_cons (x : α) (l : List α) : rows f (x::l)=f x++rows f l:=rfl
theorem rows_app (l m : List α) : rows f (l++m)=rows f l++rows f m:=by simp [rows]
theorem rows_one (h1 : ∀ x,∀ v∈f x,v.oneCell'=true) (l : List α) : ∀ v∈rows f l,v.oneCell'=true:=by
 intro v hv
 simp only [rows,List.mem_flatMap] at hv
 obtain ⟨x,_,hx⟩:=hv
 exact h1 x v hx
theorem rows_len (hf : ∀ x,(f x).length=sz) (l : List α) : (rows f l).length=l.length*sz:=by
 induction l with
 | nil=>simp [rows]
 | cons x l ih=>rw [rows_cons,List.length_append,hf,ih,List.length_cons,Nat.succ_mul,Nat.add_comm]
theorem rows_drop (hf : ∀ x,(f x).length=sz) (l : List α) (i : Nat) : (rows f l).drop (i*sz)=rows f (l.drop i):=by
 induction i generalizing l with
 | zero=>simp
 | succ i ih =>
   cases l with
   | nil=>simp [rows]
   | cons x l=>rw [rows_cons,Nat.succ_mul,Nat.add_comm,← List.drop_drop,List.drop_left' (hf x),ih,List.drop_succ_cons]
theorem rows_take (hf : ∀ x,(f x).length=sz) (l : List α) (i : Nat) : (rows f l).take (i*sz)=rows f (l.take i):=by
 induction i generalizing l with
 | zero=>simp [rows]
 | succ i ih =>
   cases l with
   | nil=>simp [rows]
   | cons x l =>
     rw [rows_cons,Nat.succ_mul,Nat.add_comm,List.take_append,hf,List.take_of_length_le (by rw [hf]; omega),show sz+i*sz - sz=i*sz from by omega,ih,List.take_succ_cons,rows_cons]
theorem rows_at (hf : ∀ x,(f x).length=sz) (l : List α) (i : Nat) (h : i < l.length) : ((rows f l).drop (i*sz)).take sz=f l[i]:=by
 rw [rows_drop hf,List.drop_eq_getElem_cons h,rows_cons,List.take_left' (hf _)]
theorem rows_get (hf : ∀ x,(f x).length=sz) (l : List α) {i k : Nat} {v : Value} (h : i < l.length) (hv : (f l[i])[k]?=some v) : (rows f l)[i*sz+k]?=some v:=by
 have hk : k < sz:=by rw [← hf l[i]]; exact (List.getElem?_eq_some_iff.1 hv).1
 have:=rows_at hf l i h
 rw [← this,List.getElem?_take,if_pos hk,List.getElem?_drop] at hv
 exact hv
theorem rows_set (hf : ∀ x,(f x).length=sz) (l : List α) {i : Nat} (x : α) (h : i < l.length) : splice (rows f l) (i*sz) (f x)=rows f (l.set i x):=by
 rw [List.set_eq_take_append_cons_drop,if_pos h,rows_app,rows_cons,splice,rows_take hf,hf,show i*sz+sz=(i+1)*sz from by rw [Nat.succ_mul],rows_drop hf,List.append_assoc]
theorem rows_set1 (hf : ∀ x,(f x).length=sz) (l : List α) {i k : Nat} {v : Value} (x : α) (h : i < l.length) (hk : k < sz) (hx : (f l[i]).set k v=f x) : (rows f l).set (i*sz+k) v=rows f (l.set i x):=by
 have h0 : l=l.take i++l[i]::l.drop (i+1):=by rw [← List.drop_eq_getElem_cons h,List.take_append_drop]
 have hse : l.set i x=l.take i++x::l.drop (i+1):=by rw [List.set_eq_take_append_cons_drop,if_pos h]
 rw [hse,rows_app,rows_cons]
 conv=>lhs; rw [h0,rows_app,rows_cons]
 have hl : (rows f (l.take i)).length=i*sz:=by rw [rows_len hf]; simp; rw [Nat.min_eq_left (by omega)]
 rw [List.set_append_right _ _ (by omega),hl,show i*sz+k - i*sz=k from by omega,List.set_append_left _ _ (by rw [hf]; exact hk),hx]
end
def fn (m : Nat) (g : Nat→Value) : List Value:=(List.range m).map g
theorem fn_len (m : Nat) (g : Nat→Value) : (fn m g).length=m:=by simp [fn]
theorem fn_get {m k : Nat} (g : Nat→Value) (h : k < m) : (fn m g)[k]?=some (g k):=by simp [fn,h]
theorem fn_congr {m : Nat} {g g' : Nat→Value} (h : ∀ k,k < m→g k=g' k) : fn m g=fn m g':=by
 simp only [fn]; exact List.map_congr_left fun k hk=>h k (List.mem_range.1 hk)
theorem fn_set {m k : Nat} (g : Nat→Value) (v : Value) : (fn m g).set k v=fn m (fun j=>if j=k then v else g j):=by
 apply List.ext_getElem (by simp [fn])
 intro i h1 h2
 simp only [fn,List.getElem_set,List.getElem_map,List.getElem_range]
 by_cases h : k=i
 · simp [h]
 · rw [if_neg h,if_neg (fun e=>h e.symm)]
theorem fn_one {m : Nat} {g : Nat→Value} (h : ∀ k,(g k).oneCell'=true) : ∀ v∈fn m g,v.oneCell'=true:=by
 intro v hv
 simp only [fn,List.mem_map] at hv
 obtain ⟨k,_,rfl⟩:=hv
 exact h k
def upd (g : Nat→Int) (c : Nat) (v : Int) : Nat→Int:=fun j=>if j=c then v else g j
def ints (k : IntKind) (m : Nat) (g : Nat→Int) : List Value:=fn m (fun j=>.int k (g j))
theorem ints_len (k : IntKind) (m : Nat) (g : Nat→Int) : (ints k m g).length=m:=fn_len _ _
theorem ints_get {k : IntKind} {m j : Nat} (g : Nat→Int) (h : j < m) : (ints k m g)[j]?=some (.int k (g j)):=fn_get _ h
theorem ints_one {k : IntKind} {m : Nat} {g : Nat→Int} : ∀ v∈ints k m g,v.oneCell'=true:=fn_one fun _=>rfl
theorem ints_set {k : IntKind} {m j : Nat} (g : Nat→Int) (v : Int) : (ints k m g).set j (.int k v)=ints k m (fun i=>if i=j then v else g i):=by
 rw [ints,fn_set]; exact fn_congr fun i _=>by by_cases h : i=j <;> simp [h]
theorem ints_congr {k : IntKind} {m : Nat} {g g' : Nat→Int} (h : ∀ j,j < m→g j=g' j) : ints k m g=ints k m g':=fn_congr fun j hj=>by rw [h j hj]
class FlatC (css : List (List Value)) (out : outParam (List Value)) : Prop where h : css.flatten=out
instance FlatC.nil : FlatC [] []:=⟨rfl⟩
instance FlatC.one {x css out} [k : FlatC css out] : FlatC ([x]::css) (x::out):=⟨by rw [List.flatten_cons,k.h]; rfl⟩
instance (priority:=low) FlatC.any {css} : FlatC css css.flatten:=⟨rfl⟩
instance LenEq.ints {k m g} : LenEq (ints k m g) m:=⟨ints_len k m g⟩
section
variable {P : Program} {ops : Array Oper} {Q : Exit→Act→World→Prop} {a : Act} {w w' W : World} {K : Act→World→Prop} {o : Oper} {n d : Nat} {l : List (Nat × Value)} {v : Value} {L R : List SP}
theorem ex_quo {x y k i j t u dst ty ps af g} (ha : Fr a n l) (h : j≠0) (hi : k.wrap (i.tdiv j)=i.tdiv j) [e : Ev l x (.int k i)] [f : Ev l y (.int k j)] :
   (execOp a.eval ⟨dst,.binOp .quo t x y u,ty,ps,af,g⟩).run P w=.ok (.value (.int k (i.tdiv j))) w:=by
 have : k.wrap (i.tdiv j)=i.tdiv j:=hi
 simp [execOp,e.ev a n ha,f.ev a n ha,eqGuard,binOp,Op.intDiv,h,this]
theorem ex_rem {x y k i j t u dst ty ps af g} (ha : Fr a n l) (h : j≠0) [e : Ev l x (.int k i)] [f : Ev l y (.int k j)] :
   (execOp a.eval ⟨dst,.binOp .rem t x y u,ty,ps,af,g⟩).run P w=.ok (.value (.int k (i.tmod j))) w:=by
 simp [execOp,e.ev a n ha,f.ev a n ha,eqGuard,binOp,Op.intDiv,h]
theorem quoN (i : Nat) (j : Nat) : (i : Int).tdiv (j : Int)=((i / j : Nat) : Int):=by rw [Int.natCast_ediv,Int.tdiv_eq_ediv_of_nonneg (by omega)]
theorem remN (i : Nat) (j : Nat) : (i : Int).tmod (j : Int)=((i % j : Nat) : Int):=by rw [Int.natCast_emod,Int.tmod_eq_emod_of_nonneg (by omega)]
theorem ex_index1 {x y k i j vs t el m dd z by' dst ty ps af g} (ha : Fr a n l) (hu : P.underlying t=some (.array m el)) (hd : P.underlying el=some dd) (h1 : isOne dd=true) (hi : TI P el z 1 by')
   [ev : Ev l x (.agg (List.toArray vs))] [ey : Ev l y (.int k i)] [nj : NatOf i j] (hlt : j < m) (hv : vs[j]?=some v) :
   (execOp a.eval ⟨dst,.index t x y,ty,ps,af,g⟩).run P w=.ok (.value v) w:=by
 have:=nj.h; subst this
 have hpa : (part el vs.toArray j).run P w=.ok v w:=by
   have hagg : (isAgg el).run P w=.ok false w:=by
     simp only [isAgg,Sem.run_bind,run_underlying hd,Result.andThen_ok]
     cases dd <;> first | rfl | (simp [isOne] at h1)
   simp [part,hagg,hv]
 simp [execOp,ev.ev a n ha,ey.ev a n ha,Instr.index,asIntOf,run_underlying hu,run_size hi,hlt,hpa]
theorem st_callvN {x f us args tys ty ps af g vs all} {X : Ending→World→Prop} (ha : Fr a n l) (hw : Region.wanted ⟨some d,.call ⟨.value (.tmp x),List.toArray args,tys⟩,ty,ps,af,g⟩ (yielded ops a.tmps)=true)
   [ex : Ev l (.tmp x) (.func (.func f) #[] (List.toArray us))] (hb : callable P f=true) (hf : okB d n l=true) [ev : EvL l args vs] (hc : Calls P f (List.toArray all) w X) (hall : vs++us=all)
   (h : ∀ e w',X e w'→∃ v,e=.returned v∧∀ a',Fr a' n ((d,v)::l)→K a' w') :
   StepK P ops Q ⟨some d,.call ⟨.value (.tmp x),List.toArray args,tys⟩,ty,ps,af,g⟩ K a w:=by
 subst hall
 exact st_callv (us:=us) ha hw hb hf hc h
theorem ex_convII {x k k' i s t dst ty ps af g} (ha : Fr a n l) (hs : P.underlying s=some (.int k)) (ht : P.underlying t=some (.int k')) [ev : Ev l x (.int k i)] :
   (execOp a.eval ⟨dst,.convert s t x,ty,ps,af,g⟩).run P w=.ok (.value (.int k' (k'.wrap i))) w:=by
 simp [execOp,ev.ev a n ha,convert,run_underlying hs,run_underlying ht,Conv.intToInt]
theorem ex_convIIs {x k k' i s t dst ty ps af g} (ha : Fr a n l) (hs : P.underlying s=some (.int k)) (ht : P.underlying t=some (.int k')) (hw : k'.wrap i=i) [ev : Ev l x (.int k i)] :
   (execOp a.eval ⟨dst,.convert s t x,ty,ps,af,g⟩).run P w=.ok (.value (.int k' i)) w:=by
 rw [ex_convII ha hs ht,hw]
theorem ex_buildA {t el m z zs sz by' ze se be parts css out dst ty ps af g} (ha : Fr a n l) (hu : P.underlying t=some (.array m el)) (hi : TI P t z sz by') [kz : Cells z zs] (he : TI P el ze se be)
   [ep : EvP l parts 0 css] (hc : (css.all fun c=>c.length == se)=true) (hz : zs.length=css.length*se) [fl : FlatC css out] :
   (execOp a.eval ⟨dst,.build t (List.toArray parts),ty,ps,af,g⟩).run P w=.ok (.value (.agg out.toArray)) w:=by
 obtain ⟨vs,e1,e2⟩:=ep.h a n ha
 have hf:=fill_row (sz:=se) css vs 0 [] zs e2 (fun c hc'=>by simpa using List.all_eq_true.1 hc c hc') (by simp) hz
 simp only [List.nil_append] at hf
 rw [fl.h] at hf
 simp only [execOp,Sem.run_bind,Instr.build,run_zero hi,Result.andThen_ok,run_underlying hu,run_size he,kz.h,List.map_toArray,e1]
 simp [hf]
end
def All {α : Type} (f : α→SP) (l : List α) : SP:=fun h=>sepL (l.map f) h
section
variable {α : Type} {f : α→SP} {W w : World} {L : List SP}
theorem erase_perm {β : Type} (l : List β) {i : Nat} (h : i < l.length) : l.Perm (l[i]::l.eraseIdx i):=by
 conv=>lhs; rw [← List.take_append_drop i l,List.drop_eq_getElem_cons h]
 rw [List.eraseIdx_eq_take_drop_succ]
 exact List.perm_middle
theorem St.allNil (hs : St W w L) : St W w (All f []::L) :=
 ⟨hs.below,let ⟨h,p,q⟩:=hs.sat; ⟨h,p,fun _=>none,h,fun _=>.inl rfl,fun _ _ e=>(by cases e),Hp.Sub.refl _,trivial,q⟩⟩
theorem St.allOut {l : List α} (hs : St W w (All f l::L)) {i : Nat} (h : i < l.length) : St W w (f l[i]::All f (l.eraseIdx i)::L):=by
 have h1:=hs.open (M:=l.map f) (fun _ x=>x)
 have hp:=((erase_perm l h).map f).append_right L
 have h2:=h1.perm hp
 simp only [List.map_cons,List.cons_append] at h2
 refine St.perm (L:=All f (l.eraseIdx i)::f l[i]::L) ?_ (List.Perm.swap _ _ _)
 exact St.shut (M:=(l.eraseIdx i).map f) (h2.perm List.perm_middle.symm) (fun _ x=>x)
theorem St.allIn {l : List α} {x : α} (hs : St W w (f x::All f l::L)) : St W w (All f (x::l)::L):=by
 have h1:=(hs.perm (List.Perm.swap _ _ _)).open (M:=l.map f) (fun _ x=>x)
 exact St.shut (M:=(x::l).map f) (h1.perm List.perm_middle) (fun _ x=>x)
theorem St.allPerm {l l' : List α} (hs : St W w (All f l::L)) (hp : l.Perm l') : St W w (All f l'::L):=by
 have h1:=hs.open (M:=l.map f) (fun _ x=>x)
 exact St.shut (M:=l'.map f) (h1.perm ((hp.map f).append_right L)) (fun _ x=>x)
theorem St.allPut {l : List α} {x : α} {i : Nat} (h : i < l.length) (hs : St W w (f x::All f (l.eraseIdx i)::L)) : St W w (All f (l.set i x)::L):=by
 refine hs.allIn.allPerm ?_
 have hi : i < (l.set i x).length:=by simpa using h
 have:=erase_perm (l.set i x) hi
 rw [List.getElem_set_self,List.eraseIdx_set_eq] at this
 exact this.symm
theorem St.allPush {l : List α} {x : α} (hs : St W w (f x::All f l::L)) : St W w (All f (l++[x])::L) :=
 hs.allIn.allPerm (List.perm_append_comm (l₁:=[x]))
end
end Go.Proofs.YtagpkhbkdbaigaaGreat
