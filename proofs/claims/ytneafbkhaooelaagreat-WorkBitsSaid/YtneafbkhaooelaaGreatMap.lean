/- A map of the call's own, with integers for keys. -/
import Derived.Test.YtneafbkhaooelaaGreatRow
import Derived.Maps.Own
namespace Go.Proofs.YtneafbkhaooelaaGreat
open Go.RowKit
set_option linter.unusedVariables false
set_option linter.unusedSimpArgs false

/-- Entries that are those, in the order in which they came. -/
def MapIs (es : Array MapEntry) (clock : Nat) (kvs : List (Int × Value)) : Prop :=
  es.toList.map (fun e => (e.key, e.val)) = kvs.map (fun p => (Value.int .i64 p.1, p.2)) ∧ MapKept.Stamped es clock ∧ ∀ p ∈ kvs, (Lit.int .i64 p.1).wf = true
/-- Block b is a map. -/
def mp (b : Nat) (kvs : List (Int × Value)) : SP := fun h => ∃ es clock, h b = some (.map es clock) ∧ MapIs es clock kvs

def findP : List (Int × Value) → Int → Nat → Option (Nat × Value)
  | [], _, _ => none
  | p :: r, k, i => if p.1 = k then some (i, p.2) else findP r k (i + 1)
theorem findP_none {kvs : List (Int × Value)} {k : Int} (h : ∀ p ∈ kvs, p.1 ≠ k) : ∀ i, findP kvs k i = none := by
  induction kvs with
  | nil => intro i; rfl
  | cons p r ih =>
    intro i
    rw [findP, if_neg (h p List.mem_cons_self)]
    exact ih (fun q hq => h q (List.mem_cons_of_mem _ hq)) _
theorem findP_some {kvs : List (Int × Value)} {k : Int} {v : Value} : ∀ {j : Nat} (i : Nat), kvs[j]? = some (k, v) → (∀ j', j' < j → ∀ p, kvs[j']? = some p → p.1 ≠ k) → findP kvs k i = some (i + j, v) := by
  induction kvs with
  | nil => intro j i h; simp at h
  | cons p r ih =>
    intro j i h hl
    cases j with
    | zero => simp at h; subst h; simp [findP]
    | succ j =>
      rw [findP, if_neg (hl 0 (by omega) p rfl), ih (i + 1) (by simpa using h) (fun j' hj q hq => hl (j' + 1) (by omega) q (by simpa using hq))]
      rw [show i + 1 + j = i + (j + 1) from by omega]
theorem findNow_is (k : Int) : ∀ (es : List MapEntry) (kvs : List (Int × Value)) (i : Nat), es.map (fun e => (e.key, e.val)) = kvs.map (fun p => (Value.int .i64 p.1, p.2)) → Instr.findNow (.int .i64) (.int .i64 k) es i = some (findP kvs k i)
  | [], [], i, _ => rfl
  | [], _ :: _, _, h => by simp at h
  | _ :: _, [], _, h => by simp at h
  | e :: es, p :: kvs, i, h => by
    simp only [List.map_cons, List.cons.injEq, Prod.mk.injEq] at h
    obtain ⟨⟨h1, h2⟩, h3⟩ := h
    simp only [Instr.findNow, h1, Instr.sameNow, findP]
    by_cases hk : p.1 = k
    · simp [hk, h2]
    · have : (k == p.1) = false := by simp; exact fun e => hk e.symm
      simp only [this, if_neg hk]
      exact findNow_is k es kvs (i + 1) h3

theorem mapErase {α β : Type} (f : α → β) (l : List α) (i : Nat) : (l.eraseIdx i).map f = (l.map f).eraseIdx i := by
  simp only [List.eraseIdx_eq_take_drop_succ, List.map_append, List.map_take, List.map_drop]

section
variable {P : Program} {W w : World} {L R : List SP} {b : Nat} {kvs : List (Int × Value)}
theorem St.mpHas (hs : St W w (mp b kvs :: L)) : ∃ es clock, MapIs es clock kvs ∧ St W w (pts b (.map es clock) :: L) := by
  obtain ⟨⟨es, clock⟩, h1, h2⟩ := hs.exi (ι := Array MapEntry × Nat) (p := fun i => MapIs i.1 i.2 kvs) (B := fun i => pts b (.map i.1 i.2)) (fun h ⟨es, clock, h1, h2⟩ => ⟨(es, clock), h2, h1⟩)
  exact ⟨es, clock, h1, h2⟩
theorem St.mpShut {es : Array MapEntry} {clock : Nat} (hs : St W w (pts b (.map es clock) :: L)) (h : MapIs es clock kvs) : St W w (mp b kvs :: L) :=
  St.shut (M := [_]) hs (fun _ x => by
    obtain ⟨_, _, _, a, _, y, _⟩ := x
    exact ⟨es, clock, a _ _ y, h⟩)
theorem MapIs.nil : MapIs #[] 0 [] := ⟨rfl, ⟨by simp, by simp, by simp⟩, by simp⟩
theorem MapIs.push {es : Array MapEntry} {clock : Nat} {k : Int} {v : Value} (h : MapIs es clock kvs) (hw : (Lit.int .i64 k).wf = true) (hn : ∀ p ∈ kvs, p.1 ≠ k) : MapIs (es.push ⟨.int .i64 k, v, clock⟩) (clock + 1) (kvs ++ [(k, v)]) := by
  obtain ⟨h1, ⟨h2, h3, h4⟩, h5⟩ := h
  refine ⟨by simp [h1], ⟨fun x hx => ?_, ?_, ?_⟩, fun p hp => ?_⟩
  · simp only [Array.toList_push, List.mem_append, List.mem_singleton] at hx
    rcases hx with hx | rfl
    · have := h2 x hx; omega
    · exact Nat.lt_succ_self _
  · simp only [Array.toList_push, List.map_append, List.map_cons, List.map_nil]
    refine List.nodup_append.2 ⟨h3, by simp, fun x hx y hy => ?_⟩
    simp only [List.mem_map] at hx
    obtain ⟨e, he, rfl⟩ := hx
    have := h2 e he
    simp at hy; omega
  · simp only [Array.toList_push, List.map_append, List.map_cons, List.map_nil]
    refine List.nodup_append.2 ⟨h4, by simp, fun x hx y hy => ?_⟩
    simp only [List.mem_map] at hx
    obtain ⟨e, he, rfl⟩ := hx
    have hm : (e.key, e.val) ∈ es.toList.map (fun e => (e.key, e.val)) := List.mem_map.2 ⟨e, he, rfl⟩
    rw [h1] at hm
    obtain ⟨p, hp, hpe⟩ := List.mem_map.1 hm
    simp only [Prod.mk.injEq] at hpe
    simp at hy
    rw [hy, ← hpe.1]
    intro e2
    simp at e2
    exact hn p hp e2
  · rcases List.mem_append.1 hp with h | h
    · exact h5 p h
    · simp at h; subst h; exact hw
theorem MapIs.erase {es : Array MapEntry} {clock : Nat} (h : MapIs es clock kvs) (i : Nat) : MapIs (es.eraseIdxIfInBounds i) clock (kvs.eraseIdx i) := by
  obtain ⟨h1, ⟨h2, h3, h4⟩, h5⟩ := h
  have ht : (es.eraseIdxIfInBounds i).toList = es.toList.eraseIdx i := by simp [Array.toList_eraseIdxIfInBounds]
  have hm : ∀ {β : Type} (f : MapEntry → β), (es.toList.eraseIdx i).map f = (es.toList.map f).eraseIdx i := fun f => mapErase f _ i
  refine ⟨by rw [ht, hm, h1, mapErase], ⟨fun x hx => h2 x (List.mem_of_mem_eraseIdx (ht ▸ hx)), ?_, ?_⟩, fun p hp => h5 p (List.mem_of_mem_eraseIdx hp)⟩
  · rw [ht, hm]; exact h3.sublist (List.eraseIdx_sublist _ _)
  · rw [ht, hm]; exact h4.sublist (List.eraseIdx_sublist _ _)
end

section
variable {P : Program} {ops : Array Oper} {Q : Exit → Act → World → Prop} {a : Act} {w w' W : World} {K : Act → World → Prop} {o : Oper} {n d : Nat} {l : List (Nat × Value)} {v : Value} {L R : List SP} {kvs : List (Int × Value)}
class PickM (L : List SP) (b : Nat) (kvs : outParam (List (Int × Value))) (R : outParam (List SP)) : Prop where perm : L.Perm (mp b kvs :: R)
instance PickM.head {L b kvs} : PickM (mp b kvs :: L) b kvs L := ⟨List.Perm.refl _⟩
instance (priority := low) PickM.tail {A L b kvs R} [h : PickM L b kvs R] : PickM (A :: L) b kvs (A :: R) := ⟨(List.Perm.cons A h.perm).trans (List.Perm.swap _ _ _)⟩

theorem run_setMap {b : Nat} {es es' : Array MapEntry} {c c' : Nat} (h : w.heap[b]? = some (.map es c)) : (setObj b (.map es' c')).run P w = .ok () (ChangeMaps.setBlock w b (.map es' c')) := by
  simp only [setObj, Sem.run, h]
  rfl
theorem checkKey_n {kt : TypeId} {em : Bool} {k : Int} (hk : P.underlying kt = some (.int .i64)) (n : Nat) : (Instr.checkKey em (n + 1) kt (.int .i64 k)).run P w = .ok () w := by
  simp only [Instr.checkKey, Sem.run_bind, run_underlying hk, Result.andThen_ok]
  rfl
theorem checkKey_int {kt : TypeId} {em : Bool} {k : Int} (hk : P.underlying kt = some (.int .i64)) : (Instr.checkKey em 10000 kt (.int .i64 k)).run P w = .ok () w :=
  checkKey_n hk 9999
theorem findKey_is {es : Array MapEntry} {clock : Nat} {kt : TypeId} {k : Int} (hk : P.underlying kt = some (.int .i64)) (h : MapIs es clock kvs) : (Instr.findKey kt (.int .i64 k) es.toList).run P w = .ok (findP kvs k 0) w := by
  simp [Instr.findKey, run_underlying hk, findNow_is k es.toList kvs 0 h.1]

/-- 'make(map[K]V)'. -/
theorem st_makeMap {t ty ps af g} (ha : Fr a n l) (hw : Region.wanted ⟨some d, .makeMap t none, ty, ps, af, g⟩ (yielded ops a.tmps) = true) (hs : St W w L) (hf : okB d n l = true)
    (h : ∀ b a' w', Fr a' n ((d, .map (some b)) :: l) → St W w' (mp b [] :: L) → Old w w' → K a' w') : StepK P ops Q ⟨some d, .makeMap t none, ty, ps, af, g⟩ K a w := by
  refine st_set (v := .map (some w.heap.size)) (w' := w.alloc (.map #[] 0)) ha hw ?_ hf (fun a' ha' => h _ _ _ ha' (St.mpShut (hs.alloc (.map #[] 0)) MapIs.nil) (Old.alloc _ _))
  simp [execOp, Instr.makeMap, newObj, Sem.run]
/-- 'm[k]'. -/
theorem ex_lookup {x y b t kt et k z sz by' dst ty ps af g} {R : List SP} (ha : Fr a n l) (ht : P.underlying t = some (.map kt et)) (hk : P.underlying kt = some (.int .i64)) (hi : TI P et z sz by') (hs : St W w L)
    [ev : Ev l x (.map (some b))] [ey : Ev l y (.int .i64 k)] [pk : PickM L b kvs R] (hv : ((findP kvs k 0).map (·.2)).getD z = v) :
    (execOp a.eval ⟨dst, .lookup t x y false, ty, ps, af, g⟩).run P w = .ok (.value v) w := by
  obtain ⟨es, clock, h1, h2⟩ := (hs.perm pk.perm).mpHas
  have hg := MapKept.run_getObj_map (P := P) h2.has.2
  have h3 : (Instr.lookup t (.map (some b)) (.int .i64 k) false).run P w = .ok v w := by
    simp only [Instr.lookup, Sem.run_bind, run_underlying ht, Result.andThen_ok, hg]
    simp only [Sem.run_pure, Result.andThen_ok, checkKey_int hk, findKey_is hk h1]
    cases hf : findP kvs k 0 with
    | none => rw [hf] at hv; simp at hv; simp [run_zero hi, hv]
    | some p => rw [hf] at hv; simp at hv; simp [hv]
  simp [execOp, ev.ev a n ha, ey.ev a n ha, h3]
/-- 'm[k] = v' at a new key. -/
theorem st_mapUpdate {x y u b t kt et k ty ps af g} {R : List SP} (ha : Fr a n l) (hw : Region.wanted ⟨none, .mapUpdate t x y u, ty, ps, af, g⟩ (yielded ops a.tmps) = true) (hs : St W w L)
    (ht : P.underlying t = some (.map kt et)) (hk : P.underlying kt = some (.int .i64)) [ev : Ev l x (.map (some b))] [ey : Ev l y (.int .i64 k)] [eu : Ev l u v] [pk : PickM L b kvs R]
    (hwf : (Lit.int .i64 k).wf = true) (hn : ∀ p ∈ kvs, p.1 ≠ k)
    (h : ∀ a' w', Fr a' n l → St W w' (mp b (kvs ++ [(k, v)]) :: R) → K a' w') : StepK P ops Q ⟨none, .mapUpdate t x y u, ty, ps, af, g⟩ K a w := by
  obtain ⟨es, clock, h1, h2⟩ := (hs.perm pk.perm).mpHas
  have hg := MapKept.run_getObj_map (P := P) h2.has.2
  have hb : b < w.heap.size := (Array.getElem?_eq_some_iff.1 h2.has.2).1
  have h3 : (Instr.mapUpdate t (.map (some b)) (.int .i64 k) v).run P w = .ok () (ChangeMaps.setBlock w b (.map (es.push ⟨.int .i64 k, v, clock⟩) (clock + 1))) := by
    simp only [Instr.mapUpdate, Sem.run_bind, run_underlying ht, Result.andThen_ok, hg]
    simp only [Sem.run_pure, Result.andThen_ok, checkKey_int hk, findKey_is hk h1, findP_none hn]
    simp [run_setMap h2.has.2]
  have h4 := h2.upd (o' := .map (es.push ⟨.int .i64 k, v, clock⟩) (clock + 1)) (w' := ChangeMaps.setBlock w b (.map (es.push ⟨.int .i64 k, v, clock⟩) (clock + 1))) rfl rfl rfl rfl
  refine st_act (w' := ChangeMaps.setBlock w b (.map (es.push ⟨.int .i64 k, v, clock⟩) (clock + 1))) ha hw ?_ (fun a' ha' => h a' _ ha' (h4.mpShut (h1.push hwf hn)))
  simp [execOp, ev.ev a n ha, ey.ev a n ha, eu.ev a n ha, h3]
/-- 'delete(m, k)' of an entry that is there. -/
theorem st_mapDelete {x y b t kt et k i ty ps af g} {R : List SP} (ha : Fr a n l) (hw : Region.wanted ⟨none, .call ⟨.builtin .delete, #[x, y], #[t, kt]⟩, ty, ps, af, g⟩ (yielded ops a.tmps) = true) (hs : St W w L)
    (ht : P.underlying t = some (.map kt et)) (hk : P.underlying kt = some (.int .i64)) [ev : Ev l x (.map (some b))] [ey : Ev l y (.int .i64 k)] [pk : PickM L b kvs R] (hi : findP kvs k 0 = some (i, v))
    (h : ∀ a' w', Fr a' n l → St W w' (mp b (kvs.eraseIdx i) :: R) → K a' w') : StepK P ops Q ⟨none, .call ⟨.builtin .delete, #[x, y], #[t, kt]⟩, ty, ps, af, g⟩ K a w := by
  obtain ⟨es, clock, h1, h2⟩ := (hs.perm pk.perm).mpHas
  have hg := MapKept.run_getObj_map (P := P) h2.has.2
  have hb : b < w.heap.size := (Array.getElem?_eq_some_iff.1 h2.has.2).1
  have h3 : (Builtin.delete_ #[t, kt] ty #[.map (some b), .int .i64 k]).run P w = .ok (.tuple #[]) (ChangeMaps.setBlock w b (.map (es.eraseIdxIfInBounds i) clock)) := by
    simp only [Builtin.delete_, List.getElem?_toArray, List.getElem?_cons_zero, List.getElem?_cons_succ]
    simp only [Sem.run_bind, run_underlying ht, Result.andThen_ok, hg]
    simp only [Sem.run_pure, Result.andThen_ok, checkKey_int hk, findKey_is hk h1, hi]
    simp [run_setMap h2.has.2]
  have h4 := h2.upd (o' := .map (es.eraseIdxIfInBounds i) clock) (w' := ChangeMaps.setBlock w b (.map (es.eraseIdxIfInBounds i) clock)) rfl rfl rfl rfl
  refine st_none (v := .tuple #[]) (w' := ChangeMaps.setBlock w b (.map (es.eraseIdxIfInBounds i) clock)) ha hw ?_ (fun a' ha' => h a' _ ha' (h4.mpShut (h1.erase i)))
  simp [execOp, resolve, ev.ev a n ha, ey.ev a n ha, invoke, builtin, h3]
end
end Go.Proofs.YtneafbkhaooelaaGreat

