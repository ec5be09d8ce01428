/- BranchAll: which pictures the store holds. -/
import Derived.Test.YtkjmmchmanofkaaBranchB
namespace Go.Proofs.Ytkjmmchmanofkaa
open Go.RowKit
set_option linter.unusedVariables false
set_option linter.unusedSimpArgs false
set_option maxRecDepth 10000
set_option synthInstance.maxSize 4000
set_option synthInstance.maxHeartbeats 400000

/-- The store holds the first picture and one for each branch, each held once. -/
structure Held (t : Nat → Nat) (A : Sn) (l : List Br) : Prop where
  base : A.pics[0]? = some ⟨1, 1, fun _ => 0, t⟩
  perm : (A.pics.map fun p => (p.id, p.refs)).Perm ((1, 1) :: l.map fun y => (y.snap, 1))
  nd : (1 :: l.map (·.snap)).Nodup
section
variable {W w : World} {L L' R : List SP} {tq sq q r n c k m i : Nat} {ad : Option Addr} {A : Sn} {T : Tr} {x y : Br} {ys : List Tw} {p : List (List UInt8)} {t : Nat → Nat} {l l' : List Br}
theorem Held.len (h : Held t A l) : A.pics.length = l.length + 1 := by
  have := h.perm.length_eq
  simpa using this
theorem Held.own (h : Held t A l) (hx : x ∈ l) : ∃ (i : Nat) (px : Pic), A.pics[i]? = some px ∧ px.id = x.snap ∧ px.refs = 1 := by
  have h1 : (x.snap, 1) ∈ A.pics.map fun p => (p.id, p.refs) := h.perm.mem_iff.2 (List.mem_cons_of_mem _ (List.mem_map.2 ⟨x, hx, rfl⟩))
  obtain ⟨px, hp, he⟩ := List.mem_map.1 h1
  obtain ⟨i, hi⟩ := List.mem_iff_getElem?.1 hp
  simp only [Prod.mk.injEq] at he
  exact ⟨i, px, hi, he.1, he.2⟩
theorem Held.ne (h : Held t A l) (hx : x ∈ l) : x.snap ≠ 1 := fun e => (List.nodup_cons.1 h.nd).1 (List.mem_map.2 ⟨x, hx, e⟩)
theorem Held.same (h : Held t A l) (hp : (l.map (·.snap)).Perm (l'.map (·.snap))) : Held t A l' := by
  refine ⟨h.base, h.perm.trans (.cons _ ?_), (hp.cons 1).nodup_iff.1 h.nd⟩
  have := hp.map (fun s => ((s, 1) : Nat × Nat))
  simpa [List.map_map, Function.comp_def] using this
theorem Held.add {g : Nat → Int} {u : Nat → Nat} (h : Held t A l) (hw : WF A) (hx : x.snap = A.last + 1) : Held t (A.add g u) (l ++ [x]) := by
  refine ⟨?_, ?_, ?_⟩
  · simp only [Sn.add]
    rw [List.getElem?_append_left (List.getElem?_eq_some_iff.1 h.base).1]; exact h.base
  · simp only [Sn.add, List.map_append, List.map_cons, List.map_nil, ← hx]
    exact h.perm.append_right _
  · have hlt : ∀ s ∈ 1 :: l.map (·.snap), s ≤ A.last := by
      intro s hs
      have h1 : (s, 1) ∈ (1, 1) :: l.map fun y => (y.snap, 1) := by
        rcases List.mem_cons.1 hs with rfl | hs
        · exact List.mem_cons_self ..
        · obtain ⟨y, hy, rfl⟩ := List.mem_map.1 hs
          exact List.mem_cons_of_mem _ (List.mem_map.2 ⟨y, hy, rfl⟩)
      obtain ⟨px, hp, he⟩ := List.mem_map.1 (h.perm.mem_iff.2 h1)
      simp only [Prod.mk.injEq] at he
      have := (hw.pic px hp).2.1
      omega
    rw [List.map_append, ← List.cons_append]
    refine List.nodup_append.2 ⟨h.nd, by simp, fun a ha b hb => ?_⟩
    simp at hb
    have := hlt a ha
    omega
theorem Held.put {idx : Nat} {px : Pic} {g : Nat → Int} {u : Nat → Nat} (h : Held t A l) (hp : A.pics[idx]? = some px) (hi : px.id ≠ 1) : Held t { A with pics := A.pics.set idx { px with g := g, p := u } } l := by
  obtain ⟨hlt, he⟩ := List.getElem?_eq_some_iff.1 hp
  refine ⟨?_, ?_, h.nd⟩
  · have hne : idx ≠ 0 := by
      intro e; subst e
      have := h.base
      rw [hp] at this; cases this
      exact hi rfl
    simp only
    rw [List.getElem?_set_ne (by omega)]; exact h.base
  · have : (A.pics.set idx { px with g := g, p := u }).map (fun p => (p.id, p.refs)) = A.pics.map fun p => (p.id, p.refs) := by
      rw [List.map_set]
      apply List.ext_getElem (by simp)
      intro j h1 h2
      simp only [List.getElem_set, List.getElem_map]
      split
      · rename_i e; subst e; rw [he]
      · rfl
    simp only [this]
    exact h.perm
theorem Held.dropId (h : Held t A l) (hx : l[k]? = some x) : Held t (A.dropId x.snap) (l.eraseIdx k) := by
  obtain ⟨hk, hke⟩ := List.getElem?_eq_some_iff.1 hx
  obtain ⟨j0, px, hj0, hpi, hpr⟩ := h.own (List.mem_of_getElem? hx)
  obtain ⟨i, hfi⟩ : ∃ i, A.pics.findIdx? (fun z => z.id == x.snap) = some i := by
    cases hf : A.pics.findIdx? (fun z => z.id == x.snap) with
    | some i => exact ⟨i, rfl⟩
    | none =>
      rw [List.findIdx?_eq_none_iff] at hf
      have := hf px (List.mem_of_getElem? hj0)
      simp [hpi] at this
  obtain ⟨hil, hie, _⟩ := List.findIdx?_eq_some_iff_getElem.1 hfi
  have hid : A.pics[i].id = x.snap := by simpa using hie
  have hpm : (A.pics[i].id, A.pics[i].refs) ∈ (1, 1) :: l.map fun y => (y.snap, 1) := h.perm.mem_iff.1 (List.mem_map.2 ⟨A.pics[i], List.getElem_mem _, rfl⟩)
  have hrf : A.pics[i].refs = 1 := by
    rcases List.mem_cons.1 hpm with e | e
    · simp only [Prod.mk.injEq] at e; exact e.2
    · obtain ⟨y, _, e⟩ := List.mem_map.1 e
      simp only [Prod.mk.injEq] at e; exact e.2.symm
  have hd : A.dropId x.snap = { A with pics := A.pics.eraseIdx i } := by
    rw [Sn.dropId]
    simp only [hfi, List.getElem?_eq_getElem hil]
    simp [Sn.drop, hrf]
  refine ⟨(dropId_head h.base (fun e => h.ne (List.mem_of_getElem? hx) e.symm)).1, ?_, ?_⟩
  · rw [hd]
    simp only
    have h1 : (A.pics.map fun p => (p.id, p.refs)).Perm ((x.snap, 1) :: (A.pics.eraseIdx i).map fun p => (p.id, p.refs)) := by
      have := (erase_perm A.pics hil).map (fun p => (p.id, p.refs))
      rw [List.map_cons, hid, hrf] at this
      exact this
    have h2 : (l.map fun y => (y.snap, 1)).Perm ((x.snap, 1) :: (l.eraseIdx k).map fun y => (y.snap, 1)) := by
      have := (erase_perm l hk).map (fun y => ((y.snap, 1) : Nat × Nat))
      rw [List.map_cons, hke] at this
      exact this
    have h3 : ((x.snap, 1) :: (A.pics.eraseIdx i).map fun p => (p.id, p.refs)).Perm ((x.snap, 1) :: (1, 1) :: (l.eraseIdx k).map fun y => (y.snap, 1)) :=
      h1.symm.trans (h.perm.trans ((h2.cons _).trans (List.Perm.swap _ _ _)))
    exact h3.cons_inv
  · refine h.nd.sublist (.cons_cons _ ?_)
    exact (List.eraseIdx_sublist l k).map _
theorem Held.dropAll {f : Br → Bool} : ∀ (l : List Br) (pre : List Br) (A : Sn), Held t A (pre ++ l) → Held t (A.dropAll (l.filter f)) (pre ++ l.filter (fun x => !f x)) := by
  intro l
  induction l with
  | nil => intro pre A h; exact h
  | cons x l ih =>
    intro pre A h
    cases hf : f x with
    | true =>
      rw [List.filter_cons_of_pos hf, List.filter_cons_of_neg (by simp [hf])]
      have h1 := h.dropId (k := pre.length) (x := x) (by simp)
      rw [List.eraseIdx_append_of_length_le (Nat.le_refl _), Nat.sub_self] at h1
      exact ih pre _ h1
    | false =>
      rw [List.filter_cons_of_neg (by simp [hf]), List.filter_cons_of_pos (by simp [hf])]
      have h1 := ih (pre ++ [x]) A (by simpa using h)
      simpa using h1
theorem dropAll_n (l : List Br) : ∀ A : Sn, (A.dropAll l).n = A.n ∧ (A.dropAll l).room = A.room := by
  induction l with
  | nil => exact fun A => ⟨rfl, rfl⟩
  | cons x l ih =>
    intro A
    have h := ih (A.dropId x.snap)
    have h2 : (A.dropId x.snap).n = A.n ∧ (A.dropId x.snap).room = A.room := by
      rw [Sn.dropId]
      split
      · split <;> exact ⟨rfl, rfl⟩
      · exact ⟨rfl, rfl⟩
    exact ⟨h.1.trans h2.1, h.2.trans h2.2⟩
theorem Held.ids (h : Held t A l) {z : Pic} (hz : z ∈ A.pics) : z.id = 1 ∨ ∃ y ∈ l, z.id = y.snap := by
  have h1 : (z.id, z.refs) ∈ (1, 1) :: l.map fun y => (y.snap, 1) := h.perm.mem_iff.1 (List.mem_map.2 ⟨z, hz, rfl⟩)
  rcases List.mem_cons.1 h1 with e | e
  · simp only [Prod.mk.injEq] at e; exact .inl e.1
  · obtain ⟨y, hy, e⟩ := List.mem_map.1 e
    simp only [Prod.mk.injEq] at e
    exact .inr ⟨y, hy, e.1.symm⟩
/-- A fork that is dropped again. -/
theorem Held.undo {d : Br} (h : Held t A (l ++ [d])) : Held t (A.dropId d.snap) l ∧ ∀ z ∈ (A.dropId d.snap).pics, z.id ≠ d.snap := by
  have h1 := h.dropId (k := l.length) (x := d) (by simp)
  rw [List.eraseIdx_append_of_length_le (Nat.le_refl _), Nat.sub_self] at h1
  have h2 : Held t (A.dropId d.snap) l := by simpa using h1
  refine ⟨h2, fun z hz e => ?_⟩
  have hnd := h.nd
  rw [List.map_append, ← List.cons_append] at hnd
  have h3 := (List.nodup_append.1 hnd).2.2
  rcases h2.ids hz with h4 | ⟨y, hy, h4⟩
  · exact h3 1 (List.mem_cons_self ..) d.snap (by simp) (by rw [← e, h4])
  · exact h3 y.snap (List.mem_cons_of_mem _ (List.mem_map.2 ⟨y, hy, rfl⟩)) d.snap (by simp) (by rw [← e, h4])
/-- A fork that takes the place of a branch's picture. -/
theorem Held.swap {d x' : Br} (h : Held t A (l ++ [d])) (hx : l[k]? = some x) (hs' : x'.snap = d.snap) : Held t (A.dropId x.snap) (l.set k x') := by
  obtain ⟨hk, hke⟩ := List.getElem?_eq_some_iff.1 hx
  have h1 := h.dropId (k := k) (x := x) (by rw [List.getElem?_append_left hk]; exact hx)
  refine h1.same ?_
  rw [List.eraseIdx_append_of_lt_length hk, List.map_append]
  have h2 := (erase_perm (l.set k x') (i := k) (by simpa using hk)).map (·.snap)
  rw [List.map_cons, List.getElem_set_self, List.eraseIdx_set_eq, hs'] at h2
  refine List.Perm.trans ?_ h2.symm
  exact List.perm_append_comm (l₁ := (l.eraseIdx k).map (·.snap)) (l₂ := [d.snap])
/-- May that be published? -/
def Pub (ys : List Br) (id d : Int) (dead : Bool) (a : Int) (wb : Bool) : Prop :=
  (wb = true ∧ dead = false ∧ ∃ (j : Nat) (y : Br), ys[j]? = some y ∧ (y.id : Int) = id ∧ a = (j : Int) ∧ (y.done : Int) < d ∧ d ≤ (y.press.length : Int)) ∨
  (wb = false ∧ ((∀ y ∈ ys, (y.id : Int) ≠ id) ∨ ∃ (j : Nat) (y : Br), ys[j]? = some y ∧ (y.id : Int) = id ∧ (d ≤ (y.done : Int) ∨ (y.press.length : Int) < d ∨ dead = true)))
theorem publish_case {id d a : Int} {dead wb : Bool} {s i : Nat} {px : Pic} (hs : St W w (Tree tq q T :: Store q r A :: L)) (hp : Pub T.l id d dead a wb) (hl : dead = false → A.pics[i]? = some px ∧ px.id = s) (hd : dead = true → ∀ z ∈ A.pics, z.id ≠ s) :
    Calls Try.prog 21 #[.pointer (some ⟨tq, 0, none⟩), .int .i64 id, .int .i64 d, .int .i64 s] w fun e w' => ∃ (T' : Tr) (A' : Sn), e = .returned (.bool wb) ∧
      ((wb = false ∧ T' = T ∧ A' = A) ∨ (wb = true ∧ dead = false ∧ ∃ (j : Nat) (y : Br) (D : Nat), T.l[j]? = some y ∧ a = (j : Int) ∧ d = (D : Int) ∧ T' = T.pub j y D s ∧ A' = A.dropId y.snap)) ∧ St W w' (Tree tq q T' :: Store q r A' :: L) := by
  rcases hp with ⟨rfl, rfl, j, y, hj, rfl, rfl, h1, h2⟩ | ⟨rfl, h | ⟨j, y, hj, rfl, h⟩⟩
  · obtain ⟨D, rfl⟩ : ∃ D : Nat, d = D := ⟨d.toNat, by omega⟩
    obtain ⟨h3, rfl⟩ := hl rfl
    exact (publish_ok hs hj (by omega) (by omega) h3).mono fun e w' ⟨h4, hs⟩ => ⟨_, _, h4, .inr ⟨rfl, rfl, j, y, D, hj, rfl, rfl, rfl, rfl⟩, hs⟩
  · exact (publish_none hs h).mono fun e w' ⟨h4, hs⟩ => ⟨T, A, h4, .inl ⟨rfl, rfl, rfl⟩, hs⟩
  · refine (publish_no (i := 0) (px := px) hs hj (sn := (s : Int)) ?_).mono fun e w' ⟨h4, hs⟩ => ⟨T, A, h4, .inl ⟨rfl, rfl, rfl⟩, hs⟩
    rcases h with h | h | h
    · exact .inl h
    · exact .inr (.inl h)
    · exact .inr (.inr fun z hz e => hd h z hz (by omega))
end
end Go.Proofs.Ytkjmmchmanofkaa

