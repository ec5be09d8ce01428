/- Branches added and let go, plainly: what stays true. -/
import Derived.Test.YtneafbkhaooelaaGreatWkQ
namespace Go.Proofs.YtneafbkhaooelaaGreat
open Go.RowKit
set_option linter.unusedVariables false
set_option linter.unusedSimpArgs false

theorem nodup_inj {α : Type} {f : α → Nat} : ∀ {l : List α}, (l.map f).Nodup → ∀ {x y : α}, x ∈ l → y ∈ l → f x = f y → x = y := by
  intro l
  induction l with
  | nil => intro _ x y hx; cases hx
  | cons a l ih =>
    intro hd x y hx hy he
    rw [List.map_cons, List.nodup_cons] at hd
    rcases List.mem_cons.1 hx with hxa | hx
    · rcases List.mem_cons.1 hy with hya | hy
      · rw [hxa, hya]
      · exact absurd (List.mem_map.2 ⟨y, hy, by rw [← he, hxa]⟩) hd.1
    · rcases List.mem_cons.1 hy with hya | hy
      · exact absurd (List.mem_map.2 ⟨x, hx, by rw [he, hya]⟩) hd.1
      · exact ih hd.2 hx hy he
theorem WF.dropId {A : Sn} (hw : WF A) (hr : ∀ x ∈ A.pics, x.refs = 1) (id : Nat) : WF (A.dropId id) := by
  by_cases h : ∃ px ∈ A.pics, px.id = id
  · obtain ⟨px, h1, rfl⟩ := h
    obtain ⟨i, hi⟩ := List.mem_iff_getElem?.1 h1
    rw [dropId_some hw hi, Sn.drop, if_pos (hr px h1)]
    exact hw.erase i
  · rw [dropId_none (fun y hy e => h ⟨y, hy, e⟩)]; exact hw
theorem dropAll_pics : ∀ (l : List Br) {A : Sn}, WF A → (∀ x ∈ A.pics, x.refs = 1) → A.dropAll l = { A with pics := A.pics.filter (fun x => !(l.map (·.snap)).contains x.id) } := by
  intro l
  induction l with
  | nil =>
    intro A hw hr
    have : A.pics.filter (fun x => !(([] : List Br).map (·.snap)).contains x.id) = A.pics := List.filter_eq_self.2 fun x _ => rfl
    rw [this]; rfl
  | cons y l ih =>
    intro A hw hr
    have h1 : A.dropAll (y :: l) = (A.dropId y.snap).dropAll l := rfl
    have h2 := dropId_pics hw hr y.snap
    have h3 : ∀ x ∈ (A.dropId y.snap).pics, x.refs = 1 := by rw [h2]; exact fun x hx => hr x (memF hx)
    rw [h1, ih (hw.dropId hr _) h3, h2]
    simp only [List.filter_filter]
    congr 1
    refine List.filter_congr fun x _ => ?_
    simp only [List.map_cons, List.contains_cons, Bool.not_or]
    rw [Bool.and_comm]; rfl
theorem perm_cut {base : Nat} {l : List Br} {f : Br → Bool} {H M : List Nat} (hp : M.Perm (base :: (l.map (·.snap) ++ H))) (nd : M.Nodup) :
    (M.filter (fun id => !((l.filter f).map (·.snap)).contains id)).Perm (base :: ((l.filter (fun x => !f x)).map (·.snap) ++ H)) := by
  have h1 := hp.nodup_iff.1 nd
  have h2 := hp.filter (fun id => !((l.filter f).map (·.snap)).contains id)
  have h3 := List.nodup_cons.1 h1
  have h4 := List.nodup_append.1 h3.2
  have hsub : ∀ id, id ∈ (l.filter f).map (·.snap) → id ∈ l.map (·.snap) := fun id h => by
    obtain ⟨y, hy, rfl⟩ := List.mem_map.1 h
    exact List.mem_map.2 ⟨y, memF hy, rfl⟩
  have hb : (!((l.filter f).map (·.snap)).contains base) = true := by
    simp only [Bool.not_eq_true', List.contains_eq_mem, decide_eq_false_iff_not]
    exact fun h => h3.1 (List.mem_append_left _ (hsub _ h))
  have hH : H.filter (fun id => !((l.filter f).map (·.snap)).contains id) = H := List.filter_eq_self.2 fun z hz => by
    simp only [Bool.not_eq_true', List.contains_eq_mem, decide_eq_false_iff_not]
    exact fun h => h4.2.2 z (hsub _ h) z hz rfl
  have hl : (l.map (·.snap)).filter (fun id => !((l.filter f).map (·.snap)).contains id) = (l.filter (fun x => !f x)).map (·.snap) := by
    rw [List.filter_map]
    congr 1
    refine List.filter_congr fun y hy => ?_
    simp only [Function.comp]
    congr 1
    cases hf : f y with
    | true =>
      simp only [List.contains_eq_mem, decide_eq_true_eq]
      exact List.mem_map.2 ⟨y, List.mem_filter.2 ⟨hy, hf⟩, rfl⟩
    | false =>
      simp only [List.contains_eq_mem, decide_eq_false_iff_not]
      intro h
      obtain ⟨z, hz, he⟩ := List.mem_map.1 h
      obtain ⟨hz1, hz2⟩ := List.mem_filter.1 hz
      have := nodup_inj h4.1 hz1 hy he
      rw [this, hf] at hz2; cases hz2
  rw [List.filter_cons, if_pos hb, List.filter_append, hl, hH] at h2
  exact h2
section
variable {p : Pr} {F : Int} {g0 : Nat → Int} {t : Nat → Nat} {base : Nat} {A : Sn} {T : Tr} {J : Js} {ws : List Wk} {k : Wk} {px : Pic} {P : List (List UInt8)} {i : Nat}
theorem Inv.cut (h : Inv p F g0 t base A T ws) (hA : WF A) (f : Br → Bool) : Inv p F g0 t base (A.dropAll (T.l.filter f)) (T.cut f) ws := by
  rw [dropAll_pics _ hA (fun x hx => (h.pics x hx).1)]
  refine ⟨?_, fun x hx => h.pics x (memF hx), fun x hx => h.base x (memF hx), fun y hy => ⟨(h.brs y (memF hy)).1, fun x hx => (h.brs y (memF hy)).2 x (memF hx)⟩, fun k hk => ⟨(h.wks k hk).1, fun e y hy hid => ?_⟩⟩
  · simp only [Tr.cut]
    have h1 := perm_cut (f := f) h.perm hA.nd
    have h2 : (A.pics.filter (fun x => !((T.l.filter f).map (·.snap)).contains x.id)).map (·.id) = (A.pics.map (·.id)).filter (fun id => !((T.l.filter f).map (·.snap)).contains id) := by
      rw [List.filter_map]; rfl
    rw [h2]; exact h1
  · obtain ⟨h1, h2⟩ := (h.wks k hk).2 e y (memF hy) hid
    exact ⟨h1, fun x hx => h2 x (memF hx)⟩
theorem Inv.addBr (h : Inv p F g0 t base A T ws) (hA : WF A) (hT : WT T) (hi : A.pics[i]? = some px) (hb : px.id = base) : Inv p F g0 t base (A.add px.g px.p) (T.add F P (A.last + 1)) ws := by
  have hpx := List.mem_of_getElem? hi
  have hnew : ∀ z ∈ A.pics, z.id ≠ A.last + 1 := fun z hz e => by have := (hA.pic z hz).2.1; omega
  have hlt : ∀ id ∈ base :: (T.l.map (·.snap) ++ heldW ws), id ≠ A.last + 1 := fun id hid e => by
    obtain ⟨z, hz, he⟩ := List.mem_map.1 (h.perm.mem_iff.2 hid)
    exact hnew z hz (by rw [he, e])
  have hin : ∀ z ∈ (A.add px.g px.p).pics, z ∈ A.pics ∨ z = ⟨A.last + 1, 1, px.g, px.p⟩ := fun z hz => by
    simp only [Sn.add] at hz
    rcases List.mem_append.1 hz with hz | hz
    · exact .inl hz
    · simp at hz; exact .inr hz
  refine ⟨?_, fun z hz => ?_, fun z hz he => ?_, fun y hy => ?_, fun k hk => ⟨?_, fun e y hy hid => ?_⟩⟩
  · simp only [Sn.add, Tr.add, List.map_append, List.map_cons, List.map_nil]
    refine (h.perm.append_right _).trans ((List.perm_append_singleton _ _).trans ((List.Perm.swap _ _ _).trans (List.Perm.cons _ ?_)))
    rw [List.append_assoc]
    exact List.perm_middle.symm
  · rcases hin z hz with hz | rfl
    · exact h.pics z hz
    · exact ⟨rfl, (h.pics px hpx).2⟩
  · rcases hin z hz with hz | rfl
    · exact h.base z hz he
    · exact absurd he.symm (hlt base (List.mem_cons_self ..))
  · simp only [Tr.add] at hy
    rcases List.mem_append.1 hy with hy | hy
    · refine ⟨(h.brs y hy).1, fun z hz he => ?_⟩
      rcases hin z hz with hz | rfl
      · exact (h.brs y hy).2 z hz he
      · exact absurd he.symm (hlt y.snap (List.mem_cons_of_mem _ (List.mem_append_left _ (List.mem_map.2 ⟨y, hy, rfl⟩))))
    · simp at hy; subst hy
      refine ⟨rfl, fun z hz he => ?_⟩
      rcases hin z hz with hz | rfl
      · exact absurd he (hnew z hz)
      · exact (h.base px hpx hb).1
  · have := (h.wks k hk).1
    simp only [Tr.add]; omega
  · have hk1 := (h.wks k hk).1
    simp only [Tr.add] at hy
    rcases List.mem_append.1 hy with hy | hy
    · obtain ⟨h1, h2⟩ := (h.wks k hk).2 e y hy hid
      refine ⟨h1, fun z hz he => ?_⟩
      rcases hin z hz with hz | rfl
      · exact h2 z hz he
      · exact absurd he.symm (hlt k.x (List.mem_cons_of_mem _ (List.mem_append_right _ (mem_heldW hk e))))
    · simp at hy; subst hy
      simp only at hid; omega
theorem Inv.addWk (h : Inv p F g0 t base A T ws) (hb : k.busy = false) (hj : k.jb ≤ T.last) : Inv p F g0 t base A T (k :: ws) := by
  refine ⟨by rw [heldW_idle hb]; exact h.perm, h.pics, h.base, h.brs, fun k2 hk2 => ?_⟩
  rcases List.mem_cons.1 hk2 with rfl | hk2
  · exact ⟨hj, fun e => by rw [hb] at e; cases e⟩
  · exact h.wks k2 hk2
theorem Tok.addWk (h : Tok T J ws) (hb : k.busy = false) : Tok T J (k :: ws) := by
  refine ⟨by rw [heldJ_idle hb]; exact h.perm, h.ep, fun k2 hk2 => ?_⟩
  rcases List.mem_cons.1 hk2 with rfl | hk2
  · exact fun e => by rw [hb] at e; cases e
  · exact h.wk k2 hk2
/-- A branch is added, and its job. -/
theorem Tok.addBr {sn : Nat} (h : Tok T J ws) (hT : WT T) (hw : ∀ k ∈ ws, k.busy = false) (hP : P ≠ []) :
    Go.Proofs.YtneafbkhaooelaaGreat.putJ J ((T.last + 1 : Nat) : Int) (T.epoch : Int) = J ++ [(((T.last + 1 : Nat) : Int), (T.epoch : Int))] ∧ Tok (T.add F P sn) (J ++ [(((T.last + 1 : Nat) : Int), (T.epoch : Int))]) ws := by
  have hj : heldJ ws = [] := by rw [heldJ, List.filter_eq_nil_iff.2 (fun k hk => by simp [hw k hk])]; rfl
  have hp := h.perm
  rw [hj, List.append_nil] at hp
  have hlen := hp.length_eq
  have h8 := unfin_len hT
  rw [List.length_map] at hlen
  refine ⟨?_, ?_, fun j hj2 => ?_, fun k hk e => by rw [hw k hk] at e; cases e⟩
  · rw [Go.Proofs.YtneafbkhaooelaaGreat.putJ, if_pos]
    simp only [mayPut, Bool.and_eq_true, decide_eq_true_eq, Bool.not_eq_true', List.any_eq_false]
    refine ⟨by omega, fun y hy e => ?_⟩
    obtain ⟨z, hz, he, _⟩ := mem_unfin (hp.mem_iff.1 (List.mem_map.2 ⟨y, hy, rfl⟩))
    have := (hT.ok z hz).2.2.2
    omega
  · rw [hj, List.append_nil, List.map_append]
    simp only [unfin, Tr.add, List.filter_append]
    rw [List.filter_cons_of_pos (by simp only [unfB, decide_eq_true_eq]; exact List.length_pos_iff.2 hP), List.map_append]
    exact hp.append_right _
  · simp only [Tr.add]
    rcases List.mem_append.1 hj2 with hj2 | hj2
    · exact h.ep j hj2
    · simp at hj2; subst hj2; rfl
theorem Inv.len (h : Inv p F g0 t base A T ws) : A.pics.length = 1 + T.l.length + (heldW ws).length := by
  have := h.perm.length_eq
  simp only [List.length_map, List.length_cons, List.length_append] at this
  omega
end
/-- Presses that are added one after the other: those that are new. -/
def addB (l : List (Nat × List (List UInt8))) (P : List (List UInt8)) : List (Nat × List (List UInt8)) := if P = [] ∨ (l.any fun y => y.2 == P) = true then l else l ++ [(l.length + 1, P)]
theorem addB_le (l : List (Nat × List (List UInt8))) (P : List (List UInt8)) : (addB l P).length ≤ l.length + 1 := by
  unfold addB; split <;> simp
end Go.Proofs.YtneafbkhaooelaaGreat

