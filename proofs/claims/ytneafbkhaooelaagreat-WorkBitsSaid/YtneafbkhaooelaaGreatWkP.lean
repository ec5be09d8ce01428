/- Workers, plainly: what one bit does to the pictures, the branches and the jobs, and what stays true. -/
import Derived.Test.YtneafbkhaooelaaGreatBranch2
import Derived.Test.YtneafbkhaooelaaGreatVmP
import Derived.Test.YtneafbkhaooelaaGreatJob
namespace Go.Proofs.YtneafbkhaooelaaGreat
open Go.RowKit
set_option linter.unusedVariables false
set_option linter.unusedSimpArgs false

/-- A worker. -/
structure Wk where
  busy : Bool
  jb : Int
  je : Int
  x : Nat
  done : Nat
  played : Bool
def wk0 : Wk := ⟨false, 0, 0, 0, 0, false⟩
abbrev Js := List (Int × Int)
def putJ (J : Js) (b e : Int) : Js := if mayPut J b then J ++ [(b, e)] else J
/-- One bit of a worker. -/
inductive Bit (p : Pr) (A : Sn) (T : Tr) (J : Js) (k : Wk) : Bool → Sn → Tr → Js → Wk → Prop
  | idle : k.busy = false → J = [] → Bit p A T J k false A T J k
  | stale {j : Int × Int} {J' : Js} : k.busy = false → J = j :: J' → (j.2 ≠ T.epoch ∨ (∀ y ∈ T.l, (y.id : Int) ≠ j.1) ∨ ∃ x ∈ T.l, (x.id : Int) = j.1 ∧ x.press.length ≤ x.done) → Bit p A T J k true A T J' k
  | took {j : Int × Int} {J' : Js} {i : Nat} {x : Br} {px : Pic} : k.busy = false → J = j :: J' → j.2 = T.epoch → x ∈ T.l → (x.id : Int) = j.1 → x.done < x.press.length → A.pics[i]? = some px → px.id = x.snap →
      Bit p A T J k true (A.add px.g px.p) T J' ⟨true, j.1, j.2, A.last + 1, x.done, false⟩
  | gone : k.busy = true → (k.je ≠ T.epoch ∨ ∀ y ∈ T.l, (y.id : Int) ≠ k.jb) → Bit p A T J k true (A.dropId k.x) T J { k with busy := false }
  | played {x : Br} {i : Nat} {px : Pic} {p' : Nat → Nat} {b : List UInt8} : k.busy = true → k.je = T.epoch → x ∈ T.l → (x.id : Int) = k.jb → k.played = false → A.pics[i]? = some px → px.id = k.x → x.press[k.done]? = some b →
      gOk (frameI p (x.frm + k.done) b px.g) → Bit p A T J k true { A with pics := A.pics.set i ⟨px.id, px.refs, frameI p (x.frm + k.done) b px.g, p'⟩ } T J { k with played := true }
  | failed {x : Br} : k.busy = true → k.je = T.epoch → x ∈ T.l → (x.id : Int) = k.jb → k.played = false → ¬ 4 * A.pics.length ≤ A.room → Bit p A T J k true (A.dropId k.x) T (putJ J k.jb k.je) { k with busy := false }
  | pub {x : Br} {kk : Nat} : k.busy = true → k.je = T.epoch → T.l[kk]? = some x → (x.id : Int) = k.jb → k.played = true → x.done < k.done + 1 → k.done + 1 ≤ x.press.length →
      Bit p A T J k true (A.dropId x.snap) (T.pub kk x (k.done + 1) k.x) (if k.done + 1 < x.press.length then putJ J k.jb k.je else J) { k with busy := false }
  | lost {x : Br} : k.busy = true → k.je = T.epoch → x ∈ T.l → (x.id : Int) = k.jb → k.played = true → k.done + 1 ≤ x.done → Bit p A T J k true (A.dropId k.x) T (if x.done < x.press.length then putJ J k.jb k.je else J) { k with busy := false }

def heldW (ws : List Wk) : List Nat := (ws.filter (·.busy)).map (·.x)
/-- The store holds the base's picture, one for each branch, and one for each busy worker, each once; all games are what they must be. -/
structure Inv (p : Pr) (F : Int) (g0 : Nat → Int) (t : Nat → Nat) (base : Nat) (A : Sn) (T : Tr) (ws : List Wk) : Prop where
  perm : (A.pics.map (·.id)).Perm (base :: (T.l.map (·.snap) ++ heldW ws))
  pics : ∀ x ∈ A.pics, x.refs = 1 ∧ gOk x.g
  base : ∀ x ∈ A.pics, x.id = base → x.g = g0 ∧ x.p = t
  brs : ∀ y ∈ T.l, y.frm = F ∧ ∀ x ∈ A.pics, x.id = y.snap → x.g = foldI p F g0 (y.press.take y.done)
  wks : ∀ k ∈ ws, k.jb ≤ T.last ∧ (k.busy = true → ∀ y ∈ T.l, (y.id : Int) = k.jb → k.done < y.press.length ∧ ∀ x ∈ A.pics, x.id = k.x → x.g = foldI p F g0 (y.press.take (k.done + if k.played then 1 else 0)))

theorem memF {α : Type} {f : α → Bool} {l : List α} {x : α} (h : x ∈ l.filter f) : x ∈ l := (List.mem_filter.1 h).1
theorem WF.nd {A : Sn} (h : WF A) : (A.pics.map (·.id)).Nodup := h.sorted.imp (fun h => Nat.ne_of_lt h)
theorem WF.same {A : Sn} (h : WF A) {x y : Pic} (hx : x ∈ A.pics) (hy : y ∈ A.pics) (he : x.id = y.id) : x = y := by
  obtain ⟨i, hi⟩ := List.mem_iff_getElem?.1 hx
  obtain ⟨j, hj⟩ := List.mem_iff_getElem?.1 hy
  obtain rfl := h.ids hi hj he
  rw [hi] at hj; cases hj; rfl
theorem WT.same {T : Tr} (h : WT T) {x y : Br} (hx : x ∈ T.l) (hy : y ∈ T.l) (he : x.id = y.id) : x = y := by
  obtain ⟨i, hi⟩ := List.mem_iff_getElem?.1 hx
  obtain ⟨j, hj⟩ := List.mem_iff_getElem?.1 hy
  obtain rfl := h.unique hj hi he
  rw [hi] at hj; cases hj; rfl
theorem filter_erase {α : Type} {f : α → Nat} : ∀ {l : List α} {i : Nat} (hd : (l.map f).Nodup) (hi : i < l.length), l.filter (fun x => f x != f l[i]) = l.eraseIdx i := by
  intro l
  induction l with
  | nil => intro i _ hi; simp at hi
  | cons a l ih =>
    intro i hd hi
    rw [List.map_cons, List.nodup_cons] at hd
    cases i with
    | zero =>
      rw [List.getElem_cons_zero, List.filter_cons_of_neg (by simp), List.eraseIdx_cons_zero, List.filter_eq_self]
      intro y hy
      simp only [bne_iff_ne, ne_eq]
      intro e
      exact hd.1 (e ▸ List.mem_map.2 ⟨y, hy, rfl⟩)
    | succ i =>
      have hi' : i < l.length := by simpa using hi
      rw [List.getElem_cons_succ, List.filter_cons_of_pos, List.eraseIdx_cons_succ, ih hd.2 hi']
      simp only [bne_iff_ne, ne_eq]
      intro e
      exact hd.1 (e ▸ List.mem_map.2 ⟨l[i], List.getElem_mem _, rfl⟩)
theorem dropId_pics {A : Sn} (hw : WF A) (hr : ∀ x ∈ A.pics, x.refs = 1) (id : Nat) : A.dropId id = { A with pics := A.pics.filter (fun x => x.id != id) } := by
  by_cases h : ∃ px ∈ A.pics, px.id = id
  · obtain ⟨px, h1, rfl⟩ := h
    obtain ⟨i, hi⟩ := List.mem_iff_getElem?.1 h1
    obtain ⟨hl, he⟩ := List.getElem?_eq_some_iff.1 hi
    have h2 := filter_erase hw.nd hl
    rw [he] at h2
    rw [dropId_some hw hi, Sn.drop, if_pos (hr px h1), h2]
  · rw [dropId_none (fun y hy e => h ⟨y, hy, e⟩), List.filter_eq_self.2]
    intro y hy
    simp only [bne_iff_ne, ne_eq]
    exact fun e => h ⟨y, hy, e⟩
theorem perm_drop {a : Nat} {l L M : List Nat} (h1 : l.Perm L) (h2 : L.Perm (a :: M)) (nd : l.Nodup) : (l.filter (· != a)).Perm M := by
  have h3 := (h1.trans h2).filter (· != a)
  have h4 := (h1.trans h2).nodup_iff.1 nd
  rw [List.nodup_cons] at h4
  have h5 : M.filter (· != a) = M := List.filter_eq_self.2 (fun y hy => by simp only [bne_iff_ne, ne_eq]; intro e; exact h4.1 (e ▸ hy))
  rw [List.filter_cons_of_neg (by simp), h5] at h3
  exact h3
theorem map_filter_id (l : List Pic) (id : Nat) : (l.filter (fun x => x.id != id)).map (·.id) = (l.map (·.id)).filter (· != id) := by
  rw [List.filter_map]; rfl
theorem heldW_busy {k : Wk} {ws : List Wk} (h : k.busy = true) : heldW (k :: ws) = k.x :: heldW ws := by rw [heldW, List.filter_cons_of_pos h, List.map_cons]; rfl
theorem heldW_idle {k : Wk} {ws : List Wk} (h : k.busy = false) : heldW (k :: ws) = heldW ws := by rw [heldW, List.filter_cons_of_neg (by simp [h])]; rfl
theorem mem_heldW {k : Wk} {ws : List Wk} (h : k ∈ ws) (hb : k.busy = true) : k.x ∈ heldW ws := List.mem_map.2 ⟨k, List.mem_filter.2 ⟨h, hb⟩, rfl⟩
theorem Inv.permW {p : Pr} {F : Int} {g0 : Nat → Int} {t : Nat → Nat} {base : Nat} {A : Sn} {T : Tr} {ws ws' : List Wk} (h : Inv p F g0 t base A T ws) (hp : ws.Perm ws') : Inv p F g0 t base A T ws' :=
  ⟨h.perm.trans ((((hp.filter _).map _).append_left _).cons _), h.pics, h.base, h.brs, fun k hk => h.wks k (hp.mem_iff.2 hk)⟩
section
variable {p : Pr} {F : Int} {g0 : Nat → Int} {t : Nat → Nat} {base : Nat} {A A' : Sn} {T T' : Tr} {J J' : Js} {ws : List Wk} {k k' : Wk} {r : Bool}
theorem Inv.nd (h : Inv p F g0 t base A T ws) (hA : WF A) : (base :: (T.l.map (·.snap) ++ heldW ws)).Nodup := h.perm.nodup_iff.1 hA.nd
theorem Inv.pic (h : Inv p F g0 t base A T ws) {id : Nat} (hm : id ∈ base :: (T.l.map (·.snap) ++ heldW ws)) : ∃ (i : Nat) (px : Pic), A.pics[i]? = some px ∧ px.id = id := by
  obtain ⟨px, h1, h2⟩ := List.mem_map.1 (h.perm.mem_iff.2 hm)
  obtain ⟨i, hi⟩ := List.mem_iff_getElem?.1 h1
  exact ⟨i, px, hi, h2⟩
theorem Inv.ofBr (h : Inv p F g0 t base A T ws) {x : Br} (hx : x ∈ T.l) : ∃ (i : Nat) (px : Pic), A.pics[i]? = some px ∧ px.id = x.snap :=
  h.pic (List.mem_cons_of_mem _ (List.mem_append_left _ (List.mem_map.2 ⟨x, hx, rfl⟩)))
theorem Inv.ofWk (h : Inv p F g0 t base A T ws) (hk : k ∈ ws) (hb : k.busy = true) : ∃ (i : Nat) (px : Pic), A.pics[i]? = some px ∧ px.id = k.x :=
  h.pic (List.mem_cons_of_mem _ (List.mem_append_right _ (mem_heldW hk hb)))
/-- A worker lets its picture go. -/
theorem Inv.rest (h : Inv p F g0 t base A T (k :: ws)) (hA : WF A) (hb : k.busy = true) (hj : k'.busy = false) (hl : k'.jb = k.jb) : Inv p F g0 t base (A.dropId k.x) T (k' :: ws) := by
  rw [dropId_pics hA (fun x hx => (h.pics x hx).1)]
  refine ⟨?_, fun x hx => h.pics x (memF hx), fun x hx => h.base x (memF hx), fun y hy => ⟨(h.brs y hy).1, fun x hx => (h.brs y hy).2 x (memF hx)⟩, fun k2 hk2 => ?_⟩
  · simp only
    rw [map_filter_id, heldW_idle hj]
    refine perm_drop h.perm ?_ hA.nd
    rw [heldW_busy hb]
    exact (List.Perm.cons _ List.perm_middle).trans (List.Perm.swap _ _ _)
  · rcases List.mem_cons.1 hk2 with rfl | hk2
    · exact ⟨by rw [hl]; exact (h.wks k (List.mem_cons_self ..)).1, fun e => by rw [hj] at e; cases e⟩
    · refine ⟨(h.wks k2 (List.mem_cons_of_mem _ hk2)).1, fun e y hy hid => ?_⟩
      obtain ⟨h1, h2⟩ := (h.wks k2 (List.mem_cons_of_mem _ hk2)).2 e y hy hid
      exact ⟨h1, fun x hx => h2 x (memF hx)⟩
theorem mem_set_id {A : Sn} (hA : WF A) {i : Nat} {px v z : Pic} (hi : A.pics[i]? = some px) (hz : z ∈ A.pics.set i v) : z = v ∨ (z ∈ A.pics ∧ z.id ≠ px.id) := by
  obtain ⟨j, hj⟩ := List.mem_iff_getElem?.1 hz
  rw [List.getElem?_set] at hj
  split at hj
  · split at hj
    · cases hj; exact .inl rfl
    · cases hj
  · rename_i hne
    exact .inr ⟨List.mem_of_getElem? hj, fun e => hne (hA.ids hi hj e.symm)⟩
theorem Inv.bit (h : Inv p F g0 t base A T (k :: ws)) (hA : WF A) (hT : WT T) (hb : Bit p A T J k r A' T' J' k') : Inv p F g0 t base A' T' (k' :: ws) := by
  cases hb with
  | idle => exact h
  | stale => exact h
  | @took j J' i x px h1 h2 h3 h4 h5 h6 h7 h8 =>
    have hnew : ∀ z ∈ A.pics, z.id ≠ A.last + 1 := fun z hz e => by have := (hA.pic z hz).2.1; omega
    have hpx := List.mem_of_getElem? h7
    have hlt : ∀ id ∈ base :: (T.l.map (·.snap) ++ heldW (k :: ws)), id ≠ A.last + 1 := fun id hid e => by
      obtain ⟨z, hz, he⟩ := List.mem_map.1 (h.perm.mem_iff.2 hid)
      exact hnew z hz (by rw [he, e])
    refine ⟨?_, fun z hz => ?_, fun z hz he => ?_, fun y hy => ⟨(h.brs y hy).1, fun z hz he => ?_⟩, fun k2 hk2 => ?_⟩
    · simp only [Sn.add, List.map_append, List.map_cons, List.map_nil]
      rw [heldW_busy rfl]
      have hp := h.perm
      rw [heldW_idle h1] at hp
      refine (hp.append_right _).trans ((List.perm_append_singleton _ _).trans ?_)
      exact (List.Perm.swap _ _ _).trans (List.Perm.cons _ List.perm_middle.symm)
    · simp only [Sn.add] at hz
      rcases List.mem_append.1 hz with hz | hz
      · exact h.pics z hz
      · simp at hz; subst hz
        exact ⟨rfl, (h.pics px hpx).2⟩
    · simp only [Sn.add] at hz
      rcases List.mem_append.1 hz with hz | hz
      · exact h.base z hz he
      · simp at hz; subst hz
        exact absurd he.symm (hlt base (List.mem_cons_self ..))
    · simp only [Sn.add] at hz
      rcases List.mem_append.1 hz with hz | hz
      · exact (h.brs y hy).2 z hz he
      · simp at hz; subst hz
        exact absurd he.symm (hlt y.snap (List.mem_cons_of_mem _ (List.mem_append_left _ (List.mem_map.2 ⟨y, hy, rfl⟩))))
    · rcases List.mem_cons.1 hk2 with rfl | hk2
      · refine ⟨?_, fun _ y hy hid => ?_⟩
        · have := (hT.ok x h4).2.2.2
          simp only; omega
        · obtain rfl : y = x := hT.same hy h4 (by simp only at hid; omega)
          refine ⟨h6, fun z hz he => ?_⟩
          simp only [Sn.add] at hz
          rcases List.mem_append.1 hz with hz | hz
          · exact absurd he (hnew z hz)
          · simp at hz; subst hz
            exact (h.brs y hy).2 px hpx h8
      · refine ⟨(h.wks k2 (List.mem_cons_of_mem _ hk2)).1, fun e y hy hid => ?_⟩
        obtain ⟨h9, h10⟩ := (h.wks k2 (List.mem_cons_of_mem _ hk2)).2 e y hy hid
        refine ⟨h9, fun z hz he => ?_⟩
        simp only [Sn.add] at hz
        rcases List.mem_append.1 hz with hz | hz
        · exact h10 z hz he
        · simp at hz; subst hz
          exact absurd he.symm (hlt k2.x (List.mem_cons_of_mem _ (List.mem_append_right _ (mem_heldW (List.mem_cons_of_mem _ hk2) e))))
  | gone h1 h2 => exact h.rest hA h1 rfl rfl
  | failed h1 => exact h.rest hA h1 rfl rfl
  | lost h1 => exact h.rest hA h1 rfl rfl
  | @played x i px p' b h1 h2 h3 h4 h5 h6 h7 h8 h9 =>
    have hpx := List.mem_of_getElem? h6
    have hnd := h.nd hA
    rw [heldW_busy h1] at hnd
    have hmid : (base :: (T.l.map (·.snap) ++ k.x :: heldW ws)).Perm (k.x :: (base :: (T.l.map (·.snap) ++ heldW ws))) := (List.Perm.cons _ List.perm_middle).trans (List.Perm.swap _ _ _)
    have hno := (List.nodup_cons.1 (hmid.nodup_iff.1 hnd)).1
    have hids : (A.pics.set i ⟨px.id, px.refs, frameI p (x.frm + k.done) b px.g, p'⟩).map (·.id) = A.pics.map (·.id) := map_set_id h6 rfl
    refine ⟨?_, fun z hz => ?_, fun z hz he => ?_, fun y hy => ⟨(h.brs y hy).1, fun z hz he => ?_⟩, fun k2 hk2 => ?_⟩
    · simp only
      rw [hids, heldW_busy (by exact h1)]
      have hp := h.perm
      rw [heldW_busy h1] at hp
      exact hp
    · rcases mem_set_id hA h6 hz with rfl | hz
      · exact ⟨(h.pics px hpx).1, h9⟩
      · exact h.pics z hz.1
    · rcases mem_set_id hA h6 hz with rfl | hz
      · exact absurd (List.mem_cons.2 (.inl (by simp only at he; rw [← he, h7]))) hno
      · exact h.base z hz.1 he
    · rcases mem_set_id hA h6 hz with rfl | hz
      · refine absurd (List.mem_cons_of_mem _ (List.mem_append_left _ (List.mem_map.2 ⟨y, hy, ?_⟩))) hno
        simp only at he; rw [← he, h7]
      · exact (h.brs y hy).2 z hz.1 he
    · rcases List.mem_cons.1 hk2 with rfl | hk2
      · have hk := h.wks k (List.mem_cons_self ..)
        refine ⟨hk.1, fun _ y hy hid => ?_⟩
        obtain rfl : y = x := hT.same hy h3 (by simp only at hid; omega)
        obtain ⟨h10, h11⟩ := hk.2 h1 y hy h4
        refine ⟨h10, fun z hz he => ?_⟩
        rcases mem_set_id hA h6 hz with rfl | hz
        · have h12 := h11 px hpx h7
          rw [h5] at h12
          have h13 : y.press.take (k.done + 1) = y.press.take k.done ++ [b] := by
            rw [List.take_add_one, h8]; rfl
          show frameI p (y.frm + k.done) b px.g = foldI p F g0 (y.press.take (k.done + 1))
          rw [h13, foldI_snoc, List.length_take, Nat.min_eq_left (by omega), (h.brs y hy).1, h12]
          simp
        · simp only at he
          exact absurd (by rw [he, h7]) hz.2
      · have hk := h.wks k2 (List.mem_cons_of_mem _ hk2)
        refine ⟨hk.1, fun e y hy hid => ?_⟩
        obtain ⟨h10, h11⟩ := hk.2 e y hy hid
        refine ⟨h10, fun z hz he => ?_⟩
        rcases mem_set_id hA h6 hz with rfl | hz
        · refine absurd (List.mem_cons_of_mem _ (List.mem_append_right _ ?_)) hno
          simp only at he
          rw [← h7, he]
          exact mem_heldW hk2 e
        · exact h11 z hz.1 he
  | @pub x kk h1 h2 h3 h4 h5 h6 h7 =>
    rw [dropId_pics hA (fun x hx => (h.pics x hx).1)]
    have hx := List.mem_of_getElem? h3
    obtain ⟨hkl, hke⟩ := List.getElem?_eq_some_iff.1 h3
    have hk := h.wks k (List.mem_cons_self ..)
    refine ⟨?_, fun z hz => h.pics z (memF hz), fun z hz => h.base z (memF hz), fun y hy => ?_, fun k2 hk2 => ?_⟩
    · simp only [Tr.pub]
      rw [map_filter_id, heldW_idle (by rfl)]
      refine perm_drop h.perm ?_ hA.nd
      rw [heldW_busy h1]
      have e1 : (T.l.map (·.snap)).Perm (x.snap :: (T.l.eraseIdx kk).map (·.snap)) := by
        have := (erase_perm T.l hkl).map (·.snap)
        rw [List.map_cons, hke] at this; exact this
      have e2 : ((T.l.set kk { x with done := k.done + 1, snap := k.x }).map (·.snap)).Perm (k.x :: (T.l.eraseIdx kk).map (·.snap)) := by
        have := (erase_perm (T.l.set kk { x with done := k.done + 1, snap := k.x }) (by simpa using hkl)).map (·.snap)
        rw [List.map_cons, List.getElem_set_self, List.eraseIdx_set_eq] at this; exact this
      have e3 : (base :: (T.l.map (·.snap) ++ k.x :: heldW ws)).Perm (base :: (x.snap :: ((T.l.eraseIdx kk).map (·.snap) ++ k.x :: heldW ws))) := (e1.append_right _).cons _
      refine e3.trans ((List.Perm.swap _ _ _).trans (List.Perm.cons _ (List.Perm.cons _ ?_)))
      exact List.perm_middle.trans (e2.append_right _).symm
    · simp only [Tr.pub] at hy
      rcases List.mem_or_eq_of_mem_set hy with hy | rfl
      · exact ⟨(h.brs y hy).1, fun z hz => (h.brs y hy).2 z (memF hz)⟩
      · refine ⟨(h.brs x hx).1, fun z hz he => ?_⟩
        have := (hk.2 h1 x hx h4).2 z (memF hz) he
        rw [h5] at this
        exact this
    · have hset : ∀ y ∈ (T.pub kk x (k.done + 1) k.x).l, ∃ y0 ∈ T.l, y0.id = y.id ∧ y0.press = y.press := fun y hy => by
        simp only [Tr.pub] at hy
        rcases List.mem_or_eq_of_mem_set hy with hy | rfl
        · exact ⟨y, hy, rfl, rfl⟩
        · exact ⟨x, hx, rfl, rfl⟩
      rcases List.mem_cons.1 hk2 with rfl | hk2
      · exact ⟨hk.1, fun e => by cases e⟩
      · have hk3 := h.wks k2 (List.mem_cons_of_mem _ hk2)
        refine ⟨hk3.1, fun e y hy hid => ?_⟩
        obtain ⟨y0, hy0, e1, e2⟩ := hset y hy
        obtain ⟨h10, h11⟩ := hk3.2 e y0 hy0 (by rw [e1]; exact hid)
        rw [e2] at h10 h11
        exact ⟨h10, fun z hz => h11 z (memF hz)⟩
theorem putJ_len {b e : Int} (h : J.length ≤ 16) : (putJ J b e).length ≤ 16 := by
  unfold putJ
  split
  · rename_i h1
    simp only [mayPut, Bool.and_eq_true, decide_eq_true_eq] at h1
    simp; omega
  · exact h
theorem dropId_same (A : Sn) (id : Nat) : (A.dropId id).room = A.room ∧ (A.dropId id).n = A.n ∧ (A.dropId id).last = A.last := by
  unfold Sn.dropId
  split
  · split
    · simp [Sn.drop]
    · exact ⟨rfl, rfl, rfl⟩
  · exact ⟨rfl, rfl, rfl⟩
/-- What a bit leaves as it was, and how numbers grow. -/
structure Near (A : Sn) (T : Tr) (J : Js) (A' : Sn) (T' : Tr) (J' : Js) : Prop where
  room : A'.room = A.room
  n : A'.n ≤ A.n + 1
  most : T'.most = T.most
  last : T'.last = T.last
  epoch : T'.epoch = T.epoch
  l : T'.l.map (fun y => (y.id, y.press)) = T.l.map (fun y => (y.id, y.press))
  len : J.length ≤ 16 → J'.length ≤ 16
theorem Bit.near (hb : Bit p A T J k r A' T' J' k') : Near A T J A' T' J' := by
  cases hb with
  | idle => exact ⟨rfl, by omega, rfl, rfl, rfl, rfl, fun h => h⟩
  | stale h1 h2 => exact ⟨rfl, by omega, rfl, rfl, rfl, rfl, fun h => by rw [h2, List.length_cons] at h; omega⟩
  | took h1 h2 => exact ⟨rfl, by simp [Sn.add], rfl, rfl, rfl, rfl, fun h => by rw [h2, List.length_cons] at h; omega⟩
  | gone => exact ⟨(dropId_same A _).1, by rw [(dropId_same A _).2.1]; omega, rfl, rfl, rfl, rfl, fun h => h⟩
  | played => exact ⟨rfl, by simp, rfl, rfl, rfl, rfl, fun h => h⟩
  | failed => exact ⟨(dropId_same A _).1, by rw [(dropId_same A _).2.1]; omega, rfl, rfl, rfl, rfl, putJ_len⟩
  | lost => exact ⟨(dropId_same A _).1, by rw [(dropId_same A _).2.1]; omega, rfl, rfl, rfl, rfl, fun h => by split <;> first | exact putJ_len h | exact h⟩
  | @pub x kk h1 h2 h3 =>
    refine ⟨(dropId_same A _).1, by rw [(dropId_same A _).2.1]; omega, rfl, rfl, rfl, ?_, fun h => by split <;> first | exact putJ_len h | exact h⟩
    obtain ⟨hkl, hke⟩ := List.getElem?_eq_some_iff.1 h3
    simp only [Tr.pub]
    apply List.ext_getElem?
    intro j
    simp only [List.getElem?_map, List.getElem?_set]
    by_cases hj : kk = j
    · subst hj; simp [hkl, hke]
    · rw [if_neg hj]
end
end Go.Proofs.YtneafbkhaooelaaGreat

