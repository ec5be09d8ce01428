/- Workers, plainly: how much is still to be done. -/
import Derived.Test.YtneafbkhaooelaaGreatWkP
namespace Go.Proofs.YtneafbkhaooelaaGreat
open Go.RowKit
set_option linter.unusedVariables false
set_option linter.unusedSimpArgs false

def unfB (y : Br) : Bool := decide (y.done < y.press.length)
def unfin (T : Tr) : List Int := (T.l.filter unfB).map (fun y => (y.id : Int))
def heldJ (ws : List Wk) : List Int := (ws.filter (·.busy)).map (·.jb)
/-- Each branch that is not at its end has one job, or one worker that plays it. -/
structure Tok (T : Tr) (J : Js) (ws : List Wk) : Prop where
  perm : (J.map (·.1) ++ heldJ ws).Perm (unfin T)
  ep : ∀ j ∈ J, j.2 = T.epoch
  wk : ∀ k ∈ ws, k.busy = true → k.je = T.epoch ∧ ∀ y ∈ T.l, (y.id : Int) = k.jb → k.done = y.done
def todo (l : List Br) : Nat := (l.map fun y => 3 * (y.press.length - y.done)).sum
def spentK (k : Wk) : Nat := if k.busy then (if k.played then 2 else 1) else 0
def spent (ws : List Wk) : Nat := (ws.map spentK).sum
theorem heldJ_busy {k : Wk} {ws : List Wk} (h : k.busy = true) : heldJ (k :: ws) = k.jb :: heldJ ws := by rw [heldJ, List.filter_cons_of_pos h, List.map_cons]; rfl
theorem heldJ_idle {k : Wk} {ws : List Wk} (h : k.busy = false) : heldJ (k :: ws) = heldJ ws := by rw [heldJ, List.filter_cons_of_neg (by simp [h])]; rfl
theorem spent_cons (k : Wk) (ws : List Wk) : spent (k :: ws) = spentK k + spent ws := by simp [spent]
theorem spent_perm {ws ws' : List Wk} (h : ws.Perm ws') : spent ws = spent ws' := by
  induction h with
  | nil => rfl
  | cons x _ ih => rw [spent_cons, spent_cons, ih]
  | swap x y l => rw [spent_cons, spent_cons, spent_cons, spent_cons]; omega
  | trans _ _ ih1 ih2 => exact ih1.trans ih2
theorem Tok.permW {T : Tr} {J : Js} {ws ws' : List Wk} (h : Tok T J ws) (hp : ws.Perm ws') : Tok T J ws' :=
  ⟨((((hp.filter _).map _).append_left _).symm).trans h.perm, h.ep, fun k hk => h.wk k (hp.mem_iff.2 hk)⟩
theorem unfin_nd {T : Tr} (hT : WT T) : (unfin T).Nodup := by
  have h1 : (T.l.map (fun y => (y.id : Int))).Nodup := by
    have h2 := List.pairwise_map.1 hT.ids
    exact List.pairwise_map.2 (h2.imp (fun h e => by omega))
  exact h1.sublist (List.filter_sublist.map _)
theorem unfin_len {T : Tr} (hT : WT T) : (unfin T).length ≤ 8 := by
  have h1 := List.length_filter_le unfB T.l
  have := hT.most
  simp only [unfin, List.length_map]; omega
theorem mem_unfin {T : Tr} {z : Int} (h : z ∈ unfin T) : ∃ y ∈ T.l, (y.id : Int) = z ∧ y.done < y.press.length := by
  obtain ⟨y, hy, he⟩ := List.mem_map.1 h
  obtain ⟨h1, h2⟩ := List.mem_filter.1 hy
  exact ⟨y, h1, he, by simpa [unfB] using h2⟩
theorem split_at {α : Type} {l : List α} {k : Nat} {x : α} (h : l[k]? = some x) (v : α) : ∃ l1 l2, l = l1 ++ x :: l2 ∧ l.set k v = l1 ++ v :: l2 := by
  obtain ⟨hk, rfl⟩ := List.getElem?_eq_some_iff.1 h
  refine ⟨l.take k, l.drop (k + 1), ?_, ?_⟩
  · rw [← List.drop_eq_getElem_cons hk, List.take_append_drop]
  · rw [List.set_eq_take_append_cons_drop, if_pos hk]
section
variable {p : Pr} {A A' : Sn} {T T' : Tr} {J J' : Js} {ws : List Wk} {k k' : Wk} {r : Bool}
theorem Tok.putJ (h : Tok T J (k :: ws)) (hT : WT T) (hb : k.busy = true) : Go.Proofs.YtneafbkhaooelaaGreat.putJ J k.jb k.je = J ++ [(k.jb, k.je)] := by
  have hp := h.perm
  rw [heldJ_busy hb] at hp
  have hnd := hp.nodup_iff.2 (unfin_nd hT)
  have hlen := hp.length_eq
  have h8 := unfin_len hT
  rw [List.length_append, List.length_cons, List.length_map] at hlen
  have hno : k.jb ∉ J.map (·.1) := fun hm => (List.nodup_append.1 hnd).2.2 _ hm _ (List.mem_cons_self ..) rfl
  rw [Go.Proofs.YtneafbkhaooelaaGreat.putJ, if_pos]
  simp only [mayPut, Bool.and_eq_true, decide_eq_true_eq, Bool.not_eq_true', List.any_eq_false]
  refine ⟨by omega, fun y hy e => hno (List.mem_map.2 ⟨y, hy, e⟩)⟩
theorem Tok.bit (h : Tok T J (k :: ws)) (hT : WT T) (hroom : 4 * A.pics.length ≤ A.room) (hb : Bit p A T J k r A' T' J' k') :
    Tok T' J' (k' :: ws) ∧ ((r = false ∧ A' = A ∧ T' = T ∧ J = [] ∧ J' = [] ∧ k.busy = false ∧ k' = k) ∨ (r = true ∧ todo T'.l + spent (k :: ws) + 1 = todo T.l + spent (k' :: ws))) := by
  have hin : k.busy = true → ∃ y ∈ T.l, (y.id : Int) = k.jb ∧ y.done < y.press.length := fun e => by
    have hp := h.perm
    rw [heldJ_busy e] at hp
    exact mem_unfin (hp.mem_iff.1 (List.mem_append_right _ (List.mem_cons_self ..)))
  cases hb with
  | idle h1 h2 => exact ⟨h, .inl ⟨rfl, rfl, rfl, h2, h2, h1, rfl⟩⟩
  | @stale j J' h1 h2 h3 =>
    exfalso
    subst h2
    have he := h.ep j (List.mem_cons_self ..)
    obtain ⟨y, hy, hid, hd⟩ := mem_unfin (h.perm.mem_iff.1 (List.mem_append_left _ (List.mem_map.2 ⟨j, List.mem_cons_self .., rfl⟩)))
    rcases h3 with h3 | h3 | ⟨x, hx, hxi, hxd⟩
    · exact h3 he
    · exact h3 y hy hid
    · obtain rfl := hT.same hx hy (by omega)
      omega
  | @took j J' i x px h1 h2 h3 h4 h5 h6 h7 h8 =>
    subst h2
    refine ⟨⟨?_, fun j2 hj => h.ep j2 (List.mem_cons_of_mem _ hj), fun k2 hk2 => ?_⟩, .inr ⟨rfl, ?_⟩⟩
    · rw [heldJ_busy rfl]
      have hp := h.perm
      rw [heldJ_idle h1] at hp
      exact List.perm_middle.trans hp
    · rcases List.mem_cons.1 hk2 with rfl | hk2
      · refine fun _ => ⟨h3, fun y hy hid => ?_⟩
        obtain rfl := hT.same hy h4 (by simp only at hid; omega)
        rfl
      · exact h.wk k2 (List.mem_cons_of_mem _ hk2)
    · simp only [spent_cons, spentK, h1]; simp; omega
  | gone h1 h2 =>
    exfalso
    obtain ⟨y, hy, hid, _⟩ := hin h1
    rcases h2 with h2 | h2
    · exact h2 (h.wk k (List.mem_cons_self ..) h1).1
    · exact h2 y hy hid
  | failed h1 h2 h3 h4 h5 h6 => exact absurd hroom h6
  | @lost x h1 h2 h3 h4 h5 h6 =>
    exfalso
    have := (h.wk k (List.mem_cons_self ..) h1).2 x h3 h4
    omega
  | @played x i px p' b h1 h2 h3 h4 h5 h6 h7 h8 h9 =>
    refine ⟨⟨?_, h.ep, fun k2 hk2 => ?_⟩, .inr ⟨rfl, ?_⟩⟩
    · have hp := h.perm
      rw [heldJ_busy h1] at hp
      rw [heldJ_busy (by exact h1)]
      exact hp
    · rcases List.mem_cons.1 hk2 with rfl | hk2
      · exact h.wk k (List.mem_cons_self ..)
      · exact h.wk k2 (List.mem_cons_of_mem _ hk2)
    · simp only [spent_cons, spentK, h1, h5]; simp; omega
  | @pub x kk h1 h2 h3 h4 h5 h6 h7 =>
    have hxm := List.mem_of_getElem? h3
    have hd := (h.wk k (List.mem_cons_self ..) h1).2 x hxm h4
    have hpj := h.putJ hT h1
    obtain ⟨l1, l2, e1, e2⟩ := split_at h3 { x with done := k.done + 1, snap := k.x }
    have hp := h.perm
    rw [heldJ_busy h1] at hp
    have hux : unfB x = true := by simp [unfB]; omega
    have hu : unfin T = (l1.filter unfB).map (fun y => (y.id : Int)) ++ k.jb :: (l2.filter unfB).map (fun y => (y.id : Int)) := by
      rw [unfin, e1, List.filter_append, List.filter_cons_of_pos hux, List.map_append, List.map_cons, h4]
    have hu' : unfin (T.pub kk x (k.done + 1) k.x) = (l1.filter unfB).map (fun y => (y.id : Int)) ++ (if k.done + 1 < x.press.length then [k.jb] else []) ++ (l2.filter unfB).map (fun y => (y.id : Int)) := by
      simp only [unfin, Tr.pub, e2, List.filter_append]
      rw [List.append_assoc, List.map_append]
      congr 1
      by_cases hlt : k.done + 1 < x.press.length
      · rw [List.filter_cons_of_pos (by simpa [unfB] using hlt), if_pos hlt, List.map_cons, h4]; rfl
      · rw [List.filter_cons_of_neg (by simpa [unfB] using hlt), if_neg hlt]; rfl
    refine ⟨⟨?_, fun j hj => ?_, fun k2 hk2 => ?_⟩, .inr ⟨rfl, ?_⟩⟩
    · rw [heldJ_idle (by rfl), hu']
      rw [hu] at hp
      by_cases hlt : k.done + 1 < x.press.length
      · rw [if_pos hlt, if_pos hlt, hpj, List.map_append, List.append_assoc, List.append_assoc]
        exact hp
      · rw [if_neg hlt, if_neg hlt, List.append_nil]
        exact ((List.perm_middle.symm.trans hp).trans List.perm_middle).cons_inv
    · simp only [Tr.pub]
      split at hj
      · rw [hpj] at hj
        rcases List.mem_append.1 hj with hj | hj
        · exact h.ep j hj
        · simp at hj; subst hj; exact h2
      · exact h.ep j hj
    · rcases List.mem_cons.1 hk2 with rfl | hk2
      · exact fun e => by cases e
      · intro e
        obtain ⟨g1, g2⟩ := h.wk k2 (List.mem_cons_of_mem _ hk2) e
        refine ⟨g1, fun y hy hid => ?_⟩
        simp only [Tr.pub] at hy
        rcases List.mem_or_eq_of_mem_set hy with hy | rfl
        · exact g2 y hy hid
        · exfalso
          have hnd := hp.nodup_iff.2 (unfin_nd hT)
          have h9 : k.jb ∉ heldJ ws := (List.nodup_cons.1 (List.nodup_append.1 hnd).2.1).1
          simp only at hid
          exact h9 (List.mem_map.2 ⟨k2, List.mem_filter.2 ⟨hk2, e⟩, by rw [← hid, h4]⟩)
    · simp only [spent_cons, spentK, h1, h5, Tr.pub, e2]
      rw [e1]
      simp only [todo, List.map_append, List.map_cons, List.sum_append, List.sum_cons]
      simp; omega
/-- When nothing is left all branches are at their ends. -/
theorem Tok.over (h : Tok T J ws) (hT : WT T) (hj : J = []) (hw : ∀ k ∈ ws, k.busy = false) : ∀ y ∈ T.l, y.done = y.press.length := by
  intro y hy
  have h1 : heldJ ws = [] := by
    rw [heldJ, List.filter_eq_nil_iff.2 (fun k hk => by simp [hw k hk])]; rfl
  have hp := h.perm
  rw [hj, h1] at hp
  have h2 : unfin T = [] := hp.symm.eq_nil
  have h3 := (hT.ok y hy).2.1
  rcases Nat.lt_or_ge y.done y.press.length with h4 | h4
  · have : (y.id : Int) ∈ unfin T := List.mem_map.2 ⟨y, List.mem_filter.2 ⟨hy, by simpa [unfB] using h4⟩, rfl⟩
    rw [h2] at this; cases this
  · omega
theorem spent_le (ws : List Wk) : spent ws ≤ 2 * (heldJ ws).length := by
  induction ws with
  | nil => simp [spent]
  | cons k ws ih =>
    rw [spent_cons]
    cases hb : k.busy with
    | true =>
      rw [heldJ_busy hb, List.length_cons, spentK, hb]
      simp only [if_true]; split <;> omega
    | false => rw [heldJ_idle hb, spentK, hb]; simp; omega
theorem todo_ge (l : List Br) : 3 * (l.filter unfB).length ≤ todo l := by
  induction l with
  | nil => simp [todo]
  | cons y l ih =>
    simp only [todo, List.map_cons, List.sum_cons]
    have ih : 3 * (l.filter unfB).length ≤ (l.map fun y => 3 * (y.press.length - y.done)).sum := ih
    cases hu : unfB y with
    | true =>
      rw [List.filter_cons_of_pos hu, List.length_cons]
      have : y.done < y.press.length := by simpa [unfB] using hu
      omega
    | false => rw [List.filter_cons_of_neg (by simp [hu])]; omega
/-- What is spent is less than what was to do; nothing is to do only if all is done. -/
theorem Tok.bound (h : Tok T J ws) : spent ws ≤ todo T.l ∧ (spent ws = todo T.l → J = [] ∧ ∀ k ∈ ws, k.busy = false) := by
  have h1 := spent_le ws
  have h2 := todo_ge T.l
  have h3 := h.perm.length_eq
  simp only [List.length_append, unfin, List.length_map] at h3
  refine ⟨by omega, fun e => ?_⟩
  have h4 : (heldJ ws).length = 0 := by omega
  have h5 : J.length = 0 := by omega
  refine ⟨List.eq_nil_of_length_eq_zero h5, fun k hk => ?_⟩
  cases hb : k.busy with
  | false => rfl
  | true =>
    have : k.jb ∈ heldJ ws := List.mem_map.2 ⟨k, List.mem_filter.2 ⟨hk, hb⟩, rfl⟩
    rw [List.eq_nil_of_length_eq_zero h4] at this; cases this
end
end Go.Proofs.YtneafbkhaooelaaGreat

