/- What stays true of a shop, whoever does what. -/
import Derived.Test.YtneafbkhaooelaaGreatShop3
namespace Go.Proofs.YtneafbkhaooelaaGreat
open Go.RowKit
set_option linter.unusedVariables false
set_option linter.unusedSimpArgs false
set_option maxRecDepth 10000
set_option synthInstance.maxSize 4000
set_option synthInstance.maxHeartbeats 400000

theorem dropAll_same (l : List Br) : ∀ A : Sn, (A.dropAll l).room = A.room ∧ (A.dropAll l).n = A.n := by
  induction l with
  | nil => exact fun A => ⟨rfl, rfl⟩
  | cons y l ih =>
    intro A
    have h := dropId_same A y.snap
    exact ⟨(ih (A.dropId y.snap)).1.trans h.1, (ih (A.dropId y.snap)).2.trans h.2.1⟩
structure Sure (p : Pr) (t : Nat → Nat) (room c : Nat) (A : Sn) (T : Tr) (J : Js) (ws : List Wk) : Prop where
  inv : Inv p 0 (fun _ => 0) t 1 A T ws
  num : A.n ≤ c + 7
  room : A.room = 4 * room
  jl : J.length ≤ 16
  ep : T.epoch ≤ c
/-- With enough room: so many bits are left. -/
structure Firm (p : Pr) (t : Nat → Nat) (room c N : Nat) (B : List (Nat × List (List UInt8))) (A : Sn) (T : Tr) (J : Js) (ws : List Wk) : Prop where
  sure : Sure p t room c A T J ws
  tok : Tok T J ws
  left : todo T.l = spent ws + N
  bl : T.l.map (fun y => (y.id, y.press)) = B
  bn : B.length ≤ 6
def Rnd (z : Bool) (N0 N i : Nat) (J : Js) (ws : List Wk) : Prop := (z = true ∧ N + 1 ≤ N0) ∨ (z = false ∧ N = N0 ∧ (0 < i → J = []) ∧ ∀ j k, j < i → ws[j]? = some k → k.busy = false)
/-- The workers are the same ones. -/
def Like (ks ks0 : List Kx) : Prop := ks.length = ks0.length ∧ ptrs ks = ptrs ks0
theorem Like.refl (ks : List Kx) : Like ks ks := ⟨rfl, rfl⟩
theorem Like.set {ks ks0 : List Kx} {i wb : Nat} {k k' : Wk} (h : Like ks ks0) (hk : ks[i]? = some (k, wb)) : Like (ks.set i (k', wb)) ks0 :=
  ⟨by rw [List.length_set]; exact h.1, by rw [ptrs_set hk]; exact h.2⟩
theorem Like.at {ks ks0 : List Kx} {i : Nat} (h : Like ks ks0) (hi : i < ks0.length) : ∃ k wb, ks[i]? = some (k, wb) ∧ (ptrs ks0)[i]? = some (.pointer (some ⟨wb, 0, none⟩)) := by
  have h1 : i < ks.length := by rw [h.1]; exact hi
  refine ⟨ks[i].1, ks[i].2, List.getElem?_eq_getElem h1, ?_⟩
  rw [← h.2]
  exact ptrs_at (List.getElem?_eq_getElem h1)
theorem todo_le (l : List Br) (h : ∀ y ∈ l, y.press.length ≤ 5) : todo l ≤ 15 * l.length := by
  induction l with
  | nil => simp [todo]
  | cons y l ih =>
    have h1 := ih fun z hz => h z (List.mem_cons_of_mem _ hz)
    have h2 := h y (List.mem_cons_self ..)
    have h3 : todo (y :: l) = 3 * (y.press.length - y.done) + todo l := by simp [todo]
    rw [h3, List.length_cons]; omega
theorem spent_idle {ws : List Wk} (h : ∀ k ∈ ws, k.busy = false) : spent ws = 0 := by
  induction ws with
  | nil => rfl
  | cons k ws ih =>
    rw [spent_cons, ih fun z hz => h z (List.mem_cons_of_mem _ hz), spentK, h k (List.mem_cons_self ..)]; rfl
theorem todo_over {l : List Br} (h : ∀ y ∈ l, y.done = y.press.length) : todo l = 0 := by
  induction l with
  | nil => rfl
  | cons y l ih =>
    have h3 : todo (y :: l) = 3 * (y.press.length - y.done) + todo l := by simp [todo]
    rw [h3, ih fun z hz => h z (List.mem_cons_of_mem _ hz), h y (List.mem_cons_self ..)]; omega
theorem normI (m : Int) (hm : 0 < m) (x : Int) : ∃ c : Nat, (c : Int) < m ∧ (x.tmod m + m).tmod m = c ∧ -m < x.tmod m ∧ x.tmod m < m := by
  have h1 := Int.tmod_lt_of_pos x hm
  have h2 := Int.lt_tmod_of_pos x hm
  have h3 : (0 : Int) ≤ x.tmod m + m := by omega
  have h4 := Int.tmod_nonneg m h3
  have h5 := Int.tmod_lt_of_pos (x.tmod m + m) hm
  exact ⟨((x.tmod m + m).tmod m).toNat, by omega, by omega, by omega, by omega⟩
theorem idle_next {ks : List Kx} {m wb : Nat} {k k' : Wk} (h : ∀ j k, j < m → (ks.map (·.1))[j]? = some k → k.busy = false) (hk : ks[m]? = some (k, wb)) (hb : k'.busy = false) : ∀ j k, j < m + 1 → ((ks.set m (k', wb)).map (·.1))[j]? = some k → k.busy = false := by
  intro j k2 hj hk2
  rw [List.getElem?_map, List.getElem?_set] at hk2
  by_cases e : m = j
  · subst e
    rw [if_pos rfl, if_pos (List.getElem?_eq_some_iff.1 hk).1] at hk2
    cases hk2; exact hb
  · rw [if_neg e] at hk2
    exact h j k2 (by omega) (by rw [List.getElem?_map]; exact hk2)
theorem set_at {ks : List Kx} {i wb : Nat} {k k' : Wk} (hk : ks[i]? = some (k, wb)) : (ks.set i (k', wb))[i]? = some (k', wb) := by
  rw [List.getElem?_set, if_pos rfl, if_pos (List.getElem?_eq_some_iff.1 hk).1]
theorem cutP_ok (p : Pr) : (cutP 30 p).title.size ≤ 1000000000 ∧ (cutP 30 p).ops.length ≤ 1000000000 := by
  have := cutT_le p.title 40
  exact ⟨by simp only [cutP]; omega, by simp only [cutP, List.length_take]; omega⟩
section
variable {W w : World} {L L' R : List SP} {tq jq sq r wb i kk cO xb n c cw base m room nw N N0 N' : Nat} {ad adO adw : Option Addr} {A A' : Sn} {T T' : Tr} {J J' : Js} {k k' : Wk} {p : Pr} {x : Br} {px : Pic} {ks ks0 : List Kx} {t : Nat → Nat} {ys : List BBBx} {ws ws' : List Wk} {B : List (Nat × List (List UInt8))} {z zz : Bool}
theorem Sure.perm (h : Sure p t room c A T J ws) (hp : ws.Perm ws') : Sure p t room c A T J ws' := ⟨h.inv.permW hp, h.num, h.room, h.jl, h.ep⟩
theorem Sure.later (h : Sure p t room c A T J ws) (hc : c ≤ m) : Sure p t room m A T J ws := ⟨h.inv, by have := h.num; omega, h.room, h.jl, by have := h.ep; omega⟩
theorem Fresh.sure (h : Fresh p t room i ys ws A T J) (hi : i ≤ 6) : Sure p t room 0 A T J ws :=
  ⟨h.inv, by have := h.n; omega, h.room, by have := h.jl; omega, by have := h.ep; omega⟩
theorem Fresh.firm (h : Fresh p t room i ys ws A T J) (hi : i ≤ 6) : ∃ N, N ≤ 90 ∧ Firm p t room 0 N (((prs ys).take i).foldl addB []) A T J ws := by
  have h1 := todo_le T.l (fun y hy => (h.done y hy).2)
  have h2 := h.len
  have h3 := h.bl
  exact ⟨todo T.l, by omega, h.sure hi, h.tok, by rw [spent_idle h.idle]; omega, h3, by rw [← h3, List.length_map]; omega⟩
theorem Sure.cut (h : Sure p t room c A T J ws) (hA : WF A) (f : Br → Bool) : Sure p t room (c + 1) (A.dropAll (T.l.filter f)) (T.cut f) J ws := by
  have h1 := dropAll_same (T.l.filter f) A
  refine ⟨h.inv.cut hA f, by have := h.num; omega, by rw [h1.1]; exact h.room, h.jl, ?_⟩
  have := h.ep
  simp only [Tr.cut]
  split <;> omega
theorem Sure.pics (h : Sure p t room c A T J ws) : A.pics.length ≤ 1 + T.l.length + ws.length := by
  have h1 := h.inv.len
  have h2 : (heldW ws).length ≤ ws.length := by rw [heldW, List.length_map]; exact List.length_filter_le _ _
  omega
/-- One bit of one worker of some. -/
theorem sure_step (hs : St W w (All (ownK p adO cO tq jq sq) ks :: Tree tq sq T :: Store sq r A :: Jobs jq J :: RoP W p adO cO :: L)) (hk : ks[i]? = some (k, wb)) (h : Sure p t room c A T J (ks.map (·.1))) (hp : prOk p) (hz : p.title.size ≤ 1000000000) (hc : c ≤ 1000000) :
    Calls Tryz.prog 12 #[.pointer (some ⟨wb, 0, none⟩)] w fun e w' => ∃ (z : Bool) (A' : Sn) (T' : Tr) (J' : Js) (k' : Wk), e = .returned (.bool z) ∧ (Bit p A T J k z A' T' J' k' ∧ Sure p t room (c + 1) A' T' J' ((ks.set i (k', wb)).map (·.1)) ∧ T'.l.map (fun y => (y.id, y.press)) = T.l.map (fun y => (y.id, y.press))) ∧
      St W w' (All (ownK p adO cO tq jq sq) (ks.set i (k', wb)) :: Tree tq sq T' :: Store sq r A' :: Jobs jq J' :: RoP W p adO cO :: L) := by
  have h1 := h.num
  refine (shop_step hs hk h.inv (by omega) hp hz (by omega) h.jl).mono fun e w' ⟨z, A', T', J', k', he, ⟨hb, hI, hn⟩, hs⟩ => ?_
  have h2 := hn.n
  have h3 := h.ep
  exact ⟨z, A', T', J', k', he, ⟨hb, ⟨hI, by omega, by rw [hn.room]; exact h.room, hn.len h.jl, by rw [hn.epoch]; omega⟩, hn.l⟩, hs⟩
theorem firm_step (hs : St W w (All (ownK p adO cO tq jq sq) ks :: Tree tq sq T :: Store sq r A :: Jobs jq J :: RoP W p adO cO :: L)) (hk : ks[i]? = some (k, wb)) (h : Firm p t room c N B A T J (ks.map (·.1))) (hr : 11 ≤ room) (hkl : ks.length ≤ 4) (hp : prOk p) (hz : p.title.size ≤ 1000000000) (hc : c ≤ 1000000) :
    Calls Tryz.prog 12 #[.pointer (some ⟨wb, 0, none⟩)] w fun e w' => ∃ (z : Bool) (A' : Sn) (T' : Tr) (J' : Js) (k' : Wk) (N' : Nat), e = .returned (.bool z) ∧ (Firm p t room (c + 1) N' B A' T' J' ((ks.set i (k', wb)).map (·.1)) ∧ ((z = true ∧ N = N' + 1) ∨ (z = false ∧ N' = N ∧ J = [] ∧ J' = [] ∧ k.busy = false ∧ k' = k))) ∧
      St W w' (All (ownK p adO cO tq jq sq) (ks.set i (k', wb)) :: Tree tq sq T' :: Store sq r A' :: Jobs jq J' :: RoP W p adO cO :: L) := by
  have hT := Tree.wt (hs.tree tq)
  refine (sure_step hs hk h.sure hp hz hc).mono fun e w' ⟨z, A', T', J', k', he, ⟨hb, hS, hl⟩, hs2⟩ => ?_
  obtain ⟨p1, p2⟩ := fst_set (k' := k') hk
  have hbn := h.bn
  have hpl := h.sure.pics
  have hrm := h.sure.room
  rw [← h.bl, List.length_map] at hbn
  rw [List.length_map] at hpl
  obtain ⟨h1, h2⟩ := (h.tok.permW p1).bit hT (by omega) hb
  have e1 := spent_perm p1
  have e2 := spent_perm p2
  have hbound := (h1.permW p2.symm).bound.1
  have hleft := h.left
  rcases h2 with ⟨rfl, rfl, rfl, hJ, hJ', hkb, rfl⟩ | ⟨rfl, h3⟩
  · refine ⟨false, A', T', J', k', N, he, ⟨⟨hS, h1.permW p2.symm, by rw [e2, ← e1]; exact hleft, h.bl, h.bn⟩, .inr ⟨rfl, rfl, hJ, hJ', hkb, rfl⟩⟩, hs2⟩
  · refine ⟨true, A', T', J', k', N - 1, he, ⟨⟨hS, h1.permW p2.symm, by omega, by rw [hl]; exact h.bl, h.bn⟩, .inl ⟨rfl, by omega⟩⟩, hs2⟩
theorem Rnd.begin : Rnd false N N 0 J ws := .inr ⟨rfl, rfl, fun h => by omega, fun j k h => by omega⟩
theorem Rnd.next (h : Rnd zz N0 N i J (ks.map (·.1))) (hk : ks[i]? = some (k, wb)) (hd : (z = true ∧ N = N' + 1) ∨ (z = false ∧ N' = N ∧ J = [] ∧ J' = [] ∧ k.busy = false ∧ k' = k)) : Rnd (z || zz) N0 N' (i + 1) J' ((ks.set i (k', wb)).map (·.1)) := by
  rcases h with ⟨rfl, h⟩ | ⟨rfl, rfl, h1, h2⟩
  · refine .inl ⟨by simp, ?_⟩
    rcases hd with ⟨_, h3⟩ | ⟨_, h3, _⟩ <;> omega
  · rcases hd with ⟨rfl, h3⟩ | ⟨rfl, rfl, h3, h4, h5, rfl⟩
    · exact .inl ⟨rfl, by omega⟩
    · refine .inr ⟨rfl, rfl, fun _ => h4, fun j k2 hj hk2 => ?_⟩
      rw [List.getElem?_map, List.getElem?_set] at hk2
      by_cases e : i = j
      · subst e
        rw [if_pos rfl, if_pos (List.getElem?_eq_some_iff.1 hk).1] at hk2
        cases hk2; exact h5
      · rw [if_neg e] at hk2
        exact h2 j k2 (by omega) (by rw [List.getElem?_map]; exact hk2)
theorem Firm.zero (h : Firm p t room c N B A T J ws) (hN : N = 0) : J = [] ∧ ∀ k ∈ ws, k.busy = false := h.tok.bound.2 (by have := h.left; omega)
theorem Rnd.over (h : Rnd z N0 N m J ws) (hm : 0 < m) (hl : ws.length = m) (hf : Firm p t room c N B A T J ws) (hT : WT T) : (z = true ∧ N + 1 ≤ N0) ∨ (z = false ∧ N = 0) := by
  rcases h with h | ⟨h0, h1, h2, h3⟩
  · exact .inl h
  · have h4 : ∀ k ∈ ws, k.busy = false := fun k hk => by
      obtain ⟨j, hj⟩ := List.mem_iff_getElem?.1 hk
      exact h3 j k (by rw [← hl]; exact (List.getElem?_eq_some_iff.1 hj).1) hj
    have h5 := todo_over (hf.tok.over hT (h2 hm) h4)
    have h6 := spent_idle h4
    have := hf.left
    exact .inr ⟨h0, by omega⟩
/-- At the end all branches are played to their ends. -/
theorem Firm.over (h : Firm p t room c 0 B A T J ws) (hT : WT T) : J = [] ∧ (∀ k ∈ ws, k.busy = false) ∧ ∀ y ∈ T.l, y.done = y.press.length := by
  obtain ⟨h1, h2⟩ := h.zero rfl
  exact ⟨h1, h2, h.tok.over hT h1 h2⟩
theorem sure_rest (hs : St W w (All (ownK p adO cO tq jq sq) ks :: Store sq r A :: L)) (hk : ks[i]? = some (k, wb)) (h : Sure p t room c A T J (ks.map (·.1))) :
    Calls Tryz.prog 18 #[.pointer (some ⟨wb, 0, none⟩)] w fun e w' => ∃ (A' : Sn) (k' : Wk), e = .returned (.bool k.busy) ∧ (k'.busy = false ∧ Sure p t room c A' T J ((ks.set i (k', wb)).map (·.1))) ∧
      St W w' (All (ownK p adO cO tq jq sq) (ks.set i (k', wb)) :: Store sq r A' :: L) := by
  refine (shop_rest hs hk h.inv).mono fun e w' ⟨A', k', he, ⟨h1, h2, h3, h4⟩, hs⟩ => ⟨A', k', he, ⟨h1, h2, by rw [h4]; exact h.num, by rw [h3]; exact h.room, h.jl, h.ep⟩, hs⟩
theorem Sure.none (h : Sure p t room c A T J ws) (hA : WF A) (hl : T.l = []) (hw : ∀ k ∈ ws, k.busy = false) : ∃ px, A.pics = [px] ∧ px.id = 1 ∧ px.p = t ∧ (A.dropId 1).pics = [] := by
  have h1 : heldW ws = [] := by rw [heldW, List.filter_eq_nil_iff.2 (fun k hk => by simp [hw k hk])]; rfl
  have h2 := h.inv.perm
  rw [hl, h1] at h2
  have h3 : A.pics.map (·.id) = [1] := h2.eq_singleton
  obtain ⟨px, l, e1, e2, e3⟩ := List.map_eq_cons_iff.1 h3
  obtain rfl : l = [] := by simpa using e3
  have hpx : px ∈ A.pics := by rw [e1]; exact List.mem_cons_self ..
  refine ⟨px, e1, e2, (h.inv.base px hpx e2).2, ?_⟩
  rw [dropId_pics hA (fun x hx => (h.inv.pics x hx).1)]
  simp [e1, e2]
theorem idle_all {m : Nat} (h : ∀ j k, j < m → ws[j]? = some k → k.busy = false) (hl : ws.length ≤ m) : ∀ k ∈ ws, k.busy = false := fun k hk => by
  obtain ⟨j, hj⟩ := List.mem_iff_getElem?.1 hk
  exact h j k (Nat.lt_of_lt_of_le (List.getElem?_eq_some_iff.1 hj).1 hl) hj
/-- Where there is no branch a bit ends. -/
theorem Bit.none (hb : Bit p A T J k z A' T' J' k') (hl : T.l = []) : k'.busy = false ∧ T' = T := by
  cases hb with
  | idle h => exact ⟨h, rfl⟩
  | stale h => exact ⟨h, rfl⟩
  | took h1 h2 h3 h4 => rw [hl] at h4; cases h4
  | gone => exact ⟨rfl, rfl⟩
  | played h1 h2 h3 => rw [hl] at h3; cases h3
  | failed => exact ⟨rfl, rfl⟩
  | pub h1 h2 h3 => rw [hl] at h3; simp at h3
  | lost => exact ⟨rfl, rfl⟩
end
end Go.Proofs.YtneafbkhaooelaaGreat

