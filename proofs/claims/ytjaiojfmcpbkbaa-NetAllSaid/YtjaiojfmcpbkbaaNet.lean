/- The walks of package net. -/
import Derived.Test.YtjaiojfmcpbkbaaTy
namespace Go.Proofs.Ytjaiojfmcpbkbaa
open Go.RowKit
set_option linter.unusedVariables false
set_option linter.unusedSimpArgs false
set_option maxRecDepth 10000
set_option synthInstance.maxSize 4000
set_option synthInstance.maxHeartbeats 400000

/-- Mail, and where its bytes lie. -/
structure Ml where
  frm : Int
  to : Int
  ad : Option Addr
  c : Nat
  bs : List UInt8
def Ml.cells (m : Ml) : List Value := [.int .i64 m.frm, .int .i64 m.to, .slice m.ad m.bs.length m.c]
def mlc (ms : List Ml) : List Value := ms.flatMap Ml.cells
def Ml.own (m : Ml) : SP := Sl 5 1 m.ad m.bs.length m.c (bc m.bs)
/-- The bytes of all. -/
def Bys (ms : List Ml) : SP := fun h => sepL (ms.map Ml.own) h
theorem mlc_len (l : List Ml) : (mlc l).length = l.length * 3 := by
  induction l with
  | nil => rfl
  | cons x l ih => simp only [mlc, List.flatMap_cons, List.length_append, Ml.cells, List.length_cons, List.length_nil] at *; omega
theorem mlc_app (l m : List Ml) : mlc (l ++ m) = mlc l ++ mlc m := by simp [mlc]
theorem mlc_drop (l : List Ml) (i : Nat) : (mlc l).drop (i * 3) = mlc (l.drop i) := by
  induction i generalizing l with
  | zero => simp
  | succ i ih =>
    cases l with
    | nil => simp [mlc]
    | cons x l =>
      rw [show (i + 1) * 3 = i * 3 + 3 from by omega]
      simp only [mlc, List.flatMap_cons, List.drop_succ_cons, Ml.cells] at *
      rw [← ih l]; simp
theorem mlc_take (l : List Ml) (i : Nat) : (mlc l).take (i * 3) = mlc (l.take i) := by
  induction i generalizing l with
  | zero => simp [mlc]
  | succ i ih =>
    cases l with
    | nil => simp [mlc]
    | cons x l =>
      rw [show (i + 1) * 3 = i * 3 + 3 from by omega]
      simp only [mlc, List.flatMap_cons, List.take_succ_cons, Ml.cells] at *
      rw [← ih l]; simp
theorem mlc_at (l : List Ml) (i : Nat) (h : i < l.length) : ((mlc l).drop (i * 3)).take 3 = l[i].cells := by
  rw [mlc_drop, List.drop_eq_getElem_cons h]; simp only [mlc, List.flatMap_cons, Ml.cells, List.cons_append, List.nil_append, List.take_succ_cons, List.take_zero]

theorem Bys.nil {W w : World} {L : List SP} (hs : St W w L) : St W w (Bys [] :: L) :=
  ⟨hs.below, let ⟨h, p, q⟩ := hs.sat; ⟨h, p, fun _ => none, h, fun _ => .inl rfl, fun _ _ e => (by cases e), Hp.Sub.refl _, trivial, q⟩⟩
/-- One mail's bytes are taken out of all. -/
theorem Bys.out {W w : World} {L : List SP} {a b : List Ml} {m : Ml} (hs : St W w (Bys (a ++ m :: b) :: L)) : St W w (m.own :: Bys (a ++ b) :: L) := by
  have h1 := hs.open (M := (a ++ m :: b).map Ml.own) (fun _ x => x)
  have h2 : ((a ++ m :: b).map Ml.own ++ L).Perm (m.own :: ((a ++ b).map Ml.own ++ L)) := by
    rw [← List.cons_append, ← List.map_cons]
    exact ((List.perm_middle (a := m) (l₁ := a) (l₂ := b)).map Ml.own).append_right L
  have h3 := h1.perm h2
  have h4 := h3.perm (List.perm_append_comm (l₁ := [m.own]) (l₂ := (a ++ b).map Ml.own ++ L))
  have h5 : St W w ((a ++ b).map Ml.own ++ (L ++ [m.own])) := by simpa using h4
  have h6 := St.shut (A := Bys (a ++ b)) h5 (fun _ x => x)
  exact h6.perm (List.Perm.trans (List.perm_append_comm (l₁ := Bys (a ++ b) :: L) (l₂ := [m.own])) (List.Perm.refl _))
theorem Bys.into {W w : World} {L : List SP} {a b : List Ml} {m : Ml} (hs : St W w (m.own :: Bys (a ++ b) :: L)) : St W w (Bys (a ++ m :: b) :: L) := by
  have h1 : St W w (Bys (a ++ b) :: ([m.own] ++ L)) := hs.perm (List.Perm.swap _ _ _)
  have h2 := h1.open (M := (a ++ b).map Ml.own) (fun _ x => x)
  refine St.shut (M := (a ++ m :: b).map Ml.own) (h2.perm ?_) (fun _ x => x)
  have h3 : ((a ++ b).map Ml.own ++ ([m.own] ++ L)).Perm (m.own :: ((a ++ b).map Ml.own ++ L)) := by
    have := List.perm_middle (a := m.own) (l₁ := (a ++ b).map Ml.own) (l₂ := L)
    simpa using this
  refine h3.trans ?_
  rw [← List.cons_append, ← List.map_cons]
  exact (((List.perm_middle (a := m) (l₁ := a) (l₂ := b)).map Ml.own).symm).append_right L

theorem Bys.rd {W w : World} {L R : List SP} {xs : List Ml} (hs : St W w L) [k : Pick L (Bys xs) R] (i : Nat) (h : i < xs.length) : RdB w xs[i].ad xs[i].bs.length xs[i].bs := by
  have h1 := hs.pick (Bys xs)
  rw [show xs = xs.take i ++ xs[i] :: xs.drop (i + 1) from by rw [← List.drop_eq_getElem_cons h, List.take_append_drop]] at h1
  have h2 := Bys.out h1
  refine ⟨rfl, fun e => ?_, fun x hx hp => ?_⟩
  · rcases Nat.eq_zero_or_pos xs[i].bs.length with h0 | h0
    · exact h0
    · obtain ⟨b, off, e2, _⟩ := St.slRd (L := xs[i].own :: _) (e := 5) (sz := 1) (n := xs[i].bs.length) (c := xs[i].c) (cs := bc xs[i].bs) (k := ⟨List.Perm.refl _⟩) h2 xs[i].ad h0
      rw [e] at e2; cases e2
  · obtain ⟨b, off, e2, hr⟩ := St.slRd (L := xs[i].own :: _) (e := 5) (sz := 1) (n := xs[i].bs.length) (c := xs[i].c) (cs := bc xs[i].bs) (k := ⟨List.Perm.refl _⟩) h2 xs[i].ad hp
    exact ⟨b, off, by rw [hx] at e2; cases e2; rfl, hr⟩

/-- Mail as it is told. -/
abbrev Mm := Int × Int × List UInt8
def Ml.m (x : Ml) : Mm := (x.frm, x.to, x.bs)
def Net (q : Nat) (ms : List Mm) : SP := fun h => ∃ i : (Option Addr × Nat) × List Ml, (i.2.map Ml.m = ms ∧ ms.length ≤ 300 ∧ ∀ x ∈ i.2, x.bs.length ≤ 1000) ∧
  sepL [blk q 46 [.slice i.1.1 i.2.length i.1.2], Sl 29 3 i.1.1 i.2.length i.1.2 (mlc i.2), Bys i.2] h
theorem Net.open {W w : World} {L : List SP} {q : Nat} {ms : List Mm} (hs : St W w (Net q ms :: L)) :
    ∃ ad c xs, ms = xs.map Ml.m ∧ (xs.length ≤ 300 ∧ ∀ x ∈ xs, x.bs.length ≤ 1000) ∧ St W w (blk q 46 [.slice ad xs.length c] :: Sl 29 3 ad xs.length c (mlc xs) :: Bys xs :: L) := by
  obtain ⟨i, ⟨h1, h2, h3⟩, h⟩ := hs.exi (B := fun i : (Option Addr × Nat) × List Ml => sepL [blk q 46 [.slice i.1.1 i.2.length i.1.2], Sl 29 3 i.1.1 i.2.length i.1.2 (mlc i.2), Bys i.2]) (fun _ h => h)
  exact ⟨i.1.1, i.1.2, i.2, h1.symm, ⟨by rw [← h1] at h2; simpa using h2, h3⟩, h.open (fun _ x => x)⟩
theorem Net.shut {W w : World} {L R R2 R3 : List SP} {q n c : Nat} {ad : Option Addr} {cs : List Value} {xs : List Ml} {ms : List Mm} (hs : St W w L) [k : Blk L q 46 [.slice ad n c] R] [k2 : PickSl R ad n c 29 3 cs R2] [k3 : Pick R2 (Bys xs) R3]
    (hn : n = xs.length) (hc : cs = mlc xs) (hm : ms = xs.map Ml.m) (h3 : xs.length ≤ 300) (h4 : ∀ x ∈ xs, x.bs.length ≤ 1000) : St W w (Net q ms :: R3) := by
  subst hn; subst hc; subst hm
  have h1 := (hs.perm k.perm).perm (List.Perm.cons _ (k2.perm.trans (List.Perm.cons _ k3.perm)))
  exact St.shut (M := [_, _, _]) h1 fun _ x => ⟨((ad, c), xs), ⟨rfl, by simpa using h3, h4⟩, x⟩
theorem mlRd {w : World} {b off : Nat} {xs : List Ml} (h : Rd w b off (mlc xs)) (k : Nat) (hk : k < xs.length) :
    Rd w b (off + k * 3) xs[k].cells ∧ w.cell? ⟨b, off + k * 3, none⟩ = some (.int .i64 xs[k].frm) ∧ w.cell? ⟨b, off + k * 3 + 1, none⟩ = some (.int .i64 xs[k].to) ∧ w.cell? ⟨b, off + k * 3 + 2, none⟩ = some (.slice xs[k].ad xs[k].bs.length xs[k].c) := by
  have hr := h.part (k * 3) 3
  rw [mlc_at xs k hk] at hr
  exact ⟨hr, hr 0 _ rfl, hr 1 _ rfl, hr 2 _ rfl⟩

/-! Clone. -/
theorem clone_nil {W w : World} {L : List SP} {c : Nat} (hs : St W w L) :
    Calls Try.prog 21 #[.slice none 0 c] w fun e w' => e = .returned (.slice none 0 0) ∧ St W w' L := by
  refine calls_enter Try.func21 rfl Try.ntmps21 (Nat.le_of_ble_eq_true rfl) ?_
  intro a ha
  replace ha : Fr a 8 [(0, _)] := ha
  refine wp_seq ?_
  refine wp_region_lit ?_
  refine wpList_k (st_set ha rfl (ex_assign ha) rfl ?_); clear ha; (try clear a); intro a ha
  refine wpList_nil ?_
  refine then_n ?_
  refine wp_seq ?_
  refine wp_seq ?_
  refine wp_region_lit ?_
  refine wpList_k (st_set ha rfl (ex_move ha) rfl ?_); clear ha; (try clear a); intro a ha
  refine wpList_k (st_set ha rfl (ex_eqnilS ha Try.underlying27) rfl ?_); clear ha; (try clear a); intro a ha
  refine wpList_nil ?_
  refine then_n ?_
  refine wp_ifT ha ?_
  refine wp_seq ?_
  refine wp_region_lit ?_
  replace ha := ha.del 2
  refine wpList_k (st_set ha rfl (ex_assign ha) rfl ?_); clear ha; (try clear a); intro a ha
  refine wpList_nil ?_
  refine then_n ?_
  refine wp_ret <| then_r ?_
  refine ret1 ha rfl ?_
  exact ⟨rfl, hs⟩
theorem clone_empty {W w : World} {L : List SP} {x : Addr} {c : Nat} (hs : St W w L) :
    Calls Try.prog 21 #[.slice (some x) 0 c] w fun e w' => ∃ ad', e = .returned (.slice ad' 0 0) ∧ St W w' (Sl 5 1 ad' 0 0 [] :: L) := by
  refine calls_enter Try.func21 rfl Try.ntmps21 (Nat.le_of_ble_eq_true rfl) ?_
  intro a ha
  replace ha : Fr a 8 [(0, _)] := ha
  refine wp_seq ?_
  refine wp_region_lit ?_
  refine wpList_k (st_set ha rfl (ex_assign ha) rfl ?_); clear ha; (try clear a); intro a ha
  refine wpList_nil ?_
  refine then_n ?_
  refine wp_seq ?_
  refine wp_seq ?_
  refine wp_region_lit ?_
  refine wpList_k (st_set ha rfl (ex_move ha) rfl ?_); clear ha; (try clear a); intro a ha
  refine wpList_k (st_set ha rfl (ex_eqnilS ha Try.underlying27) rfl ?_); clear ha; (try clear a); intro a ha
  refine wpList_nil ?_
  refine then_n ?_
  refine wp_ifF ha ?_
  refine wp_skip ?_
  refine then_n ?_
  refine wp_seq ?_
  refine wp_region_lit ?_
  refine wpList_k (st_buildSlice0 ha rfl hs Try.underlying27 Ty.t5 rfl ?_); clear ha hs; (try clear a); (try clear w); intro b5 a w ha hs ho
  clear ho
  refine wpList_k (st_set ha rfl (ex_move ha) rfl ?_); clear ha; (try clear a); intro a ha
  refine wpList_k (st_append0 ha rfl Try.underlying27 Ty.t5 rfl (Nat.le_refl _) ?_); clear ha; (try clear a); intro a ha
  replace ha := ha.del 2
  refine wpList_k (st_set ha rfl (ex_assign ha) rfl ?_); clear ha; (try clear a); intro a ha
  refine wpList_nil ?_
  refine then_n ?_
  refine wp_ret ?_
  refine ret1 ha rfl ?_
  exact ⟨_, rfl, hs⟩
theorem clone_some {W w : World} {L : List SP} {b off c : Nat} {bs : List UInt8} (hs : St W w L) (hr : Rd w b off (bc bs)) (h0 : 0 < bs.length) (hl : bs.length ≤ 140737488355328) :
    Calls Try.prog 21 #[.slice (some ⟨b, off, none⟩) bs.length c] w fun e w' => ∃ ad' c', e = .returned (.slice ad' bs.length c') ∧ St W w' (Sl 5 1 ad' bs.length c' (bc bs) :: L) := by
  refine calls_enter Try.func21 rfl Try.ntmps21 (Nat.le_of_ble_eq_true rfl) ?_
  intro a ha
  replace ha : Fr a 8 [(0, _)] := ha
  refine wp_seq ?_
  refine wp_region_lit ?_
  refine wpList_k (st_set ha rfl (ex_assign ha) rfl ?_); clear ha; (try clear a); intro a ha
  refine wpList_nil ?_
  refine then_n ?_
  refine wp_seq ?_
  refine wp_seq ?_
  refine wp_region_lit ?_
  refine wpList_k (st_set ha rfl (ex_move ha) rfl ?_); clear ha; (try clear a); intro a ha
  refine wpList_k (st_set ha rfl (ex_eqnilS ha Try.underlying27) rfl ?_); clear ha; (try clear a); intro a ha
  refine wpList_nil ?_
  refine then_n ?_
  refine wp_ifF ha ?_
  refine wp_skip ?_
  refine then_n ?_
  refine wp_seq ?_
  refine wp_region_lit ?_
  refine wpList_k (st_buildSlice0 ha rfl hs Try.underlying27 Ty.t5 rfl ?_); clear ha hs; (try clear a); (try clear w); intro b5 a w ha hs ho
  replace hr := ho.rd hr
  clear ho
  refine wpList_k (st_set ha rfl (ex_move ha) rfl ?_); clear ha; (try clear a); intro a ha
  refine wpList_k (st_append ha rfl hs Try.underlying27 Ty.t5 rfl rfl hr (by rw [bc_len, Nat.mul_one]) (bc_one bs) h0 (by decide) (by omega) ?_); clear ha hs; (try clear a); (try clear w); intro ad7 c7 a w ha hs
  replace ha := ha.del 2
  refine wpList_k (st_set ha rfl (ex_assign ha) rfl ?_); clear ha; (try clear a); intro a ha
  refine wpList_nil ?_
  refine then_n ?_
  refine wp_ret ?_
  refine ret1 ha rfl ?_
  rw [Nat.zero_add] at *
  exact ⟨_, _, rfl, hs⟩
theorem clone_spec {W w : World} {L : List SP} {ad : Option Addr} {n c : Nat} {bs : List UInt8} (hs : St W w L) (hr : RdB w ad n bs) (hl : n ≤ 140737488355328) :
    Calls Try.prog 21 #[.slice ad n c] w fun e w' => ∃ ad' c', e = .returned (.slice ad' n c') ∧ St W w' (Sl 5 1 ad' n c' (bc bs) :: L) := by
  obtain ⟨rfl, h2, h3⟩ := hr
  cases ad with
  | none =>
    have h0 := h2 rfl
    obtain rfl := List.eq_nil_of_length_eq_zero h0
    exact (clone_nil hs).mono fun e w' ⟨h, hs⟩ => ⟨none, 0, h, hs.sl0 _ _ _⟩
  | some x =>
    rcases Nat.eq_zero_or_pos bs.length with h0 | h0
    · obtain rfl := List.eq_nil_of_length_eq_zero h0
      exact (clone_empty hs).mono fun e w' ⟨ad', h, hs⟩ => ⟨ad', 0, h, hs⟩
    · obtain ⟨b, off, rfl, hr⟩ := h3 x rfl h0
      exact clone_some hs hr h0 hl

theorem own_spec {W w : World} {L : List SP} {ad : Option Addr} {n c : Nat} {f t : Int} {bs : List UInt8} (hs : St W w L) (hr : ∀ w', St W w' L → RdB w' ad n bs) (hl : n ≤ 140737488355328) :
    Calls Try.prog 18 #[.agg #[.int .i64 f, .int .i64 t, .slice ad n c]] w fun e w' => ∃ ad' c', e = .returned (.agg #[.int .i64 f, .int .i64 t, .slice ad' n c']) ∧ St W w' (Sl 5 1 ad' n c' (bc bs) :: L) := by
  refine calls_enter Try.func18 rfl Try.ntmps18 (Nat.le_of_ble_eq_true rfl) ?_
  intro a ha
  replace ha : Fr a 8 [(0, _)] := ha
  refine wp_seq ?_
  refine wp_region_lit ?_
  refine wpList_k (st_box ha rfl hs rfl ?_); clear ha hs; (try clear a); (try clear w); intro b1 a w ha hs ho
  clear ho
  refine wpList_k (st_alloc ha rfl hs Ty.t29 rfl ?_); clear ha hs; (try clear a); (try clear w); intro b2 a w ha hs ho
  clear ho
  refine wpList_nil ?_
  refine then_n ?_
  refine wp_seq ?_
  refine wp_region_lit ?_
  refine wpList_k (st_set ha rfl (ex_fieldAddr ha Try.underlying29 rfl Ty.t27 rfl) rfl ?_); clear ha; (try clear a); intro a ha
  refine wpList_k (st_set ha rfl (ex_load1 ha Try.underlying27 rfl (hs.rd1 rfl)) rfl ?_); clear ha; (try clear a); intro a ha
  refine wpList_k (st_call ha rfl Ty.c21 rfl (clone_spec hs (hr _ hs.sub) hl) ?_); clear ha hs
  rintro e w ⟨ad', c', rfl, hs⟩
  refine ⟨_, rfl, ?_⟩
  intro a ha
  refine wpList_k (st_set ha rfl (ex_fieldAddr ha Try.underlying29 rfl Ty.t27 rfl) rfl ?_); clear ha; (try clear a); intro a ha
  refine wpList_k (st_store ha rfl hs Ty.t27 rfl (by simp) ?_); clear ha hs; (try clear a); (try clear w); intro a w ha hs
  refine wpList_nil ?_
  refine then_n ?_
  refine wp_seq ?_
  refine wp_region_lit ?_
  refine wpList_k (st_set ha rfl (ex_loadN ha Try.underlying29 rfl Ty.t29 (hs.rdN 3)) rfl ?_); clear ha; (try clear a); intro a ha
  refine wpList_k (st_storeAll ha rfl hs Ty.t29 (by simp [Value.oneCell']) (by rfl) ?_); clear ha hs; (try clear a); (try clear w); intro a w ha hs
  refine wpList_nil ?_
  refine then_n ?_
  refine wp_ret ?_
  refine retC1 ha rfl (run_loadN Try.underlying29 rfl Ty.t29 (hs.rdAll)) ?_
  exact ⟨_, _, rfl, hs.sub⟩

theorem len_nil {W w : World} {L : List SP} (hs : St W w L) :
    Calls Try.prog 17 #[.pointer none] w fun e w' => e = .returned (.int .i64 0) ∧ St W w' L := by
  refine calls_enter Try.func17 rfl Try.ntmps17 (Nat.le_of_ble_eq_true rfl) ?_
  intro a ha
  replace ha : Fr a 10 [(0, _)] := ha
  refine wp_seq ?_
  refine wp_region_lit ?_
  refine wpList_k (st_set ha rfl (ex_assign ha) rfl ?_); clear ha; (try clear a); intro a ha
  refine wpList_nil ?_
  refine then_n ?_
  refine wp_seq ?_
  refine wp_seq ?_
  refine wp_region_lit ?_
  refine wpList_k (st_set ha rfl (ex_move ha) rfl ?_); clear ha; (try clear a); intro a ha
  refine wpList_k (st_set ha rfl (ex_eqnil ha Try.underlying24) rfl ?_); clear ha; (try clear a); intro a ha
  refine wpList_nil ?_
  refine then_n ?_
  refine wp_ifT ha ?_
  refine wp_seq ?_
  refine wp_region_lit ?_
  replace ha := ha.del 2
  refine wpList_k (st_set ha rfl (ex_assign ha) rfl ?_); clear ha; (try clear a); intro a ha
  refine wpList_nil ?_
  refine then_n ?_
  refine wp_ret <| then_r ?_
  refine ret1 ha rfl ?_
  exact ⟨rfl, hs⟩
theorem len_some {W w : World} {L R : List SP} {q e : Nat} {s : Option Addr} {n c : Nat} (hs : St W w L) [Blk L q e [.slice s n c] R] :
    Calls Try.prog 17 #[.pointer (some ⟨q, 0, none⟩)] w fun e w' => e = .returned (.int .i64 n) ∧ St W w' L := by
  refine calls_enter Try.func17 rfl Try.ntmps17 (Nat.le_of_ble_eq_true rfl) ?_
  intro a ha
  replace ha : Fr a 10 [(0, _)] := ha
  refine wp_seq ?_
  refine wp_region_lit ?_
  refine wpList_k (st_set ha rfl (ex_assign ha) rfl ?_); clear ha; (try clear a); intro a ha
  refine wpList_nil ?_
  refine then_n ?_
  refine wp_seq ?_
  refine wp_seq ?_
  refine wp_region_lit ?_
  refine wpList_k (st_set ha rfl (ex_move ha) rfl ?_); clear ha; (try clear a); intro a ha
  refine wpList_k (st_set ha rfl (ex_eqnil ha Try.underlying24) rfl ?_); clear ha; (try clear a); intro a ha
  refine wpList_nil ?_
  refine then_n ?_
  refine wp_ifF ha ?_
  refine wp_skip ?_
  refine then_n ?_
  refine wp_seq ?_
  refine wp_region_lit ?_
  refine wpList_k (st_set ha rfl (ex_move ha) rfl ?_); clear ha; (try clear a); intro a ha
  refine wpList_k (st_set ha rfl (ex_nilCheck ha) rfl ?_); clear ha; (try clear a); intro a ha
  refine wpList_k (st_set ha rfl (ex_fieldAddr ha Try.underlying46 rfl Ty.t26 rfl) rfl ?_); clear ha; (try clear a); intro a ha
  refine wpList_k (st_set ha rfl (ex_load1 ha Try.underlying26 rfl (hs.rd1 rfl)) rfl ?_); clear ha; (try clear a); intro a ha
  refine wpList_k (st_set ha rfl (ex_len ha Try.underlying26) rfl ?_); clear ha; (try clear a); intro a ha
  replace ha := ha.del 2
  refine wpList_k (st_set ha rfl (ex_assign ha) rfl ?_); clear ha; (try clear a); intro a ha
  refine wpList_nil ?_
  refine then_n ?_
  refine wp_ret ?_
  refine ret1 ha rfl ?_
  exact ⟨rfl, hs⟩
theorem len_net {W w : World} {L : List SP} {q : Nat} {ms : List Mm} (hs : St W w (Net q ms :: L)) :
    Calls Try.prog 17 #[.pointer (some ⟨q, 0, none⟩)] w fun e w' => e = .returned (.int .i64 ms.length) ∧ St W w' (Net q ms :: L) := by
  obtain ⟨ad, c, xs, rfl, hx, hs⟩ := Net.open hs
  refine (len_some (q := q) hs).mono fun e w' ⟨h, hs⟩ => ⟨by rw [h]; simp, Net.shut (q := q) (ad := ad) (xs := xs) hs rfl rfl rfl hx.1 hx.2⟩
theorem has_nil {W w : World} {L : List SP} {i : Int} (hs : St W w L) :
    Calls Try.prog 19 #[.pointer none, .int .i64 i] w fun e w' => e = .returned (.bool false) ∧ St W w' L := by
  refine calls_enter Try.func19 rfl Try.ntmps19 (Nat.le_of_ble_eq_true rfl) ?_
  intro a ha
  replace ha : Fr a 13 [(0, _), (1, _)] := ha
  refine wp_seq ?_
  refine wp_region_lit ?_
  refine wpList_k (st_set ha rfl (ex_assign ha) rfl ?_); clear ha; (try clear a); intro a ha
  refine wpList_nil ?_
  refine then_n ?_
  refine wp_seq ?_
  refine wp_region_lit ?_
  refine wpList_k (st_set ha rfl (ex_move ha) rfl ?_); clear ha; (try clear a); intro a ha
  refine wpList_k (st_set ha rfl (ex_geq ha) rfl ?_); clear ha; (try clear a); intro a ha
  refine wpList_k (st_set ha rfl (ex_move ha) rfl ?_); clear ha; (try clear a); intro a ha
  refine ha.bool (s := 7) (fun hg2 ha => ?_) (fun hg2 ha => ?_)
  ·
    try simp only [decide_eq_true_eq, decide_eq_false_iff_not, Bool.not_eq_true', Bool.not_eq_false', Int.not_lt, Int.not_le, ne_eq, Decidable.not_not] at hg2
    refine wpList_k (st_set ha (wgT ha rfl (s := 7)) (ex_move ha) rfl ?_); clear ha; (try clear a); intro a ha
    refine wpList_k (st_set ha (wgT ha rfl (s := 7)) (ex_move ha) rfl ?_); clear ha; (try clear a); intro a ha
    refine wpList_k (st_call ha (wgT ha rfl (s := 7)) Ty.c17 rfl (len_nil hs) ?_); clear ha hs
    rintro e w ⟨rfl, hs⟩
    refine ⟨_, rfl, ?_⟩
    intro a ha
    refine wpList_k (st_set ha (wgT ha rfl (s := 7)) (ex_lss ha) rfl ?_); clear ha; (try clear a); intro a ha
    refine wpList_k (st_set ha rfl (ex_pickT ha) rfl ?_); clear ha; (try clear a); intro a ha
    replace ha := ha.del 4
    refine wpList_k (st_set ha rfl (ex_assign ha) rfl ?_); clear ha; (try clear a); intro a ha
    refine wpList_nil ?_
    refine then_n ?_
    refine wp_ret ?_
    refine ret1 ha rfl ?_
    exact ⟨by rw [show decide (i < 0) = false from decide_eq_false (by omega)], hs⟩
  ·
    try simp only [decide_eq_true_eq, decide_eq_false_iff_not, Bool.not_eq_true', Bool.not_eq_false', Int.not_lt, Int.not_le, ne_eq, Decidable.not_not] at hg2
    refine wpList_k (st_off ha (wgF ha rfl (s := 7) rfl) rfl ?_); clear ha; (try clear a); intro a ha
    refine wpList_k (st_off ha (wgF ha rfl (s := 7) rfl) rfl ?_); clear ha; (try clear a); intro a ha
    refine wpList_k (st_off ha (wgF ha rfl (s := 7) rfl) rfl ?_); clear ha; (try clear a); intro a ha
    refine wpList_k (st_off ha (wgF ha rfl (s := 7) rfl) rfl ?_); clear ha; (try clear a); intro a ha
    refine wpList_k (st_set ha rfl (ex_pickF ha) rfl ?_); clear ha; (try clear a); intro a ha
    replace ha := ha.del 4
    refine wpList_k (st_set ha rfl (ex_assign ha) rfl ?_); clear ha; (try clear a); intro a ha
    refine wpList_nil ?_
    refine then_n ?_
    refine wp_ret ?_
    refine ret1 ha rfl ?_
    exact ⟨rfl, hs⟩
theorem has_some {W w : World} {L R : List SP} {q e : Nat} {s : Option Addr} {n c : Nat} {i : Int} (hs : St W w L) [Blk L q e [.slice s n c] R] :
    Calls Try.prog 19 #[.pointer (some ⟨q, 0, none⟩), .int .i64 i] w fun e w' => e = .returned (.bool (decide (0 ≤ i) && decide (i < n))) ∧ St W w' L := by
  refine calls_enter Try.func19 rfl Try.ntmps19 (Nat.le_of_ble_eq_true rfl) ?_
  intro a ha
  replace ha : Fr a 13 [(0, _), (1, _)] := ha
  refine wp_seq ?_
  refine wp_region_lit ?_
  refine wpList_k (st_set ha rfl (ex_assign ha) rfl ?_); clear ha; (try clear a); intro a ha
  refine wpList_nil ?_
  refine then_n ?_
  refine wp_seq ?_
  refine wp_region_lit ?_
  refine wpList_k (st_set ha rfl (ex_move ha) rfl ?_); clear ha; (try clear a); intro a ha
  refine wpList_k (st_set ha rfl (ex_geq ha) rfl ?_); clear ha; (try clear a); intro a ha
  refine wpList_k (st_set ha rfl (ex_move ha) rfl ?_); clear ha; (try clear a); intro a ha
  refine ha.bool (s := 7) (fun hg2 ha => ?_) (fun hg2 ha => ?_)
  ·
    try simp only [decide_eq_true_eq, decide_eq_false_iff_not, Bool.not_eq_true', Bool.not_eq_false', Int.not_lt, Int.not_le, ne_eq, Decidable.not_not] at hg2
    refine wpList_k (st_set ha (wgT ha rfl (s := 7)) (ex_move ha) rfl ?_); clear ha; (try clear a); intro a ha
    refine wpList_k (st_set ha (wgT ha rfl (s := 7)) (ex_move ha) rfl ?_); clear ha; (try clear a); intro a ha
    refine wpList_k (st_call ha (wgT ha rfl (s := 7)) Ty.c17 rfl (len_some (q := q) hs) ?_); clear ha hs
    rintro e w ⟨rfl, hs⟩
    refine ⟨_, rfl, ?_⟩
    intro a ha
    refine wpList_k (st_set ha (wgT ha rfl (s := 7)) (ex_lss ha) rfl ?_); clear ha; (try clear a); intro a ha
    refine wpList_k (st_set ha rfl (ex_pickT ha) rfl ?_); clear ha; (try clear a); intro a ha
    replace ha := ha.del 4
    refine wpList_k (st_set ha rfl (ex_assign ha) rfl ?_); clear ha; (try clear a); intro a ha
    refine wpList_nil ?_
    refine then_n ?_
    refine wp_ret ?_
    refine ret1 ha rfl ?_
    exact ⟨by rw [decide_eq_true (p := 0 ≤ i) (by omega), Bool.true_and], hs⟩
  ·
    try simp only [decide_eq_true_eq, decide_eq_false_iff_not, Bool.not_eq_true', Bool.not_eq_false', Int.not_lt, Int.not_le, ne_eq, Decidable.not_not] at hg2
    refine wpList_k (st_off ha (wgF ha rfl (s := 7) rfl) rfl ?_); clear ha; (try clear a); intro a ha
    refine wpList_k (st_off ha (wgF ha rfl (s := 7) rfl) rfl ?_); clear ha; (try clear a); intro a ha
    refine wpList_k (st_off ha (wgF ha rfl (s := 7) rfl) rfl ?_); clear ha; (try clear a); intro a ha
    refine wpList_k (st_off ha (wgF ha rfl (s := 7) rfl) rfl ?_); clear ha; (try clear a); intro a ha
    refine wpList_k (st_set ha rfl (ex_pickF ha) rfl ?_); clear ha; (try clear a); intro a ha
    replace ha := ha.del 4
    refine wpList_k (st_set ha rfl (ex_assign ha) rfl ?_); clear ha; (try clear a); intro a ha
    refine wpList_nil ?_
    refine then_n ?_
    refine wp_ret ?_
    refine ret1 ha rfl ?_
    exact ⟨by rw [decide_eq_false (p := 0 ≤ i) (by omega), Bool.false_and], hs⟩

theorem new_spec {W w : World} {L : List SP} (hs : St W w L) :
    Calls Try.prog 9 #[] w fun e w' => ∃ q, e = .returned (.pointer (some ⟨q, 0, none⟩)) ∧ St W w' (Net q [] :: L) := by
  refine calls_enter Try.func9 rfl Try.ntmps9 (Nat.le_of_ble_eq_true rfl) ?_
  intro a ha
  replace ha : Fr a 3 [] := ha
  refine wp_seq ?_
  refine wp_region_lit ?_
  refine wpList_k (st_set ha rfl (ex_assign ha) rfl ?_); clear ha; (try clear a); intro a ha
  refine wpList_nil ?_
  refine then_n ?_
  refine wp_seq ?_
  refine wp_region_lit ?_
  refine wpList_k (st_set ha rfl (ex_build ha Ty.b46 Ty.t46 rfl) rfl ?_); clear ha; (try clear a); intro a ha
  refine wpList_k (st_box ha rfl hs rfl ?_); clear ha hs; (try clear a); (try clear w); intro b2 a w ha hs ho
  clear ho
  replace ha := ha.del 0
  refine wpList_k (st_set ha rfl (ex_assign ha) rfl ?_); clear ha; (try clear a); intro a ha
  refine wpList_nil ?_
  refine then_n ?_
  refine wp_ret ?_
  refine ret1 ha rfl ?_
  exact ⟨_, rfl, by
    have h1 := (Bys.nil (hs.sl0 29 3 none))
    exact (Net.shut (q := b2) (xs := []) (ms := []) h1 rfl rfl rfl (by simp) (by simp)).sub⟩
theorem splice_mid {p q r vs : List Value} {o : Nat} (ho : o = p.length) (h : q.length = vs.length) : splice (p ++ q ++ r) o vs = p ++ vs ++ r := by
  subst ho
  have e1 : (p ++ q ++ r).take p.length = p := by rw [List.append_assoc, List.take_left]
  have e2 : (p ++ q ++ r).drop (p.length + vs.length) = r := by rw [← h, show p.length + q.length = (p ++ q).length from by simp, List.drop_left]
  rw [splice, e1, e2]

theorem del_cells {pre cs post : List Value} {n i : Nat} (hl : cs.length = n * 3) (hi : i < n) :
    ∃ v, v.length = 3 ∧ splice (pre ++ cs ++ post) (pre.length + i * 3) (cs.drop ((i + 1) * 3)) = (pre ++ (cs.take (i * 3) ++ cs.drop ((i + 1) * 3))) ++ v ++ post := by
  refine ⟨(cs.drop (i * 3)).drop ((n - 1 - i) * 3), by rw [List.length_drop, List.length_drop]; omega, ?_⟩
  have e0 : cs = cs.take (i * 3) ++ ((cs.drop (i * 3)).take ((n - 1 - i) * 3) ++ (cs.drop (i * 3)).drop ((n - 1 - i) * 3)) := by rw [List.take_append_drop, List.take_append_drop]
  have e : pre ++ cs ++ post = (pre ++ cs.take (i * 3)) ++ (cs.drop (i * 3)).take ((n - 1 - i) * 3) ++ ((cs.drop (i * 3)).drop ((n - 1 - i) * 3) ++ post) := by
    conv => lhs; rw [e0]
    simp only [List.append_assoc]
  rw [e, splice_mid (by rw [List.length_append, List.length_take]; omega) (by rw [List.length_take, List.length_drop, List.length_drop]; omega)]
  simp only [List.append_assoc]

theorem delete_spec {W w : World} {L : List SP} {ad : Option Addr} {c n i : Nat} {cs : List Value} (hs : St W w (Sl 29 3 ad n c cs :: L)) (hi : i < n) (hn : n ≤ 140737488355328) (hone : ∀ v ∈ cs, v.oneCell' = true) :
    Calls Try.prog 20 #[.slice ad n c, .int .i64 i, .int .i64 ((i + 1 : Nat) : Int)] w fun e w' => e = .returned (.slice ad (n - 1) c) ∧ St W w' (Sl 29 3 ad (n - 1) c (cs.take (i * 3) ++ cs.drop ((i + 1) * 3)) :: L) := by
  have hc0 := (hs.sl ad)
  obtain ⟨b, pre, post, ⟨h1, h2, rfl, h4⟩, hs0⟩ := hs.slOpen (by omega)
  replace hs := hs0
  clear hs0
  have hnews : ∃ o2, cutAd (some ⟨b, pre.length, none⟩) (i + 1) c 3 = some ⟨b, o2, none⟩ ∧ ∀ w, St W w (blk b 29 (pre ++ cs ++ post) :: L) → Rd w b o2 (cs.drop ((i + 1) * 3)) := by
    by_cases hci : c = i + 1
    · refine ⟨pre.length, by simp [cutAd, hci], fun w _ => ?_⟩
      rw [List.drop_of_length_le (by omega)]
      intro j v hj; simp at hj
    · refine ⟨pre.length + (i + 1) * 3, cutAd_some hci, fun w hs => ?_⟩
      intro j v hj
      have hlt := (List.getElem?_eq_some_iff.1 hj).1
      rw [List.length_drop] at hlt
      rw [hs.cell, List.append_assoc, List.getElem?_append_right (by omega), show pre.length + (i + 1) * 3 + j - pre.length = (i + 1) * 3 + j from by omega, List.getElem?_append_left (by omega)]
      rw [List.getElem?_drop] at hj
      exact hj
  obtain ⟨o2, hcut, hnews⟩ := hnews
  refine calls_enter Try.func20 rfl Try.ntmps20 (Nat.le_of_ble_eq_true rfl) ?_
  intro a ha
  replace ha : Fr a 33 [(0, _), (1, _), (2, _)] := ha
  refine wp_seq ?_
  refine wp_region_lit ?_
  refine wpList_k (st_set ha rfl (ex_assign ha) rfl ?_); clear ha; (try clear a); intro a ha
  refine wpList_nil ?_
  refine then_n ?_
  refine wp_seq ?_
  refine wp_region_lit ?_
  refine wpList_k (st_set ha rfl (ex_move ha) rfl ?_); clear ha; (try clear a); intro a ha
  refine wpList_k (st_set ha rfl (ex_move ha) rfl ?_); clear ha; (try clear a); intro a ha
  refine wpList_k (st_set ha rfl (ex_move ha) rfl ?_); clear ha; (try clear a); intro a ha
  refine wpList_k (st_set ha rfl (ex_move ha) rfl ?_); clear ha; (try clear a); intro a ha
  refine wpList_k (st_set ha rfl (ex_len ha Try.underlying26) rfl ?_); clear ha; (try clear a); intro a ha
  refine wpList_k (st_set ha rfl (ex_sliceLHM ha Try.underlying26 Ty.t29 (by omega) (by omega) (by omega)) rfl ?_); clear ha; (try clear a); intro a ha
  refine wpList_nil ?_
  refine then_n ?_
  refine wp_seq ?_
  refine wp_seq ?_
  refine wp_region_lit ?_
  refine wpList_k (st_set ha rfl (ex_move ha) rfl ?_); clear ha; (try clear a); intro a ha
  refine wpList_k (st_set ha rfl (ex_move ha) rfl ?_); clear ha; (try clear a); intro a ha
  refine wpList_k (st_set ha rfl (ex_eql ha) rfl ?_); clear ha; (try clear a); intro a ha
  rw [show decide ((i : Int) = ((i + 1 : Nat) : Int)) = false from decide_eq_false (by omega)] at ha
  refine wpList_nil ?_
  refine then_n ?_
  refine wp_ifF ha ?_
  refine wp_skip ?_
  refine then_n ?_
  refine wp_seq ?_
  refine wp_region_lit ?_
  refine wpList_k (st_set ha rfl (ex_move ha) rfl ?_); clear ha; (try clear a); intro a ha
  refine wpList_k (st_set ha rfl (ex_len ha Try.underlying26) rfl ?_); clear ha; (try clear a); intro a ha
  refine wpList_k (st_set ha rfl (ex_assign ha) rfl ?_); clear ha; (try clear a); intro a ha
  refine wpList_nil ?_
  refine then_n ?_
  refine wp_seq ?_
  refine wp_draw (m := 8) (l0 := #[false, false, false, false, false, false, false, false]) (Old w.drew) [] Ty.mixed (by kernel_rfl) (by kernel_rfl) ?_
  replace hs := hs.drew
  have hC := Old.refl w.drew
  generalize w.drew = w at hs hC ⊢
  refine nt_pure (i := 0) (listed' := #[true, false, false, false, false, false, false, false]) (by kernel_rfl) rfl (by kernel_rfl) (by decide) (pk_then pk_body) ha rfl (fun w => ex_move ha) rfl ?_; clear ha; (try clear a); intro a ha
  refine nt_pure (i := 1) (listed' := #[true, true, false, false, false, false, false, false]) (by kernel_rfl) rfl (by kernel_rfl) (by decide) (pk_then pk_body) ha rfl (fun w => ex_move ha) rfl ?_; clear ha; (try clear a); intro a ha
  refine nt_pure (i := 2) (listed' := #[true, true, true, false, false, false, false, false]) (by kernel_rfl) rfl (by kernel_rfl) (by decide) (pk_then pk_body) ha rfl (fun w => ex_sliceH ha Try.underlying26 Ty.t29 (by omega)) rfl ?_; clear ha; (try clear a); intro a ha
  refine nt_pure (i := 3) (listed' := #[true, true, true, true, false, false, false, false]) (by kernel_rfl) rfl (by kernel_rfl) (by decide) (pk_then pk_body) ha rfl (fun w => ex_move ha) rfl ?_; clear ha; (try clear a); intro a ha
  refine nt_pure (i := 4) (listed' := #[true, true, true, true, true, false, false, false]) (by kernel_rfl) rfl (by kernel_rfl) (by decide) (pk_then pk_body) ha rfl (fun w => ex_move ha) rfl ?_; clear ha; (try clear a); intro a ha
  refine nt_pure (i := 5) (listed' := #[true, true, true, true, true, true, false, false]) (by kernel_rfl) rfl (by kernel_rfl) (by decide) (pk_then pk_body) ha rfl (fun w => ex_sliceL ha Try.underlying26 Ty.t29 (by omega)) rfl ?_; clear ha; (try clear a); intro a ha
  rw [hcut, cutAd_some (by omega : c ≠ 0)] at ha
  refine nt_one (i := 6) (listed' := #[true, true, true, true, true, true, true, false]) (by kernel_rfl) (by kernel_rfl) rfl (st_appendIn ha rfl hs Try.underlying26 Ty.t29 rfl (hnews _ hs) (by simp; omega) (fun v hv => hone v (List.mem_of_mem_drop hv)) (by omega) (by simp; omega) ?_); clear ha hs; (try clear a); (try clear w); intro a w ha hs
  refine ⟨fun h => absurd h (by decide), ?_⟩
  obtain ⟨v, hv, hsp⟩ := del_cells (pre := pre) (post := post) (n := n) (i := i) h1 hi
  rw [show pre.length + 0 * 3 + (i - 0) * 3 = pre.length + i * 3 from by omega, hsp] at hs
  rw [show i - 0 + (n - (i + 1)) = n - 1 from by omega, show pre.length + 0 * 3 = pre.length from by omega] at ha
  have hP : (pre ++ (cs.take (i * 3) ++ cs.drop ((i + 1) * 3))).length = pre.length + (n - 1) * 3 := by
    simp only [List.length_append, List.length_take, List.length_drop]; omega
  replace ha := ha.del 0
  refine nt_pure (i := 7) (listed' := #[true, true, true, true, true, true, true, true]) (by kernel_rfl) rfl (by kernel_rfl) (by decide) (pk_then pk_body) ha rfl (fun w => ex_assign ha) rfl ?_; clear ha; (try clear a); intro a ha
  refine nt_done (by kernel_rfl) ?_ _
  refine then_n ?_
  refine wp_seq ?_
  refine wp_region_lit ?_
  refine wpList_k (st_set ha rfl (ex_move ha) rfl ?_); clear ha; (try clear a); intro a ha
  refine wpList_k (st_set ha rfl (ex_move ha) rfl ?_); clear ha; (try clear a); intro a ha
  refine wpList_k (st_set ha rfl (ex_len ha Try.underlying26) rfl ?_); clear ha; (try clear a); intro a ha
  refine wpList_k (st_set ha rfl (ex_move ha) rfl ?_); clear ha; (try clear a); intro a ha
  refine wpList_k (st_set ha rfl (ex_sliceLH ha Try.underlying26 Ty.t29 (by omega) (by omega)) rfl ?_); clear ha; (try clear a); intro a ha
  rw [cutAd_some (by omega)] at ha
  have hle : pre.length + (n - 1) * 3 + (n - (n - 1)) * 3 ≤ (pre ++ (cs.take (i * 3) ++ cs.drop ((i + 1) * 3)) ++ v ++ post).length := by
    rw [List.length_append, List.length_append, hP, hv]; omega
  refine wpList_k (st_clear ha rfl hs Try.underlying26 Ty.t29 rfl rfl hle ?_); clear ha hs; (try clear a); (try clear w); intro a w ha hs
  refine wpList_nil ?_
  refine then_n ?_
  refine wp_seq ?_
  refine wp_region_lit ?_
  refine wpList_k (st_set ha rfl (ex_move ha) rfl ?_); clear ha; (try clear a); intro a ha
  replace ha := ha.del 6
  refine wpList_k (st_set ha rfl (ex_assign ha) rfl ?_); clear ha; (try clear a); intro a ha
  refine wpList_nil ?_
  refine then_n ?_
  refine wp_ret ?_
  refine ret1 ha rfl ?_
  refine ⟨rfl, ?_⟩
  generalize hz : (Builtin.zeroCells (Value.cells (.agg #[.int .i64 0, .int .i64 0, .slice none 0 0])) (n - (n - 1))).toList = zs at hs
  have hzl : zs.length = (n - (n - 1)) * 3 := by rw [← hz]; exact zero_size 0 (by' := 0) rfl _
  rw [splice_mid hP.symm (by rw [hv, hzl]; omega)] at hs
  rw [List.append_assoc _ zs post] at hs
  exact St.slShut hs (by rw [List.length_append] at hP; omega) (by omega) (by rw [List.length_append, hzl]; omega)

def maySend (ms : List Mm) (n : Nat) : Bool := decide (ms.length < 300) && decide (n ≤ 1000)
theorem send_nil {W w : World} {L : List SP} {ad : Option Addr} {n c : Nat} {f t : Int} (hs : St W w L) :
    Calls Try.prog 11 #[.pointer none, .agg #[.int .i64 f, .int .i64 t, .slice ad n c]] w fun e w' => e = .returned (.bool false) ∧ St W w' L := by
  refine calls_enter Try.func11 rfl Try.ntmps11 (Nat.le_of_ble_eq_true rfl) ?_
  intro a ha
  replace ha : Fr a 32 [(0, _), (1, _)] := ha
  refine wp_seq ?_
  refine wp_region_lit ?_
  refine wpList_k (st_box ha rfl hs rfl ?_); clear ha hs; (try clear a); (try clear w); intro b3 a w ha hs ho
  clear ho
  refine wpList_k (st_set ha rfl (ex_assign ha) rfl ?_); clear ha; (try clear a); intro a ha
  refine wpList_nil ?_
  refine then_n ?_
  refine wp_seq ?_
  refine wp_seq ?_
  refine wp_region_lit ?_
  refine wpList_k (st_set ha rfl (ex_move ha) rfl ?_); clear ha; (try clear a); intro a ha
  refine wpList_k (st_set ha rfl (ex_eqnil ha Try.underlying24) rfl ?_); clear ha; (try clear a); intro a ha
  refine wpList_k (st_set ha rfl (ex_move ha) rfl ?_); clear ha; (try clear a); intro a ha
  refine wpList_k (st_off ha (wgF ha rfl (s := 7) rfl) rfl ?_); clear ha; (try clear a); intro a ha
  refine wpList_k (st_off ha (wgF ha rfl (s := 7) rfl) rfl ?_); clear ha; (try clear a); intro a ha
  refine wpList_k (st_off ha (wgF ha rfl (s := 7) rfl) rfl ?_); clear ha; (try clear a); intro a ha
  refine wpList_k (st_off ha (wgF ha rfl (s := 7) rfl) rfl ?_); clear ha; (try clear a); intro a ha
  refine wpList_k (st_off ha (wgF ha rfl (s := 7) rfl) rfl ?_); clear ha; (try clear a); intro a ha
  refine wpList_k (st_off ha (wgF ha rfl (s := 7) rfl) rfl ?_); clear ha; (try clear a); intro a ha
  refine wpList_k (st_set ha rfl (ex_pickT ha) rfl ?_); clear ha; (try clear a); intro a ha
  refine wpList_k (st_set ha rfl (ex_move ha) rfl ?_); clear ha; (try clear a); intro a ha
  refine wpList_k (st_off ha (wgF ha rfl (s := 15) rfl) rfl ?_); clear ha; (try clear a); intro a ha
  refine wpList_k (st_off ha (wgF ha rfl (s := 15) rfl) rfl ?_); clear ha; (try clear a); intro a ha
  refine wpList_k (st_off ha (wgF ha rfl (s := 15) rfl) rfl ?_); clear ha; (try clear a); intro a ha
  refine wpList_k (st_off ha (wgF ha rfl (s := 15) rfl) rfl ?_); clear ha; (try clear a); intro a ha
  refine wpList_k (st_set ha rfl (ex_pickT ha) rfl ?_); clear ha; (try clear a); intro a ha
  refine wpList_nil ?_
  refine then_n ?_
  refine wp_ifT ha ?_
  refine wp_seq ?_
  refine wp_region_lit ?_
  replace ha := ha.del 4
  refine wpList_k (st_set ha rfl (ex_assign ha) rfl ?_); clear ha; (try clear a); intro a ha
  refine wpList_nil ?_
  refine then_n ?_
  refine wp_ret <| then_r ?_
  refine ret1 ha rfl ?_
  exact ⟨rfl, hs.sub⟩
theorem send_spec {W w : World} {L : List SP} {q : Nat} {ms : List Mm} {ad : Option Addr} {n c : Nat} {f t : Int} {bs : List UInt8} (hs : St W w (Net q ms :: L)) (hr : ∀ w', St W w' L → RdB w' ad n bs) :
    Calls Try.prog 11 #[.pointer (some ⟨q, 0, none⟩), .agg #[.int .i64 f, .int .i64 t, .slice ad n c]] w fun e w' => e = .returned (.bool (maySend ms n)) ∧ St W w' (Net q (if maySend ms n then ms ++ [(f, t, bs)] else ms) :: L) := by
  have hbl := (hr _ hs.tail).1
  subst hbl
  obtain ⟨ad1, c1, xs, rfl, hx, hs⟩ := Net.open hs
  refine calls_enter Try.func11 rfl Try.ntmps11 (Nat.le_of_ble_eq_true rfl) ?_
  intro a ha
  replace ha : Fr a 32 [(0, _), (1, _)] := ha
  refine wp_seq ?_
  refine wp_region_lit ?_
  refine wpList_k (st_box ha rfl hs rfl ?_); clear ha hs; (try clear a); (try clear w); intro b3 a w ha hs ho
  clear ho
  refine wpList_k (st_set ha rfl (ex_assign ha) rfl ?_); clear ha; (try clear a); intro a ha
  refine wpList_nil ?_
  refine then_n ?_
  refine wp_seq ?_
  refine wp_seq ?_
  refine wp_region_lit ?_
  refine wpList_k (st_set ha rfl (ex_move ha) rfl ?_); clear ha; (try clear a); intro a ha
  refine wpList_k (st_set ha rfl (ex_eqnil ha Try.underlying24) rfl ?_); clear ha; (try clear a); intro a ha
  refine wpList_k (st_set ha rfl (ex_move ha) rfl ?_); clear ha; (try clear a); intro a ha
  refine wpList_k (st_set ha (wgT ha rfl (s := 7)) (ex_move ha) rfl ?_); clear ha; (try clear a); intro a ha
  refine wpList_k (st_set ha (wgT ha rfl (s := 7)) (ex_nilCheck ha) rfl ?_); clear ha; (try clear a); intro a ha
  refine wpList_k (st_set ha (wgT ha rfl (s := 7)) (ex_fieldAddr ha Try.underlying46 rfl Ty.t26 rfl) rfl ?_); clear ha; (try clear a); intro a ha
  refine wpList_k (st_set ha (wgT ha rfl (s := 7)) (ex_load1 ha Try.underlying26 rfl (hs.rd1 rfl)) rfl ?_); clear ha; (try clear a); intro a ha
  refine wpList_k (st_set ha (wgT ha rfl (s := 7)) (ex_len ha Try.underlying26) rfl ?_); clear ha; (try clear a); intro a ha
  refine wpList_k (st_set ha (wgT ha rfl (s := 7)) (ex_geq ha) rfl ?_); clear ha; (try clear a); intro a ha
  refine wpList_k (st_set ha rfl (ex_pickF ha) rfl ?_); clear ha; (try clear a); intro a ha
  refine wpList_k (st_set ha rfl (ex_move ha) rfl ?_); clear ha; (try clear a); intro a ha
  refine ha.bool (s := 15) (fun hg10 ha => ?_) (fun hg10 ha => ?_)
  ·
    try simp only [decide_eq_true_eq, decide_eq_false_iff_not, Bool.not_eq_true', Bool.not_eq_false', Int.not_lt, Int.not_le, ne_eq, Decidable.not_not] at hg10
    have hm : maySend (xs.map Ml.m) bs.length = false := by simp only [maySend, List.length_map, Bool.and_eq_false_iff, decide_eq_false_iff_not]; left; omega
    refine wpList_k (st_off ha (wgF ha rfl (s := 15) rfl) rfl ?_); clear ha; (try clear a); intro a ha
    refine wpList_k (st_off ha (wgF ha rfl (s := 15) rfl) rfl ?_); clear ha; (try clear a); intro a ha
    refine wpList_k (st_off ha (wgF ha rfl (s := 15) rfl) rfl ?_); clear ha; (try clear a); intro a ha
    refine wpList_k (st_off ha (wgF ha rfl (s := 15) rfl) rfl ?_); clear ha; (try clear a); intro a ha
    refine wpList_k (st_set ha rfl (ex_pickT ha) rfl ?_); clear ha; (try clear a); intro a ha
    refine wpList_nil ?_
    refine then_n ?_
    refine wp_ifT ha ?_
    refine wp_seq ?_
    refine wp_region_lit ?_
    replace ha := ha.del 4
    refine wpList_k (st_set ha rfl (ex_assign ha) rfl ?_); clear ha; (try clear a); intro a ha
    refine wpList_nil ?_
    refine then_n ?_
    refine wp_ret <| then_r ?_
    refine ret1 ha rfl ?_
    exact ⟨by rw [hm], by rw [hm, if_neg (by decide)]; exact (Net.shut (q := q) (ad := ad1) (xs := xs) hs rfl rfl rfl hx.1 hx.2).sub⟩
  ·
    try simp only [decide_eq_true_eq, decide_eq_false_iff_not, Bool.not_eq_true', Bool.not_eq_false', Int.not_lt, Int.not_le, ne_eq, Decidable.not_not] at hg10
    refine wpList_k (st_set ha (wgT ha rfl (s := 15)) (ex_fieldAddr ha Try.underlying29 rfl Ty.t27 rfl) rfl ?_); clear ha; (try clear a); intro a ha
    refine wpList_k (st_set ha (wgT ha rfl (s := 15)) (ex_load1 ha Try.underlying27 rfl (hs.rd1 rfl)) rfl ?_); clear ha; (try clear a); intro a ha
    refine wpList_k (st_set ha (wgT ha rfl (s := 15)) (ex_len ha Try.underlying27) rfl ?_); clear ha; (try clear a); intro a ha
    refine wpList_k (st_set ha (wgT ha rfl (s := 15)) (ex_gtr ha) rfl ?_); clear ha; (try clear a); intro a ha
    refine wpList_k (st_set ha rfl (ex_pickF ha) rfl ?_); clear ha; (try clear a); intro a ha
    refine wpList_nil ?_
    refine then_n ?_
    refine wp_if ha (fun hc0 => ?_) (fun hc0 => ?_)
    ·
      try simp only [decide_eq_true_eq, decide_eq_false_iff_not, Bool.not_eq_true', Bool.not_eq_false', Int.not_lt, Int.not_le, ne_eq, Decidable.not_not] at hc0
      have hm : maySend (xs.map Ml.m) bs.length = false := by simp only [maySend, List.length_map, Bool.and_eq_false_iff, decide_eq_false_iff_not]; right; omega
      refine wp_seq ?_
      refine wp_region_lit ?_
      replace ha := ha.del 4
      refine wpList_k (st_set ha rfl (ex_assign ha) rfl ?_); clear ha; (try clear a); intro a ha
      refine wpList_nil ?_
      refine then_n ?_
      refine wp_ret <| then_r ?_
      refine ret1 ha rfl ?_
      exact ⟨by rw [hm], by rw [hm, if_neg (by decide)]; exact (Net.shut (q := q) (ad := ad1) (xs := xs) hs rfl rfl rfl hx.1 hx.2).sub⟩
    ·
      try simp only [decide_eq_true_eq, decide_eq_false_iff_not, Bool.not_eq_true', Bool.not_eq_false', Int.not_lt, Int.not_le, ne_eq, Decidable.not_not] at hc0
      have hm : maySend (xs.map Ml.m) bs.length = true := by simp only [maySend, List.length_map, Bool.and_eq_true, decide_eq_true_eq]; omega
      refine wp_skip ?_
      refine then_n ?_
      refine wp_seq ?_
      refine wp_draw (m := 12) (l0 := #[false, false, false, false, false, false, false, false, false, false, false, false]) (fun w' => w'.cell? ⟨q, 0, none⟩ = some (.slice ad1 xs.length c1)) [5, 6, 7] Ty.mixed (by kernel_rfl) (by kernel_rfl) ?_
      replace hs := hs.drew
      generalize w.drew = w at hs ⊢
      have hC : w.cell? ⟨q, 0, none⟩ = some (.slice ad1 xs.length c1) := hs.rd1 rfl
      refine nt_pure (i := 0) (listed' := #[true, false, false, false, false, false, false, false, false, false, false, false]) (by kernel_rfl) rfl (by kernel_rfl) (by decide) (pk_then pk_body) ha rfl (fun w => ex_move ha) rfl ?_; clear ha; (try clear a); intro a ha
      refine nt_pure (i := 1) (listed' := #[true, true, false, false, false, false, false, false, false, false, false, false]) (by kernel_rfl) rfl (by kernel_rfl) (by decide) (pk_then pk_body) ha rfl (fun w => ex_move ha) rfl ?_; clear ha; (try clear a); intro a ha
      refine nt_pure (i := 2) (listed' := #[true, true, true, false, false, false, false, false, false, false, false, false]) (by kernel_rfl) rfl (by kernel_rfl) (by decide) (pk_then pk_body) ha rfl (fun w => ex_nilCheck ha) rfl ?_; clear ha; (try clear a); intro a ha
      refine nt_pure (i := 3) (listed' := #[true, true, true, true, false, false, false, false, false, false, false, false]) (by kernel_rfl) rfl (by kernel_rfl) (by decide) (pk_then pk_body) ha rfl (fun w => ex_fieldAddr ha Try.underlying46 rfl Ty.t26 rfl) rfl ?_; clear ha; (try clear a); intro a ha
      refine nt_held (i := 4) (listed' := #[true, true, true, true, true, false, false, false, false, false, false, false]) (by kernel_rfl) rfl (by kernel_rfl) (pk_then pk_body) ha rfl (fun w hc => ex_load1 ha Try.underlying26 rfl (hc)) hC rfl ?_; clear ha; (try clear a); intro a ha
      refine nt_one (i := 5) (listed' := #[true, true, true, true, true, true, false, false, false, false, false, false]) (by kernel_rfl) (by kernel_rfl) rfl (st_set ha rfl (ex_loadN ha Try.underlying29 rfl Ty.t29 (hs.rdN 3)) rfl ?_); clear ha; (try clear a); intro a ha
      refine ⟨fun _ => hC, ?_⟩
      refine nt_one (i := 6) (listed' := #[true, true, true, true, true, true, true, false, false, false, false, false]) (by kernel_rfl) (by kernel_rfl) rfl (st_call ha rfl Ty.c18 rfl (own_spec hs (fun w' h => hr w' h.sub) (by omega)) ?_); clear ha hs
      rintro e w ⟨ad', c', rfl, hs⟩
      refine ⟨_, rfl, ?_⟩
      intro a ha
      refine ⟨fun _ => ?_, ?_⟩
      · exact hs.rd1 rfl
      refine nt_one (i := 7) (listed' := #[true, true, true, true, true, true, true, true, false, false, false, false]) (by kernel_rfl) (by kernel_rfl) rfl (st_buildSlice ha rfl hs Try.underlying26 Ty.t29 rfl rfl rfl rfl (by decide) (by decide) ?_); clear ha hs; (try clear a); (try clear w); intro b28 a w ha hs ho
      (try replace hC := hC.trans ho); clear ho
      refine ⟨fun _ => hs.rd1 rfl, ?_⟩
      refine nt_one (i := 8) (listed' := #[true, true, true, true, true, true, true, true, true, false, false, false]) (by kernel_rfl) (by kernel_rfl) rfl (st_append ha rfl hs Try.underlying26 Ty.t29 rfl rfl hs.rdAll rfl (by simp [Value.oneCell']) (by decide) (by decide) (by omega) ?_); clear ha hs; (try clear a); (try clear w); intro ad29 c29 a w ha hs
      refine ⟨fun h => absurd h (by decide), ?_⟩
      refine nt_pure (i := 9) (listed' := #[true, true, true, true, true, true, true, true, true, true, false, false]) (by kernel_rfl) rfl (by kernel_rfl) (by decide) (pk_then pk_body) ha rfl (fun w => ex_nilCheck ha) rfl ?_; clear ha; (try clear a); intro a ha
      refine nt_pure (i := 10) (listed' := #[true, true, true, true, true, true, true, true, true, true, true, false]) (by kernel_rfl) rfl (by kernel_rfl) (by decide) (pk_then pk_body) ha rfl (fun w => ex_fieldAddr ha Try.underlying46 rfl Ty.t26 rfl) rfl ?_; clear ha; (try clear a); intro a ha
      refine nt_one (i := 11) (listed' := #[true, true, true, true, true, true, true, true, true, true, true, true]) (by kernel_rfl) (by kernel_rfl) rfl (st_store ha rfl hs Ty.t26 rfl (by simp) ?_); clear ha hs; (try clear a); (try clear w); intro a w ha hs
      refine ⟨fun h => absurd h (by decide), ?_⟩
      refine nt_done (by kernel_rfl) ?_ _
      refine then_n ?_
      refine wp_seq ?_
      refine wp_region_lit ?_
      replace ha := ha.del 4
      refine wpList_k (st_set ha rfl (ex_assign ha) rfl ?_); clear ha; (try clear a); intro a ha
      refine wpList_nil ?_
      refine then_n ?_
      refine wp_ret ?_
      refine ret1 ha rfl ?_
      refine ⟨by rw [hm], ?_⟩
      rw [hm, if_pos rfl]
      have h3 := (hs.pick (Bys xs)).pick (Sl 5 1 ad' bs.length c' (bc bs))
      have h4 := Bys.into (a := xs) (b := []) (m := ⟨f, t, ad', c', bs⟩) (by rw [List.append_nil]; exact h3)
      refine (Net.shut (q := q) (xs := xs ++ [⟨f, t, ad', c', bs⟩]) (ms := xs.map Ml.m ++ [(f, t, bs)]) h4 (by simp) (by rw [mlc_app]; rfl) (by simp [Ml.m]) (by simp; omega) ?_).sub
      intro x hx2
      rcases List.mem_append.1 hx2 with h | h
      · exact hx.2 x h
      · obtain rfl := List.mem_singleton.1 h
        exact Int.ofNat_le.1 hc0

/-! What is told of none. -/
theorem look_nil {W w : World} {L : List SP} {i : Int} (hs : St W w L) :
    Calls Try.prog 12 #[.pointer none, .int .i64 i] w fun e w' => e = .returned (.tuple #[.agg #[.int .i64 0, .int .i64 0, .slice none 0 0], .bool false]) ∧ St W w' L := by
  refine calls_enter Try.func12 rfl Try.ntmps12 (Nat.le_of_ble_eq_true rfl) ?_
  intro a ha
  replace ha : Fr a 19 [(0, _), (1, _)] := ha
  refine wp_seq ?_
  refine wp_region_lit ?_
  refine wpList_k (st_alloc ha rfl hs Ty.t29 rfl ?_); clear ha hs; (try clear a); (try clear w); intro b4 a w ha hs ho
  clear ho
  refine wpList_k (st_set ha rfl (ex_assign ha) rfl ?_); clear ha; (try clear a); intro a ha
  refine wpList_nil ?_
  refine then_n ?_
  refine wp_seq ?_
  refine wp_seq ?_
  refine wp_region_lit ?_
  refine wpList_k (st_set ha rfl (ex_move ha) rfl ?_); clear ha; (try clear a); intro a ha
  refine wpList_k (st_set ha rfl (ex_move ha) rfl ?_); clear ha; (try clear a); intro a ha
  refine wpList_k (st_call ha rfl Ty.c19 rfl (has_nil hs) ?_); clear ha hs
  rintro e w ⟨rfl, hs⟩
  refine ⟨_, rfl, ?_⟩
  intro a ha
  refine wpList_k (st_set ha rfl (ex_not ha) rfl ?_); clear ha; (try clear a); intro a ha
  refine wpList_nil ?_
  refine then_n ?_
  refine wp_ifT ha ?_
  refine wp_seq ?_
  refine wp_region_lit ?_
  refine wpList_k (st_set ha rfl (ex_build ha Ty.b29 Ty.t29 rfl) rfl ?_); clear ha; (try clear a); intro a ha
  refine wpList_k (st_storeAll ha rfl hs Ty.t29 (by simp [Value.oneCell']) (by rfl) ?_); clear ha hs; (try clear a); (try clear w); intro a w ha hs
  replace ha := ha.del 5
  refine wpList_k (st_set ha rfl (ex_assign ha) rfl ?_); clear ha; (try clear a); intro a ha
  refine wpList_nil ?_
  refine then_n ?_
  refine wp_ret <| then_r ?_
  refine retC2 ha rfl (run_loadN Try.underlying29 rfl Ty.t29 (hs.rdAll)) ?_
  exact ⟨rfl, hs.sub⟩
theorem drop_nil {W w : World} {L : List SP} {i : Int} (hs : St W w L) :
    Calls Try.prog 15 #[.pointer none, .int .i64 i] w fun e w' => e = .returned (.bool false) ∧ St W w' L := by
  refine calls_enter Try.func15 rfl Try.ntmps15 (Nat.le_of_ble_eq_true rfl) ?_
  intro a ha
  replace ha : Fr a 20 [(0, _), (1, _)] := ha
  refine wp_seq ?_
  refine wp_region_lit ?_
  refine wpList_k (st_set ha rfl (ex_assign ha) rfl ?_); clear ha; (try clear a); intro a ha
  refine wpList_nil ?_
  refine then_n ?_
  refine wp_seq ?_
  refine wp_seq ?_
  refine wp_region_lit ?_
  refine wpList_k (st_set ha rfl (ex_move ha) rfl ?_); clear ha; (try clear a); intro a ha
  refine wpList_k (st_set ha rfl (ex_move ha) rfl ?_); clear ha; (try clear a); intro a ha
  refine wpList_k (st_call ha rfl Ty.c19 rfl (has_nil hs) ?_); clear ha hs
  rintro e w ⟨rfl, hs⟩
  refine ⟨_, rfl, ?_⟩
  intro a ha
  refine wpList_k (st_set ha rfl (ex_not ha) rfl ?_); clear ha; (try clear a); intro a ha
  refine wpList_nil ?_
  refine then_n ?_
  refine wp_ifT ha ?_
  refine wp_seq ?_
  refine wp_region_lit ?_
  replace ha := ha.del 4
  refine wpList_k (st_set ha rfl (ex_assign ha) rfl ?_); clear ha; (try clear a); intro a ha
  refine wpList_nil ?_
  refine then_n ?_
  refine wp_ret <| then_r ?_
  refine ret1 ha rfl ?_
  exact ⟨rfl, hs⟩
theorem take_nil {W w : World} {L : List SP} {i : Int} (hs : St W w L) :
    Calls Try.prog 13 #[.pointer none, .int .i64 i] w fun e w' => e = .returned (.tuple #[.agg #[.int .i64 0, .int .i64 0, .slice none 0 0], .bool false]) ∧ St W w' L := by
  refine calls_enter Try.func13 rfl Try.ntmps13 (Nat.le_of_ble_eq_true rfl) ?_
  intro a ha
  replace ha : Fr a 19 [(0, _), (1, _)] := ha
  refine wp_seq ?_
  refine wp_region_lit ?_
  refine wpList_k (st_alloc ha rfl hs Ty.t29 rfl ?_); clear ha hs; (try clear a); (try clear w); intro b4 a w ha hs ho
  clear ho
  refine wpList_k (st_set ha rfl (ex_assign ha) rfl ?_); clear ha; (try clear a); intro a ha
  refine wpList_nil ?_
  refine then_n ?_
  refine wp_seq ?_
  refine wp_region_lit ?_
  refine wpList_k (st_set ha rfl (ex_move ha) rfl ?_); clear ha; (try clear a); intro a ha
  refine wpList_k (st_set ha rfl (ex_move ha) rfl ?_); clear ha; (try clear a); intro a ha
  refine wpList_k (st_call ha rfl Ty.c12 rfl (look_nil hs) ?_); clear ha hs
  rintro e w ⟨rfl, hs⟩
  refine ⟨_, rfl, ?_⟩
  intro a ha
  refine wpList_k (st_set ha rfl (ex_move ha) rfl ?_); clear ha; (try clear a); intro a ha
  refine wpList_k (st_set ha rfl (ex_extract ha rfl) rfl ?_); clear ha; (try clear a); intro a ha
  refine wpList_k (st_set ha rfl (ex_extract ha rfl) rfl ?_); clear ha; (try clear a); intro a ha
  refine wpList_k (st_alloc ha rfl hs Ty.t29 rfl ?_); clear ha hs; (try clear a); (try clear w); intro b6 a w ha hs ho
  clear ho
  refine wpList_k (st_storeAll ha rfl hs Ty.t29 (by simp [Value.oneCell']) (by rfl) ?_); clear ha hs; (try clear a); (try clear w); intro a w ha hs
  refine wpList_k (st_set ha rfl (ex_assign ha) rfl ?_); clear ha; (try clear a); intro a ha
  refine wpList_nil ?_
  refine then_n ?_
  refine wp_seq ?_
  refine wp_region_lit ?_
  refine wpList_k (st_set ha rfl (ex_move ha) rfl ?_); clear ha; (try clear a); intro a ha
  refine wpList_k (st_set ha rfl (ex_move ha) rfl ?_); clear ha; (try clear a); intro a ha
  refine wpList_k (st_call ha rfl Ty.c15 rfl (drop_nil hs) ?_); clear ha hs
  rintro e w ⟨rfl, hs⟩
  refine ⟨_, rfl, ?_⟩
  intro a ha
  refine wpList_nil ?_
  refine then_n ?_
  refine wp_seq ?_
  refine wp_region_lit ?_
  refine wpList_k (st_set ha rfl (ex_loadN ha Try.underlying29 rfl Ty.t29 (hs.rdN 3)) rfl ?_); clear ha; (try clear a); intro a ha
  refine wpList_k (st_set ha rfl (ex_move ha) rfl ?_); clear ha; (try clear a); intro a ha
  refine wpList_k (st_storeAll ha rfl hs Ty.t29 (by simp [Value.oneCell']) (by rfl) ?_); clear ha hs; (try clear a); (try clear w); intro a w ha hs
  replace ha := ha.del 5
  refine wpList_k (st_set ha rfl (ex_assign ha) rfl ?_); clear ha; (try clear a); intro a ha
  refine wpList_nil ?_
  refine then_n ?_
  refine wp_ret ?_
  refine retC2 ha rfl (run_loadN Try.underlying29 rfl Ty.t29 (hs.rdAll)) ?_
  exact ⟨rfl, hs.sub⟩
theorem spoil_nil {W w : World} {L : List SP} {i at' : Int} {x : UInt8} (hs : St W w L) :
    Calls Try.prog 16 #[.pointer none, .int .i64 i, .int .i64 at', .int .u8 (x.toNat : Int)] w fun e w' => e = .returned (.bool false) ∧ St W w' L := by
  refine calls_enter Try.func16 rfl Try.ntmps16 (Nat.le_of_ble_eq_true rfl) ?_
  intro a ha
  replace ha : Fr a 44 [(0, _), (1, _), (2, _), (3, _)] := ha
  refine wp_seq ?_
  refine wp_region_lit ?_
  refine wpList_k (st_set ha rfl (ex_assign ha) rfl ?_); clear ha; (try clear a); intro a ha
  refine wpList_nil ?_
  refine then_n ?_
  refine wp_seq ?_
  refine wp_seq ?_
  refine wp_region_lit ?_
  refine wpList_k (st_set ha rfl (ex_move ha) rfl ?_); clear ha; (try clear a); intro a ha
  refine wpList_k (st_set ha rfl (ex_move ha) rfl ?_); clear ha; (try clear a); intro a ha
  refine wpList_k (st_call ha rfl Ty.c19 rfl (has_nil hs) ?_); clear ha hs
  rintro e w ⟨rfl, hs⟩
  refine ⟨_, rfl, ?_⟩
  intro a ha
  refine wpList_k (st_set ha rfl (ex_not ha) rfl ?_); clear ha; (try clear a); intro a ha
  refine wpList_k (st_set ha rfl (ex_move ha) rfl ?_); clear ha; (try clear a); intro a ha
  refine wpList_k (st_off ha (wgF ha rfl (s := 13) rfl) rfl ?_); clear ha; (try clear a); intro a ha
  refine wpList_k (st_off ha (wgF ha rfl (s := 13) rfl) rfl ?_); clear ha; (try clear a); intro a ha
  refine wpList_k (st_set ha rfl (ex_pickT ha) rfl ?_); clear ha; (try clear a); intro a ha
  refine wpList_k (st_set ha rfl (ex_move ha) rfl ?_); clear ha; (try clear a); intro a ha
  refine wpList_k (st_off ha (wgF ha rfl (s := 17) rfl) rfl ?_); clear ha; (try clear a); intro a ha
  refine wpList_k (st_off ha (wgF ha rfl (s := 17) rfl) rfl ?_); clear ha; (try clear a); intro a ha
  refine wpList_k (st_off ha (wgF ha rfl (s := 17) rfl) rfl ?_); clear ha; (try clear a); intro a ha
  refine wpList_k (st_off ha (wgF ha rfl (s := 17) rfl) rfl ?_); clear ha; (try clear a); intro a ha
  refine wpList_k (st_off ha (wgF ha rfl (s := 17) rfl) rfl ?_); clear ha; (try clear a); intro a ha
  refine wpList_k (st_off ha (wgF ha rfl (s := 17) rfl) rfl ?_); clear ha; (try clear a); intro a ha
  refine wpList_k (st_off ha (wgF ha rfl (s := 17) rfl) rfl ?_); clear ha; (try clear a); intro a ha
  refine wpList_k (st_off ha (wgF ha rfl (s := 17) rfl) rfl ?_); clear ha; (try clear a); intro a ha
  refine wpList_k (st_off ha (wgF ha rfl (s := 17) rfl) rfl ?_); clear ha; (try clear a); intro a ha
  refine wpList_k (st_off ha (wgF ha rfl (s := 17) rfl) rfl ?_); clear ha; (try clear a); intro a ha
  refine wpList_k (st_off ha (wgF ha rfl (s := 17) rfl) rfl ?_); clear ha; (try clear a); intro a ha
  refine wpList_k (st_set ha rfl (ex_pickT ha) rfl ?_); clear ha; (try clear a); intro a ha
  refine wpList_nil ?_
  refine then_n ?_
  refine wp_ifT ha ?_
  refine wp_seq ?_
  refine wp_region_lit ?_
  replace ha := ha.del 8
  refine wpList_k (st_set ha rfl (ex_assign ha) rfl ?_); clear ha; (try clear a); intro a ha
  refine wpList_nil ?_
  refine then_n ?_
  refine wp_ret <| then_r ?_
  refine ret1 ha rfl ?_
  exact ⟨rfl, hs⟩

/-! Look, Drop, Take, Spoil. -/
theorem look_out {W w : World} {L : List SP} {q : Nat} {ms : List Mm} {i : Int} (hs : St W w (Net q ms :: L)) (hi : (decide (0 ≤ i) && decide (i < ms.length)) = false) :
    Calls Try.prog 12 #[.pointer (some ⟨q, 0, none⟩), .int .i64 i] w fun e w' => e = .returned (.tuple #[.agg #[.int .i64 0, .int .i64 0, .slice none 0 0], .bool false]) ∧ St W w' (Net q ms :: L) := by
  obtain ⟨ad1, c1, xs, rfl, hx, hs⟩ := Net.open hs
  rw [List.length_map] at hi
  refine calls_enter Try.func12 rfl Try.ntmps12 (Nat.le_of_ble_eq_true rfl) ?_
  intro a ha
  replace ha : Fr a 19 [(0, _), (1, _)] := ha
  refine wp_seq ?_
  refine wp_region_lit ?_
  refine wpList_k (st_alloc ha rfl hs Ty.t29 rfl ?_); clear ha hs; (try clear a); (try clear w); intro b4 a w ha hs ho
  clear ho
  refine wpList_k (st_set ha rfl (ex_assign ha) rfl ?_); clear ha; (try clear a); intro a ha
  refine wpList_nil ?_
  refine then_n ?_
  refine wp_seq ?_
  refine wp_seq ?_
  refine wp_region_lit ?_
  refine wpList_k (st_set ha rfl (ex_move ha) rfl ?_); clear ha; (try clear a); intro a ha
  refine wpList_k (st_set ha rfl (ex_move ha) rfl ?_); clear ha; (try clear a); intro a ha
  refine wpList_k (st_call ha rfl Ty.c19 rfl (has_some (q := q) hs) ?_); clear ha hs
  rintro e w ⟨rfl, hs⟩
  refine ⟨_, rfl, ?_⟩
  intro a ha
  rw [hi] at ha
  refine wpList_k (st_set ha rfl (ex_not ha) rfl ?_); clear ha; (try clear a); intro a ha
  refine wpList_nil ?_
  refine then_n ?_
  refine wp_ifT ha ?_
  refine wp_seq ?_
  refine wp_region_lit ?_
  refine wpList_k (st_set ha rfl (ex_build ha Ty.b29 Ty.t29 rfl) rfl ?_); clear ha; (try clear a); intro a ha
  refine wpList_k (st_storeAll ha rfl hs Ty.t29 (by simp [Value.oneCell']) (by rfl) ?_); clear ha hs; (try clear a); (try clear w); intro a w ha hs
  replace ha := ha.del 5
  refine wpList_k (st_set ha rfl (ex_assign ha) rfl ?_); clear ha; (try clear a); intro a ha
  refine wpList_nil ?_
  refine then_n ?_
  refine wp_ret <| then_r ?_
  refine retC2 ha rfl (run_loadN Try.underlying29 rfl Ty.t29 (hs.rdAll)) ?_
  exact ⟨rfl, (Net.shut (q := q) (ad := ad1) (xs := xs) hs rfl rfl rfl hx.1 hx.2).sub⟩
theorem dlt {i n : Nat} (h : i < n) : (decide (0 ≤ (i : Int)) && decide ((i : Int) < (n : Int))) = true := by
  simp; omega
theorem look_in {W w : World} {L : List SP} {q : Nat} {ms : List Mm} {i : Nat} (hs : St W w (Net q ms :: L)) (hi : i < ms.length) :
    Calls Try.prog 12 #[.pointer (some ⟨q, 0, none⟩), .int .i64 i] w fun e w' => ∃ ad c, e = .returned (.tuple #[.agg #[.int .i64 ms[i].1, .int .i64 ms[i].2.1, .slice ad ms[i].2.2.length c], .bool true]) ∧ St W w' (Sl 5 1 ad ms[i].2.2.length c (bc ms[i].2.2) :: Net q ms :: L) := by
  obtain ⟨ad1, c1, xs, rfl, hx, hs⟩ := Net.open hs
  have hi2 : i < xs.length := by simpa using hi
  simp only [List.getElem_map, Ml.m]
  refine calls_enter Try.func12 rfl Try.ntmps12 (Nat.le_of_ble_eq_true rfl) ?_
  intro a ha
  replace ha : Fr a 19 [(0, _), (1, _)] := ha
  refine wp_seq ?_
  refine wp_region_lit ?_
  refine wpList_k (st_alloc ha rfl hs Ty.t29 rfl ?_); clear ha hs; (try clear a); (try clear w); intro b4 a w ha hs ho
  clear ho
  refine wpList_k (st_set ha rfl (ex_assign ha) rfl ?_); clear ha; (try clear a); intro a ha
  refine wpList_nil ?_
  refine then_n ?_
  refine wp_seq ?_
  refine wp_seq ?_
  refine wp_region_lit ?_
  refine wpList_k (st_set ha rfl (ex_move ha) rfl ?_); clear ha; (try clear a); intro a ha
  refine wpList_k (st_set ha rfl (ex_move ha) rfl ?_); clear ha; (try clear a); intro a ha
  refine wpList_k (st_call ha rfl Ty.c19 rfl (has_some (q := q) hs) ?_); clear ha hs
  rintro e w ⟨rfl, hs⟩
  refine ⟨_, rfl, ?_⟩
  intro a ha
  rw [dlt hi2] at ha
  refine wpList_k (st_set ha rfl (ex_not ha) rfl ?_); clear ha; (try clear a); intro a ha
  refine wpList_nil ?_
  refine then_n ?_
  refine wp_ifF ha ?_
  refine wp_skip ?_
  refine then_n ?_
  refine wp_seq ?_
  obtain ⟨b', off', rfl, hrd⟩ := hs.slRd ad1 (by omega)
  have hm1 := mlRd hrd i hi2
  refine wp_region_lit ?_
  refine wpList_k (st_set ha rfl (ex_move ha) rfl ?_); clear ha; (try clear a); intro a ha
  refine wpList_k (st_set ha rfl (ex_nilCheck ha) rfl ?_); clear ha; (try clear a); intro a ha
  refine wpList_k (st_set ha rfl (ex_fieldAddr ha Try.underlying46 rfl Ty.t26 rfl) rfl ?_); clear ha; (try clear a); intro a ha
  refine wpList_k (st_set ha rfl (ex_load1 ha Try.underlying26 rfl (hs.rd1 rfl)) rfl ?_); clear ha; (try clear a); intro a ha
  refine wpList_k (st_set ha rfl (ex_move ha) rfl ?_); clear ha; (try clear a); intro a ha
  refine wpList_k (st_set ha rfl (ex_indexAddr ha Try.underlying26 Ty.t29 (by omega)) rfl ?_); clear ha; (try clear a); intro a ha
  refine wpList_k (st_set ha rfl (ex_loadN ha Try.underlying29 rfl Ty.t29 (hm1.1)) rfl ?_); clear ha; (try clear a); intro a ha
  refine wpList_k (st_call ha rfl Ty.c18 rfl (own_spec hs (fun w' h => Bys.rd h i hi2) (by have := hx.2 xs[i] (List.getElem_mem hi2); omega)) ?_); clear ha hs
  rintro e w ⟨ad', c', rfl, hs⟩
  refine ⟨_, rfl, ?_⟩
  intro a ha
  refine wpList_k (st_storeAll ha rfl hs Ty.t29 (by simp [Value.oneCell']) (by rfl) ?_); clear ha hs; (try clear a); (try clear w); intro a w ha hs
  replace ha := ha.del 5
  refine wpList_k (st_set ha rfl (ex_assign ha) rfl ?_); clear ha; (try clear a); intro a ha
  refine wpList_nil ?_
  refine then_n ?_
  refine wp_ret ?_
  refine retC2 ha rfl (run_loadN Try.underlying29 rfl Ty.t29 (hs.rdAll)) ?_
  exact ⟨_, _, rfl, (Net.shut (q := q) (ad := some ⟨b', off', none⟩) (xs := xs) hs rfl rfl rfl hx.1 hx.2).sub⟩
theorem drop_out {W w : World} {L : List SP} {q : Nat} {ms : List Mm} {i : Int} (hs : St W w (Net q ms :: L)) (hi : (decide (0 ≤ i) && decide (i < ms.length)) = false) :
    Calls Try.prog 15 #[.pointer (some ⟨q, 0, none⟩), .int .i64 i] w fun e w' => e = .returned (.bool false) ∧ St W w' (Net q ms :: L) := by
  obtain ⟨ad1, c1, xs, rfl, hx, hs⟩ := Net.open hs
  rw [List.length_map] at hi
  refine calls_enter Try.func15 rfl Try.ntmps15 (Nat.le_of_ble_eq_true rfl) ?_
  intro a ha
  replace ha : Fr a 20 [(0, _), (1, _)] := ha
  refine wp_seq ?_
  refine wp_region_lit ?_
  refine wpList_k (st_set ha rfl (ex_assign ha) rfl ?_); clear ha; (try clear a); intro a ha
  refine wpList_nil ?_
  refine then_n ?_
  refine wp_seq ?_
  refine wp_seq ?_
  refine wp_region_lit ?_
  refine wpList_k (st_set ha rfl (ex_move ha) rfl ?_); clear ha; (try clear a); intro a ha
  refine wpList_k (st_set ha rfl (ex_move ha) rfl ?_); clear ha; (try clear a); intro a ha
  refine wpList_k (st_call ha rfl Ty.c19 rfl (has_some (q := q) hs) ?_); clear ha hs
  rintro e w ⟨rfl, hs⟩
  refine ⟨_, rfl, ?_⟩
  intro a ha
  rw [hi] at ha
  refine wpList_k (st_set ha rfl (ex_not ha) rfl ?_); clear ha; (try clear a); intro a ha
  refine wpList_nil ?_
  refine then_n ?_
  refine wp_ifT ha ?_
  refine wp_seq ?_
  refine wp_region_lit ?_
  replace ha := ha.del 4
  refine wpList_k (st_set ha rfl (ex_assign ha) rfl ?_); clear ha; (try clear a); intro a ha
  refine wpList_nil ?_
  refine then_n ?_
  refine wp_ret <| then_r ?_
  refine ret1 ha rfl ?_
  exact ⟨rfl, (Net.shut (q := q) (ad := ad1) (xs := xs) hs rfl rfl rfl hx.1 hx.2).sub⟩
theorem mlc_one (xs : List Ml) : ∀ v ∈ mlc xs, v.oneCell' = true := by
  intro v hv
  simp only [mlc, List.mem_flatMap, Ml.cells] at hv
  obtain ⟨x, _, hx⟩ := hv
  simp at hx
  rcases hx with rfl | rfl | rfl <;> rfl
theorem drop_in {W w : World} {L : List SP} {q : Nat} {ms : List Mm} {i : Nat} (hs : St W w (Net q ms :: L)) (hi : i < ms.length) :
    Calls Try.prog 15 #[.pointer (some ⟨q, 0, none⟩), .int .i64 i] w fun e w' => e = .returned (.bool true) ∧ St W w' (Net q (ms.eraseIdx i) :: L) := by
  obtain ⟨ad1, c1, xs, rfl, hx, hs⟩ := Net.open hs
  have hi2 : i < xs.length := by simpa using hi
  refine calls_enter Try.func15 rfl Try.ntmps15 (Nat.le_of_ble_eq_true rfl) ?_
  intro a ha
  replace ha : Fr a 20 [(0, _), (1, _)] := ha
  refine wp_seq ?_
  refine wp_region_lit ?_
  refine wpList_k (st_set ha rfl (ex_assign ha) rfl ?_); clear ha; (try clear a); intro a ha
  refine wpList_nil ?_
  refine then_n ?_
  refine wp_seq ?_
  refine wp_seq ?_
  refine wp_region_lit ?_
  refine wpList_k (st_set ha rfl (ex_move ha) rfl ?_); clear ha; (try clear a); intro a ha
  refine wpList_k (st_set ha rfl (ex_move ha) rfl ?_); clear ha; (try clear a); intro a ha
  refine wpList_k (st_call ha rfl Ty.c19 rfl (has_some (q := q) hs) ?_); clear ha hs
  rintro e w ⟨rfl, hs⟩
  refine ⟨_, rfl, ?_⟩
  intro a ha
  rw [dlt hi2] at ha
  refine wpList_k (st_set ha rfl (ex_not ha) rfl ?_); clear ha; (try clear a); intro a ha
  refine wpList_nil ?_
  refine then_n ?_
  refine wp_ifF ha ?_
  refine wp_skip ?_
  refine then_n ?_
  refine wp_seq ?_
  refine wp_region_lit ?_
  refine wpList_k (st_set ha rfl (ex_move ha) rfl ?_); clear ha; (try clear a); intro a ha
  refine wpList_k (st_set ha rfl (ex_move ha) rfl ?_); clear ha; (try clear a); intro a ha
  refine wpList_k (st_set ha rfl (ex_nilCheck ha) rfl ?_); clear ha; (try clear a); intro a ha
  refine wpList_k (st_set ha rfl (ex_fieldAddr ha Try.underlying46 rfl Ty.t26 rfl) rfl ?_); clear ha; (try clear a); intro a ha
  refine wpList_k (st_set ha rfl (ex_load1 ha Try.underlying26 rfl (hs.rd1 rfl)) rfl ?_); clear ha; (try clear a); intro a ha
  refine wpList_k (st_set ha rfl (ex_move ha) rfl ?_); clear ha; (try clear a); intro a ha
  refine wpList_k (st_set ha rfl (ex_move ha) rfl ?_); clear ha; (try clear a); intro a ha
  refine wpList_k (st_set ha rfl (ex_addI ha (by omega) (by omega)) rfl ?_); clear ha; (try clear a); intro a ha
  refine wpList_k (st_call ha rfl Ty.c20 rfl (delete_spec (hs.pick (Sl 29 3 ad1 xs.length c1 (mlc xs))) hi2 (by omega) (mlc_one xs)) ?_); clear ha hs
  rintro e w ⟨rfl, hs⟩
  refine ⟨_, rfl, ?_⟩
  intro a ha
  refine wpList_k (st_set ha rfl (ex_nilCheck ha) rfl ?_); clear ha; (try clear a); intro a ha
  refine wpList_k (st_set ha rfl (ex_fieldAddr ha Try.underlying46 rfl Ty.t26 rfl) rfl ?_); clear ha; (try clear a); intro a ha
  refine wpList_k (st_store ha rfl hs Ty.t26 rfl (by simp) ?_); clear ha hs; (try clear a); (try clear w); intro a w ha hs
  refine wpList_nil ?_
  refine then_n ?_
  refine wp_seq ?_
  refine wp_region_lit ?_
  replace ha := ha.del 4
  refine wpList_k (st_set ha rfl (ex_assign ha) rfl ?_); clear ha; (try clear a); intro a ha
  refine wpList_nil ?_
  refine then_n ?_
  refine wp_ret ?_
  refine ret1 ha rfl ?_
  refine ⟨rfl, ?_⟩
  have h1 := hs.pick (Bys xs)
  have h0 : xs = xs.take i ++ xs[i] :: xs.drop (i + 1) := by rw [← List.drop_eq_getElem_cons hi2, List.take_append_drop]
  have h2 := h1
  rw [show Bys xs = Bys (xs.take i ++ xs[i] :: xs.drop (i + 1)) from by rw [← h0]] at h2
  have h3 := (Bys.out h2).tail
  rw [mlc_drop, mlc_take, ← mlc_app, ← List.eraseIdx_eq_take_drop_succ] at h3
  exact (Net.shut (q := q) (ad := ad1) (xs := xs.eraseIdx i) (ms := (xs.map Ml.m).eraseIdx i) h3 (by rw [List.length_eraseIdx]; simp [hi2]) rfl (by simp only [List.eraseIdx_eq_take_drop_succ, List.map_append, List.map_take, List.map_drop]) (by rw [List.length_eraseIdx]; simp [hi2]; omega) (fun x h => hx.2 x (List.mem_of_mem_eraseIdx h))).sub
theorem take_out {W w : World} {L : List SP} {q : Nat} {ms : List Mm} {i : Int} (hs : St W w (Net q ms :: L)) (hi : (decide (0 ≤ i) && decide (i < ms.length)) = false) :
    Calls Try.prog 13 #[.pointer (some ⟨q, 0, none⟩), .int .i64 i] w fun e w' => e = .returned (.tuple #[.agg #[.int .i64 0, .int .i64 0, .slice none 0 0], .bool false]) ∧ St W w' (Net q ms :: L) := by
  refine calls_enter Try.func13 rfl Try.ntmps13 (Nat.le_of_ble_eq_true rfl) ?_
  intro a ha
  replace ha : Fr a 19 [(0, _), (1, _)] := ha
  refine wp_seq ?_
  refine wp_region_lit ?_
  refine wpList_k (st_alloc ha rfl hs Ty.t29 rfl ?_); clear ha hs; (try clear a); (try clear w); intro b4 a w ha hs ho
  clear ho
  refine wpList_k (st_set ha rfl (ex_assign ha) rfl ?_); clear ha; (try clear a); intro a ha
  refine wpList_nil ?_
  refine then_n ?_
  refine wp_seq ?_
  refine wp_region_lit ?_
  refine wpList_k (st_set ha rfl (ex_move ha) rfl ?_); clear ha; (try clear a); intro a ha
  refine wpList_k (st_set ha rfl (ex_move ha) rfl ?_); clear ha; (try clear a); intro a ha
  refine wpList_k (st_call ha rfl Ty.c12 rfl (look_out (hs.pick (Net q ms)) hi) ?_); clear ha hs
  rintro e w ⟨rfl, hs⟩
  refine ⟨_, rfl, ?_⟩
  intro a ha
  refine wpList_k (st_set ha rfl (ex_move ha) rfl ?_); clear ha; (try clear a); intro a ha
  refine wpList_k (st_set ha rfl (ex_extract ha rfl) rfl ?_); clear ha; (try clear a); intro a ha
  refine wpList_k (st_set ha rfl (ex_extract ha rfl) rfl ?_); clear ha; (try clear a); intro a ha
  refine wpList_k (st_alloc ha rfl hs Ty.t29 rfl ?_); clear ha hs; (try clear a); (try clear w); intro b6 a w ha hs ho
  clear ho
  refine wpList_k (st_storeAll ha rfl hs Ty.t29 (by simp [Value.oneCell']) (by rfl) ?_); clear ha hs; (try clear a); (try clear w); intro a w ha hs
  refine wpList_k (st_set ha rfl (ex_assign ha) rfl ?_); clear ha; (try clear a); intro a ha
  refine wpList_nil ?_
  refine then_n ?_
  refine wp_seq ?_
  refine wp_region_lit ?_
  refine wpList_k (st_set ha rfl (ex_move ha) rfl ?_); clear ha; (try clear a); intro a ha
  refine wpList_k (st_set ha rfl (ex_move ha) rfl ?_); clear ha; (try clear a); intro a ha
  refine wpList_k (st_call ha rfl Ty.c15 rfl (drop_out (hs.pick (Net q ms)) hi) ?_); clear ha hs
  rintro e w ⟨rfl, hs⟩
  refine ⟨_, rfl, ?_⟩
  intro a ha
  refine wpList_nil ?_
  refine then_n ?_
  refine wp_seq ?_
  refine wp_region_lit ?_
  refine wpList_k (st_set ha rfl (ex_loadN ha Try.underlying29 rfl Ty.t29 (hs.rdN 3)) rfl ?_); clear ha; (try clear a); intro a ha
  refine wpList_k (st_set ha rfl (ex_move ha) rfl ?_); clear ha; (try clear a); intro a ha
  refine wpList_k (st_storeAll ha rfl hs Ty.t29 (by simp [Value.oneCell']) (by rfl) ?_); clear ha hs; (try clear a); (try clear w); intro a w ha hs
  replace ha := ha.del 5
  refine wpList_k (st_set ha rfl (ex_assign ha) rfl ?_); clear ha; (try clear a); intro a ha
  refine wpList_nil ?_
  refine then_n ?_
  refine wp_ret ?_
  refine retC2 ha rfl (run_loadN Try.underlying29 rfl Ty.t29 (hs.rdAll)) ?_
  exact ⟨rfl, hs.sub⟩
theorem take_in {W w : World} {L : List SP} {q : Nat} {ms : List Mm} {i : Nat} (hs : St W w (Net q ms :: L)) (hi : i < ms.length) :
    Calls Try.prog 13 #[.pointer (some ⟨q, 0, none⟩), .int .i64 i] w fun e w' => ∃ ad c, e = .returned (.tuple #[.agg #[.int .i64 ms[i].1, .int .i64 ms[i].2.1, .slice ad ms[i].2.2.length c], .bool true]) ∧ St W w' (Sl 5 1 ad ms[i].2.2.length c (bc ms[i].2.2) :: Net q (ms.eraseIdx i) :: L) := by
  refine calls_enter Try.func13 rfl Try.ntmps13 (Nat.le_of_ble_eq_true rfl) ?_
  intro a ha
  replace ha : Fr a 19 [(0, _), (1, _)] := ha
  refine wp_seq ?_
  refine wp_region_lit ?_
  refine wpList_k (st_alloc ha rfl hs Ty.t29 rfl ?_); clear ha hs; (try clear a); (try clear w); intro b4 a w ha hs ho
  clear ho
  refine wpList_k (st_set ha rfl (ex_assign ha) rfl ?_); clear ha; (try clear a); intro a ha
  refine wpList_nil ?_
  refine then_n ?_
  refine wp_seq ?_
  refine wp_region_lit ?_
  refine wpList_k (st_set ha rfl (ex_move ha) rfl ?_); clear ha; (try clear a); intro a ha
  refine wpList_k (st_set ha rfl (ex_move ha) rfl ?_); clear ha; (try clear a); intro a ha
  refine wpList_k (st_call ha rfl Ty.c12 rfl (look_in (hs.pick (Net q ms)) hi) ?_); clear ha hs
  rintro e w ⟨ad', c', rfl, hs⟩
  refine ⟨_, rfl, ?_⟩
  intro a ha
  refine wpList_k (st_set ha rfl (ex_move ha) rfl ?_); clear ha; (try clear a); intro a ha
  refine wpList_k (st_set ha rfl (ex_extract ha rfl) rfl ?_); clear ha; (try clear a); intro a ha
  refine wpList_k (st_set ha rfl (ex_extract ha rfl) rfl ?_); clear ha; (try clear a); intro a ha
  refine wpList_k (st_alloc ha rfl hs Ty.t29 rfl ?_); clear ha hs; (try clear a); (try clear w); intro b6 a w ha hs ho
  clear ho
  refine wpList_k (st_storeAll ha rfl hs Ty.t29 (by simp [Value.oneCell']) (by rfl) ?_); clear ha hs; (try clear a); (try clear w); intro a w ha hs
  refine wpList_k (st_set ha rfl (ex_assign ha) rfl ?_); clear ha; (try clear a); intro a ha
  refine wpList_nil ?_
  refine then_n ?_
  refine wp_seq ?_
  refine wp_region_lit ?_
  refine wpList_k (st_set ha rfl (ex_move ha) rfl ?_); clear ha; (try clear a); intro a ha
  refine wpList_k (st_set ha rfl (ex_move ha) rfl ?_); clear ha; (try clear a); intro a ha
  refine wpList_k (st_call ha rfl Ty.c15 rfl (drop_in (hs.pick (Net q ms)) hi) ?_); clear ha hs
  rintro e w ⟨rfl, hs⟩
  refine ⟨_, rfl, ?_⟩
  intro a ha
  refine wpList_nil ?_
  refine then_n ?_
  refine wp_seq ?_
  refine wp_region_lit ?_
  refine wpList_k (st_set ha rfl (ex_loadN ha Try.underlying29 rfl Ty.t29 (hs.rdN 3)) rfl ?_); clear ha; (try clear a); intro a ha
  refine wpList_k (st_set ha rfl (ex_move ha) rfl ?_); clear ha; (try clear a); intro a ha
  refine wpList_k (st_storeAll ha rfl hs Ty.t29 (by simp [Value.oneCell']) (by rfl) ?_); clear ha hs; (try clear a); (try clear w); intro a w ha hs
  replace ha := ha.del 5
  refine wpList_k (st_set ha rfl (ex_assign ha) rfl ?_); clear ha; (try clear a); intro a ha
  refine wpList_nil ?_
  refine then_n ?_
  refine wp_ret ?_
  refine retC2 ha rfl (run_loadN Try.underlying29 rfl Ty.t29 (hs.rdAll)) ?_
  exact ⟨_, _, rfl, hs.sub⟩

theorem spoil_out {W w : World} {L : List SP} {q : Nat} {ms : List Mm} {i at' : Int} {x : UInt8} (hs : St W w (Net q ms :: L)) (hi : (decide (0 ≤ i) && decide (i < ms.length)) = false) :
    Calls Try.prog 16 #[.pointer (some ⟨q, 0, none⟩), .int .i64 i, .int .i64 at', .int .u8 (x.toNat : Int)] w fun e w' => e = .returned (.bool false) ∧ St W w' (Net q ms :: L) := by
  obtain ⟨ad1, c1, xs, rfl, hx, hs⟩ := Net.open hs
  rw [List.length_map] at hi
  refine calls_enter Try.func16 rfl Try.ntmps16 (Nat.le_of_ble_eq_true rfl) ?_
  intro a ha
  replace ha : Fr a 44 [(0, _), (1, _), (2, _), (3, _)] := ha
  refine wp_seq ?_
  refine wp_region_lit ?_
  refine wpList_k (st_set ha rfl (ex_assign ha) rfl ?_); clear ha; (try clear a); intro a ha
  refine wpList_nil ?_
  refine then_n ?_
  refine wp_seq ?_
  refine wp_seq ?_
  refine wp_region_lit ?_
  refine wpList_k (st_set ha rfl (ex_move ha) rfl ?_); clear ha; (try clear a); intro a ha
  refine wpList_k (st_set ha rfl (ex_move ha) rfl ?_); clear ha; (try clear a); intro a ha
  refine wpList_k (st_call ha rfl Ty.c19 rfl (has_some (q := q) hs) ?_); clear ha hs
  rintro e w ⟨rfl, hs⟩
  refine ⟨_, rfl, ?_⟩
  intro a ha
  rw [hi] at ha
  refine wpList_k (st_set ha rfl (ex_not ha) rfl ?_); clear ha; (try clear a); intro a ha
  refine wpList_k (st_set ha rfl (ex_move ha) rfl ?_); clear ha; (try clear a); intro a ha
  refine wpList_k (st_off ha (wgF ha rfl (s := 13) rfl) rfl ?_); clear ha; (try clear a); intro a ha
  refine wpList_k (st_off ha (wgF ha rfl (s := 13) rfl) rfl ?_); clear ha; (try clear a); intro a ha
  refine wpList_k (st_set ha rfl (ex_pickT ha) rfl ?_); clear ha; (try clear a); intro a ha
  refine wpList_k (st_set ha rfl (ex_move ha) rfl ?_); clear ha; (try clear a); intro a ha
  refine wpList_k (st_off ha (wgF ha rfl (s := 17) rfl) rfl ?_); clear ha; (try clear a); intro a ha
  refine wpList_k (st_off ha (wgF ha rfl (s := 17) rfl) rfl ?_); clear ha; (try clear a); intro a ha
  refine wpList_k (st_off ha (wgF ha rfl (s := 17) rfl) rfl ?_); clear ha; (try clear a); intro a ha
  refine wpList_k (st_off ha (wgF ha rfl (s := 17) rfl) rfl ?_); clear ha; (try clear a); intro a ha
  refine wpList_k (st_off ha (wgF ha rfl (s := 17) rfl) rfl ?_); clear ha; (try clear a); intro a ha
  refine wpList_k (st_off ha (wgF ha rfl (s := 17) rfl) rfl ?_); clear ha; (try clear a); intro a ha
  refine wpList_k (st_off ha (wgF ha rfl (s := 17) rfl) rfl ?_); clear ha; (try clear a); intro a ha
  refine wpList_k (st_off ha (wgF ha rfl (s := 17) rfl) rfl ?_); clear ha; (try clear a); intro a ha
  refine wpList_k (st_off ha (wgF ha rfl (s := 17) rfl) rfl ?_); clear ha; (try clear a); intro a ha
  refine wpList_k (st_off ha (wgF ha rfl (s := 17) rfl) rfl ?_); clear ha; (try clear a); intro a ha
  refine wpList_k (st_off ha (wgF ha rfl (s := 17) rfl) rfl ?_); clear ha; (try clear a); intro a ha
  refine wpList_k (st_set ha rfl (ex_pickT ha) rfl ?_); clear ha; (try clear a); intro a ha
  refine wpList_nil ?_
  refine then_n ?_
  refine wp_ifT ha ?_
  refine wp_seq ?_
  refine wp_region_lit ?_
  replace ha := ha.del 8
  refine wpList_k (st_set ha rfl (ex_assign ha) rfl ?_); clear ha; (try clear a); intro a ha
  refine wpList_nil ?_
  refine then_n ?_
  refine wp_ret <| then_r ?_
  refine ret1 ha rfl ?_
  exact ⟨rfl, (Net.shut (q := q) (ad := ad1) (xs := xs) hs rfl rfl rfl hx.1 hx.2).sub⟩
theorem bc_set (bs : List UInt8) (i : Nat) (x : UInt8) : (bc bs).set i (.int .u8 (x.toNat : Int)) = bc (bs.set i x) := by
  simp [bc, List.map_set]
theorem set_mid {p q r : List Value} {i : Nat} {v : Value} (h : i < q.length) : (p ++ q ++ r).set (p.length + i) v = p ++ q.set i v ++ r := by
  rw [List.append_assoc, List.set_append_right _ _ (by omega), show p.length + i - p.length = i from by omega, List.set_append_left _ _ h, List.append_assoc]
theorem spoil_in {W w : World} {L : List SP} {q : Nat} {ms : List Mm} {i : Nat} {at' : Int} {x : UInt8} (hs : St W w (Net q ms :: L)) (hi : i < ms.length) :
    Calls Try.prog 16 #[.pointer (some ⟨q, 0, none⟩), .int .i64 i, .int .i64 at', .int .u8 (x.toNat : Int)] w fun e w' =>
      e = .returned (.bool (decide (0 ≤ at') && decide (at' < ms[i].2.2.length))) ∧ St W w' (Net q (if decide (0 ≤ at') && decide (at' < ms[i].2.2.length) then ms.set i (ms[i].1, ms[i].2.1, ms[i].2.2.set at'.toNat (ms[i].2.2.getD at'.toNat 0 ^^^ x)) else ms) :: L) := by
  obtain ⟨ad1, c1, xs, rfl, hx, hs⟩ := Net.open hs
  have hi2 : i < xs.length := by simpa using hi
  simp only [List.getElem_map, Ml.m]
  obtain ⟨b', off', rfl, hrd⟩ := hs.slRd ad1 (by omega)
  clear hrd
  refine calls_enter Try.func16 rfl Try.ntmps16 (Nat.le_of_ble_eq_true rfl) ?_
  intro a ha
  replace ha : Fr a 44 [(0, _), (1, _), (2, _), (3, _)] := ha
  refine wp_seq ?_
  refine wp_region_lit ?_
  refine wpList_k (st_set ha rfl (ex_assign ha) rfl ?_); clear ha; (try clear a); intro a ha
  refine wpList_nil ?_
  refine then_n ?_
  refine wp_seq ?_
  refine wp_seq ?_
  refine wp_region_lit ?_
  refine wpList_k (st_set ha rfl (ex_move ha) rfl ?_); clear ha; (try clear a); intro a ha
  refine wpList_k (st_set ha rfl (ex_move ha) rfl ?_); clear ha; (try clear a); intro a ha
  refine wpList_k (st_call ha rfl Ty.c19 rfl (has_some (q := q) hs) ?_); clear ha hs
  rintro e w ⟨rfl, hs⟩
  refine ⟨_, rfl, ?_⟩
  intro a ha
  rw [dlt hi2] at ha
  refine wpList_k (st_set ha rfl (ex_not ha) rfl ?_); clear ha; (try clear a); intro a ha
  refine wpList_k (st_set ha rfl (ex_move ha) rfl ?_); clear ha; (try clear a); intro a ha
  refine wpList_k (st_set ha (wgT ha rfl (s := 13)) (ex_move ha) rfl ?_); clear ha; (try clear a); intro a ha
  refine wpList_k (st_set ha (wgT ha rfl (s := 13)) (ex_lss ha) rfl ?_); clear ha; (try clear a); intro a ha
  refine wpList_k (st_set ha rfl (ex_pickF ha) rfl ?_); clear ha; (try clear a); intro a ha
  refine wpList_k (st_set ha rfl (ex_move ha) rfl ?_); clear ha; (try clear a); intro a ha
  refine ha.bool (s := 17) (fun hg8 ha => ?_) (fun hg8 ha => ?_)
  ·
    try simp only [decide_eq_true_eq, decide_eq_false_iff_not, Bool.not_eq_true', Bool.not_eq_false', Int.not_lt, Int.not_le, ne_eq, Decidable.not_not] at hg8
    have hm : (decide (0 ≤ at') && decide (at' < xs[i].bs.length)) = false := by rw [decide_eq_false (by omega), Bool.false_and]
    refine wpList_k (st_off ha (wgF ha rfl (s := 17) rfl) rfl ?_); clear ha; (try clear a); intro a ha
    refine wpList_k (st_off ha (wgF ha rfl (s := 17) rfl) rfl ?_); clear ha; (try clear a); intro a ha
    refine wpList_k (st_off ha (wgF ha rfl (s := 17) rfl) rfl ?_); clear ha; (try clear a); intro a ha
    refine wpList_k (st_off ha (wgF ha rfl (s := 17) rfl) rfl ?_); clear ha; (try clear a); intro a ha
    have hm1 := mlRd (hs.slRdAt b' off' (by omega)) i hi2
    refine wpList_k (st_off ha (wgF ha rfl (s := 17) rfl) rfl ?_); clear ha; (try clear a); intro a ha
    refine wpList_k (st_off ha (wgF ha rfl (s := 17) rfl) rfl ?_); clear ha; (try clear a); intro a ha
    refine wpList_k (st_off ha (wgF ha rfl (s := 17) rfl) rfl ?_); clear ha; (try clear a); intro a ha
    refine wpList_k (st_off ha (wgF ha rfl (s := 17) rfl) rfl ?_); clear ha; (try clear a); intro a ha
    refine wpList_k (st_off ha (wgF ha rfl (s := 17) rfl) rfl ?_); clear ha; (try clear a); intro a ha
    refine wpList_k (st_off ha (wgF ha rfl (s := 17) rfl) rfl ?_); clear ha; (try clear a); intro a ha
    refine wpList_k (st_off ha (wgF ha rfl (s := 17) rfl) rfl ?_); clear ha; (try clear a); intro a ha
    refine wpList_k (st_set ha rfl (ex_pickT ha) rfl ?_); clear ha; (try clear a); intro a ha
    refine wpList_nil ?_
    refine then_n ?_
    refine wp_ifT ha ?_
    refine wp_seq ?_
    refine wp_region_lit ?_
    replace ha := ha.del 8
    refine wpList_k (st_set ha rfl (ex_assign ha) rfl ?_); clear ha; (try clear a); intro a ha
    refine wpList_nil ?_
    refine then_n ?_
    refine wp_ret <| then_r ?_
    refine ret1 ha rfl ?_
    exact ⟨by rw [hm], by rw [hm, if_neg (by decide)]; exact (Net.shut (q := q) (ad := some ⟨b', off', none⟩) (xs := xs) hs rfl rfl rfl hx.1 hx.2).sub⟩
  ·
    try simp only [decide_eq_true_eq, decide_eq_false_iff_not, Bool.not_eq_true', Bool.not_eq_false', Int.not_lt, Int.not_le, ne_eq, Decidable.not_not] at hg8
    refine wpList_k (st_set ha (wgT ha rfl (s := 17)) (ex_move ha) rfl ?_); clear ha; (try clear a); intro a ha
    refine wpList_k (st_set ha (wgT ha rfl (s := 17)) (ex_move ha) rfl ?_); clear ha; (try clear a); intro a ha
    refine wpList_k (st_set ha (wgT ha rfl (s := 17)) (ex_nilCheck ha) rfl ?_); clear ha; (try clear a); intro a ha
    refine wpList_k (st_set ha (wgT ha rfl (s := 17)) (ex_fieldAddr ha Try.underlying46 rfl Ty.t26 rfl) rfl ?_); clear ha; (try clear a); intro a ha
    have hm1 := mlRd (hs.slRdAt b' off' (by omega)) i hi2
    refine wpList_k (st_set ha (wgT ha rfl (s := 17)) (ex_load1 ha Try.underlying26 rfl (hs.rd1 rfl)) rfl ?_); clear ha; (try clear a); intro a ha
    refine wpList_k (st_set ha (wgT ha rfl (s := 17)) (ex_move ha) rfl ?_); clear ha; (try clear a); intro a ha
    refine wpList_k (st_set ha (wgT ha rfl (s := 17)) (ex_indexAddr ha Try.underlying26 Ty.t29 (by omega)) rfl ?_); clear ha; (try clear a); intro a ha
    refine wpList_k (st_set ha (wgT ha rfl (s := 17)) (ex_fieldAddr ha Try.underlying29 rfl Ty.t27 rfl) rfl ?_); clear ha; (try clear a); intro a ha
    refine wpList_k (st_set ha (wgT ha rfl (s := 17)) (ex_load1 ha Try.underlying27 rfl (hm1.2.2.2)) rfl ?_); clear ha; (try clear a); intro a ha
    refine wpList_k (st_set ha (wgT ha rfl (s := 17)) (ex_len ha Try.underlying27) rfl ?_); clear ha; (try clear a); intro a ha
    refine wpList_k (st_set ha (wgT ha rfl (s := 17)) (ex_geq ha) rfl ?_); clear ha; (try clear a); intro a ha
    refine wpList_k (st_set ha rfl (ex_pickF ha) rfl ?_); clear ha; (try clear a); intro a ha
    refine wpList_nil ?_
    refine then_n ?_
    refine wp_if ha (fun hc0 => ?_) (fun hc0 => ?_)
    ·
      try simp only [decide_eq_true_eq, decide_eq_false_iff_not, Bool.not_eq_true', Bool.not_eq_false', Int.not_lt, Int.not_le, ne_eq, Decidable.not_not] at hc0
      have hm : (decide (0 ≤ at') && decide (at' < xs[i].bs.length)) = false := by rw [decide_eq_false (p := at' < xs[i].bs.length) (by omega), Bool.and_false]
      refine wp_seq ?_
      refine wp_region_lit ?_
      replace ha := ha.del 8
      refine wpList_k (st_set ha rfl (ex_assign ha) rfl ?_); clear ha; (try clear a); intro a ha
      refine wpList_nil ?_
      refine then_n ?_
      refine wp_ret <| then_r ?_
      refine ret1 ha rfl ?_
      exact ⟨by rw [hm], by rw [hm, if_neg (by decide)]; exact (Net.shut (q := q) (ad := some ⟨b', off', none⟩) (xs := xs) hs rfl rfl rfl hx.1 hx.2).sub⟩
    ·
      try simp only [decide_eq_true_eq, decide_eq_false_iff_not, Bool.not_eq_true', Bool.not_eq_false', Int.not_lt, Int.not_le, ne_eq, Decidable.not_not] at hc0
      have hm : (decide (0 ≤ at') && decide (at' < xs[i].bs.length)) = true := by simp; omega
      obtain ⟨A, rfl⟩ : ∃ A : Nat, at' = A := ⟨at'.toNat, by omega⟩
      have hA : A < xs[i].bs.length := by omega
      rw [hm, if_pos rfl, Int.toNat_natCast]
      have h1 := hs.pick (Bys xs)
      have h0 : xs = xs.take i ++ xs[i] :: xs.drop (i + 1) := by rw [← List.drop_eq_getElem_cons hi2, List.take_append_drop]
      rw [show Bys xs = Bys (xs.take i ++ xs[i] :: xs.drop (i + 1)) from by rw [← h0]] at h1
      replace hs := Bys.out h1
      clear h1
      obtain ⟨xa, hxa⟩ : ∃ xa, xs[i].ad = xa := ⟨_, rfl⟩
      have h2 := hs
      rw [show xs[i].own = Sl 5 1 xa xs[i].bs.length xs[i].c (bc xs[i].bs) from by rw [← hxa]; rfl] at h2
      have hcl := (h2.sl xa).2
      obtain ⟨bb, pre, post, ⟨h3, h4, h5, h6⟩, hs0⟩ := h2.slOpen (by omega)
      rw [h5] at hxa
      replace hs := hs0
      clear hs0 h2
      rw [hxa] at hm1
      have hb : (pre ++ bc xs[i].bs ++ post)[pre.length + A * 1]? = some (.int .u8 (xs[i].bs[A].toNat : Int)) := by
        rw [Nat.mul_one, List.append_assoc, List.getElem?_append_right (by omega), show pre.length + A - pre.length = A from by omega, List.getElem?_append_left (by rw [bc_len]; exact hA)]
        simp [bc, hA]
      refine wp_skip ?_
      refine then_n ?_
      refine wp_seq ?_
      refine wp_region_lit ?_
      refine wpList_k (st_set ha rfl (ex_move ha) rfl ?_); clear ha; (try clear a); intro a ha
      refine wpList_k (st_set ha rfl (ex_nilCheck ha) rfl ?_); clear ha; (try clear a); intro a ha
      refine wpList_k (st_set ha rfl (ex_fieldAddr ha Try.underlying46 rfl Ty.t26 rfl) rfl ?_); clear ha; (try clear a); intro a ha
      refine wpList_k (st_set ha rfl (ex_load1 ha Try.underlying26 rfl (hs.rd1 rfl)) rfl ?_); clear ha; (try clear a); intro a ha
      refine wpList_k (st_set ha rfl (ex_move ha) rfl ?_); clear ha; (try clear a); intro a ha
      refine wpList_k (st_set ha rfl (ex_indexAddr ha Try.underlying26 Ty.t29 (by omega)) rfl ?_); clear ha; (try clear a); intro a ha
      refine wpList_k (st_set ha rfl (ex_fieldAddr ha Try.underlying29 rfl Ty.t27 rfl) rfl ?_); clear ha; (try clear a); intro a ha
      refine wpList_k (st_set ha rfl (ex_load1 ha Try.underlying27 rfl (hm1.2.2.2)) rfl ?_); clear ha; (try clear a); intro a ha
      refine wpList_k (st_set ha rfl (ex_move ha) rfl ?_); clear ha; (try clear a); intro a ha
      refine wpList_k (st_set ha rfl (ex_indexAddr ha Try.underlying27 Ty.t5 (by omega)) rfl ?_); clear ha; (try clear a); intro a ha
      refine wpList_k (st_set ha rfl (ex_load1 ha Try.underlying5 rfl (hs.rd1 hb)) rfl ?_); clear ha; (try clear a); intro a ha
      refine wpList_k (st_set ha rfl (ex_move ha) rfl ?_); clear ha; (try clear a); intro a ha
      refine wpList_k (st_set ha rfl (ex_xor8 ha) rfl ?_); clear ha; (try clear a); intro a ha
      refine wpList_k (st_set ha rfl (ex_indexAddr ha Try.underlying27 Ty.t5 (by omega)) rfl ?_); clear ha; (try clear a); intro a ha
      refine wpList_k (st_store ha rfl hs Ty.t5 rfl (by simp only [List.length_append, bc_len]; omega) ?_); clear ha hs; (try clear a); (try clear w); intro a w ha hs
      refine wpList_nil ?_
      refine then_n ?_
      refine wp_seq ?_
      refine wp_region_lit ?_
      replace ha := ha.del 8
      refine wpList_k (st_set ha rfl (ex_assign ha) rfl ?_); clear ha; (try clear a); intro a ha
      refine wpList_nil ?_
      refine then_n ?_
      refine wp_ret ?_
      refine ret1 ha rfl ?_
      refine ⟨rfl, ?_⟩
      rw [Nat.mul_one, set_mid (by rw [bc_len]; exact hA), bc_set] at hs
      have h7 := St.slShut (n := xs[i].bs.length) (c := xs[i].c) (sz := 1) (hs.bring bb) (by rw [bc_len, List.length_set, Nat.mul_one]) h4 h6
      obtain ⟨m', hm'⟩ : ∃ m' : Ml, m' = ⟨xs[i].frm, xs[i].to, xs[i].ad, xs[i].c, xs[i].bs.set A (xs[i].bs[A] ^^^ x)⟩ := ⟨_, rfl⟩
      have how : m'.own = Sl 5 1 (some ⟨bb, pre.length, none⟩) xs[i].bs.length xs[i].c (bc (xs[i].bs.set A (xs[i].bs[A] ^^^ x))) := by
        rw [hm', Ml.own]
        simp only [List.length_set, hxa]
      rw [← how] at h7
      have h8 := Bys.into (a := xs.take i) (b := xs.drop (i + 1)) (m := m') ((h7.pick (Bys (xs.take i ++ xs.drop (i + 1)))).pick m'.own)
      have hse : xs.set i m' = xs.take i ++ m' :: xs.drop (i + 1) := by rw [List.set_eq_take_append_cons_drop, if_pos hi2]
      rw [← hse] at h8
      refine (Net.shut (q := q) (ad := some ⟨b', off', none⟩) (xs := xs.set i m') (ms := (xs.map Ml.m).set i (xs[i].frm, xs[i].to, xs[i].bs.set A (xs[i].bs.getD A 0 ^^^ x))) h8 (by rw [List.length_set]) ?_ ?_ (by rw [List.length_set]; exact hx.1) ?_).sub
      · rw [hse]
        conv => lhs; rw [h0]
        rw [mlc_app, mlc_app]
        congr 1
        simp only [mlc, List.flatMap_cons]
        congr 1
        rw [hm', Ml.cells, Ml.cells]
        simp only [List.length_set]
      · rw [List.map_set, hm', Ml.m, List.getD_eq_getElem?_getD, List.getElem?_eq_getElem hA, Option.getD_some]
      · intro y hy
        rcases List.mem_or_eq_of_mem_set hy with h | h
        · exact hx.2 y h
        · rw [h, hm']; simp only [List.length_set]; exact hx.2 _ (List.getElem_mem hi2)
end Go.Proofs.Ytjaiojfmcpbkbaa

