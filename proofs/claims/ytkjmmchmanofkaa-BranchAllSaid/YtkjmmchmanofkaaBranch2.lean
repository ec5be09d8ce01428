/- The walks of package branch, further. -/
import Derived.Test.YtkjmmchmanofkaaBranch
namespace Go.Proofs.Ytkjmmchmanofkaa
open Go.RowKit
set_option linter.unusedVariables false
set_option linter.unusedSimpArgs false
set_option maxRecDepth 10000
set_option synthInstance.maxSize 4000
set_option synthInstance.maxHeartbeats 400000

/-- The store behind one hold less of a picture, if it is live. -/
def Sn.dropId (A : Sn) (id : Nat) : Sn := match A.pics.findIdx? (fun x => x.id == id) with
  | some i => match A.pics[i]? with
    | some x => A.drop i x
    | none => A
  | none => A
section
variable {W w : World} {L L' R : List SP} {tq sq q r n c k : Nat} {ad : Option Addr} {A : Sn} {T : Tr} {x y : Br} {xs : List Bx} {p : List (List UInt8)}
theorem dropId_none {id : Nat} (h : ∀ y ∈ A.pics, y.id ≠ id) : A.dropId id = A := by
  have : A.pics.findIdx? (fun x => x.id == id) = none := by rw [List.findIdx?_eq_none_iff]; intro y hy; simpa using h y hy
  rw [Sn.dropId, this]
theorem dropId_some {i : Nat} {px : Pic} (hw : WF A) (hx : A.pics[i]? = some px) : A.dropId px.id = A.drop i px := by
  obtain ⟨hi, he⟩ := List.getElem?_eq_some_iff.1 hx
  have : A.pics.findIdx? (fun x => x.id == px.id) = some i := by
    rw [List.findIdx?_eq_some_iff_getElem]
    refine ⟨hi, by simp [he], fun j hj => ?_⟩
    have hjl : j < A.pics.length := by omega
    simp only [Bool.not_eq_true, beq_eq_false_iff_ne, ne_eq]
    intro e
    have := hw.ids (List.getElem?_eq_getElem hjl) hx e
    omega
  rw [Sn.dropId, this]
  simp only [hx]
theorem snap_dropId {id : Nat} (hs : St W w (Store q r A :: L)) :
    Calls Try.prog 30 #[.pointer (some ⟨q, 0, none⟩), .int .i64 id] w fun e w' => ∃ v, e = .returned (.bool v) ∧ St W w' (Store q r (A.dropId id) :: L) := by
  by_cases h : ∃ px ∈ A.pics, px.id = id
  · obtain ⟨px, h1, rfl⟩ := h
    obtain ⟨i, hi⟩ := List.mem_iff_getElem?.1 h1
    have hw := (Store.open hs)
    obtain ⟨_, _, _, _, _, hw, _, _⟩ := hw
    refine (snap_drop hs hi).mono fun e w' ⟨h2, h3⟩ => ⟨_, h2, ?_⟩
    rw [dropId_some hw hi]; exact h3
  · have hn : ∀ y ∈ A.pics, y.id ≠ id := fun y hy e => h ⟨y, hy, e⟩
    refine (snap_drop_no (X := (id : Int)) hs (fun y hy e => hn y hy (by omega))).mono fun e w' ⟨h2, h3⟩ => ⟨_, h2, ?_⟩
    rw [dropId_none hn]; exact h3
theorem set_mid {p q r : List Value} {i : Nat} {v : Value} (h : i < q.length) : (p ++ q ++ r).set (p.length + i) v = p ++ q.set i v ++ r := by
  rw [List.append_assoc, List.set_append_right _ _ (by omega), show p.length + i - p.length = i from by omega, List.set_append_left _ _ h, List.append_assoc]

theorem brC_one (x : Br) (ad : Option Addr) (c : Nat) : ∀ v ∈ brC x ad c, v.oneCell' = true := brc_one (x, ad, c)
theorem publish_ok {i d : Nat} {px : Pic} (hs : St W w (Tree tq sq T :: Store sq r A :: L)) (hx : T.l[k]? = some x) (hd : x.done < d) (hd2 : d ≤ x.press.length) (hp : A.pics[i]? = some px) :
    Calls Try.prog 21 #[.pointer (some ⟨tq, 0, none⟩), .int .i64 x.id, .int .i64 d, .int .i64 px.id] w fun e w' => e = .returned (.bool true) ∧ St W w' (Tree tq sq (T.pub k x d px.id) :: Store sq r (A.dropId x.snap) :: L) := by
  have hkl := (List.getElem?_eq_some_iff.1 hx).1
  have hpr : 1 ≤ px.refs := by
    obtain ⟨_, _, _, _, _, hw, _, _⟩ := Store.open (hs.pick (Store sq r A))
    exact (hw.pic px (List.mem_of_getElem? hp)).2.2.1
  refine calls_enter Try.func21 rfl Try.ntmps21 (Nat.le_of_ble_eq_true rfl) ?_
  intro a ha
  replace ha : Fr a 78 [(0, _), (1, _), (2, _), (3, _)] := ha
  refine wp_seq ?_
  refine wp_region_lit ?_
  refine wpList_k (st_set ha rfl (ex_assign ha) rfl ?_); clear ha; (try clear a); intro a ha
  refine wpList_nil ?_
  refine then_n ?_
  refine wp_seq ?_
  refine wp_region_lit ?_
  refine wpList_k (st_set ha rfl (ex_move ha) rfl ?_); clear ha; (try clear a); intro a ha
  refine wpList_k (st_set ha rfl (ex_move ha) rfl ?_); clear ha; (try clear a); intro a ha
  refine wpList_k (st_call ha rfl Ty.c48 rfl (find_at hs hx) ?_); clear ha hs
  rintro e w ⟨rfl, hs⟩
  refine ⟨_, rfl, ?_⟩
  intro a ha
  refine wpList_k (st_set ha rfl (ex_assign ha) rfl ?_); clear ha; (try clear a); intro a ha
  refine wpList_nil ?_
  refine then_n ?_
  refine wp_seq ?_
  refine wp_seq ?_
  obtain ⟨ad, c, xs, h1, hw, hs⟩ := Tree.open (hs.tree tq)
  obtain ⟨ax, cx, hxx⟩ := bx_at h1 hx
  obtain ⟨b', off', rfl, hrd⟩ := hs.tail.slRd ad (by omega)
  have hrk := row_rd hrd hxx
  have hdc := hrk 3 _ rfl
  have hpc := hrk 2 _ rfl
  refine wp_region_lit ?_
  refine wpList_k (st_set ha rfl (ex_move ha) rfl ?_); clear ha; (try clear a); intro a ha
  refine wpList_k (st_set ha rfl (ex_lss ha) rfl ?_); clear ha; (try clear a); intro a ha
  refine wpList_k (st_set ha rfl (ex_move ha) rfl ?_); clear ha; (try clear a); intro a ha
  rw [decide_eq_false (by omega)] at ha
  refine wpList_k (st_set ha (wgT ha rfl (s := 15)) (ex_move ha) rfl ?_); clear ha; (try clear a); intro a ha
  refine wpList_k (st_set ha (wgT ha rfl (s := 15)) (ex_move ha) rfl ?_); clear ha; (try clear a); intro a ha
  refine wpList_k (st_set ha (wgT ha rfl (s := 15)) (ex_nilCheck ha) rfl ?_); clear ha; (try clear a); intro a ha
  refine wpList_k (st_set ha (wgT ha rfl (s := 15)) (ex_fieldAddr (k := 2) ha Try.underlying79 rfl Ty.t37 rfl) rfl ?_); clear ha; (try clear a); intro a ha
  refine wpList_k (st_set ha (wgT ha rfl (s := 15)) (ex_load1 ha Try.underlying37 rfl (hs.rd1 rfl)) rfl ?_); clear ha; (try clear a); intro a ha
  refine wpList_k (st_set ha (wgT ha rfl (s := 15)) (ex_move ha) rfl ?_); clear ha; (try clear a); intro a ha
  refine wpList_k (st_set ha (wgT ha rfl (s := 15)) (ex_indexAddr ha Try.underlying37 Ty.t42 (by omega)) rfl ?_); clear ha; (try clear a); intro a ha
  refine wpList_k (st_set ha (wgT ha rfl (s := 15)) (ex_fieldAddr (k := 3) ha Try.underlying42 rfl Ty.t3 rfl) rfl ?_); clear ha; (try clear a); intro a ha
  refine wpList_k (st_set ha (wgT ha rfl (s := 15)) (ex_load1 ha Try.underlying3 rfl (hdc)) rfl ?_); clear ha; (try clear a); intro a ha
  refine wpList_k (st_set ha (wgT ha rfl (s := 15)) (ex_leq ha) rfl ?_); clear ha; (try clear a); intro a ha
  refine wpList_k (st_set ha rfl (ex_pickF ha) rfl ?_); clear ha; (try clear a); intro a ha
  refine wpList_k (st_set ha rfl (ex_move ha) rfl ?_); clear ha; (try clear a); intro a ha
  rw [decide_eq_false (by omega)] at ha
  refine wpList_k (st_set ha (wgT ha rfl (s := 27)) (ex_move ha) rfl ?_); clear ha; (try clear a); intro a ha
  refine wpList_k (st_set ha (wgT ha rfl (s := 27)) (ex_move ha) rfl ?_); clear ha; (try clear a); intro a ha
  refine wpList_k (st_set ha (wgT ha rfl (s := 27)) (ex_nilCheck ha) rfl ?_); clear ha; (try clear a); intro a ha
  refine wpList_k (st_set ha (wgT ha rfl (s := 27)) (ex_fieldAddr (k := 2) ha Try.underlying79 rfl Ty.t37 rfl) rfl ?_); clear ha; (try clear a); intro a ha
  refine wpList_k (st_set ha (wgT ha rfl (s := 27)) (ex_load1 ha Try.underlying37 rfl (hs.rd1 rfl)) rfl ?_); clear ha; (try clear a); intro a ha
  refine wpList_k (st_set ha (wgT ha rfl (s := 27)) (ex_move ha) rfl ?_); clear ha; (try clear a); intro a ha
  refine wpList_k (st_set ha (wgT ha rfl (s := 27)) (ex_indexAddr ha Try.underlying37 Ty.t42 (by omega)) rfl ?_); clear ha; (try clear a); intro a ha
  refine wpList_k (st_set ha (wgT ha rfl (s := 27)) (ex_fieldAddr (k := 2) ha Try.underlying42 rfl Ty.t23 rfl) rfl ?_); clear ha; (try clear a); intro a ha
  refine wpList_k (st_set ha (wgT ha rfl (s := 27)) (ex_load1 ha Try.underlying23 rfl (hpc)) rfl ?_); clear ha; (try clear a); intro a ha
  refine wpList_k (st_set ha (wgT ha rfl (s := 27)) (ex_len ha Try.underlying23) rfl ?_); clear ha; (try clear a); intro a ha
  refine wpList_k (st_set ha (wgT ha rfl (s := 27)) (ex_gtr ha) rfl ?_); clear ha; (try clear a); intro a ha
  refine wpList_k (st_set ha rfl (ex_pickF ha) rfl ?_); clear ha; (try clear a); intro a ha
  refine wpList_k (st_set ha rfl (ex_move ha) rfl ?_); clear ha; (try clear a); intro a ha
  rw [decide_eq_false (by omega)] at ha
  refine wpList_k (st_set ha (wgT ha rfl (s := 40)) (ex_move ha) rfl ?_); clear ha; (try clear a); intro a ha
  refine wpList_k (st_set ha (wgT ha rfl (s := 40)) (ex_nilCheck ha) rfl ?_); clear ha; (try clear a); intro a ha
  refine wpList_k (st_set ha (wgT ha rfl (s := 40)) (ex_fieldAddr (k := 0) ha Try.underlying79 rfl Ty.t26 rfl) rfl ?_); clear ha; (try clear a); intro a ha
  refine wpList_k (st_set ha (wgT ha rfl (s := 40)) (ex_load1 ha Try.underlying26 rfl (hs.rd1 rfl)) rfl ?_); clear ha; (try clear a); intro a ha
  refine wpList_k (st_set ha (wgT ha rfl (s := 40)) (ex_move ha) rfl ?_); clear ha; (try clear a); intro a ha
  refine wpList_k (st_call ha (wgT ha rfl (s := 40)) Ty.c49 rfl (snap_refs (hs.pick (Store sq r A)) hp) ?_); clear ha hs
  rintro e w ⟨rfl, hs⟩
  refine ⟨_, rfl, ?_⟩
  intro a ha
  refine wpList_k (st_set ha (wgT ha rfl (s := 40)) (ex_eql ha) rfl ?_); clear ha; (try clear a); intro a ha
  refine wpList_k (st_set ha rfl (ex_pickF ha) rfl ?_); clear ha; (try clear a); intro a ha
  refine wpList_nil ?_
  refine then_n ?_
  rw [decide_eq_false (by omega)] at ha
  refine wp_ifF ha ?_
  refine wp_skip ?_
  refine then_n ?_
  refine wp_seq ?_
  have hrd2 := hs.slRdAt (n := T.l.length) b' off' (by omega)
  have hsc : w.drew.cell? ⟨b', off' + k * 5 + 4, none⟩ = some (.int .i64 x.snap) := row_rd hrd2 hxx 4 _ rfl
  refine wp_draw (m := 13) (l0 := lb 13 0) (Old w.drew) [7, 9, 10, 11] Ty.mixed (by kernel_rfl) (by kernel_rfl) (pk_then pk_body) (fun hpk => ?_)
  replace hs := hs.drew
  have hC := Old.refl w.drew
  generalize w.drew = w at hs hC hpk hsc ⊢
  refine nt_pure (i := 0) (listed' := lb 13 1) (by kernel_rfl) rfl (by kernel_rfl) (by decide) hpk ha rfl (fun w => ex_move ha) rfl ?_; clear ha; (try clear a); intro a ha
  refine nt_pure (i := 1) (listed' := lb 13 3) (by kernel_rfl) rfl (by kernel_rfl) (by decide) hpk ha rfl (fun w => ex_nilCheck ha) rfl ?_; clear ha; (try clear a); intro a ha
  refine nt_pure (i := 2) (listed' := lb 13 7) (by kernel_rfl) rfl (by kernel_rfl) (by decide) hpk ha rfl (fun w => ex_fieldAddr (k := 0) ha Try.underlying79 rfl Ty.t26 rfl) rfl ?_; clear ha; (try clear a); intro a ha
  refine nt_pure (i := 4) (listed' := lb 13 23) (by kernel_rfl) rfl (by kernel_rfl) (by decide) hpk ha rfl (fun w => ex_move ha) rfl ?_; clear ha; (try clear a); intro a ha
  refine nt_pure (i := 5) (listed' := lb 13 55) (by kernel_rfl) rfl (by kernel_rfl) (by decide) hpk ha rfl (fun w => ex_nilCheck ha) rfl ?_; clear ha; (try clear a); intro a ha
  refine nt_pure (i := 6) (listed' := lb 13 119) (by kernel_rfl) rfl (by kernel_rfl) (by decide) hpk ha rfl (fun w => ex_fieldAddr (k := 2) ha Try.underlying79 rfl Ty.t37 rfl) rfl ?_; clear ha; (try clear a); intro a ha
  refine nt_pure (i := 8) (listed' := lb 13 375) (by kernel_rfl) rfl (by kernel_rfl) (by decide) hpk ha rfl (fun w => ex_move ha) rfl ?_; clear ha; (try clear a); intro a ha
  refine nt_held (i := 3) (listed' := lb 13 383) (by kernel_rfl) rfl (by kernel_rfl) hpk ha rfl (fun w hc => ex_load1 ha Try.underlying26 rfl (hc.cell (hs.rd1 rfl))) hC rfl ?_; clear ha; (try clear a); intro a ha
  refine nt_one (i := 7) (listed' := lb 13 511) (by kernel_rfl) (by kernel_rfl) rfl (st_set ha rfl (ex_load1 ha Try.underlying37 rfl (hs.rd1 rfl)) rfl ?_); clear ha; (try clear a); intro a ha
  refine ⟨fun _ => hC, ?_⟩
  refine nt_one (i := 9) (listed' := lb 13 1023) (by kernel_rfl) (by kernel_rfl) rfl (st_set ha rfl (ex_indexAddr ha Try.underlying37 Ty.t42 (by omega)) rfl ?_); clear ha; (try clear a); intro a ha
  refine ⟨fun _ => hC, ?_⟩
  refine nt_one (i := 10) (listed' := lb 13 2047) (by kernel_rfl) (by kernel_rfl) rfl (st_set ha rfl (ex_fieldAddr (k := 4) ha Try.underlying42 rfl Ty.t30 rfl) rfl ?_); clear ha; (try clear a); intro a ha
  refine ⟨fun _ => hC, ?_⟩
  refine nt_one (i := 11) (listed' := lb 13 4095) (by kernel_rfl) (by kernel_rfl) rfl (st_set ha rfl (ex_load1 ha Try.underlying30 rfl (hsc)) rfl ?_); clear ha; (try clear a); intro a ha
  refine ⟨fun _ => hC, ?_⟩
  refine nt_one (i := 12) (listed' := lb 13 8191) (by kernel_rfl) (by kernel_rfl) rfl (st_call ha rfl Ty.c30 rfl (snap_dropId (id := x.snap) (hs.pick (Store sq r A))) ?_); clear ha hs
  rintro e w ⟨_, rfl, hs⟩
  refine ⟨_, rfl, ?_⟩
  intro a ha
  refine ⟨fun h => absurd h (by decide), ?_⟩
  refine nt_done (by kernel_rfl) ?_ _
  refine then_n ?_
  refine wp_seq ?_
  obtain ⟨bb, pre, post, ⟨h3, h4, h5, h6⟩, hs0⟩ := (hs.pick (Sl 42 5 (some ⟨b', off', none⟩) T.l.length c (rows brc xs))).slOpen (by have := (hs.sl (some ⟨b', off', none⟩)).2; omega)
  cases h5
  replace hs := hs0
  clear hs0
  have hxl : xs.length = T.l.length := by rw [← h1, List.length_map]
  have hkx : k < xs.length := by omega
  have hxe : xs[k] = (x, ax, cx) := (List.getElem?_eq_some_iff.1 hxx).2
  have hrl : (rows brc xs).length = xs.length * 5 := rows_len brc_len xs
  refine wp_draw (m := 18) (l0 := lb 18 0) (Old w.drew) [8] Ty.mixed (by kernel_rfl) (by kernel_rfl) (pk_then pk_body) (fun hpk => ?_)
  replace hs := hs.drew
  have hC := Old.refl w.drew
  generalize w.drew = w at hs hC hpk ⊢
  refine nt_pure (i := 0) (listed' := lb 18 1) (by kernel_rfl) rfl (by kernel_rfl) (by decide) hpk ha rfl (fun w => ex_move ha) rfl ?_; clear ha; (try clear a); intro a ha
  refine nt_pure (i := 1) (listed' := lb 18 3) (by kernel_rfl) rfl (by kernel_rfl) (by decide) hpk ha rfl (fun w => ex_nilCheck ha) rfl ?_; clear ha; (try clear a); intro a ha
  refine nt_pure (i := 2) (listed' := lb 18 7) (by kernel_rfl) rfl (by kernel_rfl) (by decide) hpk ha rfl (fun w => ex_fieldAddr (k := 2) ha Try.underlying79 rfl Ty.t37 rfl) rfl ?_; clear ha; (try clear a); intro a ha
  refine nt_pure (i := 4) (listed' := lb 18 23) (by kernel_rfl) rfl (by kernel_rfl) (by decide) hpk ha rfl (fun w => ex_move ha) rfl ?_; clear ha; (try clear a); intro a ha
  refine nt_pure (i := 5) (listed' := lb 18 55) (by kernel_rfl) rfl (by kernel_rfl) (by decide) hpk ha rfl (fun w => ex_move ha) rfl ?_; clear ha; (try clear a); intro a ha
  refine nt_pure (i := 6) (listed' := lb 18 119) (by kernel_rfl) rfl (by kernel_rfl) (by decide) hpk ha rfl (fun w => ex_nilCheck ha) rfl ?_; clear ha; (try clear a); intro a ha
  refine nt_pure (i := 7) (listed' := lb 18 247) (by kernel_rfl) rfl (by kernel_rfl) (by decide) hpk ha rfl (fun w => ex_fieldAddr (k := 2) ha Try.underlying79 rfl Ty.t37 rfl) rfl ?_; clear ha; (try clear a); intro a ha
  refine nt_pure (i := 9) (listed' := lb 18 759) (by kernel_rfl) rfl (by kernel_rfl) (by decide) hpk ha rfl (fun w => ex_move ha) rfl ?_; clear ha; (try clear a); intro a ha
  refine nt_pure (i := 10) (listed' := lb 18 1783) (by kernel_rfl) rfl (by kernel_rfl) (by decide) hpk ha rfl (fun w => ex_move ha) rfl ?_; clear ha; (try clear a); intro a ha
  refine nt_pure (i := 11) (listed' := lb 18 3831) (by kernel_rfl) rfl (by kernel_rfl) (by decide) hpk ha rfl (fun w => ex_move ha) rfl ?_; clear ha; (try clear a); intro a ha
  refine nt_held (i := 3) (listed' := lb 18 3839) (by kernel_rfl) rfl (by kernel_rfl) hpk ha rfl (fun w hc => ex_load1 ha Try.underlying37 rfl (hc.cell (hs.rd1 rfl))) hC rfl ?_; clear ha; (try clear a); intro a ha
  refine nt_one (i := 8) (listed' := lb 18 4095) (by kernel_rfl) (by kernel_rfl) rfl (st_set ha rfl (ex_load1 ha Try.underlying37 rfl (hs.rd1 rfl)) rfl ?_); clear ha; (try clear a); intro a ha
  refine ⟨fun _ => hC, ?_⟩
  refine nt_pure (i := 12) (listed' := lb 18 8191) (by kernel_rfl) rfl (by kernel_rfl) (by decide) hpk ha rfl (fun w => ex_indexAddr ha Try.underlying37 Ty.t42 (by omega)) rfl ?_; clear ha; (try clear a); intro a ha
  refine nt_pure (i := 13) (listed' := lb 18 16383) (by kernel_rfl) rfl (by kernel_rfl) (by decide) hpk ha rfl (fun w => ex_fieldAddr (k := 3) ha Try.underlying42 rfl Ty.t3 rfl) rfl ?_; clear ha; (try clear a); intro a ha
  refine nt_one (i := 14) (listed' := lb 18 32767) (by kernel_rfl) (by kernel_rfl) rfl (st_store ha rfl hs Ty.t3 rfl (by simp only [List.length_append]; omega) ?_); clear ha hs; (try clear a); (try clear w); intro a w ha hs
  refine ⟨fun h => absurd h (by decide), ?_⟩
  rw [show pre.length + k * 5 + 3 = pre.length + (k * 5 + 3) from by omega, set_mid (by omega), rows_set1 brc_len xs ({ x with done := d }, ax, cx) hkx (by decide) (by rw [hxe]; rfl)] at hs
  refine nt_pure (i := 15) (listed' := lb 18 65535) (by kernel_rfl) rfl (by kernel_rfl) (by decide) hpk ha rfl (fun w => ex_indexAddr ha Try.underlying37 Ty.t42 (by omega)) rfl ?_; clear ha; (try clear a); intro a ha
  refine nt_pure (i := 16) (listed' := lb 18 131071) (by kernel_rfl) rfl (by kernel_rfl) (by decide) hpk ha rfl (fun w => ex_fieldAddr (k := 4) ha Try.underlying42 rfl Ty.t30 rfl) rfl ?_; clear ha; (try clear a); intro a ha
  refine nt_one (i := 17) (listed' := lb 18 262143) (by kernel_rfl) (by kernel_rfl) rfl (st_store ha rfl hs Ty.t30 rfl (by simp only [List.length_append, rows_len brc_len, List.length_set]; omega) ?_); clear ha hs; (try clear a); (try clear w); intro a w ha hs
  refine ⟨fun h => absurd h (by decide), ?_⟩
  rw [show pre.length + k * 5 + 4 = pre.length + (k * 5 + 4) from by omega, set_mid (by simp only [rows_len brc_len, List.length_set]; omega), rows_set1 brc_len _ ({ x with done := d, snap := px.id }, ax, cx) (by rw [List.length_set]; exact hkx) (by decide) (by rw [List.getElem_set_self]; rfl), List.set_set] at hs
  refine nt_done (by kernel_rfl) ?_ _
  refine then_n ?_
  refine wp_seq ?_
  refine wp_region_lit ?_
  replace ha := ha.del 8
  refine wpList_k (st_set ha rfl (ex_assign ha) rfl ?_); clear ha; (try clear a); intro a ha
  refine wpList_nil ?_
  refine then_n ?_
  refine wp_ret ?_
  refine ret1 ha rfl ?_
  refine ⟨rfl, ?_⟩
  have h7 := St.slShut (n := T.l.length) (c := c) (sz := 5) (cs := rows brc (xs.set k ({ x with done := d, snap := px.id }, ax, cx))) (hs.bring b') (by rw [rows_len brc_len, List.length_set, hxl]) h4 h6
  have h8 := (h7.pick (All bro xs)).allOut hkx
  rw [hxe] at h8
  have h9 : St W w (bro ({ x with done := d, snap := px.id }, ax, cx) :: All bro (xs.eraseIdx k) :: _) := h8
  have h10 := St.allPut hkx h9
  exact Tree.close (T := T.pub k x d px.id) (ad := some ⟨b', pre.length, none⟩) (c := c) (xs := xs.set k ({ x with done := d, snap := px.id }, ax, cx)) (n := T.l.length) (most := T.most) (last := T.last) (epoch := T.epoch) h10 (by rw [List.map_set, h1]; rfl) (hw.pub hx hd2) rfl (by simp [Tr.pub]) rfl rfl

/-! Best. -/
def bestStep (frm : Int) (p : List (List UInt8)) (b : Br) (x : Br) : Br := if x.frm = frm ∧ b.done < x.done ∧ x.done ≤ p.length ∧ alikeP (x.press.take x.done) p = true then x else b
def br0 : Br := ⟨0, 0, [], 0, 0⟩
def Tr.best (T : Tr) (frm : Int) (p : List (List UInt8)) : Br := T.l.foldl (bestStep frm p) br0
theorem best_succ {l : List Br} {frm : Int} (h : l[k]? = some x) : (l.take (k + 1)).foldl (bestStep frm p) br0 = bestStep frm p ((l.take k).foldl (bestStep frm p) br0) x := by
  obtain ⟨hk, rfl⟩ := List.getElem?_eq_some_iff.1 h
  rw [List.take_succ_eq_append_getElem hk, List.foldl_append]; rfl
theorem tree_best {frm : Int} {ad2 : Option Addr} {c2 : Nat} (hs : St W w (Tree tq sq T :: L)) (hp : ∀ w', St W w' L → RdBB w' ad2 p.length p) (hc : p.length ≤ c2) (hok : OkP p) :
    Calls Try.prog 22 #[.pointer (some ⟨tq, 0, none⟩), .int .i64 frm, .slice ad2 p.length c2] w fun e w' => ∃ ad c, e = .returned (.tuple #[.agg (brC (T.best frm p) ad c).toArray, .bool (decide (0 < (T.best frm p).done))]) ∧ St W w' (Tree tq sq T :: L) := by
  have hw := Tree.wt hs
  have hT := hw.most
  refine calls_enter Try.func22 rfl Try.ntmps22 (Nat.le_of_ble_eq_true rfl) ?_
  intro a ha
  replace ha : Fr a 52 [(0, _), (1, _), (2, _)] := ha
  refine wp_seq ?_
  refine wp_region_lit ?_
  refine wpList_k (st_alloc ha rfl hs Ty.t42 rfl ?_); clear ha hs; (try clear a); (try clear w); intro b6 a w ha hs ho
  clear ho
  change St W w (blk b6 42 (brC br0 none 0) :: _) at hs
  refine wpList_k (st_set ha rfl (ex_assign ha) rfl ?_); clear ha; (try clear a); intro a ha
  refine wpList_nil ?_
  refine then_n ?_
  refine wp_seq ?_
  refine wp_region_lit ?_
  refine wpList_k (st_set ha rfl (ex_build ha Ty.b42 Ty.t42 rfl) rfl ?_); clear ha; (try clear a); intro a ha
  refine wpList_k (st_alloc ha rfl hs Ty.t42 rfl ?_); clear ha hs; (try clear a); (try clear w); intro b8 a w ha hs ho
  clear ho
  refine wpList_k (st_storeAll ha rfl hs Ty.t42 (brC_one br0 none 0) (by rfl) ?_); clear ha hs; (try clear a); (try clear w); intro a w ha hs
  change St W w (blk b8 42 (brC ((T.l.take 0).foldl (bestStep frm p) br0) none 0) :: _) at hs
  refine wpList_nil ?_
  refine then_n ?_
  refine wp_seq ?_
  refine wp_seq ?_
  refine wp_region_lit ?_
  refine wpList_k (st_set ha rfl (ex_move ha) rfl ?_); clear ha; (try clear a); intro a ha
  refine wpList_k (st_call ha rfl Ty.c15 rfl (tree_all (hs.tree tq)) ?_); clear ha hs
  rintro e w ⟨ad, c, rfl, hs⟩
  refine ⟨_, rfl, ?_⟩
  intro a ha
  obtain ⟨xs, h1, h2, hs⟩ := OwnBr.open hs
  have hxl : xs.length = T.l.length := by rw [← h1, List.length_map]
  refine wpList_k (st_set ha rfl (ex_len ha Try.underlying37) rfl ?_); clear ha; (try clear a); intro a ha
  refine wpList_k (st_set ha rfl (ex_move ha) rfl ?_); clear ha; (try clear a); intro a ha
  refine wpList_nil ?_
  refine then_n ?_
  refine wp_block ?_
  refine wp_loop_ghost (fun μ a w => ∃ (k : Nat) (ab : Option Addr) (cb : Nat), (μ = T.l.length - k ∧ k ≤ T.l.length) ∧ Fr a 52 [(1, .int .i64 frm), (2, .slice ad2 p.length c2), (6, .pointer (some ⟨b6, 0, none⟩)), (8, .pointer (some ⟨b8, 0, none⟩)), (13, .slice ad T.l.length c), (14, .int .i64 T.l.length), (15, .int .i64 k)] ∧ St W w (blk b8 42 (brC ((T.l.take k).foldl (bestStep frm p) br0) ab cb) :: Sl 42 5 ad T.l.length c (rows brc xs) :: All bro xs :: Tree tq sq T :: blk b6 42 (brC br0 none 0) :: L)) (T.l.length) ?_ ?_
  · exact ⟨0, none, 0, ⟨by simp, by simp⟩, ha.keep [1, 2, 6, 8, 13, 14, 15], hs.sub⟩
  ·
    clear ha hs
    rintro μ a w ⟨k, ab, cb, ⟨rfl, hk⟩, ha, hs⟩
    refine wp_seq ?_
    refine wp_region_lit ?_
    refine wpList_k (st_set ha rfl (ex_lss ha) rfl ?_); clear ha; (try clear a); intro a ha
    refine wpList_nil ?_
    refine then_n ?_
    refine wp_seq ?_
    refine wp_if ha (fun hc0 => ?_) (fun hc0 => ?_)
    ·
      try simp only [decide_eq_true_eq, decide_eq_false_iff_not, Bool.not_eq_true', Bool.not_eq_false', Int.not_lt, Int.not_le, ne_eq, Decidable.not_not] at hc0
      refine wp_skip ?_
      refine then_n ?_
      refine wp_seq ?_
      refine wp_block ?_
      refine wp_seq ?_
      obtain ⟨b', off', rfl, hrd⟩ := hs.slRd ad (by omega)
      obtain ⟨⟨x, ax, cx⟩, hxx⟩ : ∃ y, xs[k]? = some y := ⟨_, List.getElem?_eq_getElem (by omega)⟩
      have hrk := row_rd hrd hxx
      have hTx : T.l[k]? = some x := by rw [← h1, List.getElem?_map, hxx]; rfl
      have hox := hw.ok x (List.mem_of_getElem? hTx)
      have hbs := best_succ (frm := frm) (p := p) hTx
      obtain ⟨B, hB⟩ : ∃ B, (T.l.take k).foldl (bestStep frm p) br0 = B := ⟨_, rfl⟩
      rw [hB] at hs hbs
      refine wp_region_lit ?_
      refine wpList_k (st_set ha rfl (ex_indexAddr ha Try.underlying37 Ty.t42 (by omega)) rfl ?_); clear ha; (try clear a); intro a ha
      refine wpList_k (st_set ha rfl (ex_loadN ha Try.underlying42 rfl Ty.t42 (hrk)) rfl ?_); clear ha; (try clear a); intro a ha
      refine wpList_k (st_alloc ha rfl hs Ty.t42 rfl ?_); clear ha hs; (try clear a); (try clear w); intro b10 a w ha hs ho
      clear ho
      refine wpList_k (st_storeAll ha rfl hs Ty.t42 (brC_one x ax cx) (by rfl) ?_); clear ha hs; (try clear a); (try clear w); intro a w ha hs
      refine wpList_nil ?_
      refine then_n ?_
      refine wp_seq ?_
      refine wp_region_lit ?_
      refine wpList_k (st_set ha rfl (ex_fieldAddr (k := 1) ha Try.underlying42 rfl Ty.t3 rfl) rfl ?_); clear ha; (try clear a); intro a ha
      refine wpList_k (st_set ha rfl (ex_load1 ha Try.underlying3 rfl (hs.rd1 rfl)) rfl ?_); clear ha; (try clear a); intro a ha
      refine wpList_k (st_set ha rfl (ex_move ha) rfl ?_); clear ha; (try clear a); intro a ha
      refine wpList_k (st_set ha rfl (ex_eql ha) rfl ?_); clear ha; (try clear a); intro a ha
      refine wpList_k (st_set ha rfl (ex_move ha) rfl ?_); clear ha; (try clear a); intro a ha
      refine ha.bool (s := 23) (fun hg4 ha => ?_) (fun hg4 ha => ?_)
      ·
        try simp only [decide_eq_true_eq, decide_eq_false_iff_not, Bool.not_eq_true', Bool.not_eq_false', Int.not_lt, Int.not_le, ne_eq, Decidable.not_not] at hg4
        refine wpList_k (st_set ha (wgT ha rfl (s := 23)) (ex_fieldAddr (k := 3) ha Try.underlying42 rfl Ty.t3 rfl) rfl ?_); clear ha; (try clear a); intro a ha
        refine wpList_k (st_set ha (wgT ha rfl (s := 23)) (ex_load1 ha Try.underlying3 rfl (hs.rd1 rfl)) rfl ?_); clear ha; (try clear a); intro a ha
        refine wpList_k (st_set ha (wgT ha rfl (s := 23)) (ex_fieldAddr (k := 3) ha Try.underlying42 rfl Ty.t3 rfl) rfl ?_); clear ha; (try clear a); intro a ha
        refine wpList_k (st_set ha (wgT ha rfl (s := 23)) (ex_load1 ha Try.underlying3 rfl (hs.rd1 rfl)) rfl ?_); clear ha; (try clear a); intro a ha
        refine wpList_k (st_set ha (wgT ha rfl (s := 23)) (ex_gtr ha) rfl ?_); clear ha; (try clear a); intro a ha
        refine wpList_k (st_set ha rfl (ex_pickT ha) rfl ?_); clear ha; (try clear a); intro a ha
        refine wpList_k (st_set ha rfl (ex_move ha) rfl ?_); clear ha; (try clear a); intro a ha
        refine ha.bool (s := 30) (fun hg11 ha => ?_) (fun hg11 ha => ?_)
        ·
          try simp only [decide_eq_true_eq, decide_eq_false_iff_not, Bool.not_eq_true', Bool.not_eq_false', Int.not_lt, Int.not_le, ne_eq, Decidable.not_not] at hg11
          refine wpList_k (st_set ha (wgT ha rfl (s := 30)) (ex_fieldAddr (k := 3) ha Try.underlying42 rfl Ty.t3 rfl) rfl ?_); clear ha; (try clear a); intro a ha
          refine wpList_k (st_set ha (wgT ha rfl (s := 30)) (ex_load1 ha Try.underlying3 rfl (hs.rd1 rfl)) rfl ?_); clear ha; (try clear a); intro a ha
          refine wpList_k (st_set ha (wgT ha rfl (s := 30)) (ex_move ha) rfl ?_); clear ha; (try clear a); intro a ha
          refine wpList_k (st_set ha (wgT ha rfl (s := 30)) (ex_len ha Try.underlying23) rfl ?_); clear ha; (try clear a); intro a ha
          refine wpList_k (st_set ha (wgT ha rfl (s := 30)) (ex_leq ha) rfl ?_); clear ha; (try clear a); intro a ha
          refine wpList_k (st_set ha rfl (ex_pickT ha) rfl ?_); clear ha; (try clear a); intro a ha
          refine wpList_k (st_set ha rfl (ex_move ha) rfl ?_); clear ha; (try clear a); intro a ha
          refine ha.bool (s := 37) (fun hg18 ha => ?_) (fun hg18 ha => ?_)
          ·
            try simp only [decide_eq_true_eq, decide_eq_false_iff_not, Bool.not_eq_true', Bool.not_eq_false', Int.not_lt, Int.not_le, ne_eq, Decidable.not_not] at hg18
            refine wpList_k (st_set ha (wgT ha rfl (s := 37)) (ex_fieldAddr (k := 2) ha Try.underlying42 rfl Ty.t23 rfl) rfl ?_); clear ha; (try clear a); intro a ha
            refine wpList_k (st_set ha (wgT ha rfl (s := 37)) (ex_load1 ha Try.underlying23 rfl (hs.rd1 rfl)) rfl ?_); clear ha; (try clear a); intro a ha
            refine wpList_k (st_set ha (wgT ha rfl (s := 37)) (ex_fieldAddr (k := 3) ha Try.underlying42 rfl Ty.t3 rfl) rfl ?_); clear ha; (try clear a); intro a ha
            refine wpList_k (st_set ha (wgT ha rfl (s := 37)) (ex_load1 ha Try.underlying3 rfl (hs.rd1 rfl)) rfl ?_); clear ha; (try clear a); intro a ha
            have hrx := All.rdBB (hs.pick (All bro xs)) hxx
            have hl5 := hox.2.1
            refine wpList_k (st_set ha (wgT ha rfl (s := 37)) (ex_sliceH ha Try.underlying23 Ty.t48 (by omega)) rfl ?_); clear ha; (try clear a); intro a ha
            rw [cutAd_zero, Nat.sub_zero, Nat.sub_zero] at ha
            rw [show Value.slice ax x.done cx = Value.slice ax (x.press.take x.done).length cx from by rw [List.length_take, Nat.min_eq_left hl5]] at ha
            refine wpList_k (st_set ha (wgT ha rfl (s := 37)) (ex_move ha) rfl ?_); clear ha; (try clear a); intro a ha
            refine wpList_k (st_call ha (wgT ha rfl (s := 37)) Ty.c39 rfl (alike_spec (u := x.press.take x.done) (v := p) (ad := ax) (c := cx) hs (by
              have := hrx.1.take hl5
              rwa [show (x.press.take x.done).length = x.done from by rw [List.length_take]; omega]) (hp _ hs.sub) (by rw [List.length_take]; omega) hc (by rw [List.length_take]; have := hox.1.1; omega)) ?_); clear ha hs
            rintro e w ⟨rfl, hs⟩
            refine ⟨_, rfl, ?_⟩
            intro a ha
            refine wpList_k (st_set ha rfl (ex_pickT ha) rfl ?_); clear ha; (try clear a); intro a ha
            refine wpList_nil ?_
            refine then_n ?_
            refine wp_if ha (fun hc1 => ?_) (fun hc1 => ?_)
            ·
              try simp only [decide_eq_true_eq, decide_eq_false_iff_not, Bool.not_eq_true', Bool.not_eq_false', Int.not_lt, Int.not_le, ne_eq, Decidable.not_not] at hc1
              have hbs2 : bestStep frm p B x = x := if_pos ⟨by omega, by omega, by omega, hc1⟩
              refine wp_region_lit ?_
              refine wpList_k (st_set ha rfl (ex_loadN ha Try.underlying42 rfl Ty.t42 (hs.rdAll)) rfl ?_); clear ha; (try clear a); intro a ha
              refine wpList_k (st_storeAll ha rfl hs Ty.t42 (brC_one x ax cx) (by rfl) ?_); clear ha hs; (try clear a); (try clear w); intro a w ha hs
              refine wpList_nil ?_
              refine blk_n <| then_n ?_
              refine wp_region_lit ?_
              refine wpList_k (st_set ha rfl (ex_addI ha (by omega) (by omega)) rfl ?_); clear ha; (try clear a); intro a ha
              replace ha := ha.del 15
              refine wpList_k (st_set ha rfl (ex_move ha) rfl ?_); clear ha; (try clear a); intro a ha
              refine wpList_nil ?_
              refine then_n ?_
              exact ⟨T.l.length - (k + 1), by omega, k + 1, _, _, ⟨rfl, by omega⟩, ha.keep [1, 2, 6, 8, 13, 14, 15], by rw [hbs, hbs2]; exact hs.sub (M := blk b8 42 (brC x ax cx) :: Sl 42 5 (some ⟨b', off', none⟩) T.l.length c (rows brc xs) :: All bro xs :: Tree tq sq T :: blk b6 42 (brC br0 none 0) :: L)⟩
            ·
              try simp only [decide_eq_true_eq, decide_eq_false_iff_not, Bool.not_eq_true', Bool.not_eq_false', Int.not_lt, Int.not_le, ne_eq, Decidable.not_not] at hc1
              have hbs2 : bestStep frm p B x = B := if_neg (fun h => by rw [h.2.2.2] at hc1; cases hc1)
              refine wp_skip ?_
              refine blk_n <| then_n ?_
              refine wp_region_lit ?_
              refine wpList_k (st_set ha rfl (ex_addI ha (by omega) (by omega)) rfl ?_); clear ha; (try clear a); intro a ha
              replace ha := ha.del 15
              refine wpList_k (st_set ha rfl (ex_move ha) rfl ?_); clear ha; (try clear a); intro a ha
              refine wpList_nil ?_
              refine then_n ?_
              exact ⟨T.l.length - (k + 1), by omega, k + 1, _, _, ⟨rfl, by omega⟩, ha.keep [1, 2, 6, 8, 13, 14, 15], by rw [hbs, hbs2]; exact hs.sub (M := blk b8 42 (brC B ab cb) :: Sl 42 5 (some ⟨b', off', none⟩) T.l.length c (rows brc xs) :: All bro xs :: Tree tq sq T :: blk b6 42 (brC br0 none 0) :: L)⟩
          ·
            try simp only [decide_eq_true_eq, decide_eq_false_iff_not, Bool.not_eq_true', Bool.not_eq_false', Int.not_lt, Int.not_le, ne_eq, Decidable.not_not] at hg18
            have hbs2 : bestStep frm p B x = B := if_neg (by omega)
            refine wpList_k (st_off ha (wgF ha rfl (s := 37) rfl) rfl ?_); clear ha; (try clear a); intro a ha
            refine wpList_k (st_off ha (wgF ha rfl (s := 37) rfl) rfl ?_); clear ha; (try clear a); intro a ha
            refine wpList_k (st_off ha (wgF ha rfl (s := 37) rfl) rfl ?_); clear ha; (try clear a); intro a ha
            refine wpList_k (st_off ha (wgF ha rfl (s := 37) rfl) rfl ?_); clear ha; (try clear a); intro a ha
            have hrx := All.rdBB (hs.pick (All bro xs)) hxx
            have hl5 := hox.2.1
            refine wpList_k (st_off ha (wgF ha rfl (s := 37) rfl) rfl ?_); clear ha; (try clear a); intro a ha
            refine wpList_k (st_off ha (wgF ha rfl (s := 37) rfl) rfl ?_); clear ha; (try clear a); intro a ha
            refine wpList_k (st_off ha (wgF ha rfl (s := 37) rfl) rfl ?_); clear ha; (try clear a); intro a ha
            refine wpList_k (st_set ha rfl (ex_pickF ha) rfl ?_); clear ha; (try clear a); intro a ha
            refine wpList_nil ?_
            refine then_n ?_
            refine wp_ifF ha ?_
            refine wp_skip ?_
            refine blk_n <| then_n ?_
            refine wp_region_lit ?_
            refine wpList_k (st_set ha rfl (ex_addI ha (by omega) (by omega)) rfl ?_); clear ha; (try clear a); intro a ha
            replace ha := ha.del 15
            refine wpList_k (st_set ha rfl (ex_move ha) rfl ?_); clear ha; (try clear a); intro a ha
            refine wpList_nil ?_
            refine then_n ?_
            exact ⟨T.l.length - (k + 1), by omega, k + 1, _, _, ⟨rfl, by omega⟩, ha.keep [1, 2, 6, 8, 13, 14, 15], by rw [hbs, hbs2]; exact hs.sub (M := blk b8 42 (brC B ab cb) :: Sl 42 5 (some ⟨b', off', none⟩) T.l.length c (rows brc xs) :: All bro xs :: Tree tq sq T :: blk b6 42 (brC br0 none 0) :: L)⟩
        ·
          try simp only [decide_eq_true_eq, decide_eq_false_iff_not, Bool.not_eq_true', Bool.not_eq_false', Int.not_lt, Int.not_le, ne_eq, Decidable.not_not] at hg11
          have hbs2 : bestStep frm p B x = B := if_neg (by omega)
          refine wpList_k (st_off ha (wgF ha rfl (s := 30) rfl) rfl ?_); clear ha; (try clear a); intro a ha
          refine wpList_k (st_off ha (wgF ha rfl (s := 30) rfl) rfl ?_); clear ha; (try clear a); intro a ha
          refine wpList_k (st_off ha (wgF ha rfl (s := 30) rfl) rfl ?_); clear ha; (try clear a); intro a ha
          refine wpList_k (st_off ha (wgF ha rfl (s := 30) rfl) rfl ?_); clear ha; (try clear a); intro a ha
          refine wpList_k (st_off ha (wgF ha rfl (s := 30) rfl) rfl ?_); clear ha; (try clear a); intro a ha
          refine wpList_k (st_set ha rfl (ex_pickF ha) rfl ?_); clear ha; (try clear a); intro a ha
          refine wpList_k (st_set ha rfl (ex_move ha) rfl ?_); clear ha; (try clear a); intro a ha
          refine wpList_k (st_off ha (wgF ha rfl (s := 37) rfl) rfl ?_); clear ha; (try clear a); intro a ha
          refine wpList_k (st_off ha (wgF ha rfl (s := 37) rfl) rfl ?_); clear ha; (try clear a); intro a ha
          refine wpList_k (st_off ha (wgF ha rfl (s := 37) rfl) rfl ?_); clear ha; (try clear a); intro a ha
          refine wpList_k (st_off ha (wgF ha rfl (s := 37) rfl) rfl ?_); clear ha; (try clear a); intro a ha
          have hrx := All.rdBB (hs.pick (All bro xs)) hxx
          have hl5 := hox.2.1
          refine wpList_k (st_off ha (wgF ha rfl (s := 37) rfl) rfl ?_); clear ha; (try clear a); intro a ha
          refine wpList_k (st_off ha (wgF ha rfl (s := 37) rfl) rfl ?_); clear ha; (try clear a); intro a ha
          refine wpList_k (st_off ha (wgF ha rfl (s := 37) rfl) rfl ?_); clear ha; (try clear a); intro a ha
          refine wpList_k (st_set ha rfl (ex_pickF ha) rfl ?_); clear ha; (try clear a); intro a ha
          refine wpList_nil ?_
          refine then_n ?_
          refine wp_ifF ha ?_
          refine wp_skip ?_
          refine blk_n <| then_n ?_
          refine wp_region_lit ?_
          refine wpList_k (st_set ha rfl (ex_addI ha (by omega) (by omega)) rfl ?_); clear ha; (try clear a); intro a ha
          replace ha := ha.del 15
          refine wpList_k (st_set ha rfl (ex_move ha) rfl ?_); clear ha; (try clear a); intro a ha
          refine wpList_nil ?_
          refine then_n ?_
          exact ⟨T.l.length - (k + 1), by omega, k + 1, _, _, ⟨rfl, by omega⟩, ha.keep [1, 2, 6, 8, 13, 14, 15], by rw [hbs, hbs2]; exact hs.sub (M := blk b8 42 (brC B ab cb) :: Sl 42 5 (some ⟨b', off', none⟩) T.l.length c (rows brc xs) :: All bro xs :: Tree tq sq T :: blk b6 42 (brC br0 none 0) :: L)⟩
      ·
        try simp only [decide_eq_true_eq, decide_eq_false_iff_not, Bool.not_eq_true', Bool.not_eq_false', Int.not_lt, Int.not_le, ne_eq, Decidable.not_not] at hg4
        have hbs2 : bestStep frm p B x = B := if_neg (by omega)
        refine wpList_k (st_off ha (wgF ha rfl (s := 23) rfl) rfl ?_); clear ha; (try clear a); intro a ha
        refine wpList_k (st_off ha (wgF ha rfl (s := 23) rfl) rfl ?_); clear ha; (try clear a); intro a ha
        refine wpList_k (st_off ha (wgF ha rfl (s := 23) rfl) rfl ?_); clear ha; (try clear a); intro a ha
        refine wpList_k (st_off ha (wgF ha rfl (s := 23) rfl) rfl ?_); clear ha; (try clear a); intro a ha
        refine wpList_k (st_off ha (wgF ha rfl (s := 23) rfl) rfl ?_); clear ha; (try clear a); intro a ha
        refine wpList_k (st_set ha rfl (ex_pickF ha) rfl ?_); clear ha; (try clear a); intro a ha
        refine wpList_k (st_set ha rfl (ex_move ha) rfl ?_); clear ha; (try clear a); intro a ha
        refine wpList_k (st_off ha (wgF ha rfl (s := 30) rfl) rfl ?_); clear ha; (try clear a); intro a ha
        refine wpList_k (st_off ha (wgF ha rfl (s := 30) rfl) rfl ?_); clear ha; (try clear a); intro a ha
        refine wpList_k (st_off ha (wgF ha rfl (s := 30) rfl) rfl ?_); clear ha; (try clear a); intro a ha
        refine wpList_k (st_off ha (wgF ha rfl (s := 30) rfl) rfl ?_); clear ha; (try clear a); intro a ha
        refine wpList_k (st_off ha (wgF ha rfl (s := 30) rfl) rfl ?_); clear ha; (try clear a); intro a ha
        refine wpList_k (st_set ha rfl (ex_pickF ha) rfl ?_); clear ha; (try clear a); intro a ha
        refine wpList_k (st_set ha rfl (ex_move ha) rfl ?_); clear ha; (try clear a); intro a ha
        refine wpList_k (st_off ha (wgF ha rfl (s := 37) rfl) rfl ?_); clear ha; (try clear a); intro a ha
        refine wpList_k (st_off ha (wgF ha rfl (s := 37) rfl) rfl ?_); clear ha; (try clear a); intro a ha
        refine wpList_k (st_off ha (wgF ha rfl (s := 37) rfl) rfl ?_); clear ha; (try clear a); intro a ha
        refine wpList_k (st_off ha (wgF ha rfl (s := 37) rfl) rfl ?_); clear ha; (try clear a); intro a ha
        have hrx := All.rdBB (hs.pick (All bro xs)) hxx
        have hl5 := hox.2.1
        refine wpList_k (st_off ha (wgF ha rfl (s := 37) rfl) rfl ?_); clear ha; (try clear a); intro a ha
        refine wpList_k (st_off ha (wgF ha rfl (s := 37) rfl) rfl ?_); clear ha; (try clear a); intro a ha
        refine wpList_k (st_off ha (wgF ha rfl (s := 37) rfl) rfl ?_); clear ha; (try clear a); intro a ha
        refine wpList_k (st_set ha rfl (ex_pickF ha) rfl ?_); clear ha; (try clear a); intro a ha
        refine wpList_nil ?_
        refine then_n ?_
        refine wp_ifF ha ?_
        refine wp_skip ?_
        refine blk_n <| then_n ?_
        refine wp_region_lit ?_
        refine wpList_k (st_set ha rfl (ex_addI ha (by omega) (by omega)) rfl ?_); clear ha; (try clear a); intro a ha
        replace ha := ha.del 15
        refine wpList_k (st_set ha rfl (ex_move ha) rfl ?_); clear ha; (try clear a); intro a ha
        refine wpList_nil ?_
        refine then_n ?_
        exact ⟨T.l.length - (k + 1), by omega, k + 1, _, _, ⟨rfl, by omega⟩, ha.keep [1, 2, 6, 8, 13, 14, 15], by rw [hbs, hbs2]; exact hs.sub (M := blk b8 42 (brC B ab cb) :: Sl 42 5 (some ⟨b', off', none⟩) T.l.length c (rows brc xs) :: All bro xs :: Tree tq sq T :: blk b6 42 (brC br0 none 0) :: L)⟩
    ·
      try simp only [decide_eq_true_eq, decide_eq_false_iff_not, Bool.not_eq_true', Bool.not_eq_false', Int.not_lt, Int.not_le, ne_eq, Decidable.not_not] at hc0
      refine wp_exit ?_
      refine then_e <| then_e <| blk_e ?_
      refine then_n ?_
      refine wp_seq ?_
      obtain rfl : k = T.l.length := by omega
      rw [List.take_length] at hs
      rw [show T.l.foldl (bestStep frm p) br0 = T.best frm p from rfl] at hs
      refine wp_draw (m := 6) (l0 := lb 6 0) (fun w' => Rd w' b8 0 (brC (T.best frm p) ab cb)) [2, 3, 4] Ty.mixed (by kernel_rfl) (by kernel_rfl) (pk_then pk_body) (fun hpk => ?_)
      replace hs := hs.drew
      generalize w.drew = w at hs hpk ⊢
      have hC : Rd w b8 0 (brC (T.best frm p) ab cb) := hs.rdAll
      refine nt_pure (i := 1) (listed' := lb 6 2) (by kernel_rfl) rfl (by kernel_rfl) (by decide) hpk ha rfl (fun w => ex_fieldAddr (k := 3) ha Try.underlying42 rfl Ty.t3 rfl) rfl ?_; clear ha; (try clear a); intro a ha
      refine nt_held (i := 0) (listed' := lb 6 3) (by kernel_rfl) rfl (by kernel_rfl) hpk ha rfl (fun w hc => ex_loadN ha Try.underlying42 rfl Ty.t42 (hc)) hC rfl ?_; clear ha; (try clear a); intro a ha
      refine nt_held (i := 2) (listed' := lb 6 7) (by kernel_rfl) rfl (by kernel_rfl) hpk ha rfl (fun w hc => ex_load1 ha Try.underlying3 rfl (hc 3 _ rfl)) hC rfl ?_; clear ha; (try clear a); intro a ha
      refine nt_held (i := 3) (listed' := lb 6 15) (by kernel_rfl) rfl (by kernel_rfl) hpk ha rfl (fun w hc => ex_gtr ha) hC rfl ?_; clear ha; (try clear a); intro a ha
      refine nt_one (i := 4) (listed' := lb 6 31) (by kernel_rfl) (by kernel_rfl) rfl (st_storeAll ha rfl hs Ty.t42 (brC_one (T.best frm p) ab cb) (by rfl) ?_); clear ha hs; (try clear a); (try clear w); intro a w ha hs
      replace hC : (fun w' => Rd w' b8 0 (brC (T.best frm p) ab cb)) w := hs.rdAll
      refine ⟨fun _ => hC, ?_⟩
      refine nt_pure (i := 5) (listed' := lb 6 63) (by kernel_rfl) rfl (by kernel_rfl) (by decide) hpk ha rfl (fun w => ex_assign ha) rfl ?_; clear ha; (try clear a); intro a ha
      refine nt_done (by kernel_rfl) ?_ _
      refine then_n ?_
      refine wp_ret ?_
      refine retC2 ha rfl (run_loadN Try.underlying42 rfl Ty.t42 (hs.rdAll (b := b6))) ?_
      refine ⟨ab, cb, ?_, hs.sub⟩
      rw [show decide ((0 : Int) < ((T.best frm p).done : Int)) = decide (0 < (T.best frm p).done) from by rw [decide_eq_decide]; omega]

/-! drop: Prune, Clear. -/
def Tr.cut (T : Tr) (wh : Br → Bool) : Tr := { T with l := T.l.filter (fun x => !wh x), epoch := T.epoch + if (T.l.filter (fun x => !wh x)).length < T.l.length then 1 else 0 }
def Sn.dropAll (A : Sn) (l : List Br) : Sn := l.foldl (fun A x => A.dropId x.snap) A
theorem dropAll_succ {A : Sn} {l : List Br} {wh : Br → Bool} (h : l[k]? = some x) : A.dropAll ((l.take (k + 1)).filter wh) = if wh x = true then (A.dropAll ((l.take k).filter wh)).dropId x.snap else A.dropAll ((l.take k).filter wh) := by
  obtain ⟨hk, rfl⟩ := List.getElem?_eq_some_iff.1 h
  rw [List.take_succ_eq_append_getElem hk, List.filter_append]
  by_cases hw : wh l[k] = true
  · rw [if_pos hw, Sn.dropAll, List.foldl_append]; simp [hw, Sn.dropAll]
  · rw [if_neg hw]; simp [hw]
theorem filter_succ {α : Type} {l : List α} {f : α → Bool} {z : α} (h : l[k]? = some z) : (l.take (k + 1)).filter f = (l.take k).filter f ++ if f z = true then [z] else [] := by
  obtain ⟨hk, rfl⟩ := List.getElem?_eq_some_iff.1 h
  rw [List.take_succ_eq_append_getElem hk, List.filter_append]
  by_cases hw : f l[k] = true <;> simp [hw]
theorem map_filter_fst (xs : List Bx) (f : Br → Bool) : (xs.filter (fun z => f z.1)).map (·.1) = (xs.map (·.1)).filter f := by
  induction xs with
  | nil => rfl
  | cons z xs ih =>
    by_cases h : f z.1 = true <;> simp [h] at ih ⊢ <;> exact ih
theorem WT.cut (h : WT T) (he : T.epoch + 1 < 1099511627776) (wh : Br → Bool) : WT (T.cut wh) := by
  obtain ⟨a1, a2, a3, a4, a5⟩ := h
  refine ⟨⟨a1.1, ?_⟩, a2, ?_, ?_, fun y hy => ?_⟩
  · simp only [Tr.cut]; exact Nat.le_trans (List.length_filter_le _ _) a1.2
  · simp only [Tr.cut]; split <;> omega
  · simp only [Tr.cut]
    exact a4.sublist (List.Sublist.map _ List.filter_sublist)
  · simp only [Tr.cut] at hy ⊢
    exact a5 y (List.mem_filter.1 hy).1
theorem drop_nil {f : Value} (hs : St W w L) : Calls Try.prog 42 #[.pointer none, f] w fun e w' => e = .returned (.int .i64 0) ∧ St W w' L := by
  refine calls_enter Try.func42 rfl Try.ntmps42 (Nat.le_of_ble_eq_true rfl) ?_
  intro a ha
  replace ha : Fr a 59 [(0, _), (1, _)] := ha
  refine wp_seq ?_
  refine wp_region_lit ?_
  refine wpList_k (st_set ha rfl (ex_assign ha) rfl ?_); clear ha; (try clear a); intro a ha
  refine wpList_nil ?_
  refine then_n ?_
  refine wp_seq ?_
  refine wp_seq ?_
  refine wp_region_lit ?_
  refine wpList_k (st_set ha rfl (ex_move ha) rfl ?_); clear ha; (try clear a); intro a ha
  refine wpList_k (st_set ha rfl (ex_eqnil ha Try.underlying28) rfl ?_); clear ha; (try clear a); intro a ha
  refine wpList_nil ?_
  refine then_n ?_
  refine wp_ifT ha ?_
  refine wp_seq ?_
  refine wp_region_lit ?_
  replace ha := ha.del 4
  refine wpList_k (st_set ha rfl (ex_assign ha) rfl ?_); clear ha; (try clear a); intro a ha
  refine wpList_nil ?_
  refine then_n ?_
  refine wp_ret <| then_r ?_
  refine ret1 ha rfl ?_
  exact ⟨rfl, hs⟩
set_option maxHeartbeats 1000000 in
theorem tree_drop {wh : Br → Bool} {f : Nat} {us : List Value} (hs : St W w (Tree tq sq T :: Store sq r A :: L)) (he : T.epoch + 1 < 1099511627776) (hcl : callable Try.prog f = true)
    (hf : ∀ (M : List SP) (w' : World) (x : Br) (ad' : Option Addr) (c' : Nat), St W w' M → (∀ w'', St W w'' M → St W w'' L) → RdBB w' ad' x.press.length x.press → x.press.length ≤ c' → OkP x.press →
      Calls Try.prog f (List.toArray (.agg (brC x ad' c').toArray :: us)) w' fun e w'' => e = .returned (.bool (wh x)) ∧ St W w'' M) :
    Calls Try.prog 42 #[.pointer (some ⟨tq, 0, none⟩), .func (.func f) #[] (List.toArray us)] w fun e w' => e = .returned (.int .i64 ((T.l.length - (T.l.filter (fun x => !wh x)).length : Nat) : Int)) ∧
      St W w' (Tree tq sq (T.cut wh) :: Store sq r (A.dropAll (T.l.filter wh)) :: L) := by
  obtain ⟨ad, c, xs, h1, hw, hs⟩ := Tree.open hs
  have hxl : xs.length = T.l.length := by rw [← h1, List.length_map]
  have hT := hw.most
  have hfl := List.length_filter_le (fun x => !wh x) T.l
  refine calls_enter Try.func42 rfl Try.ntmps42 (Nat.le_of_ble_eq_true rfl) ?_
  intro a ha
  replace ha : Fr a 59 [(0, _), (1, _)] := ha
  refine wp_seq ?_
  refine wp_region_lit ?_
  refine wpList_k (st_set ha rfl (ex_assign ha) rfl ?_); clear ha; (try clear a); intro a ha
  refine wpList_nil ?_
  refine then_n ?_
  refine wp_seq ?_
  refine wp_seq ?_
  refine wp_region_lit ?_
  refine wpList_k (st_set ha rfl (ex_move ha) rfl ?_); clear ha; (try clear a); intro a ha
  refine wpList_k (st_set ha rfl (ex_eqnil ha Try.underlying28) rfl ?_); clear ha; (try clear a); intro a ha
  refine wpList_nil ?_
  refine then_n ?_
  refine wp_ifF ha ?_
  refine wp_skip ?_
  refine then_n ?_
  refine wp_seq ?_
  refine wp_region_lit ?_
  refine wpList_k (st_set ha rfl (ex_move ha) rfl ?_); clear ha; (try clear a); intro a ha
  refine wpList_k (st_set ha rfl (ex_nilCheck ha) rfl ?_); clear ha; (try clear a); intro a ha
  refine wpList_k (st_set ha rfl (ex_fieldAddr (k := 2) ha Try.underlying79 rfl Ty.t37 rfl) rfl ?_); clear ha; (try clear a); intro a ha
  refine wpList_k (st_set ha rfl (ex_load1 ha Try.underlying37 rfl (hs.rd1 rfl)) rfl ?_); clear ha; (try clear a); intro a ha
  refine wpList_k (st_set ha rfl (ex_len ha Try.underlying37) rfl ?_); clear ha; (try clear a); intro a ha
  refine wpList_k (st_set ha rfl (ex_assign ha) rfl ?_); clear ha; (try clear a); intro a ha
  refine wpList_nil ?_
  refine then_n ?_
  refine wp_seq ?_
  refine wp_region_lit ?_
  refine wpList_k (st_set ha rfl (ex_assign ha) rfl ?_); clear ha; (try clear a); intro a ha
  refine wpList_nil ?_
  replace hs : St W w (Sl 42 5 none 0 0 (rows brc ((xs.take 0).filter (fun z : Bx => !wh z.1))) :: All bro ((xs.take 0).filter (fun z : Bx => !wh z.1)) :: blk tq 79 [.pointer (some ⟨sq, 0, none⟩), .int .i64 T.most, .slice ad T.l.length c, .int .i64 T.last, .int .i64 T.epoch] :: Sl 42 5 ad T.l.length c (rows brc xs) :: All bro (xs.drop 0) :: Store sq r (A.dropAll ((T.l.take 0).filter wh)) :: L) := (hs.allNil (f := bro)).sl0 42 5 none
  refine then_n ?_
  refine wp_seq ?_
  refine wp_seq ?_
  refine wp_region_lit ?_
  refine wpList_k (st_set ha rfl (ex_move ha) rfl ?_); clear ha; (try clear a); intro a ha
  refine wpList_k (st_set ha rfl (ex_nilCheck ha) rfl ?_); clear ha; (try clear a); intro a ha
  refine wpList_k (st_set ha rfl (ex_fieldAddr (k := 2) ha Try.underlying79 rfl Ty.t37 rfl) rfl ?_); clear ha; (try clear a); intro a ha
  refine wpList_k (st_set ha rfl (ex_load1 ha Try.underlying37 rfl (hs.rd1 rfl)) rfl ?_); clear ha; (try clear a); intro a ha
  refine wpList_k (st_set ha rfl (ex_len ha Try.underlying37) rfl ?_); clear ha; (try clear a); intro a ha
  refine wpList_k (st_set ha rfl (ex_move ha) rfl ?_); clear ha; (try clear a); intro a ha
  refine wpList_nil ?_
  refine then_n ?_
  refine wp_block ?_
  refine wp_loop_ghost (fun μ a w => ∃ (k m : Nat) (ad6 : Option Addr) (c6 : Nat), (μ = T.l.length - k ∧ k ≤ T.l.length ∧ m = ((xs.take k).filter (fun z => !wh z.1)).length) ∧ Fr a 59 [(0, .pointer (some ⟨tq, 0, none⟩)), (1, .func (.func f) #[] (List.toArray us)), (5, .int .i64 T.l.length), (6, .slice ad6 m c6), (19, .slice ad T.l.length c), (20, .int .i64 T.l.length), (21, .int .i64 k)] ∧ St W w (Sl 42 5 ad6 m c6 (rows brc ((xs.take k).filter (fun z => !wh z.1))) :: All bro ((xs.take k).filter (fun z => !wh z.1)) :: blk tq 79 [.pointer (some ⟨sq, 0, none⟩), .int .i64 T.most, .slice ad T.l.length c, .int .i64 T.last, .int .i64 T.epoch] :: Sl 42 5 ad T.l.length c (rows brc xs) :: All bro (xs.drop k) :: Store sq r (A.dropAll ((T.l.take k).filter wh)) :: L)) (T.l.length) ?_ ?_
  · exact ⟨0, 0, none, 0, ⟨by simp, by simp, by simp⟩, ha.keep [0, 1, 5, 6, 19, 20, 21], hs.sub⟩
  ·
    clear ha hs
    rintro μ a w ⟨k, m, ad6, c6, ⟨rfl, hk, hm⟩, ha, hs⟩
    refine wp_seq ?_
    refine wp_region_lit ?_
    refine wpList_k (st_set ha rfl (ex_lss ha) rfl ?_); clear ha; (try clear a); intro a ha
    refine wpList_nil ?_
    refine then_n ?_
    refine wp_seq ?_
    refine wp_if ha (fun hc1 => ?_) (fun hc1 => ?_)
    ·
      try simp only [decide_eq_true_eq, decide_eq_false_iff_not, Bool.not_eq_true', Bool.not_eq_false', Int.not_lt, Int.not_le, ne_eq, Decidable.not_not] at hc1
      refine wp_skip ?_
      refine then_n ?_
      refine wp_seq ?_
      refine wp_block ?_
      refine wp_seq ?_
      obtain ⟨b', off', hade, hrd⟩ := hs.slRd (n := T.l.length) (cs := rows brc xs) (R := Sl 42 5 ad6 m c6 (rows brc ((xs.take k).filter (fun z => !wh z.1))) :: All bro ((xs.take k).filter (fun z => !wh z.1)) :: blk tq 79 [.pointer (some ⟨sq, 0, none⟩), .int .i64 T.most, .slice ad T.l.length c, .int .i64 T.last, .int .i64 T.epoch] :: All bro (xs.drop k) :: Store sq r (A.dropAll ((T.l.take k).filter wh)) :: L) (k := ⟨by
          refine List.Perm.trans ?_ (List.perm_middle (l₁ := [_, _, _])); exact List.Perm.refl _⟩) ad (by omega)
      subst hade
      have hkx : k < xs.length := by omega
      obtain ⟨⟨x, ax, cx⟩, hxx⟩ : ∃ y, xs[k]? = some y := ⟨_, List.getElem?_eq_getElem hkx⟩
      have hxe : xs[k] = (x, ax, cx) := (List.getElem?_eq_some_iff.1 hxx).2
      have hrk := row_rd hrd hxx
      have hTx : T.l[k]? = some x := by rw [← h1, List.getElem?_map, hxx]; rfl
      have hox := (hw.ok x (List.mem_of_getElem? hTx)).1
      have hda := dropAll_succ (A := A) (wh := wh) hTx
      have hfs := filter_succ (f := fun z : Bx => !wh z.1) hxx
      replace hs := (hs.pick (All bro (xs.drop k)))
      rw [List.drop_eq_getElem_cons hkx, hxe] at hs
      replace hs := hs.allOut (i := 0) (by simp)
      change St W w (OwnBB ax x.press.length cx x.press :: All bro (xs.drop (k + 1)) :: _) at hs
      have hob := OwnBB.rd hs
      have hol := (OwnBB.le hs).2
      refine wp_region_lit ?_
      refine wpList_k (st_set ha rfl (ex_indexAddr ha Try.underlying37 Ty.t42 (by omega)) rfl ?_); clear ha; (try clear a); intro a ha
      refine wpList_k (st_set ha rfl (ex_loadN ha Try.underlying42 rfl Ty.t42 (hrk)) rfl ?_); clear ha; (try clear a); intro a ha
      refine wpList_k (st_alloc ha rfl hs Ty.t42 rfl ?_); clear ha hs; (try clear a); (try clear w); intro b8 a w ha hs ho
      clear ho
      refine wpList_k (st_storeAll ha rfl hs Ty.t42 (brC_one x ax cx) (by rfl) ?_); clear ha hs; (try clear a); (try clear w); intro a w ha hs
      refine wpList_nil ?_
      refine then_n ?_
      refine wp_seq ?_
      refine wp_seq ?_
      refine wp_region_lit ?_
      refine wpList_k (st_set ha rfl (ex_move ha) rfl ?_); clear ha; (try clear a); intro a ha
      refine wpList_k (st_set ha rfl (ex_loadN ha Try.underlying42 rfl Ty.t42 (hs.rdAll)) rfl ?_); clear ha; (try clear a); intro a ha
      refine wpList_k (st_callvN ha rfl hcl rfl (hf _ _ x ax cx hs (fun w'' h => h.sub) (OwnBB.rd (hs.pick (OwnBB ax x.press.length cx x.press))) hol hox) (by rfl) ?_); clear ha hs
      rintro e w ⟨rfl, hs⟩
      refine ⟨_, rfl, ?_⟩
      intro a ha
      refine wpList_nil ?_
      refine then_n ?_
      refine wp_if ha (fun hc2 => ?_) (fun hc2 => ?_)
      ·
        try simp only [decide_eq_true_eq, decide_eq_false_iff_not, Bool.not_eq_true', Bool.not_eq_false', Int.not_lt, Int.not_le, ne_eq, Decidable.not_not] at hc2
        rw [if_pos hc2] at hda
        rw [show (!wh (x, ax, cx).1) = false from by simp [hc2]] at hfs
        rw [if_neg (by decide), List.append_nil] at hfs
        refine wp_seq ?_
        refine wp_draw (m := 7) (l0 := lb 7 0) (Old w.drew) [5] Ty.mixed (by kernel_rfl) (by kernel_rfl) (pk_then (pk_then (pk_blk (pk_then (pk_then (pk_blk (pk_then pk_body))))))) (fun hpk => ?_)
        replace hs := hs.drew
        have hC := Old.refl w.drew
        generalize w.drew = w at hs hC hpk ⊢
        refine nt_pure (i := 0) (listed' := lb 7 1) (by kernel_rfl) rfl (by kernel_rfl) (by decide) hpk ha rfl (fun w => ex_move ha) rfl ?_; clear ha; (try clear a); intro a ha
        refine nt_pure (i := 1) (listed' := lb 7 3) (by kernel_rfl) rfl (by kernel_rfl) (by decide) hpk ha rfl (fun w => ex_nilCheck ha) rfl ?_; clear ha; (try clear a); intro a ha
        refine nt_pure (i := 2) (listed' := lb 7 7) (by kernel_rfl) rfl (by kernel_rfl) (by decide) hpk ha rfl (fun w => ex_fieldAddr (k := 0) ha Try.underlying79 rfl Ty.t26 rfl) rfl ?_; clear ha; (try clear a); intro a ha
        refine nt_pure (i := 4) (listed' := lb 7 23) (by kernel_rfl) rfl (by kernel_rfl) (by decide) hpk ha rfl (fun w => ex_fieldAddr (k := 4) ha Try.underlying42 rfl Ty.t30 rfl) rfl ?_; clear ha; (try clear a); intro a ha
        refine nt_held (i := 3) (listed' := lb 7 31) (by kernel_rfl) rfl (by kernel_rfl) hpk ha rfl (fun w hc => ex_load1 ha Try.underlying26 rfl (hc.cell (hs.rd1 rfl))) hC rfl ?_; clear ha; (try clear a); intro a ha
        refine nt_one (i := 5) (listed' := lb 7 63) (by kernel_rfl) (by kernel_rfl) rfl (st_set ha rfl (ex_load1 ha Try.underlying30 rfl (hs.rd1 rfl)) rfl ?_); clear ha; (try clear a); intro a ha
        refine ⟨fun _ => hC, ?_⟩
        refine nt_one (i := 6) (listed' := lb 7 127) (by kernel_rfl) (by kernel_rfl) rfl (st_call ha rfl Ty.c30 rfl (snap_dropId (id := x.snap) (hs.pick (Store sq r (A.dropAll ((T.l.take k).filter wh))))) ?_); clear ha hs
        rintro e w ⟨_, rfl, hs⟩
        refine ⟨_, rfl, ?_⟩
        intro a ha
        refine ⟨fun h => absurd h (by decide), ?_⟩
        rw [← hda] at hs
        refine nt_done (by kernel_rfl) ?_ _
        refine then_n ?_
        refine wp_exit ?_
        refine then_e <| blk_e ?_
        refine then_n ?_
        refine wp_region_lit ?_
        refine wpList_k (st_set ha rfl (ex_addI ha (by omega) (by omega)) rfl ?_); clear ha; (try clear a); intro a ha
        replace ha := ha.del 21
        refine wpList_k (st_set ha rfl (ex_move ha) rfl ?_); clear ha; (try clear a); intro a ha
        refine wpList_nil ?_
        refine then_n ?_
        rw [← hfs] at hm hs
        exact ⟨T.l.length - (k + 1), by omega, k + 1, _, _, _, ⟨rfl, by omega, hm⟩, ha.keep [0, 1, 5, 6, 19, 20, 21], hs.sub⟩
      ·
        try simp only [decide_eq_true_eq, decide_eq_false_iff_not, Bool.not_eq_true', Bool.not_eq_false', Int.not_lt, Int.not_le, ne_eq, Decidable.not_not] at hc2
        rw [if_neg (by rw [hc2]; decide)] at hda
        rw [show (!wh (x, ax, cx).1) = true from by simp [hc2]] at hfs
        rw [if_pos rfl] at hfs
        refine wp_skip ?_
        refine then_n ?_
        refine wp_region_lit ?_
        refine wpList_k (st_set ha rfl (ex_move ha) rfl ?_); clear ha; (try clear a); intro a ha
        refine wpList_k (st_set ha rfl (ex_loadN ha Try.underlying42 rfl Ty.t42 (hs.rdAll)) rfl ?_); clear ha; (try clear a); intro a ha
        refine wpList_k (st_buildSlice ha rfl hs Try.underlying37 Ty.t42 rfl rfl rfl rfl (by decide) (by decide) ?_); clear ha hs; (try clear a); (try clear w); intro b37 a w ha hs ho
        clear ho
        obtain ⟨Y, hY⟩ : ∃ Y, (xs.take k).filter (fun z => !wh z.1) = Y := ⟨_, rfl⟩
        rw [hY] at hs hfs hm
        refine wpList_k (st_append ha rfl hs Try.underlying37 Ty.t42 rfl rfl hs.rdAll rfl (by simp [Value.oneCell', brC]) (by decide) (by decide) (by have := List.length_filter_le (fun z : Bx => !wh z.1) (xs.take k); rw [hY, List.length_take] at this; omega) ?_); clear ha hs; (try clear a); (try clear w); intro ad38 c38 a w ha hs
        have h8 := St.allPush (f := bro) (l := Y) (x := (x, ax, cx)) (hs.sub (M := OwnBB ax x.press.length cx x.press :: All bro Y :: Sl 42 5 ad38 (m + 1) c38 (rows brc Y ++ [brC x ax cx].flatten) :: blk tq 79 [.pointer (some ⟨sq, 0, none⟩), .int .i64 T.most, .slice (some ⟨b', off', none⟩) T.l.length c, .int .i64 T.last, .int .i64 T.epoch] :: Sl 42 5 (some ⟨b', off', none⟩) T.l.length c (rows brc xs) :: All bro (xs.drop (k + 1)) :: Store sq r (A.dropAll ((T.l.take k).filter wh)) :: L))
        rw [rows_snocC, ← hfs, ← hda] at h8
        replace hs := h8
        clear h8
        replace ha := ha.del 6
        refine wpList_k (st_set ha rfl (ex_assign ha) rfl ?_); clear ha; (try clear a); intro a ha
        refine wpList_nil ?_
        refine blk_n <| then_n ?_
        refine wp_region_lit ?_
        refine wpList_k (st_set ha rfl (ex_addI ha (by omega) (by omega)) rfl ?_); clear ha; (try clear a); intro a ha
        replace ha := ha.del 21
        refine wpList_k (st_set ha rfl (ex_move ha) rfl ?_); clear ha; (try clear a); intro a ha
        refine wpList_nil ?_
        refine then_n ?_
        exact ⟨T.l.length - (k + 1), by omega, k + 1, _, _, _, ⟨rfl, by omega, by rw [hfs, List.length_append, ← hm]; rfl⟩, ha.keep [0, 1, 5, 6, 19, 20, 21], hs.sub⟩
    ·
      try simp only [decide_eq_true_eq, decide_eq_false_iff_not, Bool.not_eq_true', Bool.not_eq_false', Int.not_lt, Int.not_le, ne_eq, Decidable.not_not] at hc1
      refine wp_exit ?_
      refine then_e <| then_e <| blk_e ?_
      refine then_n ?_
      refine wp_seq ?_
      obtain rfl : k = T.l.length := by omega
      rw [List.take_length, List.take_of_length_le (by omega)] at hs
      rw [List.take_of_length_le (by omega)] at hm
      have hmf := map_filter_fst xs (fun x => !wh x)
      rw [h1] at hmf
      have hmm : m = (T.l.filter (fun x => !wh x)).length := by rw [hm, ← hmf, List.length_map]
      subst hmm
      refine wp_region_lit ?_
      refine wpList_k (st_set ha rfl (ex_move ha) rfl ?_); clear ha; (try clear a); intro a ha
      refine wpList_k (st_set ha rfl (ex_move ha) rfl ?_); clear ha; (try clear a); intro a ha
      refine wpList_k (st_set ha rfl (ex_nilCheck ha) rfl ?_); clear ha; (try clear a); intro a ha
      refine wpList_k (st_set ha rfl (ex_fieldAddr (k := 2) ha Try.underlying79 rfl Ty.t37 rfl) rfl ?_); clear ha; (try clear a); intro a ha
      refine wpList_k (st_store ha rfl hs Ty.t37 rfl (by simp) ?_); clear ha hs; (try clear a); (try clear w); intro a w ha hs
      refine wpList_nil ?_
      refine then_n ?_
      refine wp_seq ?_
      refine wp_seq ?_
      refine wp_region_lit ?_
      refine wpList_k (st_set ha rfl (ex_move ha) rfl ?_); clear ha; (try clear a); intro a ha
      refine wpList_k (st_set ha rfl (ex_len ha Try.underlying37) rfl ?_); clear ha; (try clear a); intro a ha
      refine wpList_k (st_set ha rfl (ex_move ha) rfl ?_); clear ha; (try clear a); intro a ha
      refine wpList_k (st_set ha rfl (ex_lss ha) rfl ?_); clear ha; (try clear a); intro a ha
      refine wpList_nil ?_
      refine then_n ?_
      refine wp_if ha (fun hc3 => ?_) (fun hc3 => ?_)
      ·
        try simp only [decide_eq_true_eq, decide_eq_false_iff_not, Bool.not_eq_true', Bool.not_eq_false', Int.not_lt, Int.not_le, ne_eq, Decidable.not_not] at hc3
        have hlt : (T.l.filter (fun x => !wh x)).length < T.l.length := by omega
        refine wp_region_lit ?_
        refine wpList_k (st_set ha rfl (ex_move ha) rfl ?_); clear ha; (try clear a); intro a ha
        refine wpList_k (st_set ha rfl (ex_nilCheck ha) rfl ?_); clear ha; (try clear a); intro a ha
        refine wpList_k (st_set ha rfl (ex_fieldAddr (k := 4) ha Try.underlying79 rfl Ty.t2 rfl) rfl ?_); clear ha; (try clear a); intro a ha
        refine wpList_k (st_set ha rfl (ex_load1 ha Try.underlying2 rfl (hs.rd1 rfl)) rfl ?_); clear ha; (try clear a); intro a ha
        refine wpList_k (st_set ha rfl (ex_addI ha (by omega) (by omega)) rfl ?_); clear ha; (try clear a); intro a ha
        refine wpList_k (st_set ha rfl (ex_nilCheck ha) rfl ?_); clear ha; (try clear a); intro a ha
        refine wpList_k (st_set ha rfl (ex_fieldAddr (k := 4) ha Try.underlying79 rfl Ty.t2 rfl) rfl ?_); clear ha; (try clear a); intro a ha
        refine wpList_k (st_store ha rfl hs Ty.t2 rfl (by simp) ?_); clear ha hs; (try clear a); (try clear w); intro a w ha hs
        rw [show ((T.epoch : Int) + 1) = ((T.epoch + 1 : Nat) : Int) from rfl] at hs
        refine wpList_nil ?_
        refine then_n ?_
        refine wp_seq ?_
        refine wp_region_lit ?_
        refine wpList_k (st_set ha rfl (ex_move ha) rfl ?_); clear ha; (try clear a); intro a ha
        refine wpList_k (st_set ha rfl (ex_move ha) rfl ?_); clear ha; (try clear a); intro a ha
        refine wpList_k (st_set ha rfl (ex_len ha Try.underlying37) rfl ?_); clear ha; (try clear a); intro a ha
        refine wpList_k (st_set ha rfl (ex_subI ha (by omega) (by omega)) rfl ?_); clear ha; (try clear a); intro a ha
        refine wpList_k (st_set ha rfl (ex_assign ha) rfl ?_); clear ha; (try clear a); intro a ha
        refine wpList_nil ?_
        refine then_n ?_
        refine wp_ret ?_
        refine ret1 ha rfl ?_
        refine ⟨by rw [show ((T.l.length - (T.l.filter (fun x => !wh x)).length : Nat) : Int) = (T.l.length : Int) - ((T.l.filter (fun x => !wh x)).length : Int) from by omega], ?_⟩
        exact Tree.close (T := T.cut wh) (ad := ad6) (c := c6) (xs := xs.filter (fun z => !wh z.1)) (n := (T.l.filter (fun x => !wh x)).length) (most := T.most) (last := T.last) (epoch := T.epoch + 1) hs hmf (hw.cut he wh) rfl rfl rfl (by simp only [Tr.cut]; rw [if_pos hlt])
      ·
        try simp only [decide_eq_true_eq, decide_eq_false_iff_not, Bool.not_eq_true', Bool.not_eq_false', Int.not_lt, Int.not_le, ne_eq, Decidable.not_not] at hc3
        have hlt : ¬ (T.l.filter (fun x => !wh x)).length < T.l.length := by omega
        refine wp_skip ?_
        refine then_n ?_
        refine wp_seq ?_
        refine wp_region_lit ?_
        refine wpList_k (st_set ha rfl (ex_move ha) rfl ?_); clear ha; (try clear a); intro a ha
        refine wpList_k (st_set ha rfl (ex_move ha) rfl ?_); clear ha; (try clear a); intro a ha
        refine wpList_k (st_set ha rfl (ex_len ha Try.underlying37) rfl ?_); clear ha; (try clear a); intro a ha
        refine wpList_k (st_set ha rfl (ex_subI ha (by omega) (by omega)) rfl ?_); clear ha; (try clear a); intro a ha
        refine wpList_k (st_set ha rfl (ex_assign ha) rfl ?_); clear ha; (try clear a); intro a ha
        refine wpList_nil ?_
        refine then_n ?_
        refine wp_ret ?_
        refine ret1 ha rfl ?_
        refine ⟨by rw [show ((T.l.length - (T.l.filter (fun x => !wh x)).length : Nat) : Int) = (T.l.length : Int) - ((T.l.filter (fun x => !wh x)).length : Int) from by omega], ?_⟩
        exact Tree.close (T := T.cut wh) (ad := ad6) (c := c6) (xs := xs.filter (fun z => !wh z.1)) (n := (T.l.filter (fun x => !wh x)).length) (most := T.most) (last := T.last) (epoch := T.epoch) hs hmf (hw.cut he wh) rfl rfl rfl (by simp only [Tr.cut]; rw [if_neg hlt]; rfl)
theorem tree_clear (hs : St W w (Tree tq sq T :: Store sq r A :: L)) (he : T.epoch + 1 < 1099511627776) :
    Calls Try.prog 25 #[.pointer (some ⟨tq, 0, none⟩)] w fun e w' => e = .returned (.int .i64 T.l.length) ∧ St W w' (Tree tq sq (T.cut fun _ => true) :: Store sq r (A.dropAll T.l) :: L) := by
  have hF : ∀ (M : List SP) (w' : World) (x : Br) (ad' : Option Addr) (c' : Nat), St W w' M → (∀ w'', St W w'' M → St W w'' L) → RdBB w' ad' x.press.length x.press → x.press.length ≤ c' → OkP x.press →
      Calls Try.prog 50 (List.toArray [.agg (brC x ad' c').toArray]) w' fun e w'' => e = .returned (.bool true) ∧ St W w'' M := by
    intro L w x ad' c' hs _ _ _ _
    refine calls_enter Try.func50 rfl Try.ntmps50 (Nat.le_of_ble_eq_true rfl) ?_
    intro a ha
    replace ha : Fr a 3 [(0, _)] := ha
    refine wp_seq ?_
    refine wp_region_lit ?_
    refine wpList_k (st_box ha rfl hs rfl ?_); clear ha hs; (try clear a); (try clear w); intro b1 a w ha hs ho
    clear ho
    refine wpList_k (st_set ha rfl (ex_assign ha) rfl ?_); clear ha; (try clear a); intro a ha
    refine wpList_nil ?_
    refine then_n ?_
    refine wp_seq ?_
    refine wp_region_lit ?_
    replace ha := ha.del 2
    refine wpList_k (st_set ha rfl (ex_assign ha) rfl ?_); clear ha; (try clear a); intro a ha
    refine wpList_nil ?_
    refine then_n ?_
    refine wp_ret ?_
    refine ret1 ha rfl ?_
    exact ⟨rfl, hs.sub⟩
  refine calls_enter Try.func25 rfl Try.ntmps25 (Nat.le_of_ble_eq_true rfl) ?_
  intro a ha
  replace ha : Fr a 5 [(0, _)] := ha
  refine wp_seq ?_
  refine wp_region_lit ?_
  refine wpList_k (st_set ha rfl (ex_assign ha) rfl ?_); clear ha; (try clear a); intro a ha
  refine wpList_nil ?_
  refine then_n ?_
  refine wp_seq ?_
  refine wp_region_lit ?_
  refine wpList_k (st_set ha rfl (ex_move ha) rfl ?_); clear ha; (try clear a); intro a ha
  refine wpList_k (st_call ha rfl Ty.c42 rfl (tree_drop (wh := fun _ => true) (us := []) hs he Ty.c50 hF) ?_); clear ha hs
  rintro e w ⟨rfl, hs⟩
  refine ⟨_, rfl, ?_⟩
  intro a ha
  replace ha := ha.del 2
  refine wpList_k (st_set ha rfl (ex_assign ha) rfl ?_); clear ha; (try clear a); intro a ha
  refine wpList_nil ?_
  refine then_n ?_
  refine wp_ret ?_
  refine ret1 ha rfl ?_
  have e1 : T.l.filter (fun x => !(fun _ : Br => true) x) = [] := by simp
  have e2 : T.l.filter (fun _ => true) = T.l := by simp
  rw [e2] at hs
  exact ⟨by rw [e1]; rfl, hs⟩
theorem clear_nil (hs : St W w L) : Calls Try.prog 25 #[.pointer none] w fun e w' => e = .returned (.int .i64 0) ∧ St W w' L := by
  refine calls_enter Try.func25 rfl Try.ntmps25 (Nat.le_of_ble_eq_true rfl) ?_
  intro a ha
  replace ha : Fr a 5 [(0, _)] := ha
  refine wp_seq ?_
  refine wp_region_lit ?_
  refine wpList_k (st_set ha rfl (ex_assign ha) rfl ?_); clear ha; (try clear a); intro a ha
  refine wpList_nil ?_
  refine then_n ?_
  refine wp_seq ?_
  refine wp_region_lit ?_
  refine wpList_k (st_set ha rfl (ex_move ha) rfl ?_); clear ha; (try clear a); intro a ha
  refine wpList_k (st_call ha rfl Ty.c42 rfl (drop_nil hs) ?_); clear ha hs
  rintro e w ⟨rfl, hs⟩
  refine ⟨_, rfl, ?_⟩
  intro a ha
  replace ha := ha.del 2
  refine wpList_k (st_set ha rfl (ex_assign ha) rfl ?_); clear ha; (try clear a); intro a ha
  refine wpList_nil ?_
  refine then_n ?_
  refine wp_ret ?_
  refine ret1 ha rfl ?_
  exact ⟨rfl, hs⟩
def pruneP (frm : Int) (p : List (List UInt8)) (x : Br) : Bool := !decide (x.frm = frm) || !alikeP x.press p
theorem tree_prune {frm : Int} {ad2 : Option Addr} {c2 : Nat} (hs : St W w (Tree tq sq T :: Store sq r A :: L)) (he : T.epoch + 1 < 1099511627776) (hp : ∀ w', St W w' L → RdBB w' ad2 p.length p) (hc : p.length ≤ c2) (hok : OkP p) :
    Calls Try.prog 16 #[.pointer (some ⟨tq, 0, none⟩), .int .i64 frm, .slice ad2 p.length c2] w fun e w' => e = .returned (.int .i64 ((T.l.length - (T.l.filter (fun x => !pruneP frm p x)).length : Nat) : Int)) ∧
      St W w' (Tree tq sq (T.cut (pruneP frm p)) :: Store sq r (A.dropAll (T.l.filter (pruneP frm p))) :: L) := by
  have hF : ∀ (b4 b5 : Nat) (M : List SP) (w' : World) (x : Br) (ad' : Option Addr) (c' : Nat), St W w' M → (∀ w'', St W w'' M → St W w'' (blk b4 3 [.int .i64 frm] :: blk b5 23 [.slice ad2 p.length c2] :: L)) → RdBB w' ad' x.press.length x.press → x.press.length ≤ c' → OkP x.press →
      Calls Try.prog 43 (List.toArray [.agg (brC x ad' c').toArray, .pointer (some ⟨b4, 0, none⟩), .pointer (some ⟨b5, 0, none⟩)]) w' fun e w'' => e = .returned (.bool (pruneP frm p x)) ∧ St W w'' M := by
    intro b4 b5 L' w x ad' c' hs hM hx hxc hox
    obtain ⟨W', hW'⟩ : ∃ W', W' = W := ⟨_, rfl⟩
    refine calls_enter Try.func43 rfl Try.ntmps43 (Nat.le_of_ble_eq_true rfl) ?_
    intro a ha
    replace ha : Fr a 16 [(0, _), (1, _), (2, _)] := ha
    refine wp_seq ?_
    refine wp_region_lit ?_
    refine wpList_k (st_box ha rfl hs rfl ?_); clear ha hs; (try clear a); (try clear w); intro b3 a w ha hs ho
    have hx2 : RdBB w ad' x.press.length x.press := by
        refine ⟨hx.1, fun h0 => ?_⟩
        obtain ⟨b, off, e1, e2⟩ := hx.2 h0
        refine ⟨b, off, e1, fun j bs hj => ?_⟩
        obtain ⟨a', c', e3, e4⟩ := e2 j bs hj
        refine ⟨a', c', ho.cell e3, e4.1, e4.2.1, fun z hz hz0 => ?_⟩
        obtain ⟨b3, o3, e5, e6⟩ := e4.2.2 z hz hz0
        exact ⟨b3, o3, e5, ho.rd e6⟩
    clear ho
    refine wpList_k (st_set ha rfl (ex_assign ha) rfl ?_); clear ha; (try clear a); intro a ha
    refine wpList_nil ?_
    refine then_n ?_
    refine wp_seq ?_
    have hs5 := hM _ hs.tail
    refine wp_region_lit ?_
    refine wpList_k (st_set ha rfl (ex_fieldAddr (k := 1) ha Try.underlying42 rfl Ty.t3 rfl) rfl ?_); clear ha; (try clear a); intro a ha
    refine wpList_k (st_set ha rfl (ex_load1 ha Try.underlying3 rfl (hs.rd1 rfl)) rfl ?_); clear ha; (try clear a); intro a ha
    refine wpList_k (st_set ha rfl (ex_load1 ha Try.underlying3 rfl (hs5.rd1 rfl)) rfl ?_); clear ha; (try clear a); intro a ha
    refine wpList_k (st_set ha rfl (ex_neq ha) rfl ?_); clear ha; (try clear a); intro a ha
    refine wpList_k (st_set ha rfl (ex_move ha) rfl ?_); clear ha; (try clear a); intro a ha
    refine ha.bool (s := 9) (fun hg ha => ?_) (fun hg ha => ?_)
    ·
      try simp only [decide_eq_true_eq, decide_eq_false_iff_not, Bool.not_eq_true', Bool.not_eq_false', Int.not_lt, Int.not_le, ne_eq, Decidable.not_not] at hg
      refine wpList_k (st_off ha (wgF ha rfl (s := 9) rfl) rfl ?_); clear ha; (try clear a); intro a ha
      refine wpList_k (st_off ha (wgF ha rfl (s := 9) rfl) rfl ?_); clear ha; (try clear a); intro a ha
      refine wpList_k (st_off ha (wgF ha rfl (s := 9) rfl) rfl ?_); clear ha; (try clear a); intro a ha
      refine wpList_k (st_off ha (wgF ha rfl (s := 9) rfl) rfl ?_); clear ha; (try clear a); intro a ha
      refine wpList_k (st_off ha (wgF ha rfl (s := 9) rfl) rfl ?_); clear ha; (try clear a); intro a ha
      refine wpList_k (st_set ha rfl (ex_pickT ha) rfl ?_); clear ha; (try clear a); intro a ha
      replace ha := ha.del 4
      refine wpList_k (st_set ha rfl (ex_assign ha) rfl ?_); clear ha; (try clear a); intro a ha
      refine wpList_nil ?_
      refine then_n ?_
      refine wp_ret ?_
      refine ret1 ha rfl ?_
      exact ⟨by rw [pruneP, decide_eq_false hg, Bool.not_false, Bool.true_or], hs.sub⟩
    ·
      try simp only [decide_eq_true_eq, decide_eq_false_iff_not, Bool.not_eq_true', Bool.not_eq_false', Int.not_lt, Int.not_le, ne_eq, Decidable.not_not] at hg
      refine wpList_k (st_set ha (wgT ha rfl (s := 9)) (ex_fieldAddr (k := 2) ha Try.underlying42 rfl Ty.t23 rfl) rfl ?_); clear ha; (try clear a); intro a ha
      refine wpList_k (st_set ha (wgT ha rfl (s := 9)) (ex_load1 ha Try.underlying23 rfl (hs.rd1 rfl)) rfl ?_); clear ha; (try clear a); intro a ha
      refine wpList_k (st_set ha (wgT ha rfl (s := 9)) (ex_load1 ha Try.underlying23 rfl (hs5.rd1 rfl)) rfl ?_); clear ha; (try clear a); intro a ha
      refine wpList_k (st_call ha (wgT ha rfl (s := 9)) Ty.c39 rfl (alike_spec (u := x.press) (v := p) hs hx2 (hp _ (hs5.tail.tail)) hxc hc (by have := hox.1; omega)) ?_); clear ha hs
      rintro e w ⟨rfl, hs⟩
      refine ⟨_, rfl, ?_⟩
      intro a ha
      refine wpList_k (st_set ha (wgT ha rfl (s := 9)) (ex_not ha) rfl ?_); clear ha; (try clear a); intro a ha
      refine wpList_k (st_set ha rfl (ex_pickF ha) rfl ?_); clear ha; (try clear a); intro a ha
      replace ha := ha.del 4
      refine wpList_k (st_set ha rfl (ex_assign ha) rfl ?_); clear ha; (try clear a); intro a ha
      refine wpList_nil ?_
      refine then_n ?_
      refine wp_ret ?_
      refine ret1 ha rfl ?_
      exact ⟨by rw [pruneP, decide_eq_true hg, Bool.not_true, Bool.false_or], hs.sub⟩
  refine calls_enter Try.func16 rfl Try.ntmps16 (Nat.le_of_ble_eq_true rfl) ?_
  intro a ha
  replace ha : Fr a 10 [(0, _), (1, _), (2, _)] := ha
  refine wp_seq ?_
  refine wp_region_lit ?_
  refine wpList_k (st_box ha rfl hs rfl ?_); clear ha hs; (try clear a); (try clear w); intro b4 a w ha hs ho
  clear ho
  refine wpList_k (st_box ha rfl hs rfl ?_); clear ha hs; (try clear a); (try clear w); intro b5 a w ha hs ho
  clear ho
  refine wpList_k (st_set ha rfl (ex_assign ha) rfl ?_); clear ha; (try clear a); intro a ha
  refine wpList_nil ?_
  refine then_n ?_
  refine wp_seq ?_
  refine wp_region_lit ?_
  refine wpList_k (st_set ha rfl (ex_move ha) rfl ?_); clear ha; (try clear a); intro a ha
  refine wpList_k (st_set ha rfl (ex_makeFunc ha) rfl ?_); clear ha; (try clear a); intro a ha
  refine wpList_k (st_call ha rfl Ty.c42 rfl (tree_drop (tq := tq) (sq := sq) (r := r) (A := A) (T := T) (wh := pruneP frm p) (us := [.pointer (some ⟨b4, 0, none⟩), .pointer (some ⟨b5, 0, none⟩)]) (L := blk b4 3 [.int .i64 frm] :: blk b5 23 [.slice ad2 p.length c2] :: L) hs.sub he Ty.c43 (hF b4 b5)) ?_); clear ha hs
  rintro e w ⟨rfl, hs⟩
  refine ⟨_, rfl, ?_⟩
  intro a ha
  replace ha := ha.del 6
  refine wpList_k (st_set ha rfl (ex_assign ha) rfl ?_); clear ha; (try clear a); intro a ha
  refine wpList_nil ?_
  refine then_n ?_
  refine wp_ret ?_
  refine ret1 ha rfl ?_
  exact ⟨rfl, hs.sub⟩
end
end Go.Proofs.Ytkjmmchmanofkaa

