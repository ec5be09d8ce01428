/- BranchPrune. -/
import Derived.Test.YtkjmmchmanofkaaBranchP
namespace Go.Proofs.Ytkjmmchmanofkaa
open Go.RowKit
set_option linter.unusedVariables false
set_option linter.unusedSimpArgs false
set_option maxRecDepth 10000
set_option synthInstance.maxSize 4000
set_option synthInstance.maxHeartbeats 400000

section
variable {W w : World} {L L' R : List SP} {tq sq q r n c k m : Nat} {ad : Option Addr} {A : Sn} {T : Tr} {x y : Br} {xs : List Bx} {p : List (List UInt8)} {t : Nat → Nat} {last rm nn : Nat} {l : List Br}
/-- A branch's picture: a fork of the first one. -/
def pk (t : Nat → Nat) (x : Br) : Pic := ⟨x.snap, 1, fun _ => 0, t⟩
/-- A store that holds one picture and a fork for each branch. -/
def tied (t : Nat → Nat) (last rm nn : Nat) (l : List Br) : Sn := ⟨last, rm, nn, ⟨1, 1, fun _ => 0, t⟩ :: l.map (pk t)⟩
theorem dropAll_tied {f : Br → Bool} : ∀ (l : List Br) (pre : List Pic), ((pre ++ l.map (pk t)).map (·.id)).Pairwise (· < ·) →
    (⟨last, rm, nn, pre ++ l.map (pk t)⟩ : Sn).dropAll (l.filter f) = ⟨last, rm, nn, pre ++ (l.filter (fun x => !f x)).map (pk t)⟩ := by
  intro l
  induction l with
  | nil => intro pre _; rfl
  | cons x l ih =>
    intro pre hd
    cases hf : f x with
    | true =>
      rw [List.filter_cons_of_pos hf, List.filter_cons_of_neg (by simp [hf])]
      have hno : pre.findIdx? (fun y => y.id == x.snap) = none := by
        rw [List.findIdx?_eq_none_iff]
        intro y hy
        rw [List.map_append] at hd
        have := (List.pairwise_append.1 hd).2.2 y.id (List.mem_map.2 ⟨y, hy, rfl⟩) x.snap (by simp [pk])
        simp; omega
      have hfi : (pre ++ (x :: l).map (pk t)).findIdx? (fun y => y.id == x.snap) = some pre.length := by
        rw [List.findIdx?_append, hno, List.map_cons, List.findIdx?_cons]
        simp [pk]
      have h1 : (⟨last, rm, nn, pre ++ (x :: l).map (pk t)⟩ : Sn).dropId x.snap = ⟨last, rm, nn, pre ++ l.map (pk t)⟩ := by
        rw [Sn.dropId]
        simp only [hfi]
        simp [Sn.drop, pk]
        rw [List.eraseIdx_append_of_length_le (Nat.le_refl _)]
        simp
      have h2 : ((pre ++ l.map (pk t)).map (·.id)).Pairwise (· < ·) := by
        refine hd.sublist ?_
        rw [List.map_append, List.map_append, List.map_cons, List.map_cons]
        exact List.Sublist.append_left (List.sublist_cons_self _ _) _
      have h3 := ih pre h2
      rw [← h1] at h3
      exact h3
    | false =>
      rw [List.filter_cons_of_neg (by simp [hf]), List.filter_cons_of_pos (by simp [hf])]
      have h2 := ih (pre ++ [pk t x]) (by simpa using hd)
      simpa using h2
theorem tied_drop {f : Br → Bool} (hs : St W w (Store q r (tied t last rm nn l) :: L)) : (tied t last rm nn l).dropAll (l.filter f) = tied t last rm nn (l.filter (fun x => !f x)) :=
  dropAll_tied l [⟨1, 1, fun _ => 0, t⟩] (Store.facts hs).1.sorted
theorem tied_used (ht : Apart4 t) (l : List Br) : distinct (pagesOf (tied t last rm nn l).pics) = 4 := by
  induction l with
  | nil => exact distinct4 ht
  | cons x l ih =>
    have h1 : pagesOf (tied t last rm nn (x :: l)).pics = [t 0, t 1, t 2, t 3] ++ pagesOf (tied t last rm nn l).pics := by simp [pagesOf, tied, pk]
    rw [h1, distinct_mem, ih]
    intro p hp
    simp only [pagesOf, tied, List.flatMap_cons]
    exact List.mem_append_left _ hp
/-- A branch is added, where there is room and it is new. -/
theorem add_tied {frm : Int} {ad2 : Option Addr} {c2 : Nat} {zs : List BBx} (hs : St W w (Tree tq q T :: Store q r (tied t last rm nn T.l) :: L)) (hr : ∀ w', St W w' L → RdX w' ad2 zs) (hz : zs.map (·.2.2) = p) (hc : p.length ≤ c2) (hok : OkP p)
    (hb : nn + 1 < 1099511627776) (hl : T.last + 1 < 1099511627776) :
    Calls Try.prog 14 #[.pointer (some ⟨tq, 0, none⟩), .int .i64 frm, .int .i64 ((1 : Nat) : Int), .slice ad2 p.length c2] w fun e w' => ∃ (z : Nat) (ok : Bool), e = .returned (.tuple #[.int .i64 z, .bool ok]) ∧
      ∃ l2 la2 tl2 nn2, (l2 = T.l ∨ ∃ i s, l2 = T.l ++ [⟨i, frm, p, 0, s⟩]) ∧ tl2 ≤ T.last + 1 ∧ nn2 ≤ nn + 1 ∧ St W w' (Tree tq q ⟨T.most, l2, tl2, T.epoch⟩ :: Store q r (tied t la2 rm nn2 l2) :: L) := by
  rcases Nat.lt_or_ge T.l.length T.most with hm | hm
  · rcases Nat.eq_zero_or_pos p.length with h0 | h0
    · exact (add_full hs (.inr h0)).mono fun e w' ⟨h1, hs⟩ => ⟨0, false, h1, T.l, last, T.last, nn, .inl rfl, by omega, by omega, hs⟩
    · by_cases hex : ∃ y ∈ T.l, y.is frm p
      · obtain ⟨y, hy, his⟩ := hex
        obtain ⟨j, hj⟩ := List.mem_iff_getElem?.1 hy
        have hbb : ∀ w', St W w' (Store q r (tied t last rm nn T.l) :: L) → RdBB w' ad2 p.length p := fun w' h => by
          have := (hr w' h.tail).bb
          rw [hz] at this
          rwa [show zs.length = p.length from by rw [← hz, List.length_map]] at this
        exact (add_dup hs hbb hc hok hj his).mono fun e w' ⟨h1, hs⟩ => ⟨0, false, h1, T.l, last, T.last, nn, .inl rfl, by omega, by omega, hs⟩
      · exact (add_ok (px := ⟨1, 1, fun _ => 0, t⟩) (i := 0) hs hr hz hc hok rfl hb hl (fun y hy h => hex ⟨y, hy, h⟩) hm h0).mono fun e w' ⟨h1, hs⟩ => by
          refine ⟨_, true, h1, T.l ++ [⟨T.last + 1, frm, p, 0, last + 1⟩], last + 1, T.last + 1, nn + 1, .inr ⟨_, _, rfl⟩, by omega, by omega, ?_⟩
          have h2 : (tied t last rm nn T.l).add (fun _ => 0) t = tied t (last + 1) rm (nn + 1) (T.l ++ [⟨T.last + 1, frm, p, 0, last + 1⟩]) := by simp [tied, Sn.add, pk]
          rw [h2] at hs
          exact hs
  · exact (add_full hs (.inl hm)).mono fun e w' ⟨h1, hs⟩ => ⟨0, false, h1, T.l, last, T.last, nn, .inl rfl, by omega, by omega, hs⟩
theorem filter_at {α : Type} {f : α → Bool} {z : α} : ∀ (l : List α) (i : Nat), l[i]? = some z → f z = true → (l.filter f)[((l.take i).filter f).length]? = some z := by
  intro l
  induction l with
  | nil => intro i h; simp at h
  | cons a l ih =>
    intro i h hf
    cases i with
    | zero =>
      simp at h
      subst h
      simp [List.filter_cons, hf]
    | succ i =>
      have := ih i (by simpa using h) hf
      rw [List.take_succ_cons, List.filter_cons, List.filter_cons]
      split
      · simpa using this
      · exact this
theorem RdX.bbP {zs : List BBx} (h : RdX w ad zs) (hP : zs.map (·.2.2) = p) : RdBB w ad p.length p := by subst hP; rw [List.length_map]; exact h.bb
theorem prune_cut {l : List Br} {tl : Nat} {f : Br → Bool} : (⟨m, l, tl, k⟩ : Tr).cut f = ⟨m, l.filter (fun x => !f x), tl, k + if (l.filter (fun x => !f x)).length < l.length then 1 else 0⟩ := rfl
theorem branchPrune_walk (a0 : Option Addr) (len0 cap0 : Nat) (a1 : Option Addr) (len1 cap1 : Nat) (W : World) (w0 : len0 ≤ 9223372036854775807 ∧ ∃ ys : List BBBx, ys.length = len0 ∧ ArgBBB W a0 ys) (w1 : len1 ≤ 9223372036854775807 ∧ ∃ zs : List BBx, zs.length = len1 ∧ ArgBB W a1 zs) :
    Calls Try.prog 3 #[.slice a0 len0 cap0, .slice a1 len1 cap1] W fun e w' => e = .returned (.bool true) ∧ Below W.heap.size W w' := by
  have hs := St.start W
  obtain ⟨hl0, ys, rfl, hy⟩ := w0
  obtain ⟨hl1, zs, rfl, hz⟩ := w1
  obtain ⟨P, hP⟩ : ∃ P, (cut4 zs).map (·.2.2) = P := ⟨_, rfl⟩
  have hPl : min zs.length 4 = P.length := by rw [← hP, List.length_map, cut4_len]
  have hPo : OkP P := hP ▸ cut4_ok zs
  have hPc : (cut4 zs).length = P.length := by rw [← hP, List.length_map]
  refine calls_enter Try.func3 rfl Try.ntmps3 (Nat.le_of_ble_eq_true rfl) ?_
  intro a ha
  replace ha : Fr a 120 [(0, _), (1, _)] := ha
  refine wp_seq ?_
  refine wp_region_lit ?_
  refine wpList_k (st_set ha rfl (ex_assign ha) rfl ?_); clear ha; (try clear a); intro a ha
  refine wpList_nil ?_
  refine then_n ?_
  refine wp_seq ?_
  refine wp_region_lit ?_
  refine wpList_k (st_call ha rfl Ty.c9 rfl (begun23 hs) ?_); clear ha hs
  rintro e w ⟨rfl, hs⟩
  refine ⟨_, rfl, ?_⟩
  intro a ha
  refine wpList_k (st_set ha rfl (ex_assign ha) rfl ?_); clear ha; (try clear a); intro a ha
  refine wpList_nil ?_
  refine then_n ?_
  refine wp_seq ?_
  refine wp_seq ?_
  refine wp_region_lit ?_
  refine wpList_k (st_set ha rfl (ex_move ha) rfl ?_); clear ha; (try clear a); intro a ha
  refine wpList_k (st_set ha rfl (ex_not ha) rfl ?_); clear ha; (try clear a); intro a ha
  refine wpList_nil ?_
  refine then_n ?_
  refine wp_ifF ha ?_
  refine wp_skip ?_
  refine then_n ?_
  refine wp_seq ?_
  refine wp_region_lit ?_
  refine wpList_k (st_set ha rfl (ex_move ha) rfl ?_); clear ha; (try clear a); intro a ha
  refine wpList_k (st_call ha rfl Ty.c10 rfl (presses_spec hs hz rfl) ?_); clear ha hs
  rintro e w ⟨adp, cp, rfl, hcp, hs⟩
  refine ⟨_, rfl, ?_⟩
  intro a ha
  rw [hPl] at ha hs hcp
  replace ha := ha.del 1
  refine wpList_k (st_set ha rfl (ex_assign ha) rfl ?_); clear ha; (try clear a); intro a ha
  refine wpList_nil ?_
  refine then_n ?_
  refine wp_seq ?_
  refine wp_region_lit ?_
  refine wpList_k (st_call ha rfl Ty.c11 rfl (snap_new (n := 20) hs (by decide)) ?_); clear ha hs
  rintro e w ⟨q, r, rfl, hs⟩
  refine ⟨_, rfl, ?_⟩
  intro a ha
  refine wpList_k (st_set ha rfl (ex_assign ha) rfl ?_); clear ha; (try clear a); intro a ha
  refine wpList_nil ?_
  refine then_n ?_
  refine wp_seq ?_
  refine wp_region_lit ?_
  refine wpList_k (st_set ha rfl (ex_move ha) rfl ?_); clear ha; (try clear a); intro a ha
  refine wpList_k (st_call ha rfl Ty.c12 rfl (tree_new (m := 8) hs) ?_); clear ha hs
  rintro e w ⟨tq, rfl, hs⟩
  refine ⟨_, rfl, ?_⟩
  intro a ha
  change St W w (Tree tq q ⟨8, [], 0, 0⟩ :: _) at hs
  refine wpList_k (st_set ha rfl (ex_assign ha) rfl ?_); clear ha; (try clear a); intro a ha
  refine wpList_nil ?_
  refine then_n ?_
  refine wp_seq ?_
  refine wp_region_lit ?_
  refine wpList_k (st_set ha rfl (ex_move ha) rfl ?_); clear ha; (try clear a); intro a ha
  refine wpList_k (st_set ha rfl (ex_buildA0 ha Try.underlying34 Ty.t34 Ty.t21) rfl ?_); clear ha; (try clear a); intro a ha
  change Fr a 120 ((26, .agg (ints .i32 32 (fun _ => 0)).toArray) :: _) at ha
  refine wpList_k (st_call ha rfl Ty.c13 rfl (snap_make (hs.store q) (by decide) (by decide)) ?_); clear ha hs
  rintro e w ⟨t, rfl, ⟨ht1, ht2⟩, hs⟩
  refine ⟨_, rfl, ?_⟩
  intro a ha
  change St W w (Store q r (tied t 1 80 1 []) :: _) at hs
  refine wpList_k (st_set ha rfl (ex_move ha) rfl ?_); clear ha; (try clear a); intro a ha
  refine wpList_k (st_set ha rfl (ex_extract ha rfl) rfl ?_); clear ha; (try clear a); intro a ha
  refine wpList_k (st_set ha rfl (ex_extract ha rfl) rfl ?_); clear ha; (try clear a); intro a ha
  refine wpList_k (st_set ha rfl (ex_assign ha) rfl ?_); clear ha; (try clear a); intro a ha
  refine wpList_k (st_set ha rfl (ex_assign ha) rfl ?_); clear ha; (try clear a); intro a ha
  refine wpList_nil ?_
  refine then_n ?_
  refine wp_seq ?_
  refine wp_seq ?_
  refine wp_region_lit ?_
  refine wpList_k (st_set ha rfl (ex_assign ha) rfl ?_); clear ha; (try clear a); intro a ha
  refine wpList_nil ?_
  refine then_n ?_
  refine wp_block ?_
  refine wp_loop_ghost (fun μ a w => ∃ (i : Nat) (l : List Br) (la tl nn : Nat), (μ = min ys.length 8 - i ∧ i ≤ min ys.length 8 ∧ tl ≤ i ∧ nn ≤ i + 1 ∧ ∀ x ∈ l, x.frm = 4) ∧ Fr a 120 [(0, .slice a0 ys.length cap0), (1, .slice adp P.length cp), (6, .pointer (some ⟨q, 0, none⟩)), (7, .pointer (some ⟨tq, 0, none⟩)), (8, .int .i64 ((1 : Nat) : Int)), (10, .int .i64 i)] ∧ St W w [Tree tq q ⟨8, l, tl, 0⟩, Store q r (tied t la 80 nn l), Sl 48 1 adp P.length cp ((cut4 zs).map bbv)]) (min ys.length 8) ?_ ?_
  · exact ⟨0, [], 1, 0, 1, ⟨by simp, by simp, by simp, by simp, by simp⟩, ha.keep [0, 1, 6, 7, 8, 10], hs.sub⟩
  ·
    clear ha hs
    rintro μ a w ⟨i, l, la, tl, nn, ⟨rfl, hi, htl, hnn, hfr⟩, ha, hs⟩
    refine wp_seq ?_
    refine wp_seq ?_
    refine wp_region_lit ?_
    refine wpList_k (st_set ha rfl (ex_move ha) rfl ?_); clear ha; (try clear a); intro a ha
    refine wpList_k (st_set ha rfl (ex_move ha) rfl ?_); clear ha; (try clear a); intro a ha
    refine wpList_k (st_set ha rfl (ex_len ha Try.underlying22) rfl ?_); clear ha; (try clear a); intro a ha
    refine wpList_k (st_set ha rfl (ex_lss ha) rfl ?_); clear ha; (try clear a); intro a ha
    refine wpList_k (st_set ha rfl (ex_move ha) rfl ?_); clear ha; (try clear a); intro a ha
    refine ha.bool (s := 34) (fun hg4 ha => ?_) (fun hg4 ha => ?_)
    ·
      try simp only [decide_eq_true_eq, decide_eq_false_iff_not, Bool.not_eq_true', Bool.not_eq_false', Int.not_lt, Int.not_le, ne_eq, Decidable.not_not] at hg4
      refine wpList_k (st_set ha (wgT ha rfl (s := 34)) (ex_move ha) rfl ?_); clear ha; (try clear a); intro a ha
      refine wpList_k (st_set ha (wgT ha rfl (s := 34)) (ex_lss ha) rfl ?_); clear ha; (try clear a); intro a ha
      refine wpList_k (st_set ha rfl (ex_pickT ha) rfl ?_); clear ha; (try clear a); intro a ha
      refine wpList_nil ?_
      refine then_n ?_
      refine wp_if ha (fun hc1 => ?_) (fun hc1 => ?_)
      ·
        try simp only [decide_eq_true_eq, decide_eq_false_iff_not, Bool.not_eq_true', Bool.not_eq_false', Int.not_lt, Int.not_le, ne_eq, Decidable.not_not] at hc1
        refine wp_skip ?_
        refine then_n ?_
        refine wp_seq ?_
        refine wp_block ?_
        obtain ⟨b1, o1, rfl, hb1, h1⟩ := hy.1 (by omega)
        have hx1 : ys[i]? = some (ys[i]'(by omega)) := List.getElem?_eq_getElem (by omega)
        have hcell := h1 i _ (by rw [List.getElem?_map, hx1]; rfl)
        rw [← hs.old (a := ⟨b1, o1 + i, none⟩) hb1] at hcell
        refine wp_region_lit ?_
        refine wpList_k (st_set ha rfl (ex_move ha) rfl ?_); clear ha; (try clear a); intro a ha
        refine wpList_k (st_set ha rfl (ex_move ha) rfl ?_); clear ha; (try clear a); intro a ha
        refine wpList_k (st_set ha rfl (ex_move ha) rfl ?_); clear ha; (try clear a); intro a ha
        refine wpList_k (st_set ha rfl (ex_move ha) rfl ?_); clear ha; (try clear a); intro a ha
        refine wpList_k (st_set ha rfl (ex_indexAddr ha Try.underlying22 Ty.t23 (by omega)) rfl ?_); clear ha; (try clear a); intro a ha
        rw [Nat.mul_one] at ha
        refine wpList_k (st_set ha rfl (ex_load1 ha Try.underlying23 rfl (hcell)) rfl ?_); clear ha; (try clear a); intro a ha
        refine wpList_k (st_call ha rfl Ty.c10 rfl (presses_spec hs (hy.2 _ (List.getElem_mem _)) rfl) ?_); clear ha hs
        rintro e w ⟨ad4, c4, rfl, hc4, hs⟩
        refine ⟨_, rfl, ?_⟩
        intro a ha
        have hml : min ys[i].2.2.length 4 = ((cut4 ys[i].2.2).map (·.2.2)).length := by rw [List.length_map, cut4_len]
        rw [hml] at ha hs hc4
        refine wpList_k (st_call ha rfl Ty.c14 rfl (add_tied (zs := cut4 ys[i].2.2) ((hs.store q).tree tq) (fun w' h => RdX.sl h ad4 (List.length_map ..).symm (cut4_rd (hy.2 _ (List.getElem_mem _)))) rfl hc4 (cut4_ok _) (by omega) (by simp only; omega)) ?_); clear ha hs
        rintro e w ⟨z, ok, rfl, l2, la2, tl2, nn2, hl2, htl2, hnn2, hs⟩
        refine ⟨_, rfl, ?_⟩
        intro a ha
        have hfr2 : ∀ x ∈ l2, x.frm = 4 := by
          rcases hl2 with rfl | ⟨j, s, rfl⟩
          · exact hfr
          · intro x hx
            rcases List.mem_append.1 hx with hx | hx
            · exact hfr x hx
            · simp at hx; rw [hx]
        simp only at htl2
        refine wpList_nil ?_
        refine blk_n <| then_n ?_
        refine wp_region_lit ?_
        refine wpList_k (st_set ha rfl (ex_move ha) rfl ?_); clear ha; (try clear a); intro a ha
        refine wpList_k (st_set ha rfl (ex_addI ha (by omega) (by omega)) rfl ?_); clear ha; (try clear a); intro a ha
        replace ha := ha.del 10
        refine wpList_k (st_set ha rfl (ex_assign ha) rfl ?_); clear ha; (try clear a); intro a ha
        refine wpList_nil ?_
        refine then_n ?_
        exact ⟨min ys.length 8 - (i + 1), by omega, i + 1, l2, la2, tl2, nn2, ⟨rfl, by omega, by omega, by omega, hfr2⟩, ha.keep [0, 1, 6, 7, 8, 10], hs.sub⟩
      ·
        try simp only [decide_eq_true_eq, decide_eq_false_iff_not, Bool.not_eq_true', Bool.not_eq_false', Int.not_lt, Int.not_le, ne_eq, Decidable.not_not] at hc1
        refine wp_exit ?_
        refine then_e <| then_e <| blk_e ?_
        refine then_n ?_
        refine wp_seq ?_
        have hwt := Tree.wt (hs.tree tq)
        have hl8 : l.length ≤ 8 := Nat.le_trans hwt.most.2 hwt.most.1
        have hokl : ∀ x ∈ l, OkP x.press := fun x hx => (hwt.ok x hx).1
        refine wp_region_lit ?_
        refine wpList_k (st_set ha rfl (ex_move ha) rfl ?_); clear ha; (try clear a); intro a ha
        refine wpList_k (st_call ha rfl Ty.c15 rfl (tree_all (hs.tree tq)) ?_); clear ha hs
        rintro e w ⟨adw, cw, rfl, hs⟩
        refine ⟨_, rfl, ?_⟩
        intro a ha
        change Fr a 120 ((49, .slice adw l.length cw) :: _) at ha
        change St W w (OwnBr adw l.length cw l :: _) at hs
        refine wpList_k (st_set ha rfl (ex_assign ha) rfl ?_); clear ha; (try clear a); intro a ha
        refine wpList_nil ?_
        refine then_n ?_
        refine wp_seq ?_
        refine wp_region_lit ?_
        refine wpList_k (st_set ha rfl (ex_move ha) rfl ?_); clear ha; (try clear a); intro a ha
        refine wpList_k (st_set ha rfl (ex_move ha) rfl ?_); clear ha; (try clear a); intro a ha
        obtain ⟨K, hK⟩ : ∃ K, l.filter (fun x => !pruneP 4 P x) = K := ⟨_, rfl⟩
        obtain ⟨E, hE⟩ : ∃ E, (if K.length < l.length then 1 else 0) = E := ⟨_, rfl⟩
        have hE1 : E ≤ 1 := by rw [← hE]; split <;> omega
        have hKl : K.length ≤ l.length := by rw [← hK]; exact List.length_filter_le _ _
        have hdrop := tied_drop (f := pruneP 4 P) (hs.store q)
        have hKK : K.filter (fun x => !pruneP 4 P x) = K := by rw [← hK, List.filter_filter]; simp
        have hKd : K.filter (pruneP 4 P) = [] := by rw [← hK, List.filter_filter]; simp
        refine wpList_k (st_call ha rfl Ty.c16 rfl (tree_prune (frm := 4) (p := P) ((hs.store q).tree tq) (by simp) (fun w' h => (RdX.sl h adp hPc (cut4_rd hz)).bbP hP) hcp hPo) ?_); clear ha hs
        rintro e w ⟨rfl, hs⟩
        refine ⟨_, rfl, ?_⟩
        intro a ha
        rw [prune_cut, hdrop, hK, hE, Nat.zero_add] at hs
        simp only [hK] at ha
        refine wpList_k (st_set ha rfl (ex_assign ha) rfl ?_); clear ha; (try clear a); intro a ha
        refine wpList_nil ?_
        refine then_n ?_
        refine wp_seq ?_
        refine wp_region_lit ?_
        refine wpList_k (st_set ha rfl (ex_move ha) rfl ?_); clear ha; (try clear a); intro a ha
        refine wpList_k (st_call ha rfl Ty.c15 rfl (tree_all (hs.tree tq)) ?_); clear ha hs
        rintro e w ⟨adn, cn, rfl, hs⟩
        refine ⟨_, rfl, ?_⟩
        intro a ha
        change Fr a 120 ((54, .slice adn K.length cn) :: _) at ha
        change St W w (OwnBr adn K.length cn K :: _) at hs
        refine wpList_k (st_set ha rfl (ex_assign ha) rfl ?_); clear ha; (try clear a); intro a ha
        refine wpList_nil ?_
        refine then_n ?_
        refine wp_seq ?_
        refine wp_seq ?_
        refine wp_region_lit ?_
        refine wpList_k (st_set ha rfl (ex_move ha) rfl ?_); clear ha; (try clear a); intro a ha
        refine wpList_k (st_set ha rfl (ex_len ha Try.underlying37) rfl ?_); clear ha; (try clear a); intro a ha
        refine wpList_k (st_set ha rfl (ex_move ha) rfl ?_); clear ha; (try clear a); intro a ha
        refine wpList_k (st_set ha rfl (ex_addI ha (by omega) (by omega)) rfl ?_); clear ha; (try clear a); intro a ha
        refine wpList_k (st_set ha rfl (ex_move ha) rfl ?_); clear ha; (try clear a); intro a ha
        refine wpList_k (st_set ha rfl (ex_len ha Try.underlying37) rfl ?_); clear ha; (try clear a); intro a ha
        refine wpList_k (st_set ha rfl (ex_neq ha) rfl ?_); clear ha; (try clear a); intro a ha
        refine wpList_k (st_set ha rfl (ex_move ha) rfl ?_); clear ha; (try clear a); intro a ha
        rw [decide_eq_false (by omega)] at ha
        refine wpList_k (st_set ha (wgT ha rfl (s := 62)) (ex_move ha) rfl ?_); clear ha; (try clear a); intro a ha
        refine wpList_k (st_set ha (wgT ha rfl (s := 62)) (ex_move ha) rfl ?_); clear ha; (try clear a); intro a ha
        have hdrop2 := tied_drop (f := pruneP 4 P) (hs.store q)
        refine wpList_k (st_call ha (wgT ha rfl (s := 62)) Ty.c16 rfl (tree_prune (frm := 4) (p := P) ((hs.store q).tree tq) (by simp only; omega) (fun w' h => (RdX.sl h adp hPc (cut4_rd hz)).bbP hP) hcp hPo) ?_); clear ha hs
        rintro e w ⟨rfl, hs⟩
        refine ⟨_, rfl, ?_⟩
        intro a ha
        rw [prune_cut, hdrop2, hKK, if_neg (Nat.lt_irrefl _), Nat.add_zero] at hs
        simp only [hKK] at ha
        refine wpList_k (st_set ha (wgT ha rfl (s := 62)) (ex_neq ha) rfl ?_); clear ha; (try clear a); intro a ha
        refine wpList_k (st_set ha rfl (ex_pickF ha) rfl ?_); clear ha; (try clear a); intro a ha
        refine wpList_nil ?_
        refine then_n ?_
        rw [decide_eq_false (by simp)] at ha
        refine wp_ifF ha ?_
        refine wp_skip ?_
        refine then_n ?_
        refine wp_seq ?_
        obtain ⟨xw, hw1, hw2, hs⟩ := OwnBr.open (hs.pick (OwnBr adw l.length cw l))
        obtain ⟨xn, hn1, hn2, hs⟩ := OwnBr.open (hs.pick (OwnBr adn K.length cn K))
        refine wp_region_lit ?_
        refine wpList_k (st_set ha rfl (ex_assign ha) rfl ?_); clear ha; (try clear a); intro a ha
        refine wpList_nil ?_
        refine then_n ?_
        refine wp_seq ?_
        refine wp_seq ?_
        refine wp_region_lit ?_
        refine wpList_k (st_set ha rfl (ex_assign ha) rfl ?_); clear ha; (try clear a); intro a ha
        refine wpList_nil ?_
        refine then_n ?_
        refine wp_block ?_
        refine wp_loop_ghost (fun μ a w => ∃ i : Nat, (μ = l.length - i ∧ i ≤ l.length) ∧ Fr a 120 [(1, .slice adp P.length cp), (6, .pointer (some ⟨q, 0, none⟩)), (7, .pointer (some ⟨tq, 0, none⟩)), (11, .slice adw l.length cw), (12, .int .i64 ((l.length - K.length : Nat) : Int)), (13, .slice adn K.length cn), (14, .int .i64 ((l.take i).filter (fun x => !pruneP 4 P x)).length), (15, .int .i64 i)] ∧ St W w [Sl 42 5 adn K.length cn (rows brc xn), All bro xn, Sl 42 5 adw l.length cw (rows brc xw), All bro xw, Tree tq q ⟨8, K, tl, E⟩, Store q r (tied t la 80 nn K), Sl 48 1 adp P.length cp ((cut4 zs).map bbv)]) (l.length) ?_ ?_
        · exact ⟨0, ⟨by simp, by simp⟩, ha.keep [1, 6, 7, 11, 12, 13, 14, 15], hs.sub⟩
        ·
          clear ha hs
          rintro μ a w ⟨i, ⟨rfl, hi⟩, ha, hs⟩
          refine wp_seq ?_
          refine wp_seq ?_
          refine wp_region_lit ?_
          refine wpList_k (st_set ha rfl (ex_move ha) rfl ?_); clear ha; (try clear a); intro a ha
          refine wpList_k (st_set ha rfl (ex_move ha) rfl ?_); clear ha; (try clear a); intro a ha
          refine wpList_k (st_set ha rfl (ex_len ha Try.underlying37) rfl ?_); clear ha; (try clear a); intro a ha
          refine wpList_k (st_set ha rfl (ex_lss ha) rfl ?_); clear ha; (try clear a); intro a ha
          refine wpList_nil ?_
          refine then_n ?_
          refine wp_if ha (fun hc3 => ?_) (fun hc3 => ?_)
          ·
            try simp only [decide_eq_true_eq, decide_eq_false_iff_not, Bool.not_eq_true', Bool.not_eq_false', Int.not_lt, Int.not_le, ne_eq, Decidable.not_not] at hc3
            refine wp_skip ?_
            refine then_n ?_
            refine wp_seq ?_
            refine wp_block ?_
            refine wp_seq ?_
            obtain ⟨bw, ow, rfl, hrd⟩ := hs.slRd adw (by omega)
            obtain ⟨⟨x, ax, cx⟩, hxx⟩ : ∃ y, xw[i]? = some y := ⟨_, List.getElem?_eq_getElem (by rw [← List.length_map (f := (·.1)), hw1]; omega)⟩
            have hrk := row_rd hrd hxx
            have hlx : l[i]? = some x := by rw [← hw1, List.getElem?_map, hxx]; rfl
            have hfx := hfr x (List.mem_of_getElem? hlx)
            have hkeep : (!pruneP 4 P x) = alikeP x.press P := by simp [pruneP, hfx]
            have hsucc := filter_succ (f := fun x => !pruneP 4 P x) hlx
            refine wp_region_lit ?_
            refine wpList_k (st_set ha rfl (ex_move ha) rfl ?_); clear ha; (try clear a); intro a ha
            refine wpList_k (st_set ha rfl (ex_move ha) rfl ?_); clear ha; (try clear a); intro a ha
            refine wpList_k (st_set ha rfl (ex_indexAddr ha Try.underlying37 Ty.t42 (by omega)) rfl ?_); clear ha; (try clear a); intro a ha
            refine wpList_k (st_set ha rfl (ex_fieldAddr (k := 2) ha Try.underlying42 rfl Ty.t23 rfl) rfl ?_); clear ha; (try clear a); intro a ha
            refine wpList_k (st_set ha rfl (ex_load1 ha Try.underlying23 rfl (hrk 2 _ rfl)) rfl ?_); clear ha; (try clear a); intro a ha
            refine wpList_k (st_set ha rfl (ex_move ha) rfl ?_); clear ha; (try clear a); intro a ha
            refine wpList_k (st_call ha rfl Ty.c17 rfl (front_spec (u := x.press) (v := P) hs (by have := (hokl x (List.mem_of_getElem? hlx)).1; omega) (fun w' h => (All.rdBB (h.pick (All bro xw)) hxx).1) (fun w' h => (RdX.sl h adp hPc (cut4_rd hz)).bbP hP)) ?_); clear ha hs
            rintro e w ⟨rfl, hs⟩
            refine ⟨_, rfl, ?_⟩
            intro a ha
            refine wpList_nil ?_
            refine then_n ?_
            refine wp_if ha (fun hc4 => ?_) (fun hc4 => ?_)
            ·
              try simp only [decide_eq_true_eq, decide_eq_false_iff_not, Bool.not_eq_true', Bool.not_eq_false', Int.not_lt, Int.not_le, ne_eq, Decidable.not_not] at hc4
              refine wp_seq ?_
              refine wp_seq ?_
              have hKx := filter_at (f := fun x => !pruneP 4 P x) l i hlx (hkeep.trans hc4)
              rw [hK] at hKx
              have hkK := (List.getElem?_eq_some_iff.1 hKx).1
              obtain ⟨k, hk⟩ : ∃ k, ((l.take i).filter (fun x => !pruneP 4 P x)).length = k := ⟨_, rfl⟩
              rw [hk] at hKx hkK ha
              obtain ⟨bn, on, rfl, hrn⟩ := hs.slRd adn (by omega)
              obtain ⟨⟨x', an, cc⟩, hxn⟩ : ∃ y, xn[k]? = some y := ⟨_, List.getElem?_eq_getElem (by rw [← List.length_map (f := (·.1)), hn1]; omega)⟩
              have hxx' : x' = x := by
                have : K[k]? = some x' := by rw [← hn1, List.getElem?_map, hxn]; rfl
                rw [this] at hKx; cases hKx; rfl
              subst hxx'
              obtain ⟨bw2, ow2, hbw, hrd2⟩ := hs.slRd (some ⟨bw, ow, none⟩) (by omega)
              cases hbw
              have hcw := row_rd hrd2 hxx 0 _ rfl
              have hcn := row_rd hrn hxn 0 _ rfl
              have hcw2 : w.drew.cell? _ = _ := hcw
              have hcn2 : w.drew.cell? _ = _ := hcn
              refine wp_draw (m := 17) (l0 := lb 17 0) (fun w' => w'.cell? ⟨bn, on + k * 5 + 0, none⟩ = some (.int .i64 x'.id) ∧ w'.cell? ⟨bw, ow + i * 5 + 0, none⟩ = some (.int .i64 x'.id)) [14] Ty.mixed (by kernel_rfl) (by kernel_rfl) (pk_then (pk_then (pk_blk (pk_then (pk_then (pk_blk (pk_then pk_body))))))) (fun hpk => ?_)
              replace hs := hs.drew
              generalize w.drew = w at hs hpk hcw2 hcn2 ⊢
              have hC := And.intro hcn2 hcw2
              refine nt_pure (i := 0) (listed' := lb 17 1) (by kernel_rfl) rfl (by kernel_rfl) (by decide) hpk ha rfl (fun w => ex_move ha) rfl ?_; clear ha; (try clear a); intro a ha
              refine nt_pure (i := 1) (listed' := lb 17 3) (by kernel_rfl) rfl (by kernel_rfl) (by decide) hpk ha rfl (fun w => ex_move ha) rfl ?_; clear ha; (try clear a); intro a ha
              refine nt_pure (i := 2) (listed' := lb 17 7) (by kernel_rfl) rfl (by kernel_rfl) (by decide) hpk ha rfl (fun w => ex_len ha Try.underlying37) rfl ?_; clear ha; (try clear a); intro a ha
              refine nt_pure (i := 3) (listed' := lb 17 15) (by kernel_rfl) rfl (by kernel_rfl) (by decide) hpk ha rfl (fun w => ex_eql ha) rfl ?_; clear ha; (try clear a); intro a ha
              refine nt_pure (i := 4) (listed' := lb 17 31) (by kernel_rfl) rfl (by kernel_rfl) (by decide) hpk ha rfl (fun w => ex_move ha) rfl ?_; clear ha; (try clear a); intro a ha
              rw [decide_eq_false (by omega)] at ha
              refine nt_pure (i := 5) (listed' := lb 17 63) (by kernel_rfl) rfl (by kernel_rfl) (by decide) hpk ha (wgT ha rfl (s := 85)) (fun w => ex_move ha) rfl ?_; clear ha; (try clear a); intro a ha
              refine nt_pure (i := 6) (listed' := lb 17 127) (by kernel_rfl) rfl (by kernel_rfl) (by decide) hpk ha (wgT ha rfl (s := 85)) (fun w => ex_move ha) rfl ?_; clear ha; (try clear a); intro a ha
              refine nt_pure (i := 7) (listed' := lb 17 255) (by kernel_rfl) rfl (by kernel_rfl) (by decide) hpk ha (wgT ha rfl (s := 85)) (fun w => ex_indexAddr ha Try.underlying37 Ty.t42 (by omega)) rfl ?_; clear ha; (try clear a); intro a ha
              refine nt_pure (i := 8) (listed' := lb 17 511) (by kernel_rfl) rfl (by kernel_rfl) (by decide) hpk ha (wgT ha rfl (s := 85)) (fun w => ex_fieldAddr (k := 0) ha Try.underlying42 rfl Ty.t2 rfl) rfl ?_; clear ha; (try clear a); intro a ha
              refine nt_pure (i := 10) (listed' := lb 17 1535) (by kernel_rfl) rfl (by kernel_rfl) (by decide) hpk ha (wgT ha rfl (s := 85)) (fun w => ex_move ha) rfl ?_; clear ha; (try clear a); intro a ha
              refine nt_pure (i := 11) (listed' := lb 17 3583) (by kernel_rfl) rfl (by kernel_rfl) (by decide) hpk ha (wgT ha rfl (s := 85)) (fun w => ex_move ha) rfl ?_; clear ha; (try clear a); intro a ha
              refine nt_pure (i := 12) (listed' := lb 17 7679) (by kernel_rfl) rfl (by kernel_rfl) (by decide) hpk ha (wgT ha rfl (s := 85)) (fun w => ex_indexAddr ha Try.underlying37 Ty.t42 (by omega)) rfl ?_; clear ha; (try clear a); intro a ha
              refine nt_pure (i := 13) (listed' := lb 17 15871) (by kernel_rfl) rfl (by kernel_rfl) (by decide) hpk ha (wgT ha rfl (s := 85)) (fun w => ex_fieldAddr (k := 0) ha Try.underlying42 rfl Ty.t2 rfl) rfl ?_; clear ha; (try clear a); intro a ha
              refine nt_held (i := 9) (listed' := lb 17 16383) (by kernel_rfl) rfl (by kernel_rfl) hpk ha (wgT ha rfl (s := 85)) (fun w hc => ex_load1 ha Try.underlying2 rfl (hc.1)) hC rfl ?_; clear ha; (try clear a); intro a ha
              refine nt_one (i := 14) (listed' := lb 17 32767) (by kernel_rfl) (by kernel_rfl) rfl (st_set ha (wgT ha rfl (s := 85)) (ex_load1 ha Try.underlying2 rfl (hcw2)) rfl ?_); clear ha; (try clear a); intro a ha
              refine ⟨fun _ => hC, ?_⟩
              refine nt_pure (i := 15) (listed' := lb 17 65535) (by kernel_rfl) rfl (by kernel_rfl) (by decide) hpk ha (wgT ha rfl (s := 85)) (fun w => ex_neq ha) rfl ?_; clear ha; (try clear a); intro a ha
              refine nt_pure (i := 16) (listed' := lb 17 131071) (by kernel_rfl) rfl (by kernel_rfl) (by decide) hpk ha rfl (fun w => ex_pickF ha) rfl ?_; clear ha; (try clear a); intro a ha
              refine nt_done (by kernel_rfl) ?_ _
              refine then_n ?_
              rw [decide_eq_false (by simp)] at ha
              refine wp_ifF ha ?_
              refine wp_skip ?_
              refine then_n ?_
              refine wp_region_lit ?_
              refine wpList_k (st_set ha rfl (ex_move ha) rfl ?_); clear ha; (try clear a); intro a ha
              refine wpList_k (st_set ha rfl (ex_addI ha (by omega) (by omega)) rfl ?_); clear ha; (try clear a); intro a ha
              replace ha := ha.del 14
              refine wpList_k (st_set ha rfl (ex_assign ha) rfl ?_); clear ha; (try clear a); intro a ha
              refine wpList_nil ?_
              refine blk_n <| then_n ?_
              refine wp_region_lit ?_
              refine wpList_k (st_set ha rfl (ex_move ha) rfl ?_); clear ha; (try clear a); intro a ha
              refine wpList_k (st_set ha rfl (ex_addI ha (by omega) (by omega)) rfl ?_); clear ha; (try clear a); intro a ha
              replace ha := ha.del 15
              refine wpList_k (st_set ha rfl (ex_assign ha) rfl ?_); clear ha; (try clear a); intro a ha
              refine wpList_nil ?_
              refine then_n ?_
              have hs4 : ((l.take (i + 1)).filter (fun x => !pruneP 4 P x)).length = k + 1 := by rw [hsucc, if_pos (hkeep.trans hc4), List.length_append, hk]; rfl
              exact ⟨l.length - (i + 1), by omega, i + 1, ⟨rfl, by omega⟩, by rw [hs4]; exact ha.keep [1, 6, 7, 11, 12, 13, 14, 15], hs.sub⟩
            ·
              try simp only [decide_eq_true_eq, decide_eq_false_iff_not, Bool.not_eq_true', Bool.not_eq_false', Int.not_lt, Int.not_le, ne_eq, Decidable.not_not] at hc4
              refine wp_skip ?_
              refine blk_n <| then_n ?_
              refine wp_region_lit ?_
              refine wpList_k (st_set ha rfl (ex_move ha) rfl ?_); clear ha; (try clear a); intro a ha
              refine wpList_k (st_set ha rfl (ex_addI ha (by omega) (by omega)) rfl ?_); clear ha; (try clear a); intro a ha
              replace ha := ha.del 15
              refine wpList_k (st_set ha rfl (ex_assign ha) rfl ?_); clear ha; (try clear a); intro a ha
              refine wpList_nil ?_
              refine then_n ?_
              have hs4 : ((l.take (i + 1)).filter (fun x => !pruneP 4 P x)).length = ((l.take i).filter (fun x => !pruneP 4 P x)).length := by rw [hsucc, if_neg (by rw [hkeep, hc4]; decide), List.append_nil]
              exact ⟨l.length - (i + 1), by omega, i + 1, ⟨rfl, by omega⟩, by rw [hs4]; exact ha.keep [1, 6, 7, 11, 12, 13, 14, 15], hs.sub⟩
          ·
            try simp only [decide_eq_true_eq, decide_eq_false_iff_not, Bool.not_eq_true', Bool.not_eq_false', Int.not_lt, Int.not_le, ne_eq, Decidable.not_not] at hc3
            refine wp_exit ?_
            refine then_e <| then_e <| blk_e ?_
            refine then_n ?_
            refine wp_seq ?_
            obtain rfl : i = l.length := by omega
            rw [List.take_length, hK] at ha
            refine wp_region_lit ?_
            refine wpList_k (st_set ha rfl (ex_move ha) rfl ?_); clear ha; (try clear a); intro a ha
            refine wpList_k (st_set ha rfl (ex_move ha) rfl ?_); clear ha; (try clear a); intro a ha
            refine wpList_k (st_set ha rfl (ex_len ha Try.underlying37) rfl ?_); clear ha; (try clear a); intro a ha
            refine wpList_k (st_set ha rfl (ex_eql ha) rfl ?_); clear ha; (try clear a); intro a ha
            refine wpList_k (st_set ha rfl (ex_move ha) rfl ?_); clear ha; (try clear a); intro a ha
            rw [decide_eq_true (by omega)] at ha
            refine wpList_k (st_set ha (wgT ha rfl (s := 104)) (ex_move ha) rfl ?_); clear ha; (try clear a); intro a ha
            refine wpList_k (st_call ha (wgT ha rfl (s := 104)) Ty.c18 rfl (snap_live (hs.store q)) ?_); clear ha hs
            rintro e w ⟨adl, cl, rfl, hs⟩
            refine ⟨_, rfl, ?_⟩
            intro a ha
            change Fr a 120 ((106, .slice adl (K.map (pk t)).length.succ cl) :: _) at ha
            rw [List.length_map] at ha
            refine wpList_k (st_set ha (wgT ha rfl (s := 104)) (ex_len ha Try.underlying43) rfl ?_); clear ha; (try clear a); intro a ha
            refine wpList_k (st_set ha (wgT ha rfl (s := 104)) (ex_move ha) rfl ?_); clear ha; (try clear a); intro a ha
            refine wpList_k (st_set ha (wgT ha rfl (s := 104)) (ex_addI ha (by omega) (by omega)) rfl ?_); clear ha; (try clear a); intro a ha
            refine wpList_k (st_set ha (wgT ha rfl (s := 104)) (ex_eql ha) rfl ?_); clear ha; (try clear a); intro a ha
            refine wpList_k (st_set ha rfl (ex_pickT ha) rfl ?_); clear ha; (try clear a); intro a ha
            refine wpList_k (st_set ha rfl (ex_move ha) rfl ?_); clear ha; (try clear a); intro a ha
            rw [decide_eq_true (by omega)] at ha
            refine wpList_k (st_set ha (wgT ha rfl (s := 112)) (ex_move ha) rfl ?_); clear ha; (try clear a); intro a ha
            refine wpList_k (st_call ha (wgT ha rfl (s := 112)) Ty.c19 rfl (tree_epoch (hs.tree tq)) ?_); clear ha hs
            rintro e w ⟨rfl, hs⟩
            refine ⟨_, rfl, ?_⟩
            intro a ha
            change Fr a 120 ((114, .int .i64 (E : Int)) :: _) at ha
            refine wpList_k (st_set ha (wgT ha rfl (s := 112)) (ex_eql ha) rfl ?_); clear ha; (try clear a); intro a ha
            refine wpList_k (st_set ha (wgT ha rfl (s := 112)) (ex_move ha) rfl ?_); clear ha; (try clear a); intro a ha
            refine wpList_k (st_set ha (wgT ha rfl (s := 112)) (ex_gtr ha) rfl ?_); clear ha; (try clear a); intro a ha
            refine wpList_k (st_set ha (wgT ha rfl (s := 112)) (ex_eqlB ha Try.underlying4) rfl ?_); clear ha; (try clear a); intro a ha
            refine wpList_k (st_set ha rfl (ex_pickT ha) rfl ?_); clear ha; (try clear a); intro a ha
            refine wpList_k (st_set ha rfl (ex_assign ha) rfl ?_); clear ha; (try clear a); intro a ha
            refine wpList_nil ?_
            refine then_n ?_
            refine wp_ret ?_
            refine ret1 ha rfl ?_
            first
              | exact ⟨rfl, hs.below⟩
              | (refine ⟨?_, hs.below⟩
                 congr 2
                 rw [← hE]
                 by_cases hlt : K.length < l.length
                 · rw [if_pos hlt, decide_eq_true (show (0 : Int) < ((l.length - K.length : Nat) : Int) from by omega)]; rfl
                 · rw [if_neg hlt, decide_eq_false (show ¬ (0 : Int) < ((l.length - K.length : Nat) : Int) from by omega)]; rfl)
    ·
      try simp only [decide_eq_true_eq, decide_eq_false_iff_not, Bool.not_eq_true', Bool.not_eq_false', Int.not_lt, Int.not_le, ne_eq, Decidable.not_not] at hg4
      refine wpList_k (st_off ha (wgF ha rfl (s := 34) rfl) rfl ?_); clear ha; (try clear a); intro a ha
      refine wpList_k (st_off ha (wgF ha rfl (s := 34) rfl) rfl ?_); clear ha; (try clear a); intro a ha
      refine wpList_k (st_set ha rfl (ex_pickF ha) rfl ?_); clear ha; (try clear a); intro a ha
      refine wpList_nil ?_
      refine then_n ?_
      refine wp_ifF ha ?_
      refine wp_exit ?_
      refine then_e <| then_e <| blk_e ?_
      refine then_n ?_
      refine wp_seq ?_
      have hwt := Tree.wt (hs.tree tq)
      have hl8 : l.length ≤ 8 := Nat.le_trans hwt.most.2 hwt.most.1
      have hokl : ∀ x ∈ l, OkP x.press := fun x hx => (hwt.ok x hx).1
      refine wp_region_lit ?_
      refine wpList_k (st_set ha rfl (ex_move ha) rfl ?_); clear ha; (try clear a); intro a ha
      refine wpList_k (st_call ha rfl Ty.c15 rfl (tree_all (hs.tree tq)) ?_); clear ha hs
      rintro e w ⟨adw, cw, rfl, hs⟩
      refine ⟨_, rfl, ?_⟩
      intro a ha
      change Fr a 120 ((49, .slice adw l.length cw) :: _) at ha
      change St W w (OwnBr adw l.length cw l :: _) at hs
      refine wpList_k (st_set ha rfl (ex_assign ha) rfl ?_); clear ha; (try clear a); intro a ha
      refine wpList_nil ?_
      refine then_n ?_
      refine wp_seq ?_
      refine wp_region_lit ?_
      refine wpList_k (st_set ha rfl (ex_move ha) rfl ?_); clear ha; (try clear a); intro a ha
      refine wpList_k (st_set ha rfl (ex_move ha) rfl ?_); clear ha; (try clear a); intro a ha
      obtain ⟨K, hK⟩ : ∃ K, l.filter (fun x => !pruneP 4 P x) = K := ⟨_, rfl⟩
      obtain ⟨E, hE⟩ : ∃ E, (if K.length < l.length then 1 else 0) = E := ⟨_, rfl⟩
      have hE1 : E ≤ 1 := by rw [← hE]; split <;> omega
      have hKl : K.length ≤ l.length := by rw [← hK]; exact List.length_filter_le _ _
      have hdrop := tied_drop (f := pruneP 4 P) (hs.store q)
      have hKK : K.filter (fun x => !pruneP 4 P x) = K := by rw [← hK, List.filter_filter]; simp
      have hKd : K.filter (pruneP 4 P) = [] := by rw [← hK, List.filter_filter]; simp
      refine wpList_k (st_call ha rfl Ty.c16 rfl (tree_prune (frm := 4) (p := P) ((hs.store q).tree tq) (by simp) (fun w' h => (RdX.sl h adp hPc (cut4_rd hz)).bbP hP) hcp hPo) ?_); clear ha hs
      rintro e w ⟨rfl, hs⟩
      refine ⟨_, rfl, ?_⟩
      intro a ha
      rw [prune_cut, hdrop, hK, hE, Nat.zero_add] at hs
      simp only [hK] at ha
      refine wpList_k (st_set ha rfl (ex_assign ha) rfl ?_); clear ha; (try clear a); intro a ha
      refine wpList_nil ?_
      refine then_n ?_
      refine wp_seq ?_
      refine wp_region_lit ?_
      refine wpList_k (st_set ha rfl (ex_move ha) rfl ?_); clear ha; (try clear a); intro a ha
      refine wpList_k (st_call ha rfl Ty.c15 rfl (tree_all (hs.tree tq)) ?_); clear ha hs
      rintro e w ⟨adn, cn, rfl, hs⟩
      refine ⟨_, rfl, ?_⟩
      intro a ha
      change Fr a 120 ((54, .slice adn K.length cn) :: _) at ha
      change St W w (OwnBr adn K.length cn K :: _) at hs
      refine wpList_k (st_set ha rfl (ex_assign ha) rfl ?_); clear ha; (try clear a); intro a ha
      refine wpList_nil ?_
      refine then_n ?_
      refine wp_seq ?_
      refine wp_seq ?_
      refine wp_region_lit ?_
      refine wpList_k (st_set ha rfl (ex_move ha) rfl ?_); clear ha; (try clear a); intro a ha
      refine wpList_k (st_set ha rfl (ex_len ha Try.underlying37) rfl ?_); clear ha; (try clear a); intro a ha
      refine wpList_k (st_set ha rfl (ex_move ha) rfl ?_); clear ha; (try clear a); intro a ha
      refine wpList_k (st_set ha rfl (ex_addI ha (by omega) (by omega)) rfl ?_); clear ha; (try clear a); intro a ha
      refine wpList_k (st_set ha rfl (ex_move ha) rfl ?_); clear ha; (try clear a); intro a ha
      refine wpList_k (st_set ha rfl (ex_len ha Try.underlying37) rfl ?_); clear ha; (try clear a); intro a ha
      refine wpList_k (st_set ha rfl (ex_neq ha) rfl ?_); clear ha; (try clear a); intro a ha
      refine wpList_k (st_set ha rfl (ex_move ha) rfl ?_); clear ha; (try clear a); intro a ha
      rw [decide_eq_false (by omega)] at ha
      refine wpList_k (st_set ha (wgT ha rfl (s := 62)) (ex_move ha) rfl ?_); clear ha; (try clear a); intro a ha
      refine wpList_k (st_set ha (wgT ha rfl (s := 62)) (ex_move ha) rfl ?_); clear ha; (try clear a); intro a ha
      have hdrop2 := tied_drop (f := pruneP 4 P) (hs.store q)
      refine wpList_k (st_call ha (wgT ha rfl (s := 62)) Ty.c16 rfl (tree_prune (frm := 4) (p := P) ((hs.store q).tree tq) (by simp only; omega) (fun w' h => (RdX.sl h adp hPc (cut4_rd hz)).bbP hP) hcp hPo) ?_); clear ha hs
      rintro e w ⟨rfl, hs⟩
      refine ⟨_, rfl, ?_⟩
      intro a ha
      rw [prune_cut, hdrop2, hKK, if_neg (Nat.lt_irrefl _), Nat.add_zero] at hs
      simp only [hKK] at ha
      refine wpList_k (st_set ha (wgT ha rfl (s := 62)) (ex_neq ha) rfl ?_); clear ha; (try clear a); intro a ha
      refine wpList_k (st_set ha rfl (ex_pickF ha) rfl ?_); clear ha; (try clear a); intro a ha
      refine wpList_nil ?_
      refine then_n ?_
      rw [decide_eq_false (by simp)] at ha
      refine wp_ifF ha ?_
      refine wp_skip ?_
      refine then_n ?_
      refine wp_seq ?_
      obtain ⟨xw, hw1, hw2, hs⟩ := OwnBr.open (hs.pick (OwnBr adw l.length cw l))
      obtain ⟨xn, hn1, hn2, hs⟩ := OwnBr.open (hs.pick (OwnBr adn K.length cn K))
      refine wp_region_lit ?_
      refine wpList_k (st_set ha rfl (ex_assign ha) rfl ?_); clear ha; (try clear a); intro a ha
      refine wpList_nil ?_
      refine then_n ?_
      refine wp_seq ?_
      refine wp_seq ?_
      refine wp_region_lit ?_
      refine wpList_k (st_set ha rfl (ex_assign ha) rfl ?_); clear ha; (try clear a); intro a ha
      refine wpList_nil ?_
      refine then_n ?_
      refine wp_block ?_
      refine wp_loop_ghost (fun μ a w => ∃ i : Nat, (μ = l.length - i ∧ i ≤ l.length) ∧ Fr a 120 [(1, .slice adp P.length cp), (6, .pointer (some ⟨q, 0, none⟩)), (7, .pointer (some ⟨tq, 0, none⟩)), (11, .slice adw l.length cw), (12, .int .i64 ((l.length - K.length : Nat) : Int)), (13, .slice adn K.length cn), (14, .int .i64 ((l.take i).filter (fun x => !pruneP 4 P x)).length), (15, .int .i64 i)] ∧ St W w [Sl 42 5 adn K.length cn (rows brc xn), All bro xn, Sl 42 5 adw l.length cw (rows brc xw), All bro xw, Tree tq q ⟨8, K, tl, E⟩, Store q r (tied t la 80 nn K), Sl 48 1 adp P.length cp ((cut4 zs).map bbv)]) (l.length) ?_ ?_
      · exact ⟨0, ⟨by simp, by simp⟩, ha.keep [1, 6, 7, 11, 12, 13, 14, 15], hs.sub⟩
      ·
        clear ha hs
        rintro μ a w ⟨i, ⟨rfl, hi⟩, ha, hs⟩
        refine wp_seq ?_
        refine wp_seq ?_
        refine wp_region_lit ?_
        refine wpList_k (st_set ha rfl (ex_move ha) rfl ?_); clear ha; (try clear a); intro a ha
        refine wpList_k (st_set ha rfl (ex_move ha) rfl ?_); clear ha; (try clear a); intro a ha
        refine wpList_k (st_set ha rfl (ex_len ha Try.underlying37) rfl ?_); clear ha; (try clear a); intro a ha
        refine wpList_k (st_set ha rfl (ex_lss ha) rfl ?_); clear ha; (try clear a); intro a ha
        refine wpList_nil ?_
        refine then_n ?_
        refine wp_if ha (fun hc3 => ?_) (fun hc3 => ?_)
        ·
          try simp only [decide_eq_true_eq, decide_eq_false_iff_not, Bool.not_eq_true', Bool.not_eq_false', Int.not_lt, Int.not_le, ne_eq, Decidable.not_not] at hc3
          refine wp_skip ?_
          refine then_n ?_
          refine wp_seq ?_
          refine wp_block ?_
          refine wp_seq ?_
          obtain ⟨bw, ow, rfl, hrd⟩ := hs.slRd adw (by omega)
          obtain ⟨⟨x, ax, cx⟩, hxx⟩ : ∃ y, xw[i]? = some y := ⟨_, List.getElem?_eq_getElem (by rw [← List.length_map (f := (·.1)), hw1]; omega)⟩
          have hrk := row_rd hrd hxx
          have hlx : l[i]? = some x := by rw [← hw1, List.getElem?_map, hxx]; rfl
          have hfx := hfr x (List.mem_of_getElem? hlx)
          have hkeep : (!pruneP 4 P x) = alikeP x.press P := by simp [pruneP, hfx]
          have hsucc := filter_succ (f := fun x => !pruneP 4 P x) hlx
          refine wp_region_lit ?_
          refine wpList_k (st_set ha rfl (ex_move ha) rfl ?_); clear ha; (try clear a); intro a ha
          refine wpList_k (st_set ha rfl (ex_move ha) rfl ?_); clear ha; (try clear a); intro a ha
          refine wpList_k (st_set ha rfl (ex_indexAddr ha Try.underlying37 Ty.t42 (by omega)) rfl ?_); clear ha; (try clear a); intro a ha
          refine wpList_k (st_set ha rfl (ex_fieldAddr (k := 2) ha Try.underlying42 rfl Ty.t23 rfl) rfl ?_); clear ha; (try clear a); intro a ha
          refine wpList_k (st_set ha rfl (ex_load1 ha Try.underlying23 rfl (hrk 2 _ rfl)) rfl ?_); clear ha; (try clear a); intro a ha
          refine wpList_k (st_set ha rfl (ex_move ha) rfl ?_); clear ha; (try clear a); intro a ha
          refine wpList_k (st_call ha rfl Ty.c17 rfl (front_spec (u := x.press) (v := P) hs (by have := (hokl x (List.mem_of_getElem? hlx)).1; omega) (fun w' h => (All.rdBB (h.pick (All bro xw)) hxx).1) (fun w' h => (RdX.sl h adp hPc (cut4_rd hz)).bbP hP)) ?_); clear ha hs
          rintro e w ⟨rfl, hs⟩
          refine ⟨_, rfl, ?_⟩
          intro a ha
          refine wpList_nil ?_
          refine then_n ?_
          refine wp_if ha (fun hc4 => ?_) (fun hc4 => ?_)
          ·
            try simp only [decide_eq_true_eq, decide_eq_false_iff_not, Bool.not_eq_true', Bool.not_eq_false', Int.not_lt, Int.not_le, ne_eq, Decidable.not_not] at hc4
            refine wp_seq ?_
            refine wp_seq ?_
            have hKx := filter_at (f := fun x => !pruneP 4 P x) l i hlx (hkeep.trans hc4)
            rw [hK] at hKx
            have hkK := (List.getElem?_eq_some_iff.1 hKx).1
            obtain ⟨k, hk⟩ : ∃ k, ((l.take i).filter (fun x => !pruneP 4 P x)).length = k := ⟨_, rfl⟩
            rw [hk] at hKx hkK ha
            obtain ⟨bn, on, rfl, hrn⟩ := hs.slRd adn (by omega)
            obtain ⟨⟨x', an, cc⟩, hxn⟩ : ∃ y, xn[k]? = some y := ⟨_, List.getElem?_eq_getElem (by rw [← List.length_map (f := (·.1)), hn1]; omega)⟩
            have hxx' : x' = x := by
              have : K[k]? = some x' := by rw [← hn1, List.getElem?_map, hxn]; rfl
              rw [this] at hKx; cases hKx; rfl
            subst hxx'
            obtain ⟨bw2, ow2, hbw, hrd2⟩ := hs.slRd (some ⟨bw, ow, none⟩) (by omega)
            cases hbw
            have hcw := row_rd hrd2 hxx 0 _ rfl
            have hcn := row_rd hrn hxn 0 _ rfl
            have hcw2 : w.drew.cell? _ = _ := hcw
            have hcn2 : w.drew.cell? _ = _ := hcn
            refine wp_draw (m := 17) (l0 := lb 17 0) (fun w' => w'.cell? ⟨bn, on + k * 5 + 0, none⟩ = some (.int .i64 x'.id) ∧ w'.cell? ⟨bw, ow + i * 5 + 0, none⟩ = some (.int .i64 x'.id)) [14] Ty.mixed (by kernel_rfl) (by kernel_rfl) (pk_then (pk_then (pk_blk (pk_then (pk_then (pk_blk (pk_then pk_body))))))) (fun hpk => ?_)
            replace hs := hs.drew
            generalize w.drew = w at hs hpk hcw2 hcn2 ⊢
            have hC := And.intro hcn2 hcw2
            refine nt_pure (i := 0) (listed' := lb 17 1) (by kernel_rfl) rfl (by kernel_rfl) (by decide) hpk ha rfl (fun w => ex_move ha) rfl ?_; clear ha; (try clear a); intro a ha
            refine nt_pure (i := 1) (listed' := lb 17 3) (by kernel_rfl) rfl (by kernel_rfl) (by decide) hpk ha rfl (fun w => ex_move ha) rfl ?_; clear ha; (try clear a); intro a ha
            refine nt_pure (i := 2) (listed' := lb 17 7) (by kernel_rfl) rfl (by kernel_rfl) (by decide) hpk ha rfl (fun w => ex_len ha Try.underlying37) rfl ?_; clear ha; (try clear a); intro a ha
            refine nt_pure (i := 3) (listed' := lb 17 15) (by kernel_rfl) rfl (by kernel_rfl) (by decide) hpk ha rfl (fun w => ex_eql ha) rfl ?_; clear ha; (try clear a); intro a ha
            refine nt_pure (i := 4) (listed' := lb 17 31) (by kernel_rfl) rfl (by kernel_rfl) (by decide) hpk ha rfl (fun w => ex_move ha) rfl ?_; clear ha; (try clear a); intro a ha
            rw [decide_eq_false (by omega)] at ha
            refine nt_pure (i := 5) (listed' := lb 17 63) (by kernel_rfl) rfl (by kernel_rfl) (by decide) hpk ha (wgT ha rfl (s := 85)) (fun w => ex_move ha) rfl ?_; clear ha; (try clear a); intro a ha
            refine nt_pure (i := 6) (listed' := lb 17 127) (by kernel_rfl) rfl (by kernel_rfl) (by decide) hpk ha (wgT ha rfl (s := 85)) (fun w => ex_move ha) rfl ?_; clear ha; (try clear a); intro a ha
            refine nt_pure (i := 7) (listed' := lb 17 255) (by kernel_rfl) rfl (by kernel_rfl) (by decide) hpk ha (wgT ha rfl (s := 85)) (fun w => ex_indexAddr ha Try.underlying37 Ty.t42 (by omega)) rfl ?_; clear ha; (try clear a); intro a ha
            refine nt_pure (i := 8) (listed' := lb 17 511) (by kernel_rfl) rfl (by kernel_rfl) (by decide) hpk ha (wgT ha rfl (s := 85)) (fun w => ex_fieldAddr (k := 0) ha Try.underlying42 rfl Ty.t2 rfl) rfl ?_; clear ha; (try clear a); intro a ha
            refine nt_pure (i := 10) (listed' := lb 17 1535) (by kernel_rfl) rfl (by kernel_rfl) (by decide) hpk ha (wgT ha rfl (s := 85)) (fun w => ex_move ha) rfl ?_; clear ha; (try clear a); intro a ha
            refine nt_pure (i := 11) (listed' := lb 17 3583) (by kernel_rfl) rfl (by kernel_rfl) (by decide) hpk ha (wgT ha rfl (s := 85)) (fun w => ex_move ha) rfl ?_; clear ha; (try clear a); intro a ha
            refine nt_pure (i := 12) (listed' := lb 17 7679) (by kernel_rfl) rfl (by kernel_rfl) (by decide) hpk ha (wgT ha rfl (s := 85)) (fun w => ex_indexAddr ha Try.underlying37 Ty.t42 (by omega)) rfl ?_; clear ha; (try clear a); intro a ha
            refine nt_pure (i := 13) (listed' := lb 17 15871) (by kernel_rfl) rfl (by kernel_rfl) (by decide) hpk ha (wgT ha rfl (s := 85)) (fun w => ex_fieldAddr (k := 0) ha Try.underlying42 rfl Ty.t2 rfl) rfl ?_; clear ha; (try clear a); intro a ha
            refine nt_held (i := 9) (listed' := lb 17 16383) (by kernel_rfl) rfl (by kernel_rfl) hpk ha (wgT ha rfl (s := 85)) (fun w hc => ex_load1 ha Try.underlying2 rfl (hc.1)) hC rfl ?_; clear ha; (try clear a); intro a ha
            refine nt_one (i := 14) (listed' := lb 17 32767) (by kernel_rfl) (by kernel_rfl) rfl (st_set ha (wgT ha rfl (s := 85)) (ex_load1 ha Try.underlying2 rfl (hcw2)) rfl ?_); clear ha; (try clear a); intro a ha
            refine ⟨fun _ => hC, ?_⟩
            refine nt_pure (i := 15) (listed' := lb 17 65535) (by kernel_rfl) rfl (by kernel_rfl) (by decide) hpk ha (wgT ha rfl (s := 85)) (fun w => ex_neq ha) rfl ?_; clear ha; (try clear a); intro a ha
            refine nt_pure (i := 16) (listed' := lb 17 131071) (by kernel_rfl) rfl (by kernel_rfl) (by decide) hpk ha rfl (fun w => ex_pickF ha) rfl ?_; clear ha; (try clear a); intro a ha
            refine nt_done (by kernel_rfl) ?_ _
            refine then_n ?_
            rw [decide_eq_false (by simp)] at ha
            refine wp_ifF ha ?_
            refine wp_skip ?_
            refine then_n ?_
            refine wp_region_lit ?_
            refine wpList_k (st_set ha rfl (ex_move ha) rfl ?_); clear ha; (try clear a); intro a ha
            refine wpList_k (st_set ha rfl (ex_addI ha (by omega) (by omega)) rfl ?_); clear ha; (try clear a); intro a ha
            replace ha := ha.del 14
            refine wpList_k (st_set ha rfl (ex_assign ha) rfl ?_); clear ha; (try clear a); intro a ha
            refine wpList_nil ?_
            refine blk_n <| then_n ?_
            refine wp_region_lit ?_
            refine wpList_k (st_set ha rfl (ex_move ha) rfl ?_); clear ha; (try clear a); intro a ha
            refine wpList_k (st_set ha rfl (ex_addI ha (by omega) (by omega)) rfl ?_); clear ha; (try clear a); intro a ha
            replace ha := ha.del 15
            refine wpList_k (st_set ha rfl (ex_assign ha) rfl ?_); clear ha; (try clear a); intro a ha
            refine wpList_nil ?_
            refine then_n ?_
            have hs4 : ((l.take (i + 1)).filter (fun x => !pruneP 4 P x)).length = k + 1 := by rw [hsucc, if_pos (hkeep.trans hc4), List.length_append, hk]; rfl
            exact ⟨l.length - (i + 1), by omega, i + 1, ⟨rfl, by omega⟩, by rw [hs4]; exact ha.keep [1, 6, 7, 11, 12, 13, 14, 15], hs.sub⟩
          ·
            try simp only [decide_eq_true_eq, decide_eq_false_iff_not, Bool.not_eq_true', Bool.not_eq_false', Int.not_lt, Int.not_le, ne_eq, Decidable.not_not] at hc4
            refine wp_skip ?_
            refine blk_n <| then_n ?_
            refine wp_region_lit ?_
            refine wpList_k (st_set ha rfl (ex_move ha) rfl ?_); clear ha; (try clear a); intro a ha
            refine wpList_k (st_set ha rfl (ex_addI ha (by omega) (by omega)) rfl ?_); clear ha; (try clear a); intro a ha
            replace ha := ha.del 15
            refine wpList_k (st_set ha rfl (ex_assign ha) rfl ?_); clear ha; (try clear a); intro a ha
            refine wpList_nil ?_
            refine then_n ?_
            have hs4 : ((l.take (i + 1)).filter (fun x => !pruneP 4 P x)).length = ((l.take i).filter (fun x => !pruneP 4 P x)).length := by rw [hsucc, if_neg (by rw [hkeep, hc4]; decide), List.append_nil]
            exact ⟨l.length - (i + 1), by omega, i + 1, ⟨rfl, by omega⟩, by rw [hs4]; exact ha.keep [1, 6, 7, 11, 12, 13, 14, 15], hs.sub⟩
        ·
          try simp only [decide_eq_true_eq, decide_eq_false_iff_not, Bool.not_eq_true', Bool.not_eq_false', Int.not_lt, Int.not_le, ne_eq, Decidable.not_not] at hc3
          refine wp_exit ?_
          refine then_e <| then_e <| blk_e ?_
          refine then_n ?_
          refine wp_seq ?_
          obtain rfl : i = l.length := by omega
          rw [List.take_length, hK] at ha
          refine wp_region_lit ?_
          refine wpList_k (st_set ha rfl (ex_move ha) rfl ?_); clear ha; (try clear a); intro a ha
          refine wpList_k (st_set ha rfl (ex_move ha) rfl ?_); clear ha; (try clear a); intro a ha
          refine wpList_k (st_set ha rfl (ex_len ha Try.underlying37) rfl ?_); clear ha; (try clear a); intro a ha
          refine wpList_k (st_set ha rfl (ex_eql ha) rfl ?_); clear ha; (try clear a); intro a ha
          refine wpList_k (st_set ha rfl (ex_move ha) rfl ?_); clear ha; (try clear a); intro a ha
          rw [decide_eq_true (by omega)] at ha
          refine wpList_k (st_set ha (wgT ha rfl (s := 104)) (ex_move ha) rfl ?_); clear ha; (try clear a); intro a ha
          refine wpList_k (st_call ha (wgT ha rfl (s := 104)) Ty.c18 rfl (snap_live (hs.store q)) ?_); clear ha hs
          rintro e w ⟨adl, cl, rfl, hs⟩
          refine ⟨_, rfl, ?_⟩
          intro a ha
          change Fr a 120 ((106, .slice adl (K.map (pk t)).length.succ cl) :: _) at ha
          rw [List.length_map] at ha
          refine wpList_k (st_set ha (wgT ha rfl (s := 104)) (ex_len ha Try.underlying43) rfl ?_); clear ha; (try clear a); intro a ha
          refine wpList_k (st_set ha (wgT ha rfl (s := 104)) (ex_move ha) rfl ?_); clear ha; (try clear a); intro a ha
          refine wpList_k (st_set ha (wgT ha rfl (s := 104)) (ex_addI ha (by omega) (by omega)) rfl ?_); clear ha; (try clear a); intro a ha
          refine wpList_k (st_set ha (wgT ha rfl (s := 104)) (ex_eql ha) rfl ?_); clear ha; (try clear a); intro a ha
          refine wpList_k (st_set ha rfl (ex_pickT ha) rfl ?_); clear ha; (try clear a); intro a ha
          refine wpList_k (st_set ha rfl (ex_move ha) rfl ?_); clear ha; (try clear a); intro a ha
          rw [decide_eq_true (by omega)] at ha
          refine wpList_k (st_set ha (wgT ha rfl (s := 112)) (ex_move ha) rfl ?_); clear ha; (try clear a); intro a ha
          refine wpList_k (st_call ha (wgT ha rfl (s := 112)) Ty.c19 rfl (tree_epoch (hs.tree tq)) ?_); clear ha hs
          rintro e w ⟨rfl, hs⟩
          refine ⟨_, rfl, ?_⟩
          intro a ha
          change Fr a 120 ((114, .int .i64 (E : Int)) :: _) at ha
          refine wpList_k (st_set ha (wgT ha rfl (s := 112)) (ex_eql ha) rfl ?_); clear ha; (try clear a); intro a ha
          refine wpList_k (st_set ha (wgT ha rfl (s := 112)) (ex_move ha) rfl ?_); clear ha; (try clear a); intro a ha
          refine wpList_k (st_set ha (wgT ha rfl (s := 112)) (ex_gtr ha) rfl ?_); clear ha; (try clear a); intro a ha
          refine wpList_k (st_set ha (wgT ha rfl (s := 112)) (ex_eqlB ha Try.underlying4) rfl ?_); clear ha; (try clear a); intro a ha
          refine wpList_k (st_set ha rfl (ex_pickT ha) rfl ?_); clear ha; (try clear a); intro a ha
          refine wpList_k (st_set ha rfl (ex_assign ha) rfl ?_); clear ha; (try clear a); intro a ha
          refine wpList_nil ?_
          refine then_n ?_
          refine wp_ret ?_
          refine ret1 ha rfl ?_
          first
            | exact ⟨rfl, hs.below⟩
            | (refine ⟨?_, hs.below⟩
               congr 2
               rw [← hE]
               by_cases hlt : K.length < l.length
               · rw [if_pos hlt, decide_eq_true (show (0 : Int) < ((l.length - K.length : Nat) : Int) from by omega)]; rfl
               · rw [if_neg hlt, decide_eq_false (show ¬ (0 : Int) < ((l.length - K.length : Nat) : Int) from by omega)]; rfl)
end
end Go.Proofs.Ytkjmmchmanofkaa

