/- SnapTree. -/
import Derived.Test.YtpfblmpgljodmaaSnapC
namespace Go.Proofs.Ytpfblmpgljodmaa
open Go.RowKit
set_option linter.unusedVariables false
set_option linter.unusedSimpArgs false
set_option maxRecDepth 10000
set_option synthInstance.maxSize 4000
set_option synthInstance.maxHeartbeats 400000

section
variable {W w : World} {L R : List SP} {q r : Nat} {A : Sn}
theorem cnt_two_le {l : List Pic} {i j : Nat} {x y : Pic} (hi : l[i]? = some x) (hj : l[j]? = some y) (hn : i ≠ j) (p : Nat) : cntP x p + cntP y p ≤ cnt l p := by
  obtain ⟨hil, rfl⟩ := List.getElem?_eq_some_iff.1 hi
  have h1 := cnt_erase hil p
  have hm : y ∈ l.eraseIdx i := by rw [List.mem_eraseIdx_iff_getElem?]; exact ⟨j, by omega, hj⟩
  have := cnt_mem hm p
  omega
/-- A written page of its own is one page more. -/
theorem used_putOwn {i c f : Nat} {v : Int} {x : Pic} (hx : A.pics[i]? = some x) (hc : c < 32) (h1 : 1 < cnt A.pics (x.p (c / 8))) (hf : f < A.room) (h0 : cnt A.pics f = 0) : (A.putOwn i x c v f).used = A.used + 1 := by
  have hi := (List.getElem?_eq_some_iff.1 hx).1
  have hxe := (List.getElem?_eq_some_iff.1 hx).2
  have hxm := List.mem_of_getElem? hx
  have hfx : ∀ k, k < 4 → x.p k ≠ f := fun k hk e => by
    have h2 := cnt_mem hxm f
    rw [← e] at h2 h0
    have := cntP_pos (x := x) hk
    omega
  have hcp : ∀ p, cntP { x with g := upd x.g c v, p := fun j => if j = c / 8 then f else x.p j } p + (if x.p (c / 8) = p then 1 else 0) = cntP x p + (if f = p then 1 else 0) := fun p => by
    rw [cntP_eq, cntP_eq]
    simp only
    rcases (by omega : c / 8 = 0 ∨ c / 8 = 1 ∨ c / 8 = 2 ∨ c / 8 = 3) with e | e | e | e <;> rw [e] <;> simp <;> omega
  have hcnt : ∀ p, cnt (A.putOwn i x c v f).pics p + (if x.p (c / 8) = p then 1 else 0) = cnt A.pics p + (if f = p then 1 else 0) := fun p => by
    have h2 := cnt_set hi { x with g := upd x.g c v, p := fun j => if j = c / 8 then f else x.p j } p
    rw [hxe] at h2
    have h3 := hcp p
    simp only [Sn.putOwn]; omega
  have hpos : ∀ p, decide (0 < cnt (A.putOwn i x c v f).pics p) = (p == f || decide (0 < cnt A.pics p)) := fun p => by
    have h2 := hcnt p
    by_cases hp : p = f
    · subst hp
      rw [if_neg (show ¬ x.p (c / 8) = p from hfx _ (by omega)), if_pos rfl] at h2
      simp; omega
    · rw [if_neg (show ¬ f = p from fun e => hp e.symm)] at h2
      have : (p == f) = false := by simp; exact hp
      rw [this, Bool.false_or, decide_eq_decide]
      by_cases hp2 : x.p (c / 8) = p
      · rw [if_pos hp2] at h2; rw [hp2] at h1; omega
      · rw [if_neg hp2] at h2; omega
  have h4 := countP_insert A.room (fun p => decide (0 < cnt A.pics p)) f hf (by simp [h0])
  show (List.range A.room).countP _ = _
  rw [List.countP_congr (fun p _ => by rw [hpos p])]
  exact h4

theorem wrap32 {i : Int} (h1 : -2147483648 ≤ i) (h2 : i ≤ 2147483647) : IntKind.i32.wrap i = i := IntWalk.i32_in _ ⟨h1, h2⟩
def nrm (x : Int) : Nat := ((x.tmod 32 + 32).tmod 32).toNat
theorem nrm_spec (x : Int) : nrm x < 32 ∧ (x.tmod 32 + 32).tmod 32 = nrm x ∧ -32 < x.tmod 32 ∧ x.tmod 32 < 32 := by
  obtain ⟨c, h1, h2, h3, h4⟩ := norm32 x
  have : nrm x = c := by rw [nrm, h2, Int.toNat_natCast]
  rw [this]; exact ⟨h1, h2, h3, h4⟩
def tids (k : Nat) : List Value := (List.range k).map fun j => Value.int .i64 ((j + 1 : Nat) : Int)
theorem tids_len (k : Nat) : (tids k).length = k := by simp [tids]
theorem tids_succ (k : Nat) : tids (k + 1) = tids k ++ [.int .i64 ((k + 1 : Nat) : Int)] := by simp [tids, List.range_succ]
theorem tids_at {k j : Nat} (h : j < k) : (tids k)[j]? = some (.int .i64 ((j + 1 : Nat) : Int)) := by simp [tids, h]
/-- Pictures of one game on one set of pages, of which the first ones behind the root are written. -/
def tpics (G : Nat → Int) (t : Nat → Nat) (C : Nat → Nat) (T : Nat → Nat → Nat) (M k : Nat) : List Pic :=
  (List.range k).map fun j => ⟨j + 1, 1, if 1 ≤ j ∧ j < M then upd G (C j) (1000 + j) else G, if 1 ≤ j ∧ j < M then T j else t⟩
theorem tpics_at {G t C T M k j} (h : j < k) : (tpics G t C T M k)[j]? = some ⟨j + 1, 1, if 1 ≤ j ∧ j < M then upd G (C j) (1000 + j) else G, if 1 ≤ j ∧ j < M then T j else t⟩ := by simp [tpics, h]
theorem tpics_succ (G t C T k) : tpics G t C T 1 (k + 1) = tpics G t C T 1 k ++ [⟨k + 1, 1, G, t⟩] := by
  simp only [tpics, List.range_succ, List.map_append, List.map_cons, List.map_nil]
  rw [if_neg (by omega), if_neg (by omega)]
theorem tpics_set {G t C T M k} (h1 : 1 ≤ M) (h2 : M < k) (p' : Nat → Nat) : (tpics G t C T M k).set M ⟨M + 1, 1, upd G (C M) (1000 + M), p'⟩ = tpics G t C (fun j => if j = M then p' else T j) (M + 1) k := by
  apply List.ext_getElem (by simp [tpics])
  intro j h3 h4
  simp only [tpics, List.getElem_set, List.getElem_map, List.getElem_range]
  by_cases hj : M = j
  · subst hj
    rw [if_pos rfl, if_pos (by omega), if_pos (by omega), if_pos rfl]
  · rw [if_neg hj]
    by_cases h5 : 1 ≤ j ∧ j < M
    · rw [if_pos h5, if_pos h5, if_pos (by omega), if_pos (by omega), if_neg (fun e => hj e.symm)]
    · rw [if_neg h5, if_neg h5, if_neg (by omega), if_neg (by omega)]
theorem tpics_used {G t C T} (ht : Apart4 t) (k : Nat) (h : 1 ≤ k) : distinct (pagesOf (tpics G t C T 1 k)) = 4 := by
  induction k with
  | zero => omega
  | succ k ih =>
    have h1 : pagesOf (tpics G t C T 1 (k + 1)) = pagesOf (tpics G t C T 1 k) ++ [t 0, t 1, t 2, t 3] := by
      rw [tpics_succ]; simp [pagesOf]
    rw [h1, distinct_mem, distinct4 ht]
    intro p hp
    simp only [pagesOf, tpics, List.mem_flatMap, List.mem_map] at hp
    obtain ⟨x, ⟨j, _, rfl⟩, hx⟩ := hp
    simp only at hx
    rw [if_neg (by omega)] at hx
    exact hx

theorem snapTree_walk (a0 : Option Addr) (len0 cap0 : Nat) (z0 : List Int) (n : Int) (a2 : Option Addr) (len2 cap2 : Nat) (z2 : List Int) (W : World) (w0 : ArgInts .i32 W a0 len0 cap0 z0) (w1 : (Lit.int .i64 n).wf = true) (w2 : ArgInts .i64 W a2 len2 cap2 z2) :
    Calls Try.prog 8 #[.slice a0 len0 cap0, .int .i64 n, .slice a2 len2 cap2] W fun e w' => e = .returned (.bool true) ∧ Below W.heap.size W w' := by
  have hs := St.start W
  obtain ⟨zs, hzl, hzw, hz⟩ := w0.vals
  have hb1 := w2.len_le
  obtain ⟨cs, hcl, hcw, hcr⟩ := w2.vals
  subst hzl
  subst hcl
  refine calls_enter Try.func8 rfl Try.ntmps8 (Nat.le_of_ble_eq_true rfl) ?_
  intro a ha
  replace ha : Fr a 148 [(0, _), (1, _), (2, _)] := ha
  refine wp_seq ?_
  refine wp_region_lit ?_
  refine wpList_k (st_set ha rfl (ex_assign ha) rfl ?_); clear ha; (try clear a); intro a ha
  refine wpList_nil ?_
  refine then_n ?_
  refine wp_seq ?_
  refine wp_region_lit ?_
  refine wpList_k (st_call ha rfl Ty.c11 rfl (begun11 hs) ?_); clear ha hs
  rintro e w ⟨rfl, hs⟩
  refine ⟨_, rfl, ?_⟩
  intro a ha
  refine wpList_k (st_set ha rfl (ex_assign ha) rfl ?_); clear ha; (try clear a); intro a ha
  refine wpList_nil ?_
  refine then_n ?_
  refine wp_seq ?_
  refine wp_seq ?_
  refine wp_region_lit ?_
  refine wpList_k (st_set ha rfl (ex_move ha) rfl ?_); clear ha; (try clear a); intro a ha
  refine wpList_k (st_set ha rfl (ex_not ha) rfl ?_); clear ha; (try clear a); intro a ha
  refine wpList_nil ?_
  refine then_n ?_
  refine wp_ifF ha ?_
  refine wp_skip ?_
  refine then_n ?_
  refine wp_seq ?_
  refine wp_seq ?_
  refine wp_region_lit ?_
  refine wpList_k (st_set ha rfl (ex_move ha) rfl ?_); clear ha; (try clear a); intro a ha
  refine wpList_k (st_set ha rfl (ex_lss ha) rfl ?_); clear ha; (try clear a); intro a ha
  refine wpList_k (st_set ha rfl (ex_move ha) rfl ?_); clear ha; (try clear a); intro a ha
  refine ha.bool (s := 28) (fun hg2 ha => ?_) (fun hg2 ha => ?_)
  ·
    try simp only [decide_eq_true_eq, decide_eq_false_iff_not, Bool.not_eq_true', Bool.not_eq_false', Int.not_lt, Int.not_le, ne_eq, Decidable.not_not] at hg2
    refine wpList_k (st_off ha (wgF ha rfl (s := 28) rfl) rfl ?_); clear ha; (try clear a); intro a ha
    refine wpList_k (st_off ha (wgF ha rfl (s := 28) rfl) rfl ?_); clear ha; (try clear a); intro a ha
    refine wpList_k (st_set ha rfl (ex_pickT ha) rfl ?_); clear ha; (try clear a); intro a ha
    refine wpList_nil ?_
    refine then_n ?_
    refine wp_ifT ha ?_
    refine wp_seq ?_
    refine wp_region_lit ?_
    replace ha := ha.del 6
    refine wpList_k (st_set ha rfl (ex_assign ha) rfl ?_); clear ha; (try clear a); intro a ha
    refine wpList_nil ?_
    refine then_n ?_
    refine wp_ret <| then_r ?_
    refine ret1 ha rfl ?_
    exact ⟨rfl, hs.below⟩
  ·
    try simp only [decide_eq_true_eq, decide_eq_false_iff_not, Bool.not_eq_true', Bool.not_eq_false', Int.not_lt, Int.not_le, ne_eq, Decidable.not_not] at hg2
    refine wpList_k (st_set ha (wgT ha rfl (s := 28)) (ex_move ha) rfl ?_); clear ha; (try clear a); intro a ha
    refine wpList_k (st_set ha (wgT ha rfl (s := 28)) (ex_gtr ha) rfl ?_); clear ha; (try clear a); intro a ha
    refine wpList_k (st_set ha rfl (ex_pickF ha) rfl ?_); clear ha; (try clear a); intro a ha
    refine wpList_nil ?_
    refine then_n ?_
    refine wp_if ha (fun hc1 => ?_) (fun hc1 => ?_)
    ·
      try simp only [decide_eq_true_eq, decide_eq_false_iff_not, Bool.not_eq_true', Bool.not_eq_false', Int.not_lt, Int.not_le, ne_eq, Decidable.not_not] at hc1
      refine wp_seq ?_
      refine wp_region_lit ?_
      replace ha := ha.del 6
      refine wpList_k (st_set ha rfl (ex_assign ha) rfl ?_); clear ha; (try clear a); intro a ha
      refine wpList_nil ?_
      refine then_n ?_
      refine wp_ret <| then_r ?_
      refine ret1 ha rfl ?_
      exact ⟨rfl, hs.below⟩
    ·
      try simp only [decide_eq_true_eq, decide_eq_false_iff_not, Bool.not_eq_true', Bool.not_eq_false', Int.not_lt, Int.not_le, ne_eq, Decidable.not_not] at hc1
      obtain ⟨N, rfl⟩ : ∃ N : Nat, n = N := ⟨n.toNat, by omega⟩
      obtain ⟨C, hCd⟩ : ∃ C : Nat → Nat, C = fun j => nrm (cs.getD j 0) := ⟨_, rfl⟩
      refine wp_skip ?_
      refine then_n ?_
      refine wp_seq ?_
      refine wp_region_lit ?_
      refine wpList_k (st_call ha rfl Ty.c12 rfl (snap_new (n := 20) hs (by decide)) ?_); clear ha hs
      rintro e w ⟨q, r, rfl, hs⟩
      refine ⟨_, rfl, ?_⟩
      intro a ha
      refine wpList_k (st_set ha rfl (ex_assign ha) rfl ?_); clear ha; (try clear a); intro a ha
      refine wpList_nil ?_
      refine then_n ?_
      refine wp_seq ?_
      refine wp_region_lit ?_
      refine wpList_k (st_set ha rfl (ex_move ha) rfl ?_); clear ha; (try clear a); intro a ha
      refine wpList_k (st_call ha rfl Ty.c14 rfl (of_spec (zs := zs) hs (fun w' h => rdv32 hz h)) ?_); clear ha hs
      rintro e w ⟨rfl, hs⟩
      refine ⟨_, rfl, ?_⟩
      intro a ha
      refine wpList_k (st_alloc ha rfl hs Ty.t29 rfl ?_); clear ha hs; (try clear a); (try clear w); intro b9 a w ha hs ho
      clear ho
      refine wpList_k (st_storeAll ha rfl hs Ty.t29 ints_one (by rfl) ?_); clear ha hs; (try clear a); (try clear w); intro a w ha hs
      refine wpList_nil ?_
      refine then_n ?_
      refine wp_seq ?_
      refine wp_region_lit ?_
      refine wpList_k (st_set ha rfl (ex_move ha) rfl ?_); clear ha; (try clear a); intro a ha
      refine wpList_k (st_set ha rfl (ex_loadN ha Try.underlying29 rfl Ty.t29 (hs.rdAll)) rfl ?_); clear ha; (try clear a); intro a ha
      refine wpList_k (st_call ha rfl Ty.c13 rfl (snap_make (hs.store q) (by decide) (by decide)) ?_); clear ha hs
      rintro e w ⟨t, rfl, ⟨ht1, ht2⟩, hs⟩
      refine ⟨_, rfl, ?_⟩
      intro a ha
      change St W w (Store q r ⟨1, 80, 1, tpics (ofL zs) t C (fun _ => t) 1 1⟩ :: _) at hs
      refine wpList_k (st_set ha rfl (ex_move ha) rfl ?_); clear ha; (try clear a); intro a ha
      refine wpList_k (st_set ha rfl (ex_extract ha rfl) rfl ?_); clear ha; (try clear a); intro a ha
      refine wpList_k (st_set ha rfl (ex_extract ha rfl) rfl ?_); clear ha; (try clear a); intro a ha
      refine wpList_k (st_set ha rfl (ex_assign ha) rfl ?_); clear ha; (try clear a); intro a ha
      refine wpList_k (st_set ha rfl (ex_assign ha) rfl ?_); clear ha; (try clear a); intro a ha
      refine wpList_nil ?_
      refine then_n ?_
      refine wp_seq ?_
      refine wp_seq ?_
      refine wp_region_lit ?_
      refine wpList_k (st_set ha rfl (ex_move ha) rfl ?_); clear ha; (try clear a); intro a ha
      refine wpList_k (st_set ha rfl (ex_not ha) rfl ?_); clear ha; (try clear a); intro a ha
      refine wpList_nil ?_
      refine then_n ?_
      refine wp_ifF ha ?_
      refine wp_skip ?_
      refine then_n ?_
      refine wp_seq ?_
      refine wp_region_lit ?_
      refine wpList_k (st_set ha rfl (ex_move ha) rfl ?_); clear ha; (try clear a); intro a ha
      refine wpList_k (st_buildSlice ha rfl hs Try.underlying42 Ty.t25 rfl rfl rfl rfl (by decide) (by decide) ?_); clear ha hs; (try clear a); (try clear w); intro b44 a w ha hs ho
      clear ho
      have hs0 := hs.slShut (pre := []) (cs := tids 1) (post := []) (n := 1) (c := 1) (sz := 1) rfl (Nat.le_refl _) (by simp)
      replace hs := hs0
      clear hs0
      refine wpList_k (st_set ha rfl (ex_assign ha) rfl ?_); clear ha; (try clear a); intro a ha
      refine wpList_nil ?_
      refine then_n ?_
      refine wp_seq ?_
      refine wp_seq ?_
      refine wp_region_lit ?_
      refine wpList_k (st_set ha rfl (ex_assign ha) rfl ?_); clear ha; (try clear a); intro a ha
      refine wpList_nil ?_
      refine then_n ?_
      refine wp_block ?_
      refine wp_loop_ghost (fun μ a w => ∃ (k : Nat) (ad : Option Addr) (c : Nat), (μ = N - k ∧ k ≤ N ∧ 1 ≤ k) ∧ Fr a 148 [(1, .int .i64 N), (2, .slice a2 cs.length cap2), (8, .pointer (some ⟨q, 0, none⟩)), (9, .pointer (some ⟨b9, 0, none⟩)), (12, .slice ad k c), (13, .int .i64 k)] ∧ St W w [Store q r ⟨k, 80, k, tpics (ofL zs) t C (fun _ => t) 1 k⟩, Sl 25 1 ad k c (tids k), blk b9 29 (ints .i32 32 (ofL zs))]) (N - 1) ?_ ?_
      · exact ⟨1, _, _, ⟨rfl, by omega, by omega⟩, ha.keep [1, 2, 8, 9, 12, 13], hs.sub⟩
      ·
        clear ha hs
        rintro μ a w ⟨k, ad, c, ⟨rfl, hk, hk1⟩, ha, hs⟩
        refine wp_seq ?_
        refine wp_seq ?_
        refine wp_region_lit ?_
        refine wpList_k (st_set ha rfl (ex_move ha) rfl ?_); clear ha; (try clear a); intro a ha
        refine wpList_k (st_set ha rfl (ex_move ha) rfl ?_); clear ha; (try clear a); intro a ha
        refine wpList_k (st_set ha rfl (ex_lss ha) rfl ?_); clear ha; (try clear a); intro a ha
        refine wpList_nil ?_
        refine then_n ?_
        refine wp_if ha (fun hc3 => ?_) (fun hc3 => ?_)
        ·
          try simp only [decide_eq_true_eq, decide_eq_false_iff_not, Bool.not_eq_true', Bool.not_eq_false', Int.not_lt, Int.not_le, ne_eq, Decidable.not_not] at hc3
          refine wp_skip ?_
          refine then_n ?_
          refine wp_seq ?_
          refine wp_block ?_
          refine wp_seq ?_
          obtain ⟨b', off', rfl, hrd⟩ := hs.slRd ad (by omega)
          have hid := hrd (k / 2) _ (tids_at (k := k) (j := k / 2) (by omega))
          refine wp_region_lit ?_
          refine wpList_k (st_set ha rfl (ex_move ha) rfl ?_); clear ha; (try clear a); intro a ha
          refine wpList_k (st_set ha rfl (ex_move ha) rfl ?_); clear ha; (try clear a); intro a ha
          refine wpList_k (st_set ha rfl (ex_move ha) rfl ?_); clear ha; (try clear a); intro a ha
          refine wpList_k (st_set ha rfl (ex_quo ha (by decide) (by rw [show (k : Int).tdiv 2 = ((k / 2 : Nat) : Int) from quoN k 2]; exact wrap_in (by omega) (by omega))) rfl ?_); clear ha; (try clear a); intro a ha
          rw [show (k : Int).tdiv 2 = ((k / 2 : Nat) : Int) from quoN k 2] at ha
          refine wpList_k (st_set ha rfl (ex_indexAddr ha Try.underlying42 Ty.t25 (by omega)) rfl ?_); clear ha; (try clear a); intro a ha
          rw [Nat.mul_one] at ha
          refine wpList_k (st_set ha rfl (ex_load1 ha Try.underlying25 rfl (hid)) rfl ?_); clear ha; (try clear a); intro a ha
          refine wpList_k (st_call ha rfl Ty.c16 rfl (snap_fork (i := k / 2) (x := ⟨k / 2 + 1, 1, ofL zs, t⟩) (hs.store q) (by simp only; rw [tpics_at (by omega), if_neg (by omega), if_neg (by omega)]) (by simp only; omega)) ?_); clear ha hs
          rintro e w ⟨rfl, hs⟩
          refine ⟨_, rfl, ?_⟩
          intro a ha
          change St W w (Store q r ⟨k + 1, 80, k + 1, tpics (ofL zs) t C (fun _ => t) 1 k ++ [⟨k + 1, 1, ofL zs, t⟩]⟩ :: _) at hs
          rw [← tpics_succ] at hs
          refine wpList_k (st_set ha rfl (ex_move ha) rfl ?_); clear ha; (try clear a); intro a ha
          refine wpList_k (st_set ha rfl (ex_extract ha rfl) rfl ?_); clear ha; (try clear a); intro a ha
          refine wpList_k (st_set ha rfl (ex_extract ha rfl) rfl ?_); clear ha; (try clear a); intro a ha
          refine wpList_k (st_set ha rfl (ex_assign ha) rfl ?_); clear ha; (try clear a); intro a ha
          refine wpList_k (st_set ha rfl (ex_assign ha) rfl ?_); clear ha; (try clear a); intro a ha
          refine wpList_nil ?_
          refine then_n ?_
          refine wp_seq ?_
          refine wp_seq ?_
          refine wp_region_lit ?_
          refine wpList_k (st_set ha rfl (ex_move ha) rfl ?_); clear ha; (try clear a); intro a ha
          refine wpList_k (st_set ha rfl (ex_not ha) rfl ?_); clear ha; (try clear a); intro a ha
          refine wpList_nil ?_
          refine then_n ?_
          refine wp_ifF ha ?_
          refine wp_skip ?_
          refine then_n ?_
          refine wp_region_lit ?_
          refine wpList_k (st_set ha rfl (ex_move ha) rfl ?_); clear ha; (try clear a); intro a ha
          refine wpList_k (st_set ha rfl (ex_move ha) rfl ?_); clear ha; (try clear a); intro a ha
          refine wpList_k (st_buildSlice ha rfl hs Try.underlying42 Ty.t25 rfl rfl rfl rfl (by decide) (by decide) ?_); clear ha hs; (try clear a); (try clear w); intro b64 a w ha hs ho
          clear ho
          refine wpList_k (st_append ha rfl hs Try.underlying42 Ty.t25 rfl rfl hs.rdAll rfl (by simp [Value.oneCell']) (by decide) (by decide) (by omega) ?_); clear ha hs; (try clear a); (try clear w); intro ad65 c65 a w ha hs
          change St W w (Sl 25 1 ad65 (k + 1) c65 (tids k ++ [.int .i64 ((k + 1 : Nat) : Int)]) :: _) at hs
          rw [← tids_succ] at hs
          replace ha := ha.del 12
          refine wpList_k (st_set ha rfl (ex_assign ha) rfl ?_); clear ha; (try clear a); intro a ha
          refine wpList_nil ?_
          refine blk_n <| then_n ?_
          refine wp_region_lit ?_
          refine wpList_k (st_set ha rfl (ex_move ha) rfl ?_); clear ha; (try clear a); intro a ha
          refine wpList_k (st_set ha rfl (ex_addI ha (by omega) (by omega)) rfl ?_); clear ha; (try clear a); intro a ha
          replace ha := ha.del 13
          refine wpList_k (st_set ha rfl (ex_assign ha) rfl ?_); clear ha; (try clear a); intro a ha
          refine wpList_nil ?_
          refine then_n ?_
          exact ⟨N - (k + 1), by omega, k + 1, _, _, ⟨rfl, by omega, by omega⟩, ha.keep [1, 2, 8, 9, 12, 13], hs.sub⟩
        ·
          try simp only [decide_eq_true_eq, decide_eq_false_iff_not, Bool.not_eq_true', Bool.not_eq_false', Int.not_lt, Int.not_le, ne_eq, Decidable.not_not] at hc3
          obtain rfl : k = N := by omega
          have hu0 : (⟨k, 80, k, tpics (ofL zs) t C (fun _ => t) 1 k⟩ : Sn).used = 4 := by
            rw [Store.used (hs.store q)]; exact tpics_used ht2 k hk1
          refine wp_exit ?_
          refine then_e <| then_e <| blk_e ?_
          refine then_n ?_
          refine wp_seq ?_
          refine wp_seq ?_
          refine wp_region_lit ?_
          refine wpList_k (st_set ha rfl (ex_move ha) rfl ?_); clear ha; (try clear a); intro a ha
          refine wpList_k (st_call ha rfl Ty.c19 rfl (snap_room (hs.store q)) ?_); clear ha hs
          rintro e w ⟨rfl, hs⟩
          refine ⟨_, rfl, ?_⟩
          intro a ha
          refine wpList_k (st_call ha rfl Ty.c20 rfl (snap_used (hs.store q)) ?_); clear ha hs
          rintro e w ⟨rfl, hs⟩
          refine ⟨_, rfl, ?_⟩
          intro a ha
          rw [hu0] at ha
          refine wpList_k (st_set ha rfl (ex_neq ha) rfl ?_); clear ha; (try clear a); intro a ha
          refine wpList_nil ?_
          refine then_n ?_
          refine wp_ifF ha ?_
          refine wp_skip ?_
          refine then_n ?_
          refine wp_seq ?_
          refine wp_region_lit ?_
          refine wpList_k (st_set ha rfl (ex_assign ha) rfl ?_); clear ha; (try clear a); intro a ha
          refine wpList_nil ?_
          refine then_n ?_
          refine wp_seq ?_
          refine wp_seq ?_
          refine wp_region_lit ?_
          refine wpList_k (st_set ha rfl (ex_assign ha) rfl ?_); clear ha; (try clear a); intro a ha
          refine wpList_nil ?_
          refine then_n ?_
          refine wp_block ?_
          refine wp_loop_ghost (fun μ a w => ∃ (M : Nat) (T : Nat → Nat → Nat), (μ = k - M ∧ M ≤ k ∧ 1 ≤ M ∧ (M = 1 ∨ M ≤ cs.length) ∧ (⟨k, 80, k, tpics (ofL zs) t C T M k⟩ : Sn).used = 4 + (M - 1)) ∧ Fr a 148 [(1, .int .i64 k), (2, .slice a2 cs.length cap2), (8, .pointer (some ⟨q, 0, none⟩)), (9, .pointer (some ⟨b9, 0, none⟩)), (12, .slice ad k c), (16, .int .i64 ((M - 1 : Nat) : Int)), (17, .int .i64 M)] ∧ St W w [Store q r ⟨k, 80, k, tpics (ofL zs) t C T M k⟩, Sl 25 1 ad k c (tids k), blk b9 29 (ints .i32 32 (ofL zs))]) (k - 1) ?_ ?_
          · exact ⟨1, _, ⟨rfl, by omega, by omega, .inl rfl, hu0⟩, ha.keep [1, 2, 8, 9, 12, 16, 17], hs.sub⟩
          ·
            clear ha hs
            rintro μ a w ⟨M, T, ⟨rfl, hM, hM1, hMl, hMu⟩, ha, hs⟩
            refine wp_seq ?_
            refine wp_seq ?_
            refine wp_region_lit ?_
            refine wpList_k (st_set ha rfl (ex_move ha) rfl ?_); clear ha; (try clear a); intro a ha
            refine wpList_k (st_set ha rfl (ex_move ha) rfl ?_); clear ha; (try clear a); intro a ha
            refine wpList_k (st_set ha rfl (ex_lss ha) rfl ?_); clear ha; (try clear a); intro a ha
            refine wpList_k (st_set ha rfl (ex_move ha) rfl ?_); clear ha; (try clear a); intro a ha
            refine ha.bool (s := 73) (fun hg3 ha => ?_) (fun hg3 ha => ?_)
            ·
              try simp only [decide_eq_true_eq, decide_eq_false_iff_not, Bool.not_eq_true', Bool.not_eq_false', Int.not_lt, Int.not_le, ne_eq, Decidable.not_not] at hg3
              refine wpList_k (st_set ha (wgT ha rfl (s := 73)) (ex_move ha) rfl ?_); clear ha; (try clear a); intro a ha
              refine wpList_k (st_set ha (wgT ha rfl (s := 73)) (ex_move ha) rfl ?_); clear ha; (try clear a); intro a ha
              refine wpList_k (st_set ha (wgT ha rfl (s := 73)) (ex_len ha Try.underlying45) rfl ?_); clear ha; (try clear a); intro a ha
              refine wpList_k (st_set ha (wgT ha rfl (s := 73)) (ex_lss ha) rfl ?_); clear ha; (try clear a); intro a ha
              refine wpList_k (st_set ha rfl (ex_pickT ha) rfl ?_); clear ha; (try clear a); intro a ha
              refine wpList_nil ?_
              refine then_n ?_
              refine wp_if ha (fun hc6 => ?_) (fun hc6 => ?_)
              ·
                try simp only [decide_eq_true_eq, decide_eq_false_iff_not, Bool.not_eq_true', Bool.not_eq_false', Int.not_lt, Int.not_le, ne_eq, Decidable.not_not] at hc6
                refine wp_skip ?_
                refine then_n ?_
                refine wp_seq ?_
                refine wp_block ?_
                refine wp_seq ?_
                obtain ⟨bb, off, rfl, hbb, hrd⟩ := (hcr w _ hs).resolve_left (by omega)
                have hcell := hrd M _ (map_getD (k := .i64) (show M < cs.length by omega))
                obtain ⟨hc, hce, hb1, hb2⟩ := nrm_spec (cs.getD M 0)
                rw [show nrm (cs.getD M 0) = C M from by rw [hCd]] at hc hce
                refine wp_region_lit ?_
                refine wpList_k (st_set ha rfl (ex_move ha) rfl ?_); clear ha; (try clear a); intro a ha
                refine wpList_k (st_set ha rfl (ex_move ha) rfl ?_); clear ha; (try clear a); intro a ha
                refine wpList_k (st_set ha rfl (ex_indexAddr ha Try.underlying45 Ty.t3 (by omega)) rfl ?_); clear ha; (try clear a); intro a ha
                rw [Nat.mul_one] at ha
                refine wpList_k (st_set ha rfl (ex_load1 ha Try.underlying3 rfl (hcell)) rfl ?_); clear ha; (try clear a); intro a ha
                refine wpList_k (st_set ha rfl (ex_rem ha (by decide)) rfl ?_); clear ha; (try clear a); intro a ha
                refine wpList_k (st_set ha rfl (ex_addI ha (by omega) (by omega)) rfl ?_); clear ha; (try clear a); intro a ha
                refine wpList_k (st_set ha rfl (ex_rem ha (by decide)) rfl ?_); clear ha; (try clear a); intro a ha
                rw [hce] at ha
                refine wpList_k (st_set ha rfl (ex_assign ha) rfl ?_); clear ha; (try clear a); intro a ha
                refine wpList_nil ?_
                refine then_n ?_
                refine wp_seq ?_
                refine wp_seq ?_
                obtain ⟨b', off', rfl, hrd2⟩ := hs.slRd ad (by omega)
                have hid := hrd2 M _ (tids_at (k := k) (j := M) (by omega))
                have hpx : (tpics (ofL zs) t C T M k)[M]? = some ⟨M + 1, 1, ofL zs, t⟩ := by rw [tpics_at (by omega), if_neg (by omega), if_neg (by omega)]
                have hp0 : (tpics (ofL zs) t C T M k)[0]? = some ⟨0 + 1, 1, ofL zs, t⟩ := by rw [tpics_at (by omega), if_neg (by omega), if_neg (by omega)]
                have hcc : 1 < cnt (tpics (ofL zs) t C T M k) (t (C M / 8)) := by
                  have h1 := cnt_two_le hp0 hpx (by omega) (t (C M / 8))
                  have h2 := cntP_pos (x := ⟨M + 1, 1, ofL zs, t⟩) (k := C M / 8) (by omega)
                  have h3 := cntP_pos (x := ⟨0 + 1, 1, ofL zs, t⟩) (k := C M / 8) (by omega)
                  simp only at h2 h3
                  omega
                refine wp_region_lit ?_
                refine wpList_k (st_set ha rfl (ex_move ha) rfl ?_); clear ha; (try clear a); intro a ha
                refine wpList_k (st_set ha rfl (ex_move ha) rfl ?_); clear ha; (try clear a); intro a ha
                refine wpList_k (st_set ha rfl (ex_move ha) rfl ?_); clear ha; (try clear a); intro a ha
                refine wpList_k (st_set ha rfl (ex_indexAddr ha Try.underlying42 Ty.t25 (by omega)) rfl ?_); clear ha; (try clear a); intro a ha
                rw [Nat.mul_one] at ha
                refine wpList_k (st_set ha rfl (ex_load1 ha Try.underlying25 rfl (hid)) rfl ?_); clear ha; (try clear a); intro a ha
                refine wpList_k (st_set ha rfl (ex_move ha) rfl ?_); clear ha; (try clear a); intro a ha
                refine wpList_k (st_set ha rfl (ex_move ha) rfl ?_); clear ha; (try clear a); intro a ha
                refine wpList_k (st_set ha rfl (ex_addI ha (by omega) (by omega)) rfl ?_); clear ha; (try clear a); intro a ha
                refine wpList_k (st_set ha rfl (ex_convIIs ha Try.underlying3 Try.underlying21 (wrap32 (by omega) (by omega))) rfl ?_); clear ha; (try clear a); intro a ha
                refine wpList_k (st_call ha rfl Ty.c15 rfl (snap_set_own (i := M) (x := ⟨M + 1, 1, ofL zs, t⟩) (c := C M) (v := 1000 + (M : Int)) (hs.store q) hpx hc hcc (by rw [hMu]; simp only; omega)) ?_); clear ha hs
                rintro e w ⟨f, rfl, ⟨hf1, hf2⟩, hs⟩
                refine ⟨_, rfl, ?_⟩
                intro a ha
                have hMu2 := used_putOwn (A := ⟨k, 80, k, tpics (ofL zs) t C T M k⟩) (v := 1000 + (M : Int)) hpx hc hcc hf1 hf2
                have hnx : (⟨k, 80, k, tpics (ofL zs) t C T M k⟩ : Sn).putOwn M ⟨M + 1, 1, ofL zs, t⟩ (C M) (1000 + (M : Int)) f = ⟨k, 80, k, tpics (ofL zs) t C (fun j => if j = M then (fun j => if j = C M / 8 then f else t j) else T j) (M + 1) k⟩ := by
                  rw [Sn.putOwn]
                  simp only
                  rw [tpics_set hM1 (by omega)]
                rw [hnx] at hs hMu2
                rw [hMu] at hMu2
                refine wpList_k (st_set ha rfl (ex_not ha) rfl ?_); clear ha; (try clear a); intro a ha
                refine wpList_nil ?_
                refine then_n ?_
                refine wp_ifF ha ?_
                refine wp_skip ?_
                refine then_n ?_
                refine wp_region_lit ?_
                refine wpList_k (st_set ha rfl (ex_move ha) rfl ?_); clear ha; (try clear a); intro a ha
                refine wpList_k (st_set ha rfl (ex_addI ha (by omega) (by omega)) rfl ?_); clear ha; (try clear a); intro a ha
                replace ha := ha.del 16
                refine wpList_k (st_set ha rfl (ex_assign ha) rfl ?_); clear ha; (try clear a); intro a ha
                refine wpList_nil ?_
                refine blk_n <| then_n ?_
                refine wp_region_lit ?_
                refine wpList_k (st_set ha rfl (ex_move ha) rfl ?_); clear ha; (try clear a); intro a ha
                refine wpList_k (st_set ha rfl (ex_addI ha (by omega) (by omega)) rfl ?_); clear ha; (try clear a); intro a ha
                replace ha := ha.del 17
                refine wpList_k (st_set ha rfl (ex_assign ha) rfl ?_); clear ha; (try clear a); intro a ha
                refine wpList_nil ?_
                refine then_n ?_
                exact ⟨k - (M + 1), by omega, M + 1, _, ⟨rfl, by omega, by omega, .inr (by omega), by rw [hMu2]; omega⟩, by rw [show ((M + 1 - 1 : Nat) : Int) = ((M - 1 : Nat) : Int) + 1 from by omega]; exact ha.keep [1, 2, 8, 9, 12, 16, 17], hs.sub⟩
              ·
                try simp only [decide_eq_true_eq, decide_eq_false_iff_not, Bool.not_eq_true', Bool.not_eq_false', Int.not_lt, Int.not_le, ne_eq, Decidable.not_not] at hc6
                refine wp_exit ?_
                refine then_e <| then_e <| blk_e ?_
                refine then_n ?_
                refine wp_seq ?_
                refine wp_seq ?_
                refine wp_region_lit ?_
                refine wpList_k (st_set ha rfl (ex_assign ha) rfl ?_); clear ha; (try clear a); intro a ha
                refine wpList_nil ?_
                refine then_n ?_
                refine wp_block ?_
                refine wp_loop_ghost (fun μ a w => ∃ j : Nat, (μ = k - j ∧ j ≤ k) ∧ Fr a 148 [(1, .int .i64 k), (2, .slice a2 cs.length cap2), (8, .pointer (some ⟨q, 0, none⟩)), (9, .pointer (some ⟨b9, 0, none⟩)), (12, .slice ad k c), (16, .int .i64 ((M - 1 : Nat) : Int)), (19, .int .i64 j)] ∧ St W w [Store q r ⟨k, 80, k, tpics (ofL zs) t C T M k⟩, Sl 25 1 ad k c (tids k), blk b9 29 (ints .i32 32 (ofL zs))]) (k) ?_ ?_
                · exact ⟨0, ⟨by simp, by simp⟩, ha.keep [1, 2, 8, 9, 12, 16, 19], hs.sub⟩
                ·
                  clear ha hs
                  rintro μ a w ⟨j, ⟨rfl, hj⟩, ha, hs⟩
                  refine wp_seq ?_
                  refine wp_seq ?_
                  refine wp_region_lit ?_
                  refine wpList_k (st_set ha rfl (ex_move ha) rfl ?_); clear ha; (try clear a); intro a ha
                  refine wpList_k (st_set ha rfl (ex_move ha) rfl ?_); clear ha; (try clear a); intro a ha
                  refine wpList_k (st_set ha rfl (ex_lss ha) rfl ?_); clear ha; (try clear a); intro a ha
                  refine wpList_nil ?_
                  refine then_n ?_
                  refine wp_if ha (fun hc8 => ?_) (fun hc8 => ?_)
                  ·
                    try simp only [decide_eq_true_eq, decide_eq_false_iff_not, Bool.not_eq_true', Bool.not_eq_false', Int.not_lt, Int.not_le, ne_eq, Decidable.not_not] at hc8
                    refine wp_skip ?_
                    refine then_n ?_
                    refine wp_seq ?_
                    refine wp_block ?_
                    refine wp_seq ?_
                    refine wp_region_lit ?_
                    refine wpList_k (st_set ha rfl (ex_loadN ha Try.underlying29 rfl Ty.t29 (hs.rdAll)) rfl ?_); clear ha; (try clear a); intro a ha
                    refine wpList_k (st_alloc ha rfl hs Ty.t46 rfl ?_); clear ha hs; (try clear a); (try clear w); intro b20 a w ha hs ho
                    clear ho
                    refine wpList_k (st_storeAll ha rfl hs Ty.t46 ints_one (by rfl) ?_); clear ha hs; (try clear a); (try clear w); intro a w ha hs
                    refine wpList_nil ?_
                    refine then_n ?_
                    refine wp_seq ?_
                    refine wp_seq ?_
                    refine wp_region_lit ?_
                    refine wpList_k (st_set ha rfl (ex_move ha) rfl ?_); clear ha; (try clear a); intro a ha
                    refine wpList_k (st_set ha rfl (ex_geq ha) rfl ?_); clear ha; (try clear a); intro a ha
                    refine wpList_k (st_set ha rfl (ex_move ha) rfl ?_); clear ha; (try clear a); intro a ha
                    refine ha.bool (s := 109) (fun hg2 ha => ?_) (fun hg2 ha => ?_)
                    ·
                      try simp only [decide_eq_true_eq, decide_eq_false_iff_not, Bool.not_eq_true', Bool.not_eq_false', Int.not_lt, Int.not_le, ne_eq, Decidable.not_not] at hg2
                      refine wpList_k (st_set ha (wgT ha rfl (s := 109)) (ex_move ha) rfl ?_); clear ha; (try clear a); intro a ha
                      refine wpList_k (st_set ha (wgT ha rfl (s := 109)) (ex_move ha) rfl ?_); clear ha; (try clear a); intro a ha
                      refine wpList_k (st_set ha (wgT ha rfl (s := 109)) (ex_len ha Try.underlying45) rfl ?_); clear ha; (try clear a); intro a ha
                      refine wpList_k (st_set ha (wgT ha rfl (s := 109)) (ex_lss ha) rfl ?_); clear ha; (try clear a); intro a ha
                      refine wpList_k (st_set ha rfl (ex_pickT ha) rfl ?_); clear ha; (try clear a); intro a ha
                      refine wpList_nil ?_
                      refine then_n ?_
                      refine wp_if ha (fun hc9 => ?_) (fun hc9 => ?_)
                      ·
                        try simp only [decide_eq_true_eq, decide_eq_false_iff_not, Bool.not_eq_true', Bool.not_eq_false', Int.not_lt, Int.not_le, ne_eq, Decidable.not_not] at hc9
                        obtain ⟨bb, off, rfl, hbb, hrd⟩ := (hcr w _ hs).resolve_left (by omega)
                        have hcell := hrd j _ (map_getD (k := .i64) (show j < cs.length by omega))
                        obtain ⟨hc, hce, hb1, hb2⟩ := nrm_spec (cs.getD j 0)
                        rw [show nrm (cs.getD j 0) = C j from by rw [hCd]] at hc hce
                        refine wp_region_lit ?_
                        refine wpList_k (st_set ha rfl (ex_move ha) rfl ?_); clear ha; (try clear a); intro a ha
                        refine wpList_k (st_set ha rfl (ex_move ha) rfl ?_); clear ha; (try clear a); intro a ha
                        refine wpList_k (st_set ha rfl (ex_indexAddr ha Try.underlying45 Ty.t3 (by omega)) rfl ?_); clear ha; (try clear a); intro a ha
                        rw [Nat.mul_one] at ha
                        refine wpList_k (st_set ha rfl (ex_load1 ha Try.underlying3 rfl (hcell)) rfl ?_); clear ha; (try clear a); intro a ha
                        refine wpList_k (st_set ha rfl (ex_rem ha (by decide)) rfl ?_); clear ha; (try clear a); intro a ha
                        refine wpList_k (st_set ha rfl (ex_addI ha (by omega) (by omega)) rfl ?_); clear ha; (try clear a); intro a ha
                        refine wpList_k (st_set ha rfl (ex_rem ha (by decide)) rfl ?_); clear ha; (try clear a); intro a ha
                        rw [hce] at ha
                        refine wpList_k (st_set ha rfl (ex_move ha) rfl ?_); clear ha; (try clear a); intro a ha
                        refine wpList_k (st_set ha rfl (ex_addI ha (by omega) (by omega)) rfl ?_); clear ha; (try clear a); intro a ha
                        refine wpList_k (st_set ha rfl (ex_convIIs ha Try.underlying3 Try.underlying21 (wrap32 (by omega) (by omega))) rfl ?_); clear ha; (try clear a); intro a ha
                        refine wpList_k (st_set ha rfl (ex_indexAddrA ha Try.underlying46 Ty.t21 (by omega)) rfl ?_); clear ha; (try clear a); intro a ha
                        rw [Nat.zero_add, Nat.mul_one] at ha
                        refine wpList_k (st_store ha rfl hs Ty.t21 rfl (by rw [ints_len]; omega) ?_); clear ha hs; (try clear a); (try clear w); intro a w ha hs
                        rw [ints_set, show (fun i => if i = C j then (1000 : Int) + j else ofL zs i) = upd (ofL zs) (C j) (1000 + j) from rfl] at hs
                        refine wpList_nil ?_
                        refine then_n ?_
                        refine wp_seq ?_
                        obtain ⟨b', off', rfl, hrd2⟩ := hs.slRd ad (by omega)
                        have hid := hrd2 j _ (tids_at (k := k) (j := j) (by omega))
                        have hpx : (tpics (ofL zs) t C T M k)[j]? = some ⟨j + 1, 1, upd (ofL zs) (C j) (1000 + j), T j⟩ := by
                          rw [tpics_at (by omega), if_pos (by omega), if_pos (by omega)]
                        refine wp_region_lit ?_
                        refine wpList_k (st_set ha rfl (ex_move ha) rfl ?_); clear ha; (try clear a); intro a ha
                        refine wpList_k (st_set ha rfl (ex_move ha) rfl ?_); clear ha; (try clear a); intro a ha
                        refine wpList_k (st_set ha rfl (ex_move ha) rfl ?_); clear ha; (try clear a); intro a ha
                        refine wpList_k (st_set ha rfl (ex_indexAddr ha Try.underlying42 Ty.t25 (by omega)) rfl ?_); clear ha; (try clear a); intro a ha
                        rw [Nat.mul_one] at ha
                        refine wpList_k (st_set ha rfl (ex_load1 ha Try.underlying25 rfl (hid)) rfl ?_); clear ha; (try clear a); intro a ha
                        refine wpList_k (st_call ha rfl Ty.c25 rfl (snap_state (hs.store q) hpx) ?_); clear ha hs
                        rintro e w ⟨rfl, hs⟩
                        refine ⟨_, rfl, ?_⟩
                        intro a ha
                        refine wpList_k (st_set ha rfl (ex_move ha) rfl ?_); clear ha; (try clear a); intro a ha
                        refine wpList_k (st_set ha rfl (ex_extract ha rfl) rfl ?_); clear ha; (try clear a); intro a ha
                        refine wpList_k (st_set ha rfl (ex_extract ha rfl) rfl ?_); clear ha; (try clear a); intro a ha
                        refine wpList_k (st_alloc ha rfl hs Ty.t29 rfl ?_); clear ha hs; (try clear a); (try clear w); intro b21 a w ha hs ho
                        clear ho
                        refine wpList_k (st_storeAll ha rfl hs Ty.t29 ints_one (by rfl) ?_); clear ha hs; (try clear a); (try clear w); intro a w ha hs
                        refine wpList_k (st_set ha rfl (ex_assign ha) rfl ?_); clear ha; (try clear a); intro a ha
                        refine wpList_nil ?_
                        refine then_n ?_
                        refine wp_seq ?_
                        refine wp_region_lit ?_
                        refine wpList_k (st_set ha rfl (ex_move ha) rfl ?_); clear ha; (try clear a); intro a ha
                        refine wpList_k (st_set ha rfl (ex_not ha) rfl ?_); clear ha; (try clear a); intro a ha
                        refine wpList_k (st_set ha rfl (ex_move ha) rfl ?_); clear ha; (try clear a); intro a ha
                        refine wpList_k (st_set ha (wgT ha rfl (s := 137)) (ex_loadN ha Try.underlying29 rfl Ty.t29 (hs.rdAll)) rfl ?_); clear ha; (try clear a); intro a ha
                        refine wpList_k (st_set ha (wgT ha rfl (s := 137)) (ex_loadN ha Try.underlying46 rfl Ty.t46 (hs.rdAll)) rfl ?_); clear ha; (try clear a); intro a ha
                        refine wpList_k (st_set ha (wgT ha rfl (s := 137)) (ex_neqA ha Try.underlying46 Try.underlying21 Ty.t21 (by kernel_rfl) Try.eqGuardType46) rfl ?_); clear ha; (try clear a); intro a ha
                        rw [sameN_self] at ha
                        refine wpList_k (st_set ha rfl (ex_pickF ha) rfl ?_); clear ha; (try clear a); intro a ha
                        refine wpList_nil ?_
                        refine then_n ?_
                        refine wp_ifF ha ?_
                        refine wp_skip ?_
                        refine blk_n <| then_n ?_
                        refine wp_region_lit ?_
                        refine wpList_k (st_set ha rfl (ex_move ha) rfl ?_); clear ha; (try clear a); intro a ha
                        refine wpList_k (st_set ha rfl (ex_addI ha (by omega) (by omega)) rfl ?_); clear ha; (try clear a); intro a ha
                        replace ha := ha.del 19
                        refine wpList_k (st_set ha rfl (ex_assign ha) rfl ?_); clear ha; (try clear a); intro a ha
                        refine wpList_nil ?_
                        refine then_n ?_
                        exact ⟨k - (j + 1), by omega, j + 1, ⟨rfl, by omega⟩, ha.keep [1, 2, 8, 9, 12, 16, 19], hs.sub⟩
                      ·
                        try simp only [decide_eq_true_eq, decide_eq_false_iff_not, Bool.not_eq_true', Bool.not_eq_false', Int.not_lt, Int.not_le, ne_eq, Decidable.not_not] at hc9
                        refine wp_skip ?_
                        refine then_n ?_
                        refine wp_seq ?_
                        obtain ⟨b', off', rfl, hrd2⟩ := hs.slRd ad (by omega)
                        have hid := hrd2 j _ (tids_at (k := k) (j := j) (by omega))
                        have hpx : (tpics (ofL zs) t C T M k)[j]? = some ⟨j + 1, 1, ofL zs, t⟩ := by
                          rw [tpics_at (by omega), if_neg (by omega), if_neg (by omega)]
                        refine wp_region_lit ?_
                        refine wpList_k (st_set ha rfl (ex_move ha) rfl ?_); clear ha; (try clear a); intro a ha
                        refine wpList_k (st_set ha rfl (ex_move ha) rfl ?_); clear ha; (try clear a); intro a ha
                        refine wpList_k (st_set ha rfl (ex_move ha) rfl ?_); clear ha; (try clear a); intro a ha
                        refine wpList_k (st_set ha rfl (ex_indexAddr ha Try.underlying42 Ty.t25 (by omega)) rfl ?_); clear ha; (try clear a); intro a ha
                        rw [Nat.mul_one] at ha
                        refine wpList_k (st_set ha rfl (ex_load1 ha Try.underlying25 rfl (hid)) rfl ?_); clear ha; (try clear a); intro a ha
                        refine wpList_k (st_call ha rfl Ty.c25 rfl (snap_state (hs.store q) hpx) ?_); clear ha hs
                        rintro e w ⟨rfl, hs⟩
                        refine ⟨_, rfl, ?_⟩
                        intro a ha
                        refine wpList_k (st_set ha rfl (ex_move ha) rfl ?_); clear ha; (try clear a); intro a ha
                        refine wpList_k (st_set ha rfl (ex_extract ha rfl) rfl ?_); clear ha; (try clear a); intro a ha
                        refine wpList_k (st_set ha rfl (ex_extract ha rfl) rfl ?_); clear ha; (try clear a); intro a ha
                        refine wpList_k (st_alloc ha rfl hs Ty.t29 rfl ?_); clear ha hs; (try clear a); (try clear w); intro b21 a w ha hs ho
                        clear ho
                        refine wpList_k (st_storeAll ha rfl hs Ty.t29 ints_one (by rfl) ?_); clear ha hs; (try clear a); (try clear w); intro a w ha hs
                        refine wpList_k (st_set ha rfl (ex_assign ha) rfl ?_); clear ha; (try clear a); intro a ha
                        refine wpList_nil ?_
                        refine then_n ?_
                        refine wp_seq ?_
                        refine wp_region_lit ?_
                        refine wpList_k (st_set ha rfl (ex_move ha) rfl ?_); clear ha; (try clear a); intro a ha
                        refine wpList_k (st_set ha rfl (ex_not ha) rfl ?_); clear ha; (try clear a); intro a ha
                        refine wpList_k (st_set ha rfl (ex_move ha) rfl ?_); clear ha; (try clear a); intro a ha
                        refine wpList_k (st_set ha (wgT ha rfl (s := 137)) (ex_loadN ha Try.underlying29 rfl Ty.t29 (hs.rdAll)) rfl ?_); clear ha; (try clear a); intro a ha
                        refine wpList_k (st_set ha (wgT ha rfl (s := 137)) (ex_loadN ha Try.underlying46 rfl Ty.t46 (hs.rdAll)) rfl ?_); clear ha; (try clear a); intro a ha
                        refine wpList_k (st_set ha (wgT ha rfl (s := 137)) (ex_neqA ha Try.underlying46 Try.underlying21 Ty.t21 (by kernel_rfl) Try.eqGuardType46) rfl ?_); clear ha; (try clear a); intro a ha
                        rw [sameN_self] at ha
                        refine wpList_k (st_set ha rfl (ex_pickF ha) rfl ?_); clear ha; (try clear a); intro a ha
                        refine wpList_nil ?_
                        refine then_n ?_
                        refine wp_ifF ha ?_
                        refine wp_skip ?_
                        refine blk_n <| then_n ?_
                        refine wp_region_lit ?_
                        refine wpList_k (st_set ha rfl (ex_move ha) rfl ?_); clear ha; (try clear a); intro a ha
                        refine wpList_k (st_set ha rfl (ex_addI ha (by omega) (by omega)) rfl ?_); clear ha; (try clear a); intro a ha
                        replace ha := ha.del 19
                        refine wpList_k (st_set ha rfl (ex_assign ha) rfl ?_); clear ha; (try clear a); intro a ha
                        refine wpList_nil ?_
                        refine then_n ?_
                        exact ⟨k - (j + 1), by omega, j + 1, ⟨rfl, by omega⟩, ha.keep [1, 2, 8, 9, 12, 16, 19], hs.sub⟩
                    ·
                      try simp only [decide_eq_true_eq, decide_eq_false_iff_not, Bool.not_eq_true', Bool.not_eq_false', Int.not_lt, Int.not_le, ne_eq, Decidable.not_not] at hg2
                      refine wpList_k (st_off ha (wgF ha rfl (s := 109) rfl) rfl ?_); clear ha; (try clear a); intro a ha
                      refine wpList_k (st_off ha (wgF ha rfl (s := 109) rfl) rfl ?_); clear ha; (try clear a); intro a ha
                      refine wpList_k (st_off ha (wgF ha rfl (s := 109) rfl) rfl ?_); clear ha; (try clear a); intro a ha
                      refine wpList_k (st_off ha (wgF ha rfl (s := 109) rfl) rfl ?_); clear ha; (try clear a); intro a ha
                      refine wpList_k (st_set ha rfl (ex_pickF ha) rfl ?_); clear ha; (try clear a); intro a ha
                      refine wpList_nil ?_
                      refine then_n ?_
                      refine wp_ifF ha ?_
                      refine wp_skip ?_
                      refine then_n ?_
                      refine wp_seq ?_
                      obtain ⟨b', off', rfl, hrd2⟩ := hs.slRd ad (by omega)
                      have hid := hrd2 j _ (tids_at (k := k) (j := j) (by omega))
                      have hpx : (tpics (ofL zs) t C T M k)[j]? = some ⟨j + 1, 1, ofL zs, t⟩ := by
                        rw [tpics_at (by omega), if_neg (by omega), if_neg (by omega)]
                      refine wp_region_lit ?_
                      refine wpList_k (st_set ha rfl (ex_move ha) rfl ?_); clear ha; (try clear a); intro a ha
                      refine wpList_k (st_set ha rfl (ex_move ha) rfl ?_); clear ha; (try clear a); intro a ha
                      refine wpList_k (st_set ha rfl (ex_move ha) rfl ?_); clear ha; (try clear a); intro a ha
                      refine wpList_k (st_set ha rfl (ex_indexAddr ha Try.underlying42 Ty.t25 (by omega)) rfl ?_); clear ha; (try clear a); intro a ha
                      rw [Nat.mul_one] at ha
                      refine wpList_k (st_set ha rfl (ex_load1 ha Try.underlying25 rfl (hid)) rfl ?_); clear ha; (try clear a); intro a ha
                      refine wpList_k (st_call ha rfl Ty.c25 rfl (snap_state (hs.store q) hpx) ?_); clear ha hs
                      rintro e w ⟨rfl, hs⟩
                      refine ⟨_, rfl, ?_⟩
                      intro a ha
                      refine wpList_k (st_set ha rfl (ex_move ha) rfl ?_); clear ha; (try clear a); intro a ha
                      refine wpList_k (st_set ha rfl (ex_extract ha rfl) rfl ?_); clear ha; (try clear a); intro a ha
                      refine wpList_k (st_set ha rfl (ex_extract ha rfl) rfl ?_); clear ha; (try clear a); intro a ha
                      refine wpList_k (st_alloc ha rfl hs Ty.t29 rfl ?_); clear ha hs; (try clear a); (try clear w); intro b21 a w ha hs ho
                      clear ho
                      refine wpList_k (st_storeAll ha rfl hs Ty.t29 ints_one (by rfl) ?_); clear ha hs; (try clear a); (try clear w); intro a w ha hs
                      refine wpList_k (st_set ha rfl (ex_assign ha) rfl ?_); clear ha; (try clear a); intro a ha
                      refine wpList_nil ?_
                      refine then_n ?_
                      refine wp_seq ?_
                      refine wp_region_lit ?_
                      refine wpList_k (st_set ha rfl (ex_move ha) rfl ?_); clear ha; (try clear a); intro a ha
                      refine wpList_k (st_set ha rfl (ex_not ha) rfl ?_); clear ha; (try clear a); intro a ha
                      refine wpList_k (st_set ha rfl (ex_move ha) rfl ?_); clear ha; (try clear a); intro a ha
                      refine wpList_k (st_set ha (wgT ha rfl (s := 137)) (ex_loadN ha Try.underlying29 rfl Ty.t29 (hs.rdAll)) rfl ?_); clear ha; (try clear a); intro a ha
                      refine wpList_k (st_set ha (wgT ha rfl (s := 137)) (ex_loadN ha Try.underlying46 rfl Ty.t46 (hs.rdAll)) rfl ?_); clear ha; (try clear a); intro a ha
                      refine wpList_k (st_set ha (wgT ha rfl (s := 137)) (ex_neqA ha Try.underlying46 Try.underlying21 Ty.t21 (by kernel_rfl) Try.eqGuardType46) rfl ?_); clear ha; (try clear a); intro a ha
                      rw [sameN_self] at ha
                      refine wpList_k (st_set ha rfl (ex_pickF ha) rfl ?_); clear ha; (try clear a); intro a ha
                      refine wpList_nil ?_
                      refine then_n ?_
                      refine wp_ifF ha ?_
                      refine wp_skip ?_
                      refine blk_n <| then_n ?_
                      refine wp_region_lit ?_
                      refine wpList_k (st_set ha rfl (ex_move ha) rfl ?_); clear ha; (try clear a); intro a ha
                      refine wpList_k (st_set ha rfl (ex_addI ha (by omega) (by omega)) rfl ?_); clear ha; (try clear a); intro a ha
                      replace ha := ha.del 19
                      refine wpList_k (st_set ha rfl (ex_assign ha) rfl ?_); clear ha; (try clear a); intro a ha
                      refine wpList_nil ?_
                      refine then_n ?_
                      exact ⟨k - (j + 1), by omega, j + 1, ⟨rfl, by omega⟩, ha.keep [1, 2, 8, 9, 12, 16, 19], hs.sub⟩
                  ·
                    try simp only [decide_eq_true_eq, decide_eq_false_iff_not, Bool.not_eq_true', Bool.not_eq_false', Int.not_lt, Int.not_le, ne_eq, Decidable.not_not] at hc8
                    refine wp_exit ?_
                    refine then_e <| then_e <| blk_e ?_
                    refine then_n ?_
                    refine wp_seq ?_
                    refine wp_region_lit ?_
                    refine wpList_k (st_set ha rfl (ex_move ha) rfl ?_); clear ha; (try clear a); intro a ha
                    refine wpList_k (st_call ha rfl Ty.c19 rfl (snap_room (hs.store q)) ?_); clear ha hs
                    rintro e w ⟨rfl, hs⟩
                    refine ⟨_, rfl, ?_⟩
                    intro a ha
                    refine wpList_k (st_call ha rfl Ty.c20 rfl (snap_used (hs.store q)) ?_); clear ha hs
                    rintro e w ⟨rfl, hs⟩
                    refine ⟨_, rfl, ?_⟩
                    intro a ha
                    rw [hMu] at ha
                    refine wpList_k (st_set ha rfl (ex_move ha) rfl ?_); clear ha; (try clear a); intro a ha
                    refine wpList_k (st_set ha rfl (ex_addI ha (by omega) (by omega)) rfl ?_); clear ha; (try clear a); intro a ha
                    refine wpList_k (st_set ha rfl (ex_eql ha) rfl ?_); clear ha; (try clear a); intro a ha
                    rw [decide_eq_true (by omega)] at ha
                    refine wpList_k (st_set ha rfl (ex_assign ha) rfl ?_); clear ha; (try clear a); intro a ha
                    refine wpList_nil ?_
                    refine then_n ?_
                    refine wp_ret ?_
                    refine ret1 ha rfl ?_
                    exact ⟨rfl, hs.below⟩
            ·
              try simp only [decide_eq_true_eq, decide_eq_false_iff_not, Bool.not_eq_true', Bool.not_eq_false', Int.not_lt, Int.not_le, ne_eq, Decidable.not_not] at hg3
              refine wpList_k (st_off ha (wgF ha rfl (s := 73) rfl) rfl ?_); clear ha; (try clear a); intro a ha
              refine wpList_k (st_off ha (wgF ha rfl (s := 73) rfl) rfl ?_); clear ha; (try clear a); intro a ha
              refine wpList_k (st_off ha (wgF ha rfl (s := 73) rfl) rfl ?_); clear ha; (try clear a); intro a ha
              refine wpList_k (st_off ha (wgF ha rfl (s := 73) rfl) rfl ?_); clear ha; (try clear a); intro a ha
              refine wpList_k (st_set ha rfl (ex_pickF ha) rfl ?_); clear ha; (try clear a); intro a ha
              refine wpList_nil ?_
              refine then_n ?_
              refine wp_ifF ha ?_
              refine wp_exit ?_
              refine then_e <| then_e <| blk_e ?_
              refine then_n ?_
              refine wp_seq ?_
              refine wp_seq ?_
              refine wp_region_lit ?_
              refine wpList_k (st_set ha rfl (ex_assign ha) rfl ?_); clear ha; (try clear a); intro a ha
              refine wpList_nil ?_
              refine then_n ?_
              refine wp_block ?_
              refine wp_loop_ghost (fun μ a w => ∃ j : Nat, (μ = k - j ∧ j ≤ k) ∧ Fr a 148 [(1, .int .i64 k), (2, .slice a2 cs.length cap2), (8, .pointer (some ⟨q, 0, none⟩)), (9, .pointer (some ⟨b9, 0, none⟩)), (12, .slice ad k c), (16, .int .i64 ((M - 1 : Nat) : Int)), (19, .int .i64 j)] ∧ St W w [Store q r ⟨k, 80, k, tpics (ofL zs) t C T M k⟩, Sl 25 1 ad k c (tids k), blk b9 29 (ints .i32 32 (ofL zs))]) (k) ?_ ?_
              · exact ⟨0, ⟨by simp, by simp⟩, ha.keep [1, 2, 8, 9, 12, 16, 19], hs.sub⟩
              ·
                clear ha hs
                rintro μ a w ⟨j, ⟨rfl, hj⟩, ha, hs⟩
                refine wp_seq ?_
                refine wp_seq ?_
                refine wp_region_lit ?_
                refine wpList_k (st_set ha rfl (ex_move ha) rfl ?_); clear ha; (try clear a); intro a ha
                refine wpList_k (st_set ha rfl (ex_move ha) rfl ?_); clear ha; (try clear a); intro a ha
                refine wpList_k (st_set ha rfl (ex_lss ha) rfl ?_); clear ha; (try clear a); intro a ha
                refine wpList_nil ?_
                refine then_n ?_
                refine wp_if ha (fun hc8 => ?_) (fun hc8 => ?_)
                ·
                  try simp only [decide_eq_true_eq, decide_eq_false_iff_not, Bool.not_eq_true', Bool.not_eq_false', Int.not_lt, Int.not_le, ne_eq, Decidable.not_not] at hc8
                  refine wp_skip ?_
                  refine then_n ?_
                  refine wp_seq ?_
                  refine wp_block ?_
                  refine wp_seq ?_
                  refine wp_region_lit ?_
                  refine wpList_k (st_set ha rfl (ex_loadN ha Try.underlying29 rfl Ty.t29 (hs.rdAll)) rfl ?_); clear ha; (try clear a); intro a ha
                  refine wpList_k (st_alloc ha rfl hs Ty.t46 rfl ?_); clear ha hs; (try clear a); (try clear w); intro b20 a w ha hs ho
                  clear ho
                  refine wpList_k (st_storeAll ha rfl hs Ty.t46 ints_one (by rfl) ?_); clear ha hs; (try clear a); (try clear w); intro a w ha hs
                  refine wpList_nil ?_
                  refine then_n ?_
                  refine wp_seq ?_
                  refine wp_seq ?_
                  refine wp_region_lit ?_
                  refine wpList_k (st_set ha rfl (ex_move ha) rfl ?_); clear ha; (try clear a); intro a ha
                  refine wpList_k (st_set ha rfl (ex_geq ha) rfl ?_); clear ha; (try clear a); intro a ha
                  refine wpList_k (st_set ha rfl (ex_move ha) rfl ?_); clear ha; (try clear a); intro a ha
                  refine ha.bool (s := 109) (fun hg2 ha => ?_) (fun hg2 ha => ?_)
                  ·
                    try simp only [decide_eq_true_eq, decide_eq_false_iff_not, Bool.not_eq_true', Bool.not_eq_false', Int.not_lt, Int.not_le, ne_eq, Decidable.not_not] at hg2
                    refine wpList_k (st_set ha (wgT ha rfl (s := 109)) (ex_move ha) rfl ?_); clear ha; (try clear a); intro a ha
                    refine wpList_k (st_set ha (wgT ha rfl (s := 109)) (ex_move ha) rfl ?_); clear ha; (try clear a); intro a ha
                    refine wpList_k (st_set ha (wgT ha rfl (s := 109)) (ex_len ha Try.underlying45) rfl ?_); clear ha; (try clear a); intro a ha
                    refine wpList_k (st_set ha (wgT ha rfl (s := 109)) (ex_lss ha) rfl ?_); clear ha; (try clear a); intro a ha
                    refine wpList_k (st_set ha rfl (ex_pickT ha) rfl ?_); clear ha; (try clear a); intro a ha
                    refine wpList_nil ?_
                    refine then_n ?_
                    refine wp_if ha (fun hc9 => ?_) (fun hc9 => ?_)
                    ·
                      try simp only [decide_eq_true_eq, decide_eq_false_iff_not, Bool.not_eq_true', Bool.not_eq_false', Int.not_lt, Int.not_le, ne_eq, Decidable.not_not] at hc9
                      obtain ⟨bb, off, rfl, hbb, hrd⟩ := (hcr w _ hs).resolve_left (by omega)
                      have hcell := hrd j _ (map_getD (k := .i64) (show j < cs.length by omega))
                      obtain ⟨hc, hce, hb1, hb2⟩ := nrm_spec (cs.getD j 0)
                      rw [show nrm (cs.getD j 0) = C j from by rw [hCd]] at hc hce
                      refine wp_region_lit ?_
                      refine wpList_k (st_set ha rfl (ex_move ha) rfl ?_); clear ha; (try clear a); intro a ha
                      refine wpList_k (st_set ha rfl (ex_move ha) rfl ?_); clear ha; (try clear a); intro a ha
                      refine wpList_k (st_set ha rfl (ex_indexAddr ha Try.underlying45 Ty.t3 (by omega)) rfl ?_); clear ha; (try clear a); intro a ha
                      rw [Nat.mul_one] at ha
                      refine wpList_k (st_set ha rfl (ex_load1 ha Try.underlying3 rfl (hcell)) rfl ?_); clear ha; (try clear a); intro a ha
                      refine wpList_k (st_set ha rfl (ex_rem ha (by decide)) rfl ?_); clear ha; (try clear a); intro a ha
                      refine wpList_k (st_set ha rfl (ex_addI ha (by omega) (by omega)) rfl ?_); clear ha; (try clear a); intro a ha
                      refine wpList_k (st_set ha rfl (ex_rem ha (by decide)) rfl ?_); clear ha; (try clear a); intro a ha
                      rw [hce] at ha
                      refine wpList_k (st_set ha rfl (ex_move ha) rfl ?_); clear ha; (try clear a); intro a ha
                      refine wpList_k (st_set ha rfl (ex_addI ha (by omega) (by omega)) rfl ?_); clear ha; (try clear a); intro a ha
                      refine wpList_k (st_set ha rfl (ex_convIIs ha Try.underlying3 Try.underlying21 (wrap32 (by omega) (by omega))) rfl ?_); clear ha; (try clear a); intro a ha
                      refine wpList_k (st_set ha rfl (ex_indexAddrA ha Try.underlying46 Ty.t21 (by omega)) rfl ?_); clear ha; (try clear a); intro a ha
                      rw [Nat.zero_add, Nat.mul_one] at ha
                      refine wpList_k (st_store ha rfl hs Ty.t21 rfl (by rw [ints_len]; omega) ?_); clear ha hs; (try clear a); (try clear w); intro a w ha hs
                      rw [ints_set, show (fun i => if i = C j then (1000 : Int) + j else ofL zs i) = upd (ofL zs) (C j) (1000 + j) from rfl] at hs
                      refine wpList_nil ?_
                      refine then_n ?_
                      refine wp_seq ?_
                      obtain ⟨b', off', rfl, hrd2⟩ := hs.slRd ad (by omega)
                      have hid := hrd2 j _ (tids_at (k := k) (j := j) (by omega))
                      have hpx : (tpics (ofL zs) t C T M k)[j]? = some ⟨j + 1, 1, upd (ofL zs) (C j) (1000 + j), T j⟩ := by
                        rw [tpics_at (by omega), if_pos (by omega), if_pos (by omega)]
                      refine wp_region_lit ?_
                      refine wpList_k (st_set ha rfl (ex_move ha) rfl ?_); clear ha; (try clear a); intro a ha
                      refine wpList_k (st_set ha rfl (ex_move ha) rfl ?_); clear ha; (try clear a); intro a ha
                      refine wpList_k (st_set ha rfl (ex_move ha) rfl ?_); clear ha; (try clear a); intro a ha
                      refine wpList_k (st_set ha rfl (ex_indexAddr ha Try.underlying42 Ty.t25 (by omega)) rfl ?_); clear ha; (try clear a); intro a ha
                      rw [Nat.mul_one] at ha
                      refine wpList_k (st_set ha rfl (ex_load1 ha Try.underlying25 rfl (hid)) rfl ?_); clear ha; (try clear a); intro a ha
                      refine wpList_k (st_call ha rfl Ty.c25 rfl (snap_state (hs.store q) hpx) ?_); clear ha hs
                      rintro e w ⟨rfl, hs⟩
                      refine ⟨_, rfl, ?_⟩
                      intro a ha
                      refine wpList_k (st_set ha rfl (ex_move ha) rfl ?_); clear ha; (try clear a); intro a ha
                      refine wpList_k (st_set ha rfl (ex_extract ha rfl) rfl ?_); clear ha; (try clear a); intro a ha
                      refine wpList_k (st_set ha rfl (ex_extract ha rfl) rfl ?_); clear ha; (try clear a); intro a ha
                      refine wpList_k (st_alloc ha rfl hs Ty.t29 rfl ?_); clear ha hs; (try clear a); (try clear w); intro b21 a w ha hs ho
                      clear ho
                      refine wpList_k (st_storeAll ha rfl hs Ty.t29 ints_one (by rfl) ?_); clear ha hs; (try clear a); (try clear w); intro a w ha hs
                      refine wpList_k (st_set ha rfl (ex_assign ha) rfl ?_); clear ha; (try clear a); intro a ha
                      refine wpList_nil ?_
                      refine then_n ?_
                      refine wp_seq ?_
                      refine wp_region_lit ?_
                      refine wpList_k (st_set ha rfl (ex_move ha) rfl ?_); clear ha; (try clear a); intro a ha
                      refine wpList_k (st_set ha rfl (ex_not ha) rfl ?_); clear ha; (try clear a); intro a ha
                      refine wpList_k (st_set ha rfl (ex_move ha) rfl ?_); clear ha; (try clear a); intro a ha
                      refine wpList_k (st_set ha (wgT ha rfl (s := 137)) (ex_loadN ha Try.underlying29 rfl Ty.t29 (hs.rdAll)) rfl ?_); clear ha; (try clear a); intro a ha
                      refine wpList_k (st_set ha (wgT ha rfl (s := 137)) (ex_loadN ha Try.underlying46 rfl Ty.t46 (hs.rdAll)) rfl ?_); clear ha; (try clear a); intro a ha
                      refine wpList_k (st_set ha (wgT ha rfl (s := 137)) (ex_neqA ha Try.underlying46 Try.underlying21 Ty.t21 (by kernel_rfl) Try.eqGuardType46) rfl ?_); clear ha; (try clear a); intro a ha
                      rw [sameN_self] at ha
                      refine wpList_k (st_set ha rfl (ex_pickF ha) rfl ?_); clear ha; (try clear a); intro a ha
                      refine wpList_nil ?_
                      refine then_n ?_
                      refine wp_ifF ha ?_
                      refine wp_skip ?_
                      refine blk_n <| then_n ?_
                      refine wp_region_lit ?_
                      refine wpList_k (st_set ha rfl (ex_move ha) rfl ?_); clear ha; (try clear a); intro a ha
                      refine wpList_k (st_set ha rfl (ex_addI ha (by omega) (by omega)) rfl ?_); clear ha; (try clear a); intro a ha
                      replace ha := ha.del 19
                      refine wpList_k (st_set ha rfl (ex_assign ha) rfl ?_); clear ha; (try clear a); intro a ha
                      refine wpList_nil ?_
                      refine then_n ?_
                      exact ⟨k - (j + 1), by omega, j + 1, ⟨rfl, by omega⟩, ha.keep [1, 2, 8, 9, 12, 16, 19], hs.sub⟩
                    ·
                      try simp only [decide_eq_true_eq, decide_eq_false_iff_not, Bool.not_eq_true', Bool.not_eq_false', Int.not_lt, Int.not_le, ne_eq, Decidable.not_not] at hc9
                      refine wp_skip ?_
                      refine then_n ?_
                      refine wp_seq ?_
                      obtain ⟨b', off', rfl, hrd2⟩ := hs.slRd ad (by omega)
                      have hid := hrd2 j _ (tids_at (k := k) (j := j) (by omega))
                      have hpx : (tpics (ofL zs) t C T M k)[j]? = some ⟨j + 1, 1, ofL zs, t⟩ := by
                        rw [tpics_at (by omega), if_neg (by omega), if_neg (by omega)]
                      refine wp_region_lit ?_
                      refine wpList_k (st_set ha rfl (ex_move ha) rfl ?_); clear ha; (try clear a); intro a ha
                      refine wpList_k (st_set ha rfl (ex_move ha) rfl ?_); clear ha; (try clear a); intro a ha
                      refine wpList_k (st_set ha rfl (ex_move ha) rfl ?_); clear ha; (try clear a); intro a ha
                      refine wpList_k (st_set ha rfl (ex_indexAddr ha Try.underlying42 Ty.t25 (by omega)) rfl ?_); clear ha; (try clear a); intro a ha
                      rw [Nat.mul_one] at ha
                      refine wpList_k (st_set ha rfl (ex_load1 ha Try.underlying25 rfl (hid)) rfl ?_); clear ha; (try clear a); intro a ha
                      refine wpList_k (st_call ha rfl Ty.c25 rfl (snap_state (hs.store q) hpx) ?_); clear ha hs
                      rintro e w ⟨rfl, hs⟩
                      refine ⟨_, rfl, ?_⟩
                      intro a ha
                      refine wpList_k (st_set ha rfl (ex_move ha) rfl ?_); clear ha; (try clear a); intro a ha
                      refine wpList_k (st_set ha rfl (ex_extract ha rfl) rfl ?_); clear ha; (try clear a); intro a ha
                      refine wpList_k (st_set ha rfl (ex_extract ha rfl) rfl ?_); clear ha; (try clear a); intro a ha
                      refine wpList_k (st_alloc ha rfl hs Ty.t29 rfl ?_); clear ha hs; (try clear a); (try clear w); intro b21 a w ha hs ho
                      clear ho
                      refine wpList_k (st_storeAll ha rfl hs Ty.t29 ints_one (by rfl) ?_); clear ha hs; (try clear a); (try clear w); intro a w ha hs
                      refine wpList_k (st_set ha rfl (ex_assign ha) rfl ?_); clear ha; (try clear a); intro a ha
                      refine wpList_nil ?_
                      refine then_n ?_
                      refine wp_seq ?_
                      refine wp_region_lit ?_
                      refine wpList_k (st_set ha rfl (ex_move ha) rfl ?_); clear ha; (try clear a); intro a ha
                      refine wpList_k (st_set ha rfl (ex_not ha) rfl ?_); clear ha; (try clear a); intro a ha
                      refine wpList_k (st_set ha rfl (ex_move ha) rfl ?_); clear ha; (try clear a); intro a ha
                      refine wpList_k (st_set ha (wgT ha rfl (s := 137)) (ex_loadN ha Try.underlying29 rfl Ty.t29 (hs.rdAll)) rfl ?_); clear ha; (try clear a); intro a ha
                      refine wpList_k (st_set ha (wgT ha rfl (s := 137)) (ex_loadN ha Try.underlying46 rfl Ty.t46 (hs.rdAll)) rfl ?_); clear ha; (try clear a); intro a ha
                      refine wpList_k (st_set ha (wgT ha rfl (s := 137)) (ex_neqA ha Try.underlying46 Try.underlying21 Ty.t21 (by kernel_rfl) Try.eqGuardType46) rfl ?_); clear ha; (try clear a); intro a ha
                      rw [sameN_self] at ha
                      refine wpList_k (st_set ha rfl (ex_pickF ha) rfl ?_); clear ha; (try clear a); intro a ha
                      refine wpList_nil ?_
                      refine then_n ?_
                      refine wp_ifF ha ?_
                      refine wp_skip ?_
                      refine blk_n <| then_n ?_
                      refine wp_region_lit ?_
                      refine wpList_k (st_set ha rfl (ex_move ha) rfl ?_); clear ha; (try clear a); intro a ha
                      refine wpList_k (st_set ha rfl (ex_addI ha (by omega) (by omega)) rfl ?_); clear ha; (try clear a); intro a ha
                      replace ha := ha.del 19
                      refine wpList_k (st_set ha rfl (ex_assign ha) rfl ?_); clear ha; (try clear a); intro a ha
                      refine wpList_nil ?_
                      refine then_n ?_
                      exact ⟨k - (j + 1), by omega, j + 1, ⟨rfl, by omega⟩, ha.keep [1, 2, 8, 9, 12, 16, 19], hs.sub⟩
                  ·
                    try simp only [decide_eq_true_eq, decide_eq_false_iff_not, Bool.not_eq_true', Bool.not_eq_false', Int.not_lt, Int.not_le, ne_eq, Decidable.not_not] at hg2
                    refine wpList_k (st_off ha (wgF ha rfl (s := 109) rfl) rfl ?_); clear ha; (try clear a); intro a ha
                    refine wpList_k (st_off ha (wgF ha rfl (s := 109) rfl) rfl ?_); clear ha; (try clear a); intro a ha
                    refine wpList_k (st_off ha (wgF ha rfl (s := 109) rfl) rfl ?_); clear ha; (try clear a); intro a ha
                    refine wpList_k (st_off ha (wgF ha rfl (s := 109) rfl) rfl ?_); clear ha; (try clear a); intro a ha
                    refine wpList_k (st_set ha rfl (ex_pickF ha) rfl ?_); clear ha; (try clear a); intro a ha
                    refine wpList_nil ?_
                    refine then_n ?_
                    refine wp_ifF ha ?_
                    refine wp_skip ?_
                    refine then_n ?_
                    refine wp_seq ?_
                    obtain ⟨b', off', rfl, hrd2⟩ := hs.slRd ad (by omega)
                    have hid := hrd2 j _ (tids_at (k := k) (j := j) (by omega))
                    have hpx : (tpics (ofL zs) t C T M k)[j]? = some ⟨j + 1, 1, ofL zs, t⟩ := by
                      rw [tpics_at (by omega), if_neg (by omega), if_neg (by omega)]
                    refine wp_region_lit ?_
                    refine wpList_k (st_set ha rfl (ex_move ha) rfl ?_); clear ha; (try clear a); intro a ha
                    refine wpList_k (st_set ha rfl (ex_move ha) rfl ?_); clear ha; (try clear a); intro a ha
                    refine wpList_k (st_set ha rfl (ex_move ha) rfl ?_); clear ha; (try clear a); intro a ha
                    refine wpList_k (st_set ha rfl (ex_indexAddr ha Try.underlying42 Ty.t25 (by omega)) rfl ?_); clear ha; (try clear a); intro a ha
                    rw [Nat.mul_one] at ha
                    refine wpList_k (st_set ha rfl (ex_load1 ha Try.underlying25 rfl (hid)) rfl ?_); clear ha; (try clear a); intro a ha
                    refine wpList_k (st_call ha rfl Ty.c25 rfl (snap_state (hs.store q) hpx) ?_); clear ha hs
                    rintro e w ⟨rfl, hs⟩
                    refine ⟨_, rfl, ?_⟩
                    intro a ha
                    refine wpList_k (st_set ha rfl (ex_move ha) rfl ?_); clear ha; (try clear a); intro a ha
                    refine wpList_k (st_set ha rfl (ex_extract ha rfl) rfl ?_); clear ha; (try clear a); intro a ha
                    refine wpList_k (st_set ha rfl (ex_extract ha rfl) rfl ?_); clear ha; (try clear a); intro a ha
                    refine wpList_k (st_alloc ha rfl hs Ty.t29 rfl ?_); clear ha hs; (try clear a); (try clear w); intro b21 a w ha hs ho
                    clear ho
                    refine wpList_k (st_storeAll ha rfl hs Ty.t29 ints_one (by rfl) ?_); clear ha hs; (try clear a); (try clear w); intro a w ha hs
                    refine wpList_k (st_set ha rfl (ex_assign ha) rfl ?_); clear ha; (try clear a); intro a ha
                    refine wpList_nil ?_
                    refine then_n ?_
                    refine wp_seq ?_
                    refine wp_region_lit ?_
                    refine wpList_k (st_set ha rfl (ex_move ha) rfl ?_); clear ha; (try clear a); intro a ha
                    refine wpList_k (st_set ha rfl (ex_not ha) rfl ?_); clear ha; (try clear a); intro a ha
                    refine wpList_k (st_set ha rfl (ex_move ha) rfl ?_); clear ha; (try clear a); intro a ha
                    refine wpList_k (st_set ha (wgT ha rfl (s := 137)) (ex_loadN ha Try.underlying29 rfl Ty.t29 (hs.rdAll)) rfl ?_); clear ha; (try clear a); intro a ha
                    refine wpList_k (st_set ha (wgT ha rfl (s := 137)) (ex_loadN ha Try.underlying46 rfl Ty.t46 (hs.rdAll)) rfl ?_); clear ha; (try clear a); intro a ha
                    refine wpList_k (st_set ha (wgT ha rfl (s := 137)) (ex_neqA ha Try.underlying46 Try.underlying21 Ty.t21 (by kernel_rfl) Try.eqGuardType46) rfl ?_); clear ha; (try clear a); intro a ha
                    rw [sameN_self] at ha
                    refine wpList_k (st_set ha rfl (ex_pickF ha) rfl ?_); clear ha; (try clear a); intro a ha
                    refine wpList_nil ?_
                    refine then_n ?_
                    refine wp_ifF ha ?_
                    refine wp_skip ?_
                    refine blk_n <| then_n ?_
                    refine wp_region_lit ?_
                    refine wpList_k (st_set ha rfl (ex_move ha) rfl ?_); clear ha; (try clear a); intro a ha
                    refine wpList_k (st_set ha rfl (ex_addI ha (by omega) (by omega)) rfl ?_); clear ha; (try clear a); intro a ha
                    replace ha := ha.del 19
                    refine wpList_k (st_set ha rfl (ex_assign ha) rfl ?_); clear ha; (try clear a); intro a ha
                    refine wpList_nil ?_
                    refine then_n ?_
                    exact ⟨k - (j + 1), by omega, j + 1, ⟨rfl, by omega⟩, ha.keep [1, 2, 8, 9, 12, 16, 19], hs.sub⟩
                ·
                  try simp only [decide_eq_true_eq, decide_eq_false_iff_not, Bool.not_eq_true', Bool.not_eq_false', Int.not_lt, Int.not_le, ne_eq, Decidable.not_not] at hc8
                  refine wp_exit ?_
                  refine then_e <| then_e <| blk_e ?_
                  refine then_n ?_
                  refine wp_seq ?_
                  refine wp_region_lit ?_
                  refine wpList_k (st_set ha rfl (ex_move ha) rfl ?_); clear ha; (try clear a); intro a ha
                  refine wpList_k (st_call ha rfl Ty.c19 rfl (snap_room (hs.store q)) ?_); clear ha hs
                  rintro e w ⟨rfl, hs⟩
                  refine ⟨_, rfl, ?_⟩
                  intro a ha
                  refine wpList_k (st_call ha rfl Ty.c20 rfl (snap_used (hs.store q)) ?_); clear ha hs
                  rintro e w ⟨rfl, hs⟩
                  refine ⟨_, rfl, ?_⟩
                  intro a ha
                  rw [hMu] at ha
                  refine wpList_k (st_set ha rfl (ex_move ha) rfl ?_); clear ha; (try clear a); intro a ha
                  refine wpList_k (st_set ha rfl (ex_addI ha (by omega) (by omega)) rfl ?_); clear ha; (try clear a); intro a ha
                  refine wpList_k (st_set ha rfl (ex_eql ha) rfl ?_); clear ha; (try clear a); intro a ha
                  rw [decide_eq_true (by omega)] at ha
                  refine wpList_k (st_set ha rfl (ex_assign ha) rfl ?_); clear ha; (try clear a); intro a ha
                  refine wpList_nil ?_
                  refine then_n ?_
                  refine wp_ret ?_
                  refine ret1 ha rfl ?_
                  exact ⟨rfl, hs.below⟩
end
end Go.Proofs.Ytpfblmpgljodmaa

