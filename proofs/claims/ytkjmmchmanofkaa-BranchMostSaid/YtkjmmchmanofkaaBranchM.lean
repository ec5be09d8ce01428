/- BranchMost. -/
import Derived.Test.YtkjmmchmanofkaaBranchL
namespace Go.Proofs.Ytkjmmchmanofkaa
open Go.RowKit
set_option linter.unusedVariables false
set_option linter.unusedSimpArgs false
set_option maxRecDepth 10000
set_option synthInstance.maxSize 4000
set_option synthInstance.maxHeartbeats 400000

section
variable {W w : World} {L L' R : List SP} {tq sq q r n c k : Nat} {ad : Option Addr} {A : Sn} {T : Tr} {x y : Br} {xs : List Bx} {p : List (List UInt8)}
/-- Branches of one press each. -/
def mbr (m : Nat) : List Br := (List.range m).map fun j => ⟨j + 1, 5, [[UInt8.ofNat j]], 0, j + 2⟩
/-- A picture, and so many forks of it. -/
def mpic (t : Nat → Nat) (m : Nat) : List Pic := (List.range m).map fun j => ⟨j + 1, 1, fun _ => 0, t⟩
theorem mbr_len (m : Nat) : (mbr m).length = m := by simp [mbr]
theorem mpic_len (t : Nat → Nat) (m : Nat) : (mpic t m).length = m := by simp [mpic]
theorem mbr_succ (m : Nat) : mbr (m + 1) = mbr m ++ [⟨m + 1, 5, [[UInt8.ofNat m]], 0, m + 2⟩] := by simp [mbr, List.range_succ]
theorem mpic_succ (t : Nat → Nat) (m : Nat) : mpic t (m + 1) = mpic t m ++ [⟨m + 1, 1, fun _ => 0, t⟩] := by simp [mpic, List.range_succ]
theorem mpic_zero (t : Nat → Nat) (m : Nat) : (mpic t (m + 1))[0]? = some ⟨1, 1, fun _ => 0, t⟩ := by simp [mpic]
theorem mpic_used {t : Nat → Nat} (ht : Apart4 t) (m : Nat) : distinct (pagesOf (mpic t (m + 1))) = 4 := by
  induction m with
  | zero => exact distinct4 ht
  | succ m ih =>
    have h1 : pagesOf (mpic t (m + 1 + 1)) = pagesOf (mpic t (m + 1)) ++ [t 0, t 1, t 2, t 3] := by rw [mpic_succ]; simp [pagesOf]
    rw [h1, distinct_mem, distinct4 ht]
    intro p hp
    simp only [pagesOf, mpic, List.mem_flatMap, List.mem_map] at hp
    obtain ⟨x, ⟨j, _, rfl⟩, hx⟩ := hp
    exact hx
theorem mdrop (t : Nat → Nat) (last n : Nat) : ∀ (m : Nat), (⟨last, 40, n, mpic t (m + 1)⟩ : Sn).dropAll (mbr m) = ⟨last, 40, n, mpic t 1⟩ := by
  have key : ∀ (m : Nat) (l : List Br), (∀ x ∈ l, ∃ j, 2 ≤ x.snap ∧ x.snap = j) → True := fun _ _ _ => trivial
  intro m
  -- the pictures that are left behind so many drops
  have aux : ∀ j, j ≤ m → (⟨last, 40, n, mpic t (m + 1)⟩ : Sn).dropAll ((mbr m).take j) = ⟨last, 40, n, mpic t 1 ++ (mpic t (m + 1)).drop (j + 1)⟩ := by
    intro j
    induction j with
    | zero =>
      intro _
      have h0 : mpic t 1 ++ (mpic t (m + 1)).drop 1 = mpic t (m + 1) := by
        have : mpic t 1 = (mpic t (m + 1)).take 1 := by
          apply List.ext_getElem (by simp [mpic])
          intro i h1 h2
          simp [mpic] at h1 h2 ⊢
          omega
        rw [this, List.take_append_drop]
      rw [h0]; rfl
    | succ j ih =>
      intro hj
      have ih := ih (by omega)
      have hjl : j < (mbr m).length := by rw [mbr_len]; omega
      rw [List.take_succ_eq_append_getElem hjl, Sn.dropAll, List.foldl_append]
      rw [show ((mbr m).take j).foldl (fun A x => A.dropId x.snap) ⟨last, 40, n, mpic t (m + 1)⟩ = (⟨last, 40, n, mpic t (m + 1)⟩ : Sn).dropAll ((mbr m).take j) from rfl, ih]
      simp only [List.foldl_cons, List.foldl_nil]
      have hsn : (mbr m)[j].snap = j + 2 := by simp [mbr]
      rw [hsn]
      have hdj : j + 1 < (mpic t (m + 1)).length := by rw [mpic_len]; omega
      have hat : (mpic t (m + 1))[j + 1] = ⟨j + 2, 1, fun _ => 0, t⟩ := by simp [mpic]
      rw [List.drop_eq_getElem_cons hdj, hat]
      have hone : mpic t 1 = [⟨1, 1, fun _ => 0, t⟩] := rfl
      rw [hone]
      have hfi : (([⟨1, 1, fun _ => 0, t⟩] : List Pic) ++ (⟨j + 2, 1, fun _ => 0, t⟩ : Pic) :: (mpic t (m + 1)).drop (j + 1 + 1)).findIdx? (fun x => x.id == j + 2) = some 1 := by
        simp [List.findIdx?_cons]
      rw [Sn.dropId]
      simp only [hfi]
      simp [Sn.drop]
  have h := aux m (Nat.le_refl _)
  rw [List.take_of_length_le (by rw [mbr_len]; exact Nat.le_refl _)] at h
  rw [h, List.drop_eq_nil_of_le (by rw [mpic_len]; exact Nat.le_refl _), List.append_nil]
theorem u8ofNat {j : Nat} (h : j < 256) : (UInt8.ofNat j).toNat = j := by rw [UInt8.toNat_ofNat']; omega
theorem wrapU8 {j : Nat} (h : j < 256) : IntKind.u8.wrap (j : Int) = ((UInt8.ofNat j).toNat : Int) := by
  rw [u8ofNat h]
  simp only [IntKind.wrap, IntKind.bits, IntKind.signed, Bool.false_and, Bool.false_eq_true, if_false]
  omega
/-- One branch more, or none where the tree is full. -/
theorem add_mbr {M i c2 : Nat} {t : Nat → Nat} {ad2 : Option Addr} {zs : List BBx} (hs : St W w (Tree tq q ⟨M, mbr (min i M), min i M, 0⟩ :: Store q r ⟨min i M + 1, 40, min i M + 1, mpic t (min i M + 1)⟩ :: L))
    (hr : ∀ w', St W w' L → RdX w' ad2 zs) (hz : zs.map (·.2.2) = [[UInt8.ofNat i]]) (hc : 1 ≤ c2) (hM : M ≤ 8) (hi : i < 20) :
    Calls Try.prog 14 #[.pointer (some ⟨tq, 0, none⟩), .int .i64 5, .int .i64 ((1 : Nat) : Int), .slice ad2 1 c2] w fun e w' => ∃ z : Nat, e = .returned (.tuple #[.int .i64 z, .bool (decide (i < M))]) ∧
      St W w' (Tree tq q ⟨M, mbr (min (i + 1) M), min (i + 1) M, 0⟩ :: Store q r ⟨min (i + 1) M + 1, 40, min (i + 1) M + 1, mpic t (min (i + 1) M + 1)⟩ :: L) := by
  rcases Nat.lt_or_ge i M with h | h
  · rw [Nat.min_eq_left (Nat.le_of_lt h)] at hs
    rw [Nat.min_eq_left (show i + 1 ≤ M from h)]
    refine (add_ok (frm := 5) (zs := zs) (p := [[UInt8.ofNat i]]) (i := 0) (px := ⟨1, 1, fun _ => 0, t⟩) hs hr hz hc ⟨by simp, by simp⟩ (mpic_zero t i) (by simp; omega) (by simp; omega) ?_ (by simp [mbr_len]; exact h) (by simp)).mono fun e w' ⟨h1, hs⟩ => ⟨i + 1, by rw [h1, decide_eq_true h], ?_⟩
    · intro y hy his
      simp only [mbr, List.mem_map, List.mem_range] at hy
      obtain ⟨j, hj, rfl⟩ := hy
      have := his.2
      simp at this
      have h2 := congrArg UInt8.toNat this
      rw [u8ofNat (by omega), u8ofNat (by omega)] at h2
      omega
    · have e1 : (⟨M, mbr i, i, 0⟩ : Tr).add 5 [[UInt8.ofNat i]] (i + 1 + 1) = ⟨M, mbr (i + 1), i + 1, 0⟩ := by rw [mbr_succ]; rfl
      have e2 : (⟨i + 1, 40, i + 1, mpic t (i + 1)⟩ : Sn).add (fun _ => 0) t = ⟨i + 1 + 1, 40, i + 1 + 1, mpic t (i + 1 + 1)⟩ := by rw [mpic_succ t (i + 1)]; rfl
      rw [e1, e2] at hs
      exact hs
  · rw [Nat.min_eq_right h] at hs
    rw [Nat.min_eq_right (Nat.le_trans h (Nat.le_succ i))]
    exact (add_full hs (.inl (by simp [mbr_len]))).mono fun e w' ⟨h1, hs⟩ => ⟨0, by rw [h1, decide_eq_false (by omega)]; rfl, hs⟩
theorem mcut (M N : Nat) : (((⟨M, mbr (min N M), min N M, 0⟩ : Tr).cut (fun _ => true)).epoch : Int) = min ((min N M : Nat) : Int) 1 := by
  have hf : (mbr (min N M)).filter (fun x => !(fun _ => true) x) = [] := List.filter_eq_nil_iff.2 (by simp)
  have hce : ((⟨M, mbr (min N M), min N M, 0⟩ : Tr).cut (fun _ => true)).epoch = 0 + if 0 < (mbr (min N M)).length then 1 else 0 := by
    simp only [Tr.cut, hf]; rfl
  rw [hce, mbr_len]
  split <;> omega
theorem branchMost_walk (most n : Int) (W : World) (w0 : (Lit.int .i64 most).wf = true) (w1 : (Lit.int .i64 n).wf = true) :
    Calls Try.prog 5 #[.int .i64 most, .int .i64 n] W fun e w' => e = .returned (.bool true) ∧ Below W.heap.size W w' := by
  have hs := St.start W
  obtain ⟨M, hM⟩ : ∃ M : Nat, (min (max most 0) 8).toNat = M := ⟨_, rfl⟩
  refine calls_enter Try.func5 rfl Try.ntmps5 (Nat.le_of_ble_eq_true rfl) ?_
  intro a ha
  replace ha : Fr a 95 [(0, _), (1, _)] := ha
  refine wp_seq ?_
  refine wp_region_lit ?_
  refine wpList_k (st_set ha rfl (ex_assign ha) rfl ?_); clear ha; (try clear a); intro a ha
  refine wpList_nil ?_
  refine then_n ?_
  refine wp_seq ?_
  refine wp_region_lit ?_
  refine wpList_k (st_call ha rfl Ty.c9 rfl (begun23 hs) ?_); clear ha hs
  rintro e w ⟨rfl, hs⟩
  refine ⟨_, rfl, ?_⟩
  intro a ha
  refine wpList_k (st_set ha rfl (ex_assign ha) rfl ?_); clear ha; (try clear a); intro a ha
  refine wpList_nil ?_
  refine then_n ?_
  refine wp_seq ?_
  refine wp_seq ?_
  refine wp_region_lit ?_
  refine wpList_k (st_set ha rfl (ex_move ha) rfl ?_); clear ha; (try clear a); intro a ha
  refine wpList_k (st_set ha rfl (ex_not ha) rfl ?_); clear ha; (try clear a); intro a ha
  refine wpList_nil ?_
  refine then_n ?_
  refine wp_ifF ha ?_
  refine wp_skip ?_
  refine then_n ?_
  refine wp_seq ?_
  refine wp_seq ?_
  refine wp_region_lit ?_
  refine wpList_k (st_set ha rfl (ex_move ha) rfl ?_); clear ha; (try clear a); intro a ha
  refine wpList_k (st_set ha rfl (ex_lss ha) rfl ?_); clear ha; (try clear a); intro a ha
  refine wpList_k (st_set ha rfl (ex_move ha) rfl ?_); clear ha; (try clear a); intro a ha
  refine ha.bool (s := 19) (fun hg2 ha => ?_) (fun hg2 ha => ?_)
  ·
    try simp only [decide_eq_true_eq, decide_eq_false_iff_not, Bool.not_eq_true', Bool.not_eq_false', Int.not_lt, Int.not_le, ne_eq, Decidable.not_not] at hg2
    refine wpList_k (st_off ha (wgF ha rfl (s := 19) rfl) rfl ?_); clear ha; (try clear a); intro a ha
    refine wpList_k (st_off ha (wgF ha rfl (s := 19) rfl) rfl ?_); clear ha; (try clear a); intro a ha
    refine wpList_k (st_set ha rfl (ex_pickT ha) rfl ?_); clear ha; (try clear a); intro a ha
    refine wpList_nil ?_
    refine then_n ?_
    refine wp_ifT ha ?_
    refine wp_seq ?_
    refine wp_region_lit ?_
    replace ha := ha.del 4
    refine wpList_k (st_set ha rfl (ex_assign ha) rfl ?_); clear ha; (try clear a); intro a ha
    refine wpList_nil ?_
    refine then_n ?_
    refine wp_ret <| then_r ?_
    refine ret1 ha rfl ?_
    first
      | exact ⟨rfl, hs.below⟩
      | (refine ⟨?_, hs.below⟩
         rw [decide_eq_true (mcut M N)])
  ·
    try simp only [decide_eq_true_eq, decide_eq_false_iff_not, Bool.not_eq_true', Bool.not_eq_false', Int.not_lt, Int.not_le, ne_eq, Decidable.not_not] at hg2
    refine wpList_k (st_set ha (wgT ha rfl (s := 19)) (ex_move ha) rfl ?_); clear ha; (try clear a); intro a ha
    refine wpList_k (st_set ha (wgT ha rfl (s := 19)) (ex_gtr ha) rfl ?_); clear ha; (try clear a); intro a ha
    refine wpList_k (st_set ha rfl (ex_pickF ha) rfl ?_); clear ha; (try clear a); intro a ha
    refine wpList_nil ?_
    refine then_n ?_
    refine wp_if ha (fun hc1 => ?_) (fun hc1 => ?_)
    ·
      try simp only [decide_eq_true_eq, decide_eq_false_iff_not, Bool.not_eq_true', Bool.not_eq_false', Int.not_lt, Int.not_le, ne_eq, Decidable.not_not] at hc1
      refine wp_seq ?_
      refine wp_region_lit ?_
      replace ha := ha.del 4
      refine wpList_k (st_set ha rfl (ex_assign ha) rfl ?_); clear ha; (try clear a); intro a ha
      refine wpList_nil ?_
      refine then_n ?_
      refine wp_ret <| then_r ?_
      refine ret1 ha rfl ?_
      first
        | exact ⟨rfl, hs.below⟩
        | (refine ⟨?_, hs.below⟩
           rw [decide_eq_true (mcut M N)])
    ·
      try simp only [decide_eq_true_eq, decide_eq_false_iff_not, Bool.not_eq_true', Bool.not_eq_false', Int.not_lt, Int.not_le, ne_eq, Decidable.not_not] at hc1
      obtain ⟨N, rfl⟩ : ∃ N : Nat, n = N := ⟨n.toNat, by omega⟩
      refine wp_skip ?_
      refine then_n ?_
      refine wp_seq ?_
      refine wp_region_lit ?_
      refine wpList_k (st_call ha rfl Ty.c11 rfl (snap_new (n := 10) hs (by decide)) ?_); clear ha hs
      rintro e w ⟨q, r, rfl, hs⟩
      refine ⟨_, rfl, ?_⟩
      intro a ha
      refine wpList_k (st_set ha rfl (ex_assign ha) rfl ?_); clear ha; (try clear a); intro a ha
      refine wpList_nil ?_
      refine then_n ?_
      refine wp_seq ?_
      refine wp_region_lit ?_
      refine wpList_k (st_set ha rfl (ex_move ha) rfl ?_); clear ha; (try clear a); intro a ha
      refine wpList_k (st_set ha rfl (ex_move ha) rfl ?_); clear ha; (try clear a); intro a ha
      refine wpList_k (st_call ha rfl Ty.c12 rfl (tree_new (m := most) hs) ?_); clear ha hs
      rintro e w ⟨tq, rfl, hs⟩
      refine ⟨_, rfl, ?_⟩
      intro a ha
      rw [hM] at hs
      refine wpList_k (st_set ha rfl (ex_assign ha) rfl ?_); clear ha; (try clear a); intro a ha
      refine wpList_nil ?_
      refine then_n ?_
      refine wp_seq ?_
      refine wp_region_lit ?_
      refine wpList_k (st_set ha rfl (ex_move ha) rfl ?_); clear ha; (try clear a); intro a ha
      refine wpList_k (st_set ha rfl (ex_buildA0 ha Try.underlying34 Ty.t34 Ty.t21) rfl ?_); clear ha; (try clear a); intro a ha
      change Fr a 95 ((29, .agg (ints .i32 32 (fun _ => 0)).toArray) :: _) at ha
      refine wpList_k (st_call ha rfl Ty.c13 rfl (snap_make (hs.store q) (by decide) (by decide)) ?_); clear ha hs
      rintro e w ⟨t, rfl, ⟨ht1, ht2⟩, hs⟩
      refine ⟨_, rfl, ?_⟩
      intro a ha
      change St W w (Store q r ⟨1, 40, 1, mpic t (min 0 M + 1)⟩ :: _) at hs
      refine wpList_k (st_set ha rfl (ex_move ha) rfl ?_); clear ha; (try clear a); intro a ha
      refine wpList_k (st_set ha rfl (ex_extract ha rfl) rfl ?_); clear ha; (try clear a); intro a ha
      refine wpList_k (st_set ha rfl (ex_extract ha rfl) rfl ?_); clear ha; (try clear a); intro a ha
      refine wpList_k (st_set ha rfl (ex_assign ha) rfl ?_); clear ha; (try clear a); intro a ha
      refine wpList_k (st_set ha rfl (ex_assign ha) rfl ?_); clear ha; (try clear a); intro a ha
      refine wpList_nil ?_
      refine then_n ?_
      refine wp_seq ?_
      refine wp_region_lit ?_
      refine wpList_k (st_set ha rfl (ex_move ha) rfl ?_); clear ha; (try clear a); intro a ha
      refine wpList_k (st_set ha rfl (ex_min ha) rfl ?_); clear ha; (try clear a); intro a ha
      refine wpList_k (st_set ha rfl (ex_max ha) rfl ?_); clear ha; (try clear a); intro a ha
      rw [show max 0 (min most 8) = (M : Int) from by omega] at ha
      replace ha := ha.del 0
      refine wpList_k (st_set ha rfl (ex_assign ha) rfl ?_); clear ha; (try clear a); intro a ha
      refine wpList_nil ?_
      have hst0 : St W w (Store q r ⟨min 0 M + 1, 40, min 0 M + 1, mpic t (min 0 M + 1)⟩ :: Tree tq q ⟨M, mbr (min 0 M), min 0 M, 0⟩ :: []) := by
        rw [show min 0 M = 0 from by omega] at hs ⊢
        exact hs.sub (M := Store q r ⟨1, 40, 1, mpic t (0 + 1)⟩ :: Tree tq q ⟨M, [], 0, 0⟩ :: [])
      replace hs := hst0
      clear hst0
      refine then_n ?_
      refine wp_seq ?_
      refine wp_seq ?_
      refine wp_region_lit ?_
      refine wpList_k (st_set ha rfl (ex_assign ha) rfl ?_); clear ha; (try clear a); intro a ha
      refine wpList_nil ?_
      refine then_n ?_
      refine wp_block ?_
      refine wp_loop_ghost (fun μ a w => ∃ i : Nat, (μ = N - i ∧ i ≤ N) ∧ Fr a 95 [(0, .int .i64 M), (1, .int .i64 N), (6, .pointer (some ⟨q, 0, none⟩)), (7, .pointer (some ⟨tq, 0, none⟩)), (8, .int .i64 ((1 : Nat) : Int)), (10, .int .i64 i)] ∧ St W w [Store q r ⟨min i M + 1, 40, min i M + 1, mpic t (min i M + 1)⟩, Tree tq q ⟨M, mbr (min i M), min i M, 0⟩]) (N) ?_ ?_
      · exact ⟨0, ⟨by simp, by simp⟩, ha.keep [0, 1, 6, 7, 8, 10], hs.sub⟩
      ·
        clear ha hs
        rintro μ a w ⟨i, ⟨rfl, hi⟩, ha, hs⟩
        refine wp_seq ?_
        refine wp_seq ?_
        refine wp_region_lit ?_
        refine wpList_k (st_set ha rfl (ex_move ha) rfl ?_); clear ha; (try clear a); intro a ha
        refine wpList_k (st_set ha rfl (ex_move ha) rfl ?_); clear ha; (try clear a); intro a ha
        refine wpList_k (st_set ha rfl (ex_lss ha) rfl ?_); clear ha; (try clear a); intro a ha
        refine wpList_nil ?_
        refine then_n ?_
        refine wp_if ha (fun hc2 => ?_) (fun hc2 => ?_)
        ·
          try simp only [decide_eq_true_eq, decide_eq_false_iff_not, Bool.not_eq_true', Bool.not_eq_false', Int.not_lt, Int.not_le, ne_eq, Decidable.not_not] at hc2
          refine wp_skip ?_
          refine then_n ?_
          refine wp_seq ?_
          refine wp_block ?_
          refine wp_seq ?_
          refine wp_region_lit ?_
          refine wpList_k (st_set ha rfl (ex_move ha) rfl ?_); clear ha; (try clear a); intro a ha
          refine wpList_k (st_set ha rfl (ex_move ha) rfl ?_); clear ha; (try clear a); intro a ha
          refine wpList_k (st_set ha rfl (ex_move ha) rfl ?_); clear ha; (try clear a); intro a ha
          refine wpList_k (st_set ha rfl (ex_convII ha Try.underlying3 Try.underlying5) rfl ?_); clear ha; (try clear a); intro a ha
          rw [wrapU8 (by omega)] at ha
          refine wpList_k (st_buildSlice ha rfl hs Try.underlying48 Ty.t5 rfl rfl rfl rfl (by decide) (by decide) ?_); clear ha hs; (try clear a); (try clear w); intro b46 a w ha hs ho
          clear ho
          refine wpList_k (st_buildSlice ha rfl hs Try.underlying23 Ty.t48 rfl rfl rfl rfl (by decide) (by decide) ?_); clear ha hs; (try clear a); (try clear w); intro b47 a w ha hs ho
          clear ho
          refine wpList_k (st_call ha rfl Ty.c14 rfl (add_mbr (zs := [(some ⟨b46, 0, none⟩, 1, [UInt8.ofNat i])]) ((hs.store q).tree tq) (fun w' h => rdx1 h rfl rfl) rfl (by decide) (by omega) (by omega)) ?_); clear ha hs
          rintro e w ⟨z, rfl, hs⟩
          refine ⟨_, rfl, ?_⟩
          intro a ha
          refine wpList_k (st_set ha rfl (ex_move ha) rfl ?_); clear ha; (try clear a); intro a ha
          refine wpList_k (st_set ha rfl (ex_extract ha rfl) rfl ?_); clear ha; (try clear a); intro a ha
          refine wpList_k (st_set ha rfl (ex_extract ha rfl) rfl ?_); clear ha; (try clear a); intro a ha
          refine wpList_k (st_set ha rfl (ex_assign ha) rfl ?_); clear ha; (try clear a); intro a ha
          refine wpList_k (st_set ha rfl (ex_assign ha) rfl ?_); clear ha; (try clear a); intro a ha
          refine wpList_nil ?_
          refine then_n ?_
          refine wp_seq ?_
          refine wp_region_lit ?_
          refine wpList_k (st_set ha rfl (ex_move ha) rfl ?_); clear ha; (try clear a); intro a ha
          refine wpList_k (st_set ha rfl (ex_move ha) rfl ?_); clear ha; (try clear a); intro a ha
          refine wpList_k (st_set ha rfl (ex_move ha) rfl ?_); clear ha; (try clear a); intro a ha
          refine wpList_k (st_set ha rfl (ex_lss ha) rfl ?_); clear ha; (try clear a); intro a ha
          rw [show decide ((i : Int) < (M : Int)) = decide (i < M) from by simp] at ha
          refine wpList_k (st_set ha rfl (ex_neqB ha Try.underlying4) rfl ?_); clear ha; (try clear a); intro a ha
          rw [bne_self_eq_false] at ha
          refine wpList_nil ?_
          refine then_n ?_
          refine wp_ifF ha ?_
          refine wp_skip ?_
          refine blk_n <| then_n ?_
          refine wp_region_lit ?_
          refine wpList_k (st_set ha rfl (ex_move ha) rfl ?_); clear ha; (try clear a); intro a ha
          refine wpList_k (st_set ha rfl (ex_addI ha (by omega) (by omega)) rfl ?_); clear ha; (try clear a); intro a ha
          replace ha := ha.del 10
          refine wpList_k (st_set ha rfl (ex_assign ha) rfl ?_); clear ha; (try clear a); intro a ha
          refine wpList_nil ?_
          refine then_n ?_
          exact ⟨N - (i + 1), by omega, i + 1, ⟨rfl, by omega⟩, ha.keep [0, 1, 6, 7, 8, 10], hs.sub⟩
        ·
          try simp only [decide_eq_true_eq, decide_eq_false_iff_not, Bool.not_eq_true', Bool.not_eq_false', Int.not_lt, Int.not_le, ne_eq, Decidable.not_not] at hc2
          refine wp_exit ?_
          refine then_e <| then_e <| blk_e ?_
          refine then_n ?_
          refine wp_seq ?_
          obtain rfl : N = i := by omega
          refine wp_region_lit ?_
          refine wpList_k (st_set ha rfl (ex_move ha) rfl ?_); clear ha; (try clear a); intro a ha
          refine wpList_k (st_set ha rfl (ex_move ha) rfl ?_); clear ha; (try clear a); intro a ha
          refine wpList_k (st_set ha rfl (ex_min ha) rfl ?_); clear ha; (try clear a); intro a ha
          rw [show min (N : Int) M = ((min N M : Nat) : Int) from by omega] at ha
          refine wpList_k (st_set ha rfl (ex_assign ha) rfl ?_); clear ha; (try clear a); intro a ha
          refine wpList_nil ?_
          refine then_n ?_
          refine wp_seq ?_
          refine wp_seq ?_
          refine wp_region_lit ?_
          refine wpList_k (st_set ha rfl (ex_move ha) rfl ?_); clear ha; (try clear a); intro a ha
          refine wpList_k (st_call ha rfl Ty.c15 rfl (tree_all (hs.tree tq)) ?_); clear ha hs
          rintro e w ⟨ada, ca, rfl, hs⟩
          refine ⟨_, rfl, ?_⟩
          intro a ha
          refine wpList_k (st_set ha rfl (ex_len ha Try.underlying37) rfl ?_); clear ha; (try clear a); intro a ha
          refine wpList_k (st_set ha rfl (ex_move ha) rfl ?_); clear ha; (try clear a); intro a ha
          refine wpList_k (st_set ha rfl (ex_neq ha) rfl ?_); clear ha; (try clear a); intro a ha
          refine wpList_k (st_set ha rfl (ex_move ha) rfl ?_); clear ha; (try clear a); intro a ha
          rw [decide_eq_false (by simp [mbr_len])] at ha
          refine wpList_k (st_set ha (wgT ha rfl (s := 64)) (ex_move ha) rfl ?_); clear ha; (try clear a); intro a ha
          refine wpList_k (st_call ha (wgT ha rfl (s := 64)) Ty.c18 rfl (snap_live (hs.store q)) ?_); clear ha hs
          rintro e w ⟨adl, cl, rfl, hs⟩
          refine ⟨_, rfl, ?_⟩
          intro a ha
          refine wpList_k (st_set ha (wgT ha rfl (s := 64)) (ex_len ha Try.underlying43) rfl ?_); clear ha; (try clear a); intro a ha
          refine wpList_k (st_set ha (wgT ha rfl (s := 64)) (ex_move ha) rfl ?_); clear ha; (try clear a); intro a ha
          refine wpList_k (st_set ha (wgT ha rfl (s := 64)) (ex_addI ha (by omega) (by omega)) rfl ?_); clear ha; (try clear a); intro a ha
          refine wpList_k (st_set ha (wgT ha rfl (s := 64)) (ex_neq ha) rfl ?_); clear ha; (try clear a); intro a ha
          refine wpList_k (st_set ha rfl (ex_pickF ha) rfl ?_); clear ha; (try clear a); intro a ha
          refine wpList_k (st_set ha rfl (ex_move ha) rfl ?_); clear ha; (try clear a); intro a ha
          rw [decide_eq_false (by simp [mpic_len])] at ha
          refine wpList_k (st_set ha (wgT ha rfl (s := 72)) (ex_move ha) rfl ?_); clear ha; (try clear a); intro a ha
          refine wpList_k (st_call ha (wgT ha rfl (s := 72)) Ty.c23 rfl (snap_room (hs.store q)) ?_); clear ha hs
          rintro e w ⟨rfl, hs⟩
          refine ⟨_, rfl, ?_⟩
          intro a ha
          refine wpList_k (st_call ha (wgT ha rfl (s := 72)) Ty.c24 rfl (snap_used (hs.store q)) ?_); clear ha hs
          rintro e w ⟨rfl, hs⟩
          refine ⟨_, rfl, ?_⟩
          intro a ha
          rw [Store.used (hs.store q)] at ha
          rw [mpic_used ht2] at ha
          refine wpList_k (st_set ha (wgT ha rfl (s := 72)) (ex_neq ha) rfl ?_); clear ha; (try clear a); intro a ha
          refine wpList_k (st_set ha rfl (ex_pickF ha) rfl ?_); clear ha; (try clear a); intro a ha
          refine wpList_nil ?_
          refine then_n ?_
          refine wp_ifF ha ?_
          refine wp_skip ?_
          refine then_n ?_
          refine wp_seq ?_
          refine wp_region_lit ?_
          refine wpList_k (st_set ha rfl (ex_move ha) rfl ?_); clear ha; (try clear a); intro a ha
          refine wpList_k (st_call ha rfl Ty.c25 rfl (tree_clear ((hs.store q).tree tq) (by simp)) ?_); clear ha hs
          rintro e w ⟨rfl, hs⟩
          refine ⟨_, rfl, ?_⟩
          intro a ha
          rw [mdrop] at hs
          refine wpList_k (st_set ha rfl (ex_move ha) rfl ?_); clear ha; (try clear a); intro a ha
          refine wpList_k (st_set ha rfl (ex_eql ha) rfl ?_); clear ha; (try clear a); intro a ha
          refine wpList_k (st_set ha rfl (ex_move ha) rfl ?_); clear ha; (try clear a); intro a ha
          rw [decide_eq_true (by simp [mbr_len])] at ha
          refine wpList_k (st_set ha (wgT ha rfl (s := 82)) (ex_move ha) rfl ?_); clear ha; (try clear a); intro a ha
          refine wpList_k (st_call ha (wgT ha rfl (s := 82)) Ty.c18 rfl (snap_live (hs.store q)) ?_); clear ha hs
          rintro e w ⟨adk, ck, rfl, hs⟩
          refine ⟨_, rfl, ?_⟩
          intro a ha
          refine wpList_k (st_set ha (wgT ha rfl (s := 82)) (ex_len ha Try.underlying43) rfl ?_); clear ha; (try clear a); intro a ha
          refine wpList_k (st_set ha (wgT ha rfl (s := 82)) (ex_eql ha) rfl ?_); clear ha; (try clear a); intro a ha
          refine wpList_k (st_set ha rfl (ex_pickT ha) rfl ?_); clear ha; (try clear a); intro a ha
          refine wpList_k (st_set ha rfl (ex_move ha) rfl ?_); clear ha; (try clear a); intro a ha
          rw [decide_eq_true (by simp [mpic_len])] at ha
          refine wpList_k (st_set ha (wgT ha rfl (s := 88)) (ex_move ha) rfl ?_); clear ha; (try clear a); intro a ha
          refine wpList_k (st_call ha (wgT ha rfl (s := 88)) Ty.c19 rfl (tree_epoch (hs.tree tq)) ?_); clear ha hs
          rintro e w ⟨rfl, hs⟩
          refine ⟨_, rfl, ?_⟩
          intro a ha
          refine wpList_k (st_set ha (wgT ha rfl (s := 88)) (ex_move ha) rfl ?_); clear ha; (try clear a); intro a ha
          refine wpList_k (st_set ha (wgT ha rfl (s := 88)) (ex_min ha) rfl ?_); clear ha; (try clear a); intro a ha
          refine wpList_k (st_set ha (wgT ha rfl (s := 88)) (ex_eql ha) rfl ?_); clear ha; (try clear a); intro a ha
          refine wpList_k (st_set ha rfl (ex_pickT ha) rfl ?_); clear ha; (try clear a); intro a ha
          refine wpList_k (st_set ha rfl (ex_assign ha) rfl ?_); clear ha; (try clear a); intro a ha
          refine wpList_nil ?_
          refine then_n ?_
          refine wp_ret ?_
          refine ret1 ha rfl ?_
          first
            | exact ⟨rfl, hs.below⟩
            | (refine ⟨?_, hs.below⟩
               rw [decide_eq_true (mcut M N)])
end
end Go.Proofs.Ytkjmmchmanofkaa

