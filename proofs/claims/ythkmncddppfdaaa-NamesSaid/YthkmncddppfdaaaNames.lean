/- The numbers of package api. -/
import Derived.Test.YthkmncddppfdaaaTy
namespace Go.Proofs.Ythkmncddppfdaaa
open Go.RowKit
set_option linter.unusedVariables false
set_option linter.unusedSimpArgs false
set_option maxRecDepth 10000
set_option synthInstance.maxSize 4000
set_option synthInstance.maxHeartbeats 400000

def apiNums : List Int := [0, 1, 2, 3, 4, 5, 6, 7, 8, 32, 8, 64, 20, 12, 200, 8, 1000, 32, 16, 8, 8, 4, 40, 300, 3, 0, 1, 2, 3, 4, 5, 6, 7, 8, 9, 10, 11, 12, 13, 14, 15, 1, 2, 3, 1, 2, 1, 2, 3, 1, 2, 3, 4, 5, 6, 7, 8]
theorem apiNums_at {w : World} {b : Nat} (h : Rd w b 0 (apiNums.map (Value.int .i64))) (i : Nat) (hi : i < 57) : w.cell? ⟨b, 0 + i * 1, none⟩ = some (.int .i64 (apiNums.getD i 0)) := by
  have hl : i < apiNums.length := hi
  have := h i (.int .i64 apiNums[i]) (by simp [hl])
  rw [Nat.mul_one, this]
  simp [List.getD_eq_getElem?_getD, hl]

theorem names_walk (W : World) : Calls Try.prog 3 #[] W fun e w' => e = .returned (.bool true) ∧ Below W.heap.size W w' := by
  have hs := St.start W
  refine calls_enter Try.func3 rfl Try.ntmps3 (Nat.le_of_ble_eq_true rfl) ?_
  intro a ha
  replace ha : Fr a 26 [] := ha
  refine wp_seq ?_
  refine wp_region_lit ?_
  refine wpList_k (st_set ha rfl (ex_assign ha) rfl ?_); clear ha; (try clear a); intro a ha
  refine wpList_nil ?_
  refine then_n ?_
  refine wp_seq ?_
  refine wp_region_lit ?_
  refine wpList_k (st_buildSlice ha rfl hs Try.underlying22 Ty.t3 rfl rfl rfl rfl (by decide) (by decide) ?_); clear ha hs; (try clear a); (try clear w); intro b4 a w ha hs ho
  clear ho
  change St W w [blk b4 _ (apiNums.map (Value.int .i64))] at hs
  refine wpList_k (st_set ha rfl (ex_assign ha) rfl ?_); clear ha; (try clear a); intro a ha
  refine wpList_nil ?_
  refine then_n ?_
  refine wp_seq ?_
  refine wp_region_lit ?_
  refine wpList_k (st_buildSlice ha rfl hs Try.underlying22 Ty.t3 rfl rfl rfl rfl (by decide) (by decide) ?_); clear ha hs; (try clear a); (try clear w); intro b5 a w ha hs ho
  clear ho
  change St W w [blk b5 _ (apiNums.map (Value.int .i64)), _] at hs
  refine wpList_k (st_set ha rfl (ex_assign ha) rfl ?_); clear ha; (try clear a); intro a ha
  refine wpList_nil ?_
  refine then_n ?_
  refine wp_seq ?_
  refine wp_seq ?_
  refine wp_region_lit ?_
  refine wpList_k (st_set ha rfl (ex_move ha) rfl ?_); clear ha; (try clear a); intro a ha
  refine wpList_k (st_set ha rfl (ex_len ha Try.underlying22) rfl ?_); clear ha; (try clear a); intro a ha
  refine wpList_k (st_set ha rfl (ex_move ha) rfl ?_); clear ha; (try clear a); intro a ha
  refine wpList_k (st_set ha rfl (ex_len ha Try.underlying22) rfl ?_); clear ha; (try clear a); intro a ha
  refine wpList_k (st_set ha rfl (ex_neq ha) rfl ?_); clear ha; (try clear a); intro a ha
  change Fr a _ ((10, .bool false) :: _) at ha
  refine wpList_nil ?_
  refine then_n ?_
  refine wp_ifF ha ?_
  refine wp_skip ?_
  refine then_n ?_
  refine wp_seq ?_
  refine wp_seq ?_
  refine wp_region_lit ?_
  refine wpList_k (st_set ha rfl (ex_assign ha) rfl ?_); clear ha; (try clear a); intro a ha
  refine wpList_nil ?_
  refine then_n ?_
  refine wp_block ?_
  refine wp_loop_ghost (fun μ a w => ∃ i : Nat, (μ = 57 - i ∧ i ≤ 57) ∧ Fr a 26 [(0, .bool false), (1, .slice (some ⟨b4, 0, none⟩) 57 57), (2, .slice (some ⟨b5, 0, none⟩) 57 57), (3, .int .i64 i)] ∧ St W w [blk b5 3 (apiNums.map (Value.int .i64)), blk b4 3 (apiNums.map (Value.int .i64))]) (57) ?_ ?_
  · exact ⟨0, ⟨by simp, by simp⟩, ha.keep [0, 1, 2, 3], hs⟩
  ·
    clear ha hs
    rintro μ a w ⟨i, ⟨rfl, hi⟩, ha, hs⟩
    refine wp_seq ?_
    refine wp_seq ?_
    refine wp_region_lit ?_
    refine wpList_k (st_set ha rfl (ex_move ha) rfl ?_); clear ha; (try clear a); intro a ha
    refine wpList_k (st_set ha rfl (ex_move ha) rfl ?_); clear ha; (try clear a); intro a ha
    refine wpList_k (st_set ha rfl (ex_len ha Try.underlying22) rfl ?_); clear ha; (try clear a); intro a ha
    refine wpList_k (st_set ha rfl (ex_lss ha) rfl ?_); clear ha; (try clear a); intro a ha
    refine wpList_nil ?_
    refine then_n ?_
    refine wp_if ha (fun hc1 => ?_) (fun hc1 => ?_)
    ·
      try simp only [decide_eq_true_eq, decide_eq_false_iff_not, Bool.not_eq_true', Bool.not_eq_false', Int.not_lt, Int.not_le, ne_eq, Decidable.not_not] at hc1
      refine wp_skip ?_
      refine then_n ?_
      refine wp_seq ?_
      refine wp_block ?_
      refine wp_seq ?_
      refine wp_draw (m := 9) (l0 := #[false, false, false, false, false, false, false, false, false]) (Old w.drew) [7] Ty.mixed (by kernel_rfl) (by kernel_rfl) ?_
      replace hs := hs.drew
      have hC := Old.refl w.drew
      generalize w.drew = w at hs hC ⊢
      have h1 := apiNums_at (hs.rdAll (b := b4)) i (by omega)
      have h2 := apiNums_at (hs.rdAll (b := b5)) i (by omega)
      refine nt_pure (i := 0) (listed' := #[true, false, false, false, false, false, false, false, false]) (by kernel_rfl) rfl (by kernel_rfl) (by decide) (pk_then (pk_blk (pk_then (pk_then (pk_blk (pk_then pk_body)))))) ha rfl (fun w => ex_move ha) rfl ?_; clear ha; (try clear a); intro a ha
      refine nt_pure (i := 1) (listed' := #[true, true, false, false, false, false, false, false, false]) (by kernel_rfl) rfl (by kernel_rfl) (by decide) (pk_then (pk_blk (pk_then (pk_then (pk_blk (pk_then pk_body)))))) ha rfl (fun w => ex_move ha) rfl ?_; clear ha; (try clear a); intro a ha
      refine nt_pure (i := 2) (listed' := #[true, true, true, false, false, false, false, false, false]) (by kernel_rfl) rfl (by kernel_rfl) (by decide) (pk_then (pk_blk (pk_then (pk_then (pk_blk (pk_then pk_body)))))) ha rfl (fun w => ex_indexAddr ha Try.underlying22 Ty.t3 (by omega)) rfl ?_; clear ha; (try clear a); intro a ha
      refine nt_pure (i := 4) (listed' := #[true, true, true, false, true, false, false, false, false]) (by kernel_rfl) rfl (by kernel_rfl) (by decide) (pk_then (pk_blk (pk_then (pk_then (pk_blk (pk_then pk_body)))))) ha rfl (fun w => ex_move ha) rfl ?_; clear ha; (try clear a); intro a ha
      refine nt_pure (i := 5) (listed' := #[true, true, true, false, true, true, false, false, false]) (by kernel_rfl) rfl (by kernel_rfl) (by decide) (pk_then (pk_blk (pk_then (pk_then (pk_blk (pk_then pk_body)))))) ha rfl (fun w => ex_move ha) rfl ?_; clear ha; (try clear a); intro a ha
      refine nt_pure (i := 6) (listed' := #[true, true, true, false, true, true, true, false, false]) (by kernel_rfl) rfl (by kernel_rfl) (by decide) (pk_then (pk_blk (pk_then (pk_then (pk_blk (pk_then pk_body)))))) ha rfl (fun w => ex_indexAddr ha Try.underlying22 Ty.t3 (by omega)) rfl ?_; clear ha; (try clear a); intro a ha
      refine nt_held (i := 3) (listed' := #[true, true, true, true, true, true, true, false, false]) (by kernel_rfl) rfl (by kernel_rfl) (pk_then (pk_blk (pk_then (pk_then (pk_blk (pk_then pk_body)))))) ha rfl (fun w hc => ex_load1 ha Try.underlying3 rfl (hc.cell h1)) hC rfl ?_; clear ha; (try clear a); intro a ha
      refine nt_one (i := 7) (listed' := #[true, true, true, true, true, true, true, true, false]) (by kernel_rfl) (by kernel_rfl) rfl (st_set ha rfl (ex_load1 ha Try.underlying3 rfl (h2)) rfl ?_); clear ha; (try clear a); intro a ha
      refine ⟨fun _ => hC, ?_⟩
      refine nt_pure (i := 8) (listed' := #[true, true, true, true, true, true, true, true, true]) (by kernel_rfl) rfl (by kernel_rfl) (by decide) (pk_then (pk_blk (pk_then (pk_then (pk_blk (pk_then pk_body)))))) ha rfl (fun w => ex_neq ha) rfl ?_; clear ha; (try clear a); intro a ha
      rw [show decide (apiNums.getD i 0 ≠ apiNums.getD i 0) = false from by simp] at ha
      refine nt_done (by kernel_rfl) ?_ _
      refine then_n ?_
      refine wp_ifF ha ?_
      refine wp_skip ?_
      refine blk_n <| then_n ?_
      refine wp_region_lit ?_
      refine wpList_k (st_set ha rfl (ex_move ha) rfl ?_); clear ha; (try clear a); intro a ha
      refine wpList_k (st_set ha rfl (ex_addI ha (by omega) (by omega)) rfl ?_); clear ha; (try clear a); intro a ha
      replace ha := ha.del 3
      refine wpList_k (st_set ha rfl (ex_assign ha) rfl ?_); clear ha; (try clear a); intro a ha
      refine wpList_nil ?_
      refine then_n ?_
      exact ⟨57 - (i + 1), by omega, i + 1, ⟨rfl, by omega⟩, ha.keep [0, 1, 2, 3], hs⟩
    ·
      try simp only [decide_eq_true_eq, decide_eq_false_iff_not, Bool.not_eq_true', Bool.not_eq_false', Int.not_lt, Int.not_le, ne_eq, Decidable.not_not] at hc1
      refine wp_exit ?_
      refine then_e <| then_e <| blk_e ?_
      refine then_n ?_
      refine wp_seq ?_
      refine wp_region_lit ?_
      replace ha := ha.del 0
      refine wpList_k (st_set ha rfl (ex_assign ha) rfl ?_); clear ha; (try clear a); intro a ha
      refine wpList_nil ?_
      refine then_n ?_
      refine wp_ret ?_
      refine ret1 ha rfl ?_
      exact ⟨rfl, hs.below⟩
end Go.Proofs.Ythkmncddppfdaaa

