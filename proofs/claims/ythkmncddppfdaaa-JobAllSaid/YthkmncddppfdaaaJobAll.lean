/- JobAll. -/
import Derived.Test.YthkmncddppfdaaaJobLaw
namespace Go.Proofs.Ythkmncddppfdaaa
open Go.RowKit
set_option linter.unusedVariables false
set_option linter.unusedSimpArgs false
set_option maxRecDepth 10000
set_option synthInstance.maxSize 4000
set_option synthInstance.maxHeartbeats 400000

theorem jcRd {w : World} {b off : Nat} {m : List (Int × Int)} (h : Rd w b off (jc m)) (k : Nat) (hk : k < m.length) :
    w.cell? ⟨b, off + k * 2, none⟩ = some (.int .i64 m[k].1) ∧ w.cell? ⟨b, off + k * 2 + 1, none⟩ = some (.int .i64 m[k].2) := by
  have hr := h.part (k * 2) 2
  rw [jc_at m k hk] at hr
  exact ⟨hr 0 _ rfl, hr 1 _ rfl⟩

/-- What may be put, as the law reckons it. -/
def okPut (m : List (Int × Int)) (br : Int) (k : Nat) : Bool := decide (m.length < 16) && (m.take k).all fun y => decide (y.1 ≠ br)
theorem okPut_zero (m : List (Int × Int)) (br : Int) : decide ((m.length : Int) < 16) = okPut m br 0 := by
  simp only [okPut, List.take_zero, List.all_nil, Bool.and_true]
  by_cases h : m.length < 16
  · rw [decide_eq_true h, decide_eq_true (by omega)]
  · rw [decide_eq_false h, decide_eq_false (by omega)]
theorem okPut_succ (m : List (Int × Int)) (br : Int) (k : Nat) (h : k < m.length) : okPut m br (k + 1) = (okPut m br k && decide (m[k].1 ≠ br)) := by
  rw [okPut, okPut, List.take_succ_eq_append_getElem h, List.all_append, Bool.and_assoc]; simp
theorem okPut_end (m : List (Int × Int)) (br : Int) : okPut m br m.length = mayPut m br := by
  rw [okPut, mayPut, List.take_length]
  congr 1
  rw [Bool.eq_iff_iff]; simp

/-- The operations that came in. -/
def ArgOps (W : World) (ad : Option Addr) (len cap : Nat) : Prop :=
  len ≤ 9223372036854775807 ∧ (len = 0 ∨ ∃ b off, ad = some ⟨b, off, none⟩ ∧ b < W.heap.size ∧ ∀ i, i < len → ∃ k br ep : Int, Rd W b (off + i * 3) [.int .i64 k, .int .i64 br, .int .i64 ep])
theorem ArgOps.get {W : World} {ad : Option Addr} {len cap : Nat} (h : ArgOps W ad len cap) {i : Nat} (hi : i < len) :
    ∃ b off k br ep, ad = some ⟨b, off, none⟩ ∧ b < W.heap.size ∧ Rd W b (off + i * 3) [.int .i64 k, .int .i64 br, .int .i64 ep] := by
  rcases h.2 with h | ⟨b, off, h1, h2, h3⟩
  · omega
  · obtain ⟨k, br, ep, h4⟩ := h3 i hi
    exact ⟨b, off, k, br, ep, h1, h2, h4⟩
theorem St.oldRd {W w : World} {L : List SP} (hs : St W w L) {b off : Nat} {vs : List Value} (hb : b < W.heap.size) (h : Rd W b off vs) : Rd w b off vs :=
  fun j v hj => (hs.old hb).trans (h j v hj)

theorem jobAll_walk (ar : Option Addr) (len cap : Nat) (W : World) (w0 : ArgOps W ar len cap) :
    Calls Try.prog 4 #[.slice ar len cap] W fun e w' => e = .returned (.bool true) ∧ Below W.heap.size W w' := by
  have hs := St.start W
  have hlen := w0.1
  refine calls_enter Try.func4 rfl Try.ntmps4 (Nat.le_of_ble_eq_true rfl) ?_
  intro a ha
  replace ha : Fr a 156 [(0, _)] := ha
  refine wp_seq ?_
  refine wp_region_lit ?_
  refine wpList_k (st_set ha rfl (ex_assign ha) rfl ?_); clear ha; (try clear a); intro a ha
  refine wpList_nil ?_
  refine then_n ?_
  refine wp_seq ?_
  refine wp_region_lit ?_
  refine wpList_k (st_call ha rfl Ty.c8 rfl (begun24 hs) ?_); clear ha hs
  rintro e w ⟨rfl, hs⟩
  refine ⟨_, rfl, ?_⟩
  intro a ha
  refine wpList_k (st_set ha rfl (ex_assign ha) rfl ?_); clear ha; (try clear a); intro a ha
  refine wpList_nil ?_
  refine then_n ?_
  refine wp_seq ?_
  refine wp_seq ?_
  refine wp_region_lit ?_
  refine wpList_k (st_set ha rfl (ex_move ha) rfl ?_); clear ha; (try clear a); intro a ha
  refine wpList_k (st_set ha rfl (ex_not ha) rfl ?_); clear ha; (try clear a); intro a ha
  refine wpList_nil ?_
  refine then_n ?_
  refine wp_ifF ha ?_
  refine wp_skip ?_
  refine then_n ?_
  refine wp_seq ?_
  refine wp_region_lit ?_
  refine wpList_k (st_call ha rfl Ty.c9 rfl (new_spec hs) ?_); clear ha hs
  rintro e w ⟨q, rfl, hs⟩
  refine ⟨_, rfl, ?_⟩
  intro a ha
  refine wpList_k (st_set ha rfl (ex_assign ha) rfl ?_); clear ha; (try clear a); intro a ha
  refine wpList_nil ?_
  refine then_n ?_
  refine wp_seq ?_
  refine wp_region_lit ?_
  refine wpList_k (st_set ha rfl (ex_assign ha) rfl ?_); clear ha; (try clear a); intro a ha
  refine wpList_nil ?_
  refine then_n ?_
  refine wp_seq ?_
  refine wp_seq ?_
  refine wp_region_lit ?_
  refine wpList_k (st_set ha rfl (ex_assign ha) rfl ?_); clear ha; (try clear a); intro a ha
  refine wpList_nil ?_
  refine then_n ?_
  refine wp_block ?_
  refine wp_loop_ghost (fun μ a w => ∃ (i c : Nat) (m : List (Int × Int)) (ad : Option Addr), (μ = 60 - i ∧ i ≤ 60 ∧ m.length ≤ 16) ∧ Fr a 156 [(0, .slice ar len cap), (2, .bool false), (4, .pointer (some ⟨q, 0, none⟩)), (5, .slice ad m.length c), (6, .int .i64 i)] ∧ St W w [Jobs q m, Sl 31 2 ad m.length c (jc m)]) (60) ?_ ?_
  · exact ⟨0, 0, [], none, ⟨by simp, by simp, by simp⟩, ha.keep [0, 2, 4, 5, 6], ((hs.sl0 31 2 none).perm (List.Perm.swap _ _ _))⟩
  ·
    clear ha hs
    rintro μ a w ⟨i, c, m, ad, ⟨rfl, hi, hm⟩, ha, hs⟩
    refine wp_seq ?_
    refine wp_seq ?_
    refine wp_region_lit ?_
    refine wpList_k (st_set ha rfl (ex_move ha) rfl ?_); clear ha; (try clear a); intro a ha
    refine wpList_k (st_set ha rfl (ex_move ha) rfl ?_); clear ha; (try clear a); intro a ha
    refine wpList_k (st_set ha rfl (ex_len ha Try.underlying24) rfl ?_); clear ha; (try clear a); intro a ha
    refine wpList_k (st_set ha rfl (ex_lss ha) rfl ?_); clear ha; (try clear a); intro a ha
    refine wpList_k (st_set ha rfl (ex_move ha) rfl ?_); clear ha; (try clear a); intro a ha
    refine ha.bool (s := 22) (fun hg4 ha => ?_) (fun hg4 ha => ?_)
    ·
      try simp only [decide_eq_true_eq, decide_eq_false_iff_not, Bool.not_eq_true', Bool.not_eq_false', Int.not_lt, Int.not_le, ne_eq, Decidable.not_not] at hg4
      refine wpList_k (st_set ha (wgT ha rfl (s := 22)) (ex_move ha) rfl ?_); clear ha; (try clear a); intro a ha
      refine wpList_k (st_set ha (wgT ha rfl (s := 22)) (ex_lss ha) rfl ?_); clear ha; (try clear a); intro a ha
      refine wpList_k (st_set ha rfl (ex_pickT ha) rfl ?_); clear ha; (try clear a); intro a ha
      refine wpList_nil ?_
      refine then_n ?_
      refine wp_if ha (fun hc1 => ?_) (fun hc1 => ?_)
      ·
        try simp only [decide_eq_true_eq, decide_eq_false_iff_not, Bool.not_eq_true', Bool.not_eq_false', Int.not_lt, Int.not_le, ne_eq, Decidable.not_not] at hc1
        obtain ⟨b, off, k, br, ep, rfl, hb, hop⟩ := w0.get (i := i) (by omega)
        refine wp_skip ?_
        refine then_n ?_
        refine wp_seq ?_
        refine wp_block ?_
        refine wp_seq ?_
        refine wp_region_lit ?_
        refine wpList_k (st_set ha rfl (ex_move ha) rfl ?_); clear ha; (try clear a); intro a ha
        refine wpList_k (st_set ha rfl (ex_move ha) rfl ?_); clear ha; (try clear a); intro a ha
        refine wpList_k (st_set ha rfl (ex_indexAddr ha Try.underlying24 Ty.t29 (by omega)) rfl ?_); clear ha; (try clear a); intro a ha
        refine wpList_k (st_set ha rfl (ex_loadN ha Try.underlying29 rfl Ty.t29 (hs.oldRd hb hop)) rfl ?_); clear ha; (try clear a); intro a ha
        refine wpList_k (st_alloc ha rfl hs Ty.t29 rfl ?_); clear ha hs; (try clear a); (try clear w); intro b7 a w ha hs ho
        clear ho
        refine wpList_k (st_storeAll ha rfl hs Ty.t29 (by simp [Value.oneCell']) (by rfl) ?_); clear ha hs; (try clear a); (try clear w); intro a w ha hs
        refine wpList_nil ?_
        refine then_n ?_
        refine wp_seq ?_
        refine wp_seq ?_
        refine wp_region_lit ?_
        refine wpList_k (st_set ha rfl (ex_fieldAddr ha Try.underlying29 rfl Ty.t3 rfl) rfl ?_); clear ha; (try clear a); intro a ha
        refine wpList_k (st_set ha rfl (ex_load1 ha Try.underlying3 rfl (hs.rd1 rfl)) rfl ?_); clear ha; (try clear a); intro a ha
        refine wpList_nil ?_
        refine then_n ?_
        refine wp_block ?_
        refine wp_seq ?_
        refine wp_region_lit ?_
        refine wpList_k (st_set ha rfl (ex_eql ha) rfl ?_); clear ha; (try clear a); intro a ha
        refine wpList_k (st_set ha rfl (ex_assign ha) rfl ?_); clear ha; (try clear a); intro a ha
        refine wpList_nil ?_
        refine then_n ?_
        refine wp_if ha (fun hk0 => ?_) (fun hk0 => ?_)
        ·
          try simp only [decide_eq_true_eq, decide_eq_false_iff_not, Bool.not_eq_true', Bool.not_eq_false', Int.not_lt, Int.not_le, ne_eq, Decidable.not_not] at hk0
          refine wp_seq ?_
          refine wp_region_lit ?_
          refine wpList_k (st_set ha rfl (ex_move ha) rfl ?_); clear ha; (try clear a); intro a ha
          refine wpList_k (st_set ha rfl (ex_len ha Try.underlying27) rfl ?_); clear ha; (try clear a); intro a ha
          refine wpList_k (st_set ha rfl (ex_lss ha) rfl ?_); clear ha; (try clear a); intro a ha
          refine wpList_k (st_set ha rfl (ex_assign ha) rfl ?_); clear ha; (try clear a); intro a ha
          rw [okPut_zero m br] at ha
          refine wpList_nil ?_
          refine then_n ?_
          refine wp_seq ?_
          refine wp_seq ?_
          refine wp_region_lit ?_
          refine wpList_k (st_set ha rfl (ex_assign ha) rfl ?_); clear ha; (try clear a); intro a ha
          refine wpList_nil ?_
          refine then_n ?_
          refine wp_block ?_
          refine wp_loop_ghost (fun μ a w => ∃ kk : Nat, (μ = m.length - kk ∧ kk ≤ m.length) ∧ Fr a 156 [(0, .slice (some ⟨b, off, none⟩) len cap), (2, .bool false), (4, .pointer (some ⟨q, 0, none⟩)), (5, .slice ad m.length c), (6, .int .i64 i), (7, .pointer (some ⟨b7, 0, none⟩)), (8, .bool (okPut m br kk)), (9, .int .i64 kk)] ∧ St W w [blk b7 29 [.int .i64 k, .int .i64 br, .int .i64 ep], Jobs q m, Sl 31 2 ad m.length c (jc m)]) (m.length) ?_ ?_
          · exact ⟨0, ⟨by simp, by simp⟩, ha.keep [0, 2, 4, 5, 6, 7, 8, 9], hs.sub⟩
          ·
            clear ha hs
            rintro μ a w ⟨kk, ⟨rfl, hkk⟩, ha, hs⟩
            refine wp_seq ?_
            refine wp_seq ?_
            refine wp_region_lit ?_
            refine wpList_k (st_set ha rfl (ex_move ha) rfl ?_); clear ha; (try clear a); intro a ha
            refine wpList_k (st_set ha rfl (ex_move ha) rfl ?_); clear ha; (try clear a); intro a ha
            refine wpList_k (st_set ha rfl (ex_len ha Try.underlying27) rfl ?_); clear ha; (try clear a); intro a ha
            refine wpList_k (st_set ha rfl (ex_lss ha) rfl ?_); clear ha; (try clear a); intro a ha
            refine wpList_nil ?_
            refine then_n ?_
            refine wp_if ha (fun hc3 => ?_) (fun hc3 => ?_)
            ·
              try simp only [decide_eq_true_eq, decide_eq_false_iff_not, Bool.not_eq_true', Bool.not_eq_false', Int.not_lt, Int.not_le, ne_eq, Decidable.not_not] at hc3
              refine wp_skip ?_
              refine then_n ?_
              refine wp_seq ?_
              refine wp_block ?_
              refine wp_draw (m := 12) (l0 := #[false, false, false, false, false, false, false, false, false, false, false, false]) (Old w.drew) [8] Ty.mixed (by kernel_rfl) (by kernel_rfl) ?_
              replace hs := hs.drew
              have hC := Old.refl w.drew
              generalize w.drew = w at hs hC ⊢
              refine nt_pure (i := 0) (listed' := #[true, false, false, false, false, false, false, false, false, false, false, false]) (by kernel_rfl) rfl (by kernel_rfl) (by decide) (pk_blk (pk_then (pk_then (pk_blk (pk_then (pk_blk (pk_then (pk_blk (pk_then (pk_then (pk_blk (pk_then pk_body)))))))))))) ha rfl (fun w => ex_move ha) rfl ?_; clear ha; (try clear a); intro a ha
              refine nt_pure (i := 1) (listed' := #[true, true, false, false, false, false, false, false, false, false, false, false]) (by kernel_rfl) rfl (by kernel_rfl) (by decide) (pk_blk (pk_then (pk_then (pk_blk (pk_then (pk_blk (pk_then (pk_blk (pk_then (pk_then (pk_blk (pk_then pk_body)))))))))))) ha rfl (fun w => ex_move ha) rfl ?_; clear ha; (try clear a); intro a ha
              refine ha.bool (s := 78) (fun hg1 ha => ?_) (fun hg1 ha => ?_)
              ·
                try simp only [decide_eq_true_eq, decide_eq_false_iff_not, Bool.not_eq_true', Bool.not_eq_false', Int.not_lt, Int.not_le, ne_eq, Decidable.not_not] at hg1
                obtain ⟨b', off', rfl, hrd⟩ := hs.slRd ad (by omega)
                have hm1 := jcRd hrd kk (by omega)
                refine nt_pure (i := 2) (listed' := #[true, true, true, false, false, false, false, false, false, false, false, false]) (by kernel_rfl) rfl (by kernel_rfl) (by decide) (pk_blk (pk_then (pk_then (pk_blk (pk_then (pk_blk (pk_then (pk_blk (pk_then (pk_then (pk_blk (pk_then pk_body)))))))))))) ha (wgT ha rfl (s := 78)) (fun w => ex_move ha) rfl ?_; clear ha; (try clear a); intro a ha
                refine nt_pure (i := 3) (listed' := #[true, true, true, true, false, false, false, false, false, false, false, false]) (by kernel_rfl) rfl (by kernel_rfl) (by decide) (pk_blk (pk_then (pk_then (pk_blk (pk_then (pk_blk (pk_then (pk_blk (pk_then (pk_then (pk_blk (pk_then pk_body)))))))))))) ha (wgT ha rfl (s := 78)) (fun w => ex_move ha) rfl ?_; clear ha; (try clear a); intro a ha
                refine nt_pure (i := 4) (listed' := #[true, true, true, true, true, false, false, false, false, false, false, false]) (by kernel_rfl) rfl (by kernel_rfl) (by decide) (pk_blk (pk_then (pk_then (pk_blk (pk_then (pk_blk (pk_then (pk_blk (pk_then (pk_then (pk_blk (pk_then pk_body)))))))))))) ha (wgT ha rfl (s := 78)) (fun w => ex_indexAddr ha Try.underlying27 Ty.t31 (by omega)) rfl ?_; clear ha; (try clear a); intro a ha
                refine nt_pure (i := 5) (listed' := #[true, true, true, true, true, true, false, false, false, false, false, false]) (by kernel_rfl) rfl (by kernel_rfl) (by decide) (pk_blk (pk_then (pk_then (pk_blk (pk_then (pk_blk (pk_then (pk_blk (pk_then (pk_then (pk_blk (pk_then pk_body)))))))))))) ha (wgT ha rfl (s := 78)) (fun w => ex_fieldAddr ha Try.underlying31 rfl Ty.t2 rfl) rfl ?_; clear ha; (try clear a); intro a ha
                refine nt_pure (i := 7) (listed' := #[true, true, true, true, true, true, false, true, false, false, false, false]) (by kernel_rfl) rfl (by kernel_rfl) (by decide) (pk_blk (pk_then (pk_then (pk_blk (pk_then (pk_blk (pk_then (pk_blk (pk_then (pk_then (pk_blk (pk_then pk_body)))))))))))) ha (wgT ha rfl (s := 78)) (fun w => ex_fieldAddr ha Try.underlying29 rfl Ty.t2 rfl) rfl ?_; clear ha; (try clear a); intro a ha
                refine nt_held (i := 6) (listed' := #[true, true, true, true, true, true, true, true, false, false, false, false]) (by kernel_rfl) rfl (by kernel_rfl) (pk_blk (pk_then (pk_then (pk_blk (pk_then (pk_blk (pk_then (pk_blk (pk_then (pk_then (pk_blk (pk_then pk_body)))))))))))) ha (wgT ha rfl (s := 78)) (fun w hc => ex_load1 ha Try.underlying2 rfl (hc.cell (hm1.1))) hC rfl ?_; clear ha; (try clear a); intro a ha
                refine nt_one (i := 8) (listed' := #[true, true, true, true, true, true, true, true, true, false, false, false]) (by kernel_rfl) (by kernel_rfl) rfl (st_set ha (wgT ha rfl (s := 78)) (ex_load1 ha Try.underlying2 rfl (hs.rd1 rfl)) rfl ?_); clear ha; (try clear a); intro a ha
                refine ⟨fun _ => hC, ?_⟩
                refine nt_pure (i := 9) (listed' := #[true, true, true, true, true, true, true, true, true, true, false, false]) (by kernel_rfl) rfl (by kernel_rfl) (by decide) (pk_blk (pk_then (pk_then (pk_blk (pk_then (pk_blk (pk_then (pk_blk (pk_then (pk_then (pk_blk (pk_then pk_body)))))))))))) ha (wgT ha rfl (s := 78)) (fun w => ex_neq ha) rfl ?_; clear ha; (try clear a); intro a ha
                refine nt_pure (i := 10) (listed' := #[true, true, true, true, true, true, true, true, true, true, true, false]) (by kernel_rfl) rfl (by kernel_rfl) (by decide) (pk_blk (pk_then (pk_then (pk_blk (pk_then (pk_blk (pk_then (pk_blk (pk_then (pk_then (pk_blk (pk_then pk_body)))))))))))) ha rfl (fun w => ex_pickT ha) rfl ?_; clear ha; (try clear a); intro a ha
                replace ha := ha.del 8
                refine nt_pure (i := 11) (listed' := #[true, true, true, true, true, true, true, true, true, true, true, true]) (by kernel_rfl) rfl (by kernel_rfl) (by decide) (pk_blk (pk_then (pk_then (pk_blk (pk_then (pk_blk (pk_then (pk_blk (pk_then (pk_then (pk_blk (pk_then pk_body)))))))))))) ha rfl (fun w => ex_assign ha) rfl ?_; clear ha; (try clear a); intro a ha
                refine nt_done (by kernel_rfl) ?_ _
                refine blk_n <| then_n ?_
                refine wp_region_lit ?_
                refine wpList_k (st_set ha rfl (ex_move ha) rfl ?_); clear ha; (try clear a); intro a ha
                refine wpList_k (st_set ha rfl (ex_addI ha (by omega) (by omega)) rfl ?_); clear ha; (try clear a); intro a ha
                replace ha := ha.del 9
                refine wpList_k (st_set ha rfl (ex_assign ha) rfl ?_); clear ha; (try clear a); intro a ha
                refine wpList_nil ?_
                refine then_n ?_
                exact ⟨m.length - (kk + 1), by omega, kk + 1, ⟨rfl, by omega⟩, by rw [okPut_succ m br kk (by omega), hg1, Bool.true_and]; exact ha.keep [0, 2, 4, 5, 6, 7, 8, 9], hs⟩
              ·
                try simp only [decide_eq_true_eq, decide_eq_false_iff_not, Bool.not_eq_true', Bool.not_eq_false', Int.not_lt, Int.not_le, ne_eq, Decidable.not_not] at hg1
                refine nt_off (i := 2) (listed' := #[true, true, true, false, false, false, false, false, false, false, false, false]) (by kernel_rfl) rfl (by kernel_rfl) (by decide) (pk_blk (pk_then (pk_then (pk_blk (pk_then (pk_blk (pk_then (pk_blk (pk_then (pk_then (pk_blk (pk_then pk_body)))))))))))) ha (wgF ha rfl (s := 78) rfl) rfl ?_; clear ha; (try clear a); intro a ha
                refine nt_off (i := 3) (listed' := #[true, true, true, true, false, false, false, false, false, false, false, false]) (by kernel_rfl) rfl (by kernel_rfl) (by decide) (pk_blk (pk_then (pk_then (pk_blk (pk_then (pk_blk (pk_then (pk_blk (pk_then (pk_then (pk_blk (pk_then pk_body)))))))))))) ha (wgF ha rfl (s := 78) rfl) rfl ?_; clear ha; (try clear a); intro a ha
                refine nt_off (i := 4) (listed' := #[true, true, true, true, true, false, false, false, false, false, false, false]) (by kernel_rfl) rfl (by kernel_rfl) (by decide) (pk_blk (pk_then (pk_then (pk_blk (pk_then (pk_blk (pk_then (pk_blk (pk_then (pk_then (pk_blk (pk_then pk_body)))))))))))) ha (wgF ha rfl (s := 78) rfl) rfl ?_; clear ha; (try clear a); intro a ha
                refine nt_off (i := 5) (listed' := #[true, true, true, true, true, true, false, false, false, false, false, false]) (by kernel_rfl) rfl (by kernel_rfl) (by decide) (pk_blk (pk_then (pk_then (pk_blk (pk_then (pk_blk (pk_then (pk_blk (pk_then (pk_then (pk_blk (pk_then pk_body)))))))))))) ha (wgF ha rfl (s := 78) rfl) rfl ?_; clear ha; (try clear a); intro a ha
                refine nt_off (i := 7) (listed' := #[true, true, true, true, true, true, false, true, false, false, false, false]) (by kernel_rfl) rfl (by kernel_rfl) (by decide) (pk_blk (pk_then (pk_then (pk_blk (pk_then (pk_blk (pk_then (pk_blk (pk_then (pk_then (pk_blk (pk_then pk_body)))))))))))) ha (wgF ha rfl (s := 78) rfl) rfl ?_; clear ha; (try clear a); intro a ha
                refine nt_offH (i := 6) (listed' := #[true, true, true, true, true, true, true, true, false, false, false, false]) (by kernel_rfl) rfl (by kernel_rfl) (pk_blk (pk_then (pk_then (pk_blk (pk_then (pk_blk (pk_then (pk_blk (pk_then (pk_then (pk_blk (pk_then pk_body)))))))))))) ha (wgF ha rfl (s := 78) rfl) hC rfl ?_; clear ha; (try clear a); intro a ha
                refine nt_offH (i := 8) (listed' := #[true, true, true, true, true, true, true, true, true, false, false, false]) (by kernel_rfl) rfl (by kernel_rfl) (pk_blk (pk_then (pk_then (pk_blk (pk_then (pk_blk (pk_then (pk_blk (pk_then (pk_then (pk_blk (pk_then pk_body)))))))))))) ha (wgF ha rfl (s := 78) rfl) hC rfl ?_; clear ha; (try clear a); intro a ha
                refine nt_off (i := 9) (listed' := #[true, true, true, true, true, true, true, true, true, true, false, false]) (by kernel_rfl) rfl (by kernel_rfl) (by decide) (pk_blk (pk_then (pk_then (pk_blk (pk_then (pk_blk (pk_then (pk_blk (pk_then (pk_then (pk_blk (pk_then pk_body)))))))))))) ha (wgF ha rfl (s := 78) rfl) rfl ?_; clear ha; (try clear a); intro a ha
                refine nt_pure (i := 10) (listed' := #[true, true, true, true, true, true, true, true, true, true, true, false]) (by kernel_rfl) rfl (by kernel_rfl) (by decide) (pk_blk (pk_then (pk_then (pk_blk (pk_then (pk_blk (pk_then (pk_blk (pk_then (pk_then (pk_blk (pk_then pk_body)))))))))))) ha rfl (fun w => ex_pickF ha) rfl ?_; clear ha; (try clear a); intro a ha
                replace ha := ha.del 8
                refine nt_pure (i := 11) (listed' := #[true, true, true, true, true, true, true, true, true, true, true, true]) (by kernel_rfl) rfl (by kernel_rfl) (by decide) (pk_blk (pk_then (pk_then (pk_blk (pk_then (pk_blk (pk_then (pk_blk (pk_then (pk_then (pk_blk (pk_then pk_body)))))))))))) ha rfl (fun w => ex_assign ha) rfl ?_; clear ha; (try clear a); intro a ha
                refine nt_done (by kernel_rfl) ?_ _
                refine blk_n <| then_n ?_
                refine wp_region_lit ?_
                refine wpList_k (st_set ha rfl (ex_move ha) rfl ?_); clear ha; (try clear a); intro a ha
                refine wpList_k (st_set ha rfl (ex_addI ha (by omega) (by omega)) rfl ?_); clear ha; (try clear a); intro a ha
                replace ha := ha.del 9
                refine wpList_k (st_set ha rfl (ex_assign ha) rfl ?_); clear ha; (try clear a); intro a ha
                refine wpList_nil ?_
                refine then_n ?_
                exact ⟨m.length - (kk + 1), by omega, kk + 1, ⟨rfl, by omega⟩, by rw [okPut_succ m br kk (by omega), hg1, Bool.false_and]; exact ha.keep [0, 2, 4, 5, 6, 7, 8, 9], hs⟩
            ·
              try simp only [decide_eq_true_eq, decide_eq_false_iff_not, Bool.not_eq_true', Bool.not_eq_false', Int.not_lt, Int.not_le, ne_eq, Decidable.not_not] at hc3
              obtain rfl : kk = m.length := by omega
              rw [okPut_end] at ha
              refine wp_exit ?_
              refine then_e <| then_e <| blk_e ?_
              refine then_n ?_
              refine wp_seq ?_
              refine wp_seq ?_
              refine wp_region_lit ?_
              refine wpList_k (st_set ha rfl (ex_move ha) rfl ?_); clear ha; (try clear a); intro a ha
              refine wpList_k (st_set ha rfl (ex_fieldAddr ha Try.underlying29 rfl Ty.t2 rfl) rfl ?_); clear ha; (try clear a); intro a ha
              refine wpList_k (st_set ha rfl (ex_load1 ha Try.underlying2 rfl (hs.rd1 rfl)) rfl ?_); clear ha; (try clear a); intro a ha
              refine wpList_k (st_set ha rfl (ex_fieldAddr ha Try.underlying29 rfl Ty.t2 rfl) rfl ?_); clear ha; (try clear a); intro a ha
              refine wpList_k (st_set ha rfl (ex_load1 ha Try.underlying2 rfl (hs.rd1 rfl)) rfl ?_); clear ha; (try clear a); intro a ha
              refine wpList_k (st_set ha rfl (ex_build ha Ty.b31 Ty.t31 rfl) rfl ?_); clear ha; (try clear a); intro a ha
              refine wpList_k (st_call ha rfl Ty.c10 rfl (put_spec (hs.jobs q) hm) ?_); clear ha hs
              rintro e w ⟨rfl, hs⟩
              refine ⟨_, rfl, ?_⟩
              intro a ha
              refine wpList_k (st_set ha rfl (ex_move ha) rfl ?_); clear ha; (try clear a); intro a ha
              refine wpList_k (st_set ha rfl (ex_neqB ha Try.underlying4) rfl ?_); clear ha; (try clear a); intro a ha
              rw [bne_self_eq_false] at ha
              refine wpList_nil ?_
              refine then_n ?_
              refine wp_ifF ha ?_
              refine wp_skip ?_
              refine then_n ?_
              refine wp_seq ?_
              refine wp_region_lit ?_
              refine wpList_k (st_set ha rfl (ex_move ha) rfl ?_); clear ha; (try clear a); intro a ha
              refine wpList_nil ?_
              refine then_n ?_
              refine wp_if ha (fun hc5 => ?_) (fun hc5 => ?_)
              ·
                try simp only [decide_eq_true_eq, decide_eq_false_iff_not, Bool.not_eq_true', Bool.not_eq_false', Int.not_lt, Int.not_le, ne_eq, Decidable.not_not] at hc5
                rw [hc5, if_pos rfl] at hs
                have hml : m.length < 16 := by
                  simp only [mayPut, Bool.and_eq_true, decide_eq_true_eq] at hc5
                  exact hc5.1
                refine wp_region_lit ?_
                refine wpList_k (st_set ha rfl (ex_move ha) rfl ?_); clear ha; (try clear a); intro a ha
                refine wpList_k (st_set ha rfl (ex_fieldAddr ha Try.underlying29 rfl Ty.t2 rfl) rfl ?_); clear ha; (try clear a); intro a ha
                refine wpList_k (st_set ha rfl (ex_load1 ha Try.underlying2 rfl (hs.rd1 rfl)) rfl ?_); clear ha; (try clear a); intro a ha
                refine wpList_k (st_set ha rfl (ex_fieldAddr ha Try.underlying29 rfl Ty.t2 rfl) rfl ?_); clear ha; (try clear a); intro a ha
                refine wpList_k (st_set ha rfl (ex_load1 ha Try.underlying2 rfl (hs.rd1 rfl)) rfl ?_); clear ha; (try clear a); intro a ha
                refine wpList_k (st_set ha rfl (ex_build ha Ty.b31 Ty.t31 rfl) rfl ?_); clear ha; (try clear a); intro a ha
                refine wpList_k (st_buildSlice ha rfl hs Try.underlying27 Ty.t31 rfl rfl rfl rfl (by decide) (by decide) ?_); clear ha hs; (try clear a); (try clear w); intro b104 a w ha hs ho
                clear ho
                refine wpList_k (st_append ha rfl hs Try.underlying27 Ty.t31 rfl rfl hs.rdAll rfl (by simp [Value.oneCell']) (by decide) (by decide) (by omega) ?_); clear ha hs; (try clear a); (try clear w); intro ad105 c105 a w ha hs
                rw [show m.length + 1 = (m ++ [(br, ep)]).length from by simp] at ha hs
                rw [show jc m ++ [[Value.int .i64 br, Value.int .i64 ep]].flatten = jc (m ++ [(br, ep)]) from by rw [jc_app]; rfl] at hs
                replace ha := ha.del 5
                refine wpList_k (st_set ha rfl (ex_assign ha) rfl ?_); clear ha; (try clear a); intro a ha
                refine wpList_nil ?_
                refine blk_n <| then_n ?_
                refine wp_seq ?_
                refine wp_region_lit ?_
                refine wpList_k (st_set ha rfl (ex_move ha) rfl ?_); clear ha; (try clear a); intro a ha
                refine wpList_k (st_call ha rfl Ty.c13 rfl (len_jobs (hs.jobs q)) ?_); clear ha hs
                rintro e w ⟨rfl, hs⟩
                refine ⟨_, rfl, ?_⟩
                intro a ha
                refine wpList_k (st_set ha rfl (ex_move ha) rfl ?_); clear ha; (try clear a); intro a ha
                refine wpList_k (st_set ha rfl (ex_len ha Try.underlying27) rfl ?_); clear ha; (try clear a); intro a ha
                refine wpList_k (st_set ha rfl (ex_neq ha) rfl ?_); clear ha; (try clear a); intro a ha
                rw [dne] at ha
                refine wpList_nil ?_
                refine then_n ?_
                refine wp_ifF ha ?_
                refine wp_skip ?_
                refine blk_n <| then_n ?_
                refine wp_region_lit ?_
                refine wpList_k (st_set ha rfl (ex_move ha) rfl ?_); clear ha; (try clear a); intro a ha
                refine wpList_k (st_set ha rfl (ex_addI ha (by omega) (by omega)) rfl ?_); clear ha; (try clear a); intro a ha
                replace ha := ha.del 6
                refine wpList_k (st_set ha rfl (ex_assign ha) rfl ?_); clear ha; (try clear a); intro a ha
                refine wpList_nil ?_
                refine then_n ?_
                refine ⟨60 - (i + 1), by omega, i + 1, _, _, _, ⟨rfl, by omega, ?_⟩, ha.keep [0, 2, 4, 5, 6], hs.sub⟩
                first | exact hm | (simp at hm ⊢; omega)
              ·
                try simp only [decide_eq_true_eq, decide_eq_false_iff_not, Bool.not_eq_true', Bool.not_eq_false', Int.not_lt, Int.not_le, ne_eq, Decidable.not_not] at hc5
                rw [hc5, if_neg (by simp)] at hs
                refine wp_skip ?_
                refine blk_n <| then_n ?_
                refine wp_seq ?_
                refine wp_region_lit ?_
                refine wpList_k (st_set ha rfl (ex_move ha) rfl ?_); clear ha; (try clear a); intro a ha
                refine wpList_k (st_call ha rfl Ty.c13 rfl (len_jobs (hs.jobs q)) ?_); clear ha hs
                rintro e w ⟨rfl, hs⟩
                refine ⟨_, rfl, ?_⟩
                intro a ha
                refine wpList_k (st_set ha rfl (ex_move ha) rfl ?_); clear ha; (try clear a); intro a ha
                refine wpList_k (st_set ha rfl (ex_len ha Try.underlying27) rfl ?_); clear ha; (try clear a); intro a ha
                refine wpList_k (st_set ha rfl (ex_neq ha) rfl ?_); clear ha; (try clear a); intro a ha
                rw [dne] at ha
                refine wpList_nil ?_
                refine then_n ?_
                refine wp_ifF ha ?_
                refine wp_skip ?_
                refine blk_n <| then_n ?_
                refine wp_region_lit ?_
                refine wpList_k (st_set ha rfl (ex_move ha) rfl ?_); clear ha; (try clear a); intro a ha
                refine wpList_k (st_set ha rfl (ex_addI ha (by omega) (by omega)) rfl ?_); clear ha; (try clear a); intro a ha
                replace ha := ha.del 6
                refine wpList_k (st_set ha rfl (ex_assign ha) rfl ?_); clear ha; (try clear a); intro a ha
                refine wpList_nil ?_
                refine then_n ?_
                refine ⟨60 - (i + 1), by omega, i + 1, _, _, _, ⟨rfl, by omega, ?_⟩, ha.keep [0, 2, 4, 5, 6], hs.sub⟩
                first | exact hm | (simp at hm ⊢; omega)
        ·
          try simp only [decide_eq_true_eq, decide_eq_false_iff_not, Bool.not_eq_true', Bool.not_eq_false', Int.not_lt, Int.not_le, ne_eq, Decidable.not_not] at hk0
          refine wp_seq ?_
          refine wp_region_lit ?_
          refine wpList_k (st_set ha rfl (ex_eql ha) rfl ?_); clear ha; (try clear a); intro a ha
          refine wpList_k (st_set ha rfl (ex_assign ha) rfl ?_); clear ha; (try clear a); intro a ha
          refine wpList_nil ?_
          refine then_n ?_
          refine wp_if ha (fun hc6 => ?_) (fun hc6 => ?_)
          ·
            try simp only [decide_eq_true_eq, decide_eq_false_iff_not, Bool.not_eq_true', Bool.not_eq_false', Int.not_lt, Int.not_le, ne_eq, Decidable.not_not] at hc6
            refine wp_seq ?_
            refine wp_region_lit ?_
            refine wpList_k (st_set ha rfl (ex_move ha) rfl ?_); clear ha; (try clear a); intro a ha
            refine wpList_k (st_call ha rfl Ty.c11 rfl (take_any (hs.jobs q)) ?_); clear ha hs
            rintro e w ⟨rfl, hs⟩
            refine ⟨_, rfl, ?_⟩
            intro a ha
            refine wpList_k (st_set ha rfl (ex_move ha) rfl ?_); clear ha; (try clear a); intro a ha
            refine wpList_k (st_set ha rfl (ex_extract ha rfl) rfl ?_); clear ha; (try clear a); intro a ha
            refine wpList_k (st_set ha rfl (ex_extract ha rfl) rfl ?_); clear ha; (try clear a); intro a ha
            refine wpList_k (st_alloc ha rfl hs Ty.t31 rfl ?_); clear ha hs; (try clear a); (try clear w); intro b10 a w ha hs ho
            clear ho
            refine wpList_k (st_storeAll ha rfl hs Ty.t31 (by simp [Value.oneCell']) (by rfl) ?_); clear ha hs; (try clear a); (try clear w); intro a w ha hs
            refine wpList_k (st_set ha rfl (ex_assign ha) rfl ?_); clear ha; (try clear a); intro a ha
            refine wpList_nil ?_
            refine then_n ?_
            refine wp_seq ?_
            refine wp_seq ?_
            refine wp_draw (m := 35) (l0 := #[false, false, false, false, false, false, false, false, false, false, false, false, false, false, false, false, false, false, false, false, false, false, false, false, false, false, false, false, false, false, false, false, false, false, false]) (Old w.drew) [13, 21] Ty.mixed (by kernel_rfl) (by kernel_rfl) ?_
            replace hs := hs.drew
            have hC := Old.refl w.drew
            generalize w.drew = w at hs hC ⊢
            refine nt_pure (i := 0) (listed' := #[true, false, false, false, false, false, false, false, false, false, false, false, false, false, false, false, false, false, false, false, false, false, false, false, false, false, false, false, false, false, false, false, false, false, false]) (by kernel_rfl) rfl (by kernel_rfl) (by decide) (pk_then (pk_then (pk_blk (pk_then (pk_blk (pk_then (pk_then (pk_blk (pk_then pk_body))))))))) ha rfl (fun w => ex_move ha) rfl ?_; clear ha; (try clear a); intro a ha
            refine nt_pure (i := 1) (listed' := #[true, true, false, false, false, false, false, false, false, false, false, false, false, false, false, false, false, false, false, false, false, false, false, false, false, false, false, false, false, false, false, false, false, false, false]) (by kernel_rfl) rfl (by kernel_rfl) (by decide) (pk_then (pk_then (pk_blk (pk_then (pk_blk (pk_then (pk_then (pk_blk (pk_then pk_body))))))))) ha rfl (fun w => ex_move ha) rfl ?_; clear ha; (try clear a); intro a ha
            refine nt_pure (i := 2) (listed' := #[true, true, true, false, false, false, false, false, false, false, false, false, false, false, false, false, false, false, false, false, false, false, false, false, false, false, false, false, false, false, false, false, false, false, false]) (by kernel_rfl) rfl (by kernel_rfl) (by decide) (pk_then (pk_then (pk_blk (pk_then (pk_blk (pk_then (pk_then (pk_blk (pk_then pk_body))))))))) ha rfl (fun w => ex_len ha Try.underlying27) rfl ?_; clear ha; (try clear a); intro a ha
            refine nt_pure (i := 3) (listed' := #[true, true, true, true, false, false, false, false, false, false, false, false, false, false, false, false, false, false, false, false, false, false, false, false, false, false, false, false, false, false, false, false, false, false, false]) (by kernel_rfl) rfl (by kernel_rfl) (by decide) (pk_then (pk_then (pk_blk (pk_then (pk_blk (pk_then (pk_then (pk_blk (pk_then pk_body))))))))) ha rfl (fun w => ex_gtr ha) rfl ?_; clear ha; (try clear a); intro a ha
            refine nt_pure (i := 4) (listed' := #[true, true, true, true, true, false, false, false, false, false, false, false, false, false, false, false, false, false, false, false, false, false, false, false, false, false, false, false, false, false, false, false, false, false, false]) (by kernel_rfl) rfl (by kernel_rfl) (by decide) (pk_then (pk_then (pk_blk (pk_then (pk_blk (pk_then (pk_then (pk_blk (pk_then pk_body))))))))) ha rfl (fun w => ex_neqB ha Try.underlying4) rfl ?_; clear ha; (try clear a); intro a ha
            rw [show ((!m.isEmpty) != decide (0 < (m.length : Int))) = false from by cases m <;> simp <;> omega] at ha
            refine nt_pure (i := 5) (listed' := #[true, true, true, true, true, true, false, false, false, false, false, false, false, false, false, false, false, false, false, false, false, false, false, false, false, false, false, false, false, false, false, false, false, false, false]) (by kernel_rfl) rfl (by kernel_rfl) (by decide) (pk_then (pk_then (pk_blk (pk_then (pk_blk (pk_then (pk_then (pk_blk (pk_then pk_body))))))))) ha rfl (fun w => ex_move ha) rfl ?_; clear ha; (try clear a); intro a ha
            refine nt_pure (i := 6) (listed' := #[true, true, true, true, true, true, true, false, false, false, false, false, false, false, false, false, false, false, false, false, false, false, false, false, false, false, false, false, false, false, false, false, false, false, false]) (by kernel_rfl) rfl (by kernel_rfl) (by decide) (pk_then (pk_then (pk_blk (pk_then (pk_blk (pk_then (pk_then (pk_blk (pk_then pk_body))))))))) ha (wgT ha rfl (s := 118)) (fun w => ex_move ha) rfl ?_; clear ha; (try clear a); intro a ha
            refine nt_pure (i := 7) (listed' := #[true, true, true, true, true, true, true, true, false, false, false, false, false, false, false, false, false, false, false, false, false, false, false, false, false, false, false, false, false, false, false, false, false, false, false]) (by kernel_rfl) rfl (by kernel_rfl) (by decide) (pk_then (pk_then (pk_blk (pk_then (pk_blk (pk_then (pk_then (pk_blk (pk_then pk_body))))))))) ha (wgT ha rfl (s := 118)) (fun w => ex_move ha) rfl ?_; clear ha; (try clear a); intro a ha
            refine ha.bool (s := 120) (fun hg7 ha => ?_) (fun hg7 ha => ?_)
            ·
              try simp only [decide_eq_true_eq, decide_eq_false_iff_not, Bool.not_eq_true', Bool.not_eq_false', Int.not_lt, Int.not_le, ne_eq, Decidable.not_not] at hg7
              obtain ⟨x, m', rfl⟩ : ∃ x m', m = x :: m' := by
                cases m with
                | nil => simp at hg7
                | cons x m' => exact ⟨x, m', rfl⟩
              simp only [List.tail_cons, List.headD_cons, List.isEmpty_cons, Bool.not_false, Bool.not_true] at ha hs
              obtain ⟨b', off', rfl, hrd⟩ := hs.slRd ad (by simp)
              have hm1 := jcRd hrd 0 (by simp)
              refine nt_pure (i := 8) (listed' := #[true, true, true, true, true, true, true, true, true, false, false, false, false, false, false, false, false, false, false, false, false, false, false, false, false, false, false, false, false, false, false, false, false, false, false]) (by kernel_rfl) rfl (by kernel_rfl) (by decide) (pk_then (pk_then (pk_blk (pk_then (pk_blk (pk_then (pk_then (pk_blk (pk_then pk_body))))))))) ha (wgT ha rfl (s := 120)) (fun w => ex_fieldAddr ha Try.underlying31 rfl Ty.t2 rfl) rfl ?_; clear ha; (try clear a); intro a ha
              refine nt_pure (i := 10) (listed' := #[true, true, true, true, true, true, true, true, true, false, true, false, false, false, false, false, false, false, false, false, false, false, false, false, false, false, false, false, false, false, false, false, false, false, false]) (by kernel_rfl) rfl (by kernel_rfl) (by decide) (pk_then (pk_then (pk_blk (pk_then (pk_blk (pk_then (pk_then (pk_blk (pk_then pk_body))))))))) ha (wgT ha rfl (s := 120)) (fun w => ex_move ha) rfl ?_; clear ha; (try clear a); intro a ha
              refine nt_pure (i := 11) (listed' := #[true, true, true, true, true, true, true, true, true, false, true, true, false, false, false, false, false, false, false, false, false, false, false, false, false, false, false, false, false, false, false, false, false, false, false]) (by kernel_rfl) rfl (by kernel_rfl) (by decide) (pk_then (pk_then (pk_blk (pk_then (pk_blk (pk_then (pk_then (pk_blk (pk_then pk_body))))))))) ha (wgT ha rfl (s := 120)) (fun w => ex_indexAddr ha Try.underlying27 Ty.t31 (by simp)) rfl ?_; clear ha; (try clear a); intro a ha
              refine nt_pure (i := 12) (listed' := #[true, true, true, true, true, true, true, true, true, false, true, true, true, false, false, false, false, false, false, false, false, false, false, false, false, false, false, false, false, false, false, false, false, false, false]) (by kernel_rfl) rfl (by kernel_rfl) (by decide) (pk_then (pk_then (pk_blk (pk_then (pk_blk (pk_then (pk_then (pk_blk (pk_then pk_body))))))))) ha (wgT ha rfl (s := 120)) (fun w => ex_fieldAddr ha Try.underlying31 rfl Ty.t2 rfl) rfl ?_; clear ha; (try clear a); intro a ha
              refine nt_held (i := 9) (listed' := #[true, true, true, true, true, true, true, true, true, true, true, true, true, false, false, false, false, false, false, false, false, false, false, false, false, false, false, false, false, false, false, false, false, false, false]) (by kernel_rfl) rfl (by kernel_rfl) (pk_then (pk_then (pk_blk (pk_then (pk_blk (pk_then (pk_then (pk_blk (pk_then pk_body))))))))) ha (wgT ha rfl (s := 120)) (fun w hc => ex_load1 ha Try.underlying2 rfl (hc.cell (hs.rd1 rfl))) hC rfl ?_; clear ha; (try clear a); intro a ha
              refine nt_one (i := 13) (listed' := #[true, true, true, true, true, true, true, true, true, true, true, true, true, true, false, false, false, false, false, false, false, false, false, false, false, false, false, false, false, false, false, false, false, false, false]) (by kernel_rfl) (by kernel_rfl) rfl (st_set ha (wgT ha rfl (s := 120)) (ex_load1 ha Try.underlying2 rfl (hm1.1)) rfl ?_); clear ha; (try clear a); intro a ha
              refine ⟨fun _ => hC, ?_⟩
              refine nt_pure (i := 14) (listed' := #[true, true, true, true, true, true, true, true, true, true, true, true, true, true, true, false, false, false, false, false, false, false, false, false, false, false, false, false, false, false, false, false, false, false, false]) (by kernel_rfl) rfl (by kernel_rfl) (by decide) (pk_then (pk_then (pk_blk (pk_then (pk_blk (pk_then (pk_then (pk_blk (pk_then pk_body))))))))) ha (wgT ha rfl (s := 120)) (fun w => ex_neq ha) rfl ?_; clear ha; (try clear a); intro a ha
              rw [show decide (x.1 ≠ (x :: m')[0].1) = false from by simp] at ha
              refine nt_pure (i := 15) (listed' := #[true, true, true, true, true, true, true, true, true, true, true, true, true, true, true, true, false, false, false, false, false, false, false, false, false, false, false, false, false, false, false, false, false, false, false]) (by kernel_rfl) rfl (by kernel_rfl) (by decide) (pk_then (pk_then (pk_blk (pk_then (pk_blk (pk_then (pk_then (pk_blk (pk_then pk_body))))))))) ha (wgT ha rfl (s := 120)) (fun w => ex_move ha) rfl ?_; clear ha; (try clear a); intro a ha
              refine nt_pure (i := 16) (listed' := #[true, true, true, true, true, true, true, true, true, true, true, true, true, true, true, true, true, false, false, false, false, false, false, false, false, false, false, false, false, false, false, false, false, false, false]) (by kernel_rfl) rfl (by kernel_rfl) (by decide) (pk_then (pk_then (pk_blk (pk_then (pk_blk (pk_then (pk_then (pk_blk (pk_then pk_body))))))))) ha (wgT ha rfl (s := 128)) (fun w => ex_fieldAddr ha Try.underlying31 rfl Ty.t2 rfl) rfl ?_; clear ha; (try clear a); intro a ha
              refine nt_pure (i := 18) (listed' := #[true, true, true, true, true, true, true, true, true, true, true, true, true, true, true, true, true, false, true, false, false, false, false, false, false, false, false, false, false, false, false, false, false, false, false]) (by kernel_rfl) rfl (by kernel_rfl) (by decide) (pk_then (pk_then (pk_blk (pk_then (pk_blk (pk_then (pk_then (pk_blk (pk_then pk_body))))))))) ha (wgT ha rfl (s := 128)) (fun w => ex_move ha) rfl ?_; clear ha; (try clear a); intro a ha
              refine nt_pure (i := 19) (listed' := #[true, true, true, true, true, true, true, true, true, true, true, true, true, true, true, true, true, false, true, true, false, false, false, false, false, false, false, false, false, false, false, false, false, false, false]) (by kernel_rfl) rfl (by kernel_rfl) (by decide) (pk_then (pk_then (pk_blk (pk_then (pk_blk (pk_then (pk_then (pk_blk (pk_then pk_body))))))))) ha (wgT ha rfl (s := 128)) (fun w => ex_indexAddr ha Try.underlying27 Ty.t31 (by simp)) rfl ?_; clear ha; (try clear a); intro a ha
              refine nt_pure (i := 20) (listed' := #[true, true, true, true, true, true, true, true, true, true, true, true, true, true, true, true, true, false, true, true, true, false, false, false, false, false, false, false, false, false, false, false, false, false, false]) (by kernel_rfl) rfl (by kernel_rfl) (by decide) (pk_then (pk_then (pk_blk (pk_then (pk_blk (pk_then (pk_then (pk_blk (pk_then pk_body))))))))) ha (wgT ha rfl (s := 128)) (fun w => ex_fieldAddr ha Try.underlying31 rfl Ty.t2 rfl) rfl ?_; clear ha; (try clear a); intro a ha
              refine nt_held (i := 17) (listed' := #[true, true, true, true, true, true, true, true, true, true, true, true, true, true, true, true, true, true, true, true, true, false, false, false, false, false, false, false, false, false, false, false, false, false, false]) (by kernel_rfl) rfl (by kernel_rfl) (pk_then (pk_then (pk_blk (pk_then (pk_blk (pk_then (pk_then (pk_blk (pk_then pk_body))))))))) ha (wgT ha rfl (s := 128)) (fun w hc => ex_load1 ha Try.underlying2 rfl (hc.cell (hs.rd1 rfl))) hC rfl ?_; clear ha; (try clear a); intro a ha
              refine nt_one (i := 21) (listed' := #[true, true, true, true, true, true, true, true, true, true, true, true, true, true, true, true, true, true, true, true, true, true, false, false, false, false, false, false, false, false, false, false, false, false, false]) (by kernel_rfl) (by kernel_rfl) rfl (st_set ha (wgT ha rfl (s := 128)) (ex_load1 ha Try.underlying2 rfl (hm1.2)) rfl ?_); clear ha; (try clear a); intro a ha
              refine ⟨fun _ => hC, ?_⟩
              refine nt_pure (i := 22) (listed' := #[true, true, true, true, true, true, true, true, true, true, true, true, true, true, true, true, true, true, true, true, true, true, true, false, false, false, false, false, false, false, false, false, false, false, false]) (by kernel_rfl) rfl (by kernel_rfl) (by decide) (pk_then (pk_then (pk_blk (pk_then (pk_blk (pk_then (pk_then (pk_blk (pk_then pk_body))))))))) ha (wgT ha rfl (s := 128)) (fun w => ex_neq ha) rfl ?_; clear ha; (try clear a); intro a ha
              rw [show decide (x.2 ≠ (x :: m')[0].2) = false from by simp] at ha
              refine nt_pure (i := 23) (listed' := #[true, true, true, true, true, true, true, true, true, true, true, true, true, true, true, true, true, true, true, true, true, true, true, true, false, false, false, false, false, false, false, false, false, false, false]) (by kernel_rfl) rfl (by kernel_rfl) (by decide) (pk_then (pk_then (pk_blk (pk_then (pk_blk (pk_then (pk_then (pk_blk (pk_then pk_body))))))))) ha (wgT ha rfl (s := 120)) (fun w => ex_pickF ha) rfl ?_; clear ha; (try clear a); intro a ha
              refine nt_pure (i := 24) (listed' := #[true, true, true, true, true, true, true, true, true, true, true, true, true, true, true, true, true, true, true, true, true, true, true, true, true, false, false, false, false, false, false, false, false, false, false]) (by kernel_rfl) rfl (by kernel_rfl) (by decide) (pk_then (pk_then (pk_blk (pk_then (pk_blk (pk_then (pk_then (pk_blk (pk_then pk_body))))))))) ha (wgT ha rfl (s := 118)) (fun w => ex_pickT ha) rfl ?_; clear ha; (try clear a); intro a ha
              refine nt_pure (i := 25) (listed' := #[true, true, true, true, true, true, true, true, true, true, true, true, true, true, true, true, true, true, true, true, true, true, true, true, true, true, false, false, false, false, false, false, false, false, false]) (by kernel_rfl) rfl (by kernel_rfl) (by decide) (pk_then (pk_then (pk_blk (pk_then (pk_blk (pk_then (pk_then (pk_blk (pk_then pk_body))))))))) ha rfl (fun w => ex_pickF ha) rfl ?_; clear ha; (try clear a); intro a ha
              refine nt_pure (i := 26) (listed' := #[true, true, true, true, true, true, true, true, true, true, true, true, true, true, true, true, true, true, true, true, true, true, true, true, true, true, true, false, false, false, false, false, false, false, false]) (by kernel_rfl) rfl (by kernel_rfl) (by decide) (pk_then (pk_then (pk_blk (pk_then (pk_blk (pk_then (pk_then (pk_blk (pk_then pk_body))))))))) ha rfl (fun w => ex_move ha) rfl ?_; clear ha; (try clear a); intro a ha
              refine nt_pure (i := 27) (listed' := #[true, true, true, true, true, true, true, true, true, true, true, true, true, true, true, true, true, true, true, true, true, true, true, true, true, true, true, true, false, false, false, false, false, false, false]) (by kernel_rfl) rfl (by kernel_rfl) (by decide) (pk_then (pk_then (pk_blk (pk_then (pk_blk (pk_then (pk_then (pk_blk (pk_then pk_body))))))))) ha (wgT ha rfl (s := 139)) (fun w => ex_move ha) rfl ?_; clear ha; (try clear a); intro a ha
              refine nt_pure (i := 28) (listed' := #[true, true, true, true, true, true, true, true, true, true, true, true, true, true, true, true, true, true, true, true, true, true, true, true, true, true, true, true, true, false, false, false, false, false, false]) (by kernel_rfl) rfl (by kernel_rfl) (by decide) (pk_then (pk_then (pk_blk (pk_then (pk_blk (pk_then (pk_then (pk_blk (pk_then pk_body))))))))) ha (wgT ha rfl (s := 139)) (fun w => ex_not ha) rfl ?_; clear ha; (try clear a); intro a ha
              refine nt_pure (i := 29) (listed' := #[true, true, true, true, true, true, true, true, true, true, true, true, true, true, true, true, true, true, true, true, true, true, true, true, true, true, true, true, true, true, false, false, false, false, false]) (by kernel_rfl) rfl (by kernel_rfl) (by decide) (pk_then (pk_then (pk_blk (pk_then (pk_blk (pk_then (pk_then (pk_blk (pk_then pk_body))))))))) ha (wgT ha rfl (s := 139)) (fun w => ex_move ha) rfl ?_; clear ha; (try clear a); intro a ha
              refine nt_off (i := 30) (listed' := #[true, true, true, true, true, true, true, true, true, true, true, true, true, true, true, true, true, true, true, true, true, true, true, true, true, true, true, true, true, true, true, false, false, false, false]) (by kernel_rfl) rfl (by kernel_rfl) (by decide) (pk_then (pk_then (pk_blk (pk_then (pk_blk (pk_then (pk_then (pk_blk (pk_then pk_body))))))))) ha (wgF ha rfl (s := 142) rfl) rfl ?_; clear ha; (try clear a); intro a ha
              refine nt_off (i := 31) (listed' := #[true, true, true, true, true, true, true, true, true, true, true, true, true, true, true, true, true, true, true, true, true, true, true, true, true, true, true, true, true, true, true, true, false, false, false]) (by kernel_rfl) rfl (by kernel_rfl) (by decide) (pk_then (pk_then (pk_blk (pk_then (pk_blk (pk_then (pk_then (pk_blk (pk_then pk_body))))))))) ha (wgF ha rfl (s := 142) rfl) rfl ?_; clear ha; (try clear a); intro a ha
              refine nt_off (i := 32) (listed' := #[true, true, true, true, true, true, true, true, true, true, true, true, true, true, true, true, true, true, true, true, true, true, true, true, true, true, true, true, true, true, true, true, true, false, false]) (by kernel_rfl) rfl (by kernel_rfl) (by decide) (pk_then (pk_then (pk_blk (pk_then (pk_blk (pk_then (pk_then (pk_blk (pk_then pk_body))))))))) ha (wgF ha rfl (s := 142) rfl) rfl ?_; clear ha; (try clear a); intro a ha
              refine nt_pure (i := 33) (listed' := #[true, true, true, true, true, true, true, true, true, true, true, true, true, true, true, true, true, true, true, true, true, true, true, true, true, true, true, true, true, true, true, true, true, true, false]) (by kernel_rfl) rfl (by kernel_rfl) (by decide) (pk_then (pk_then (pk_blk (pk_then (pk_blk (pk_then (pk_then (pk_blk (pk_then pk_body))))))))) ha (wgT ha rfl (s := 139)) (fun w => ex_pickF ha) rfl ?_; clear ha; (try clear a); intro a ha
              refine nt_pure (i := 34) (listed' := #[true, true, true, true, true, true, true, true, true, true, true, true, true, true, true, true, true, true, true, true, true, true, true, true, true, true, true, true, true, true, true, true, true, true, true]) (by kernel_rfl) rfl (by kernel_rfl) (by decide) (pk_then (pk_then (pk_blk (pk_then (pk_blk (pk_then (pk_then (pk_blk (pk_then pk_body))))))))) ha rfl (fun w => ex_pickF ha) rfl ?_; clear ha; (try clear a); intro a ha
              refine nt_done (by kernel_rfl) ?_ _
              refine then_n ?_
              refine wp_ifF ha ?_
              refine wp_skip ?_
              refine then_n ?_
              refine wp_seq ?_
              refine wp_region_lit ?_
              refine wpList_k (st_set ha rfl (ex_move ha) rfl ?_); clear ha; (try clear a); intro a ha
              refine wpList_nil ?_
              refine then_n ?_
              refine wp_ifT ha ?_
              refine wp_region_lit ?_
              refine wpList_k (st_set ha rfl (ex_move ha) rfl ?_); clear ha; (try clear a); intro a ha
              refine wpList_k (st_set ha rfl (ex_sliceL ha Try.underlying27 Ty.t31 (by simp)) rfl ?_); clear ha; (try clear a); intro a ha
              replace hs := hs.cutSl (some ⟨b', off', none⟩) 1 (x :: m').length (by simp) (Nat.le_refl _)
              rw [show ((jc (x :: m')).drop (1 * 2)).take (((x :: m').length - 1) * 2) = jc m' from by rw [jc_drop, List.drop_one, List.tail_cons, List.take_of_length_le (by rw [jc_len]; simp)]] at hs
              rw [show (x :: m').length - 1 = m'.length from rfl] at ha hs
              replace ha := ha.del 5
              refine wpList_k (st_set ha rfl (ex_assign ha) rfl ?_); clear ha; (try clear a); intro a ha
              refine wpList_nil ?_
              refine blk_n <| then_n ?_
              refine wp_seq ?_
              refine wp_region_lit ?_
              refine wpList_k (st_set ha rfl (ex_move ha) rfl ?_); clear ha; (try clear a); intro a ha
              refine wpList_k (st_call ha rfl Ty.c13 rfl (len_jobs (hs.jobs q)) ?_); clear ha hs
              rintro e w ⟨rfl, hs⟩
              refine ⟨_, rfl, ?_⟩
              intro a ha
              refine wpList_k (st_set ha rfl (ex_move ha) rfl ?_); clear ha; (try clear a); intro a ha
              refine wpList_k (st_set ha rfl (ex_len ha Try.underlying27) rfl ?_); clear ha; (try clear a); intro a ha
              refine wpList_k (st_set ha rfl (ex_neq ha) rfl ?_); clear ha; (try clear a); intro a ha
              rw [dne] at ha
              refine wpList_nil ?_
              refine then_n ?_
              refine wp_ifF ha ?_
              refine wp_skip ?_
              refine blk_n <| then_n ?_
              refine wp_region_lit ?_
              refine wpList_k (st_set ha rfl (ex_move ha) rfl ?_); clear ha; (try clear a); intro a ha
              refine wpList_k (st_set ha rfl (ex_addI ha (by omega) (by omega)) rfl ?_); clear ha; (try clear a); intro a ha
              replace ha := ha.del 6
              refine wpList_k (st_set ha rfl (ex_assign ha) rfl ?_); clear ha; (try clear a); intro a ha
              refine wpList_nil ?_
              refine then_n ?_
              refine ⟨60 - (i + 1), by omega, i + 1, _, _, _, ⟨rfl, by omega, ?_⟩, ha.keep [0, 2, 4, 5, 6], hs.sub⟩
              first | exact hm | (simp at hm ⊢; omega)
            ·
              try simp only [decide_eq_true_eq, decide_eq_false_iff_not, Bool.not_eq_true', Bool.not_eq_false', Int.not_lt, Int.not_le, ne_eq, Decidable.not_not] at hg7
              obtain rfl : m = [] := by
                cases m with
                | nil => rfl
                | cons x m' => simp at hg7
              simp only [List.tail_nil, List.headD_nil, List.isEmpty_nil, Bool.not_false, Bool.not_true] at ha hs
              refine nt_off (i := 8) (listed' := #[true, true, true, true, true, true, true, true, true, false, false, false, false, false, false, false, false, false, false, false, false, false, false, false, false, false, false, false, false, false, false, false, false, false, false]) (by kernel_rfl) rfl (by kernel_rfl) (by decide) (pk_then (pk_then (pk_blk (pk_then (pk_blk (pk_then (pk_then (pk_blk (pk_then pk_body))))))))) ha (wgF ha rfl (s := 120) rfl) rfl ?_; clear ha; (try clear a); intro a ha
              refine nt_off (i := 10) (listed' := #[true, true, true, true, true, true, true, true, true, false, true, false, false, false, false, false, false, false, false, false, false, false, false, false, false, false, false, false, false, false, false, false, false, false, false]) (by kernel_rfl) rfl (by kernel_rfl) (by decide) (pk_then (pk_then (pk_blk (pk_then (pk_blk (pk_then (pk_then (pk_blk (pk_then pk_body))))))))) ha (wgF ha rfl (s := 120) rfl) rfl ?_; clear ha; (try clear a); intro a ha
              refine nt_off (i := 11) (listed' := #[true, true, true, true, true, true, true, true, true, false, true, true, false, false, false, false, false, false, false, false, false, false, false, false, false, false, false, false, false, false, false, false, false, false, false]) (by kernel_rfl) rfl (by kernel_rfl) (by decide) (pk_then (pk_then (pk_blk (pk_then (pk_blk (pk_then (pk_then (pk_blk (pk_then pk_body))))))))) ha (wgF ha rfl (s := 120) rfl) rfl ?_; clear ha; (try clear a); intro a ha
              refine nt_off (i := 12) (listed' := #[true, true, true, true, true, true, true, true, true, false, true, true, true, false, false, false, false, false, false, false, false, false, false, false, false, false, false, false, false, false, false, false, false, false, false]) (by kernel_rfl) rfl (by kernel_rfl) (by decide) (pk_then (pk_then (pk_blk (pk_then (pk_blk (pk_then (pk_then (pk_blk (pk_then pk_body))))))))) ha (wgF ha rfl (s := 120) rfl) rfl ?_; clear ha; (try clear a); intro a ha
              refine nt_offH (i := 9) (listed' := #[true, true, true, true, true, true, true, true, true, true, true, true, true, false, false, false, false, false, false, false, false, false, false, false, false, false, false, false, false, false, false, false, false, false, false]) (by kernel_rfl) rfl (by kernel_rfl) (pk_then (pk_then (pk_blk (pk_then (pk_blk (pk_then (pk_then (pk_blk (pk_then pk_body))))))))) ha (wgF ha rfl (s := 120) rfl) hC rfl ?_; clear ha; (try clear a); intro a ha
              refine nt_offH (i := 13) (listed' := #[true, true, true, true, true, true, true, true, true, true, true, true, true, true, false, false, false, false, false, false, false, false, false, false, false, false, false, false, false, false, false, false, false, false, false]) (by kernel_rfl) rfl (by kernel_rfl) (pk_then (pk_then (pk_blk (pk_then (pk_blk (pk_then (pk_then (pk_blk (pk_then pk_body))))))))) ha (wgF ha rfl (s := 120) rfl) hC rfl ?_; clear ha; (try clear a); intro a ha
              refine nt_off (i := 14) (listed' := #[true, true, true, true, true, true, true, true, true, true, true, true, true, true, true, false, false, false, false, false, false, false, false, false, false, false, false, false, false, false, false, false, false, false, false]) (by kernel_rfl) rfl (by kernel_rfl) (by decide) (pk_then (pk_then (pk_blk (pk_then (pk_blk (pk_then (pk_then (pk_blk (pk_then pk_body))))))))) ha (wgF ha rfl (s := 120) rfl) rfl ?_; clear ha; (try clear a); intro a ha
              refine nt_offU (i := 15) (listed' := #[true, true, true, true, true, true, true, true, true, true, true, true, true, true, true, true, false, false, false, false, false, false, false, false, false, false, false, false, false, false, false, false, false, false, false]) (by kernel_rfl) rfl (by kernel_rfl) (by decide) (pk_then (pk_then (pk_blk (pk_then (pk_blk (pk_then (pk_then (pk_blk (pk_then pk_body))))))))) ha (wgF ha rfl (s := 120) rfl) rfl ?_; clear ha; (try clear a); intro a ha
              refine nt_off (i := 16) (listed' := #[true, true, true, true, true, true, true, true, true, true, true, true, true, true, true, true, true, false, false, false, false, false, false, false, false, false, false, false, false, false, false, false, false, false, false]) (by kernel_rfl) rfl (by kernel_rfl) (by decide) (pk_then (pk_then (pk_blk (pk_then (pk_blk (pk_then (pk_then (pk_blk (pk_then pk_body))))))))) ha (wgU ha rfl (s := 128)) rfl ?_; clear ha; (try clear a); intro a ha
              refine nt_off (i := 18) (listed' := #[true, true, true, true, true, true, true, true, true, true, true, true, true, true, true, true, true, false, true, false, false, false, false, false, false, false, false, false, false, false, false, false, false, false, false]) (by kernel_rfl) rfl (by kernel_rfl) (by decide) (pk_then (pk_then (pk_blk (pk_then (pk_blk (pk_then (pk_then (pk_blk (pk_then pk_body))))))))) ha (wgU ha rfl (s := 128)) rfl ?_; clear ha; (try clear a); intro a ha
              refine nt_off (i := 19) (listed' := #[true, true, true, true, true, true, true, true, true, true, true, true, true, true, true, true, true, false, true, true, false, false, false, false, false, false, false, false, false, false, false, false, false, false, false]) (by kernel_rfl) rfl (by kernel_rfl) (by decide) (pk_then (pk_then (pk_blk (pk_then (pk_blk (pk_then (pk_then (pk_blk (pk_then pk_body))))))))) ha (wgU ha rfl (s := 128)) rfl ?_; clear ha; (try clear a); intro a ha
              refine nt_off (i := 20) (listed' := #[true, true, true, true, true, true, true, true, true, true, true, true, true, true, true, true, true, false, true, true, true, false, false, false, false, false, false, false, false, false, false, false, false, false, false]) (by kernel_rfl) rfl (by kernel_rfl) (by decide) (pk_then (pk_then (pk_blk (pk_then (pk_blk (pk_then (pk_then (pk_blk (pk_then pk_body))))))))) ha (wgU ha rfl (s := 128)) rfl ?_; clear ha; (try clear a); intro a ha
              refine nt_offH (i := 17) (listed' := #[true, true, true, true, true, true, true, true, true, true, true, true, true, true, true, true, true, true, true, true, true, false, false, false, false, false, false, false, false, false, false, false, false, false, false]) (by kernel_rfl) rfl (by kernel_rfl) (pk_then (pk_then (pk_blk (pk_then (pk_blk (pk_then (pk_then (pk_blk (pk_then pk_body))))))))) ha (wgU ha rfl (s := 128)) hC rfl ?_; clear ha; (try clear a); intro a ha
              refine nt_offH (i := 21) (listed' := #[true, true, true, true, true, true, true, true, true, true, true, true, true, true, true, true, true, true, true, true, true, true, false, false, false, false, false, false, false, false, false, false, false, false, false]) (by kernel_rfl) rfl (by kernel_rfl) (pk_then (pk_then (pk_blk (pk_then (pk_blk (pk_then (pk_then (pk_blk (pk_then pk_body))))))))) ha (wgU ha rfl (s := 128)) hC rfl ?_; clear ha; (try clear a); intro a ha
              refine nt_off (i := 22) (listed' := #[true, true, true, true, true, true, true, true, true, true, true, true, true, true, true, true, true, true, true, true, true, true, true, false, false, false, false, false, false, false, false, false, false, false, false]) (by kernel_rfl) rfl (by kernel_rfl) (by decide) (pk_then (pk_then (pk_blk (pk_then (pk_blk (pk_then (pk_then (pk_blk (pk_then pk_body))))))))) ha (wgU ha rfl (s := 128)) rfl ?_; clear ha; (try clear a); intro a ha
              refine nt_off (i := 23) (listed' := #[true, true, true, true, true, true, true, true, true, true, true, true, true, true, true, true, true, true, true, true, true, true, true, true, false, false, false, false, false, false, false, false, false, false, false]) (by kernel_rfl) rfl (by kernel_rfl) (by decide) (pk_then (pk_then (pk_blk (pk_then (pk_blk (pk_then (pk_then (pk_blk (pk_then pk_body))))))))) ha (wgF ha rfl (s := 120) rfl) rfl ?_; clear ha; (try clear a); intro a ha
              refine nt_pure (i := 24) (listed' := #[true, true, true, true, true, true, true, true, true, true, true, true, true, true, true, true, true, true, true, true, true, true, true, true, true, false, false, false, false, false, false, false, false, false, false]) (by kernel_rfl) rfl (by kernel_rfl) (by decide) (pk_then (pk_then (pk_blk (pk_then (pk_blk (pk_then (pk_then (pk_blk (pk_then pk_body))))))))) ha (wgT ha rfl (s := 118)) (fun w => ex_pickF ha) rfl ?_; clear ha; (try clear a); intro a ha
              refine nt_pure (i := 25) (listed' := #[true, true, true, true, true, true, true, true, true, true, true, true, true, true, true, true, true, true, true, true, true, true, true, true, true, true, false, false, false, false, false, false, false, false, false]) (by kernel_rfl) rfl (by kernel_rfl) (by decide) (pk_then (pk_then (pk_blk (pk_then (pk_blk (pk_then (pk_then (pk_blk (pk_then pk_body))))))))) ha rfl (fun w => ex_pickF ha) rfl ?_; clear ha; (try clear a); intro a ha
              refine nt_pure (i := 26) (listed' := #[true, true, true, true, true, true, true, true, true, true, true, true, true, true, true, true, true, true, true, true, true, true, true, true, true, true, true, false, false, false, false, false, false, false, false]) (by kernel_rfl) rfl (by kernel_rfl) (by decide) (pk_then (pk_then (pk_blk (pk_then (pk_blk (pk_then (pk_then (pk_blk (pk_then pk_body))))))))) ha rfl (fun w => ex_move ha) rfl ?_; clear ha; (try clear a); intro a ha
              refine nt_pure (i := 27) (listed' := #[true, true, true, true, true, true, true, true, true, true, true, true, true, true, true, true, true, true, true, true, true, true, true, true, true, true, true, true, false, false, false, false, false, false, false]) (by kernel_rfl) rfl (by kernel_rfl) (by decide) (pk_then (pk_then (pk_blk (pk_then (pk_blk (pk_then (pk_then (pk_blk (pk_then pk_body))))))))) ha (wgT ha rfl (s := 139)) (fun w => ex_move ha) rfl ?_; clear ha; (try clear a); intro a ha
              refine nt_pure (i := 28) (listed' := #[true, true, true, true, true, true, true, true, true, true, true, true, true, true, true, true, true, true, true, true, true, true, true, true, true, true, true, true, true, false, false, false, false, false, false]) (by kernel_rfl) rfl (by kernel_rfl) (by decide) (pk_then (pk_then (pk_blk (pk_then (pk_blk (pk_then (pk_then (pk_blk (pk_then pk_body))))))))) ha (wgT ha rfl (s := 139)) (fun w => ex_not ha) rfl ?_; clear ha; (try clear a); intro a ha
              refine nt_pure (i := 29) (listed' := #[true, true, true, true, true, true, true, true, true, true, true, true, true, true, true, true, true, true, true, true, true, true, true, true, true, true, true, true, true, true, false, false, false, false, false]) (by kernel_rfl) rfl (by kernel_rfl) (by decide) (pk_then (pk_then (pk_blk (pk_then (pk_blk (pk_then (pk_then (pk_blk (pk_then pk_body))))))))) ha (wgT ha rfl (s := 139)) (fun w => ex_move ha) rfl ?_; clear ha; (try clear a); intro a ha
              refine nt_pure (i := 30) (listed' := #[true, true, true, true, true, true, true, true, true, true, true, true, true, true, true, true, true, true, true, true, true, true, true, true, true, true, true, true, true, true, true, false, false, false, false]) (by kernel_rfl) rfl (by kernel_rfl) (by decide) (pk_then (pk_then (pk_blk (pk_then (pk_blk (pk_then (pk_then (pk_blk (pk_then pk_body))))))))) ha (wgT ha rfl (s := 142)) (fun w => ex_fieldAddr ha Try.underlying31 rfl Ty.t2 rfl) rfl ?_; clear ha; (try clear a); intro a ha
              refine nt_one (i := 31) (listed' := #[true, true, true, true, true, true, true, true, true, true, true, true, true, true, true, true, true, true, true, true, true, true, true, true, true, true, true, true, true, true, true, true, false, false, false]) (by kernel_rfl) (by kernel_rfl) rfl (st_set ha (wgT ha rfl (s := 142)) (ex_load1 ha Try.underlying2 rfl (hs.rd1 rfl)) rfl ?_); clear ha; (try clear a); intro a ha
              refine ⟨fun h => absurd h (by decide), ?_⟩
              refine nt_pure (i := 32) (listed' := #[true, true, true, true, true, true, true, true, true, true, true, true, true, true, true, true, true, true, true, true, true, true, true, true, true, true, true, true, true, true, true, true, true, false, false]) (by kernel_rfl) rfl (by kernel_rfl) (by decide) (pk_then (pk_then (pk_blk (pk_then (pk_blk (pk_then (pk_then (pk_blk (pk_then pk_body))))))))) ha (wgT ha rfl (s := 142)) (fun w => ex_neq ha) rfl ?_; clear ha; (try clear a); intro a ha
              rw [show decide ((0 : Int) ≠ 0) = false from rfl] at ha
              refine nt_pure (i := 33) (listed' := #[true, true, true, true, true, true, true, true, true, true, true, true, true, true, true, true, true, true, true, true, true, true, true, true, true, true, true, true, true, true, true, true, true, true, false]) (by kernel_rfl) rfl (by kernel_rfl) (by decide) (pk_then (pk_then (pk_blk (pk_then (pk_blk (pk_then (pk_then (pk_blk (pk_then pk_body))))))))) ha (wgT ha rfl (s := 139)) (fun w => ex_pickT ha) rfl ?_; clear ha; (try clear a); intro a ha
              refine nt_pure (i := 34) (listed' := #[true, true, true, true, true, true, true, true, true, true, true, true, true, true, true, true, true, true, true, true, true, true, true, true, true, true, true, true, true, true, true, true, true, true, true]) (by kernel_rfl) rfl (by kernel_rfl) (by decide) (pk_then (pk_then (pk_blk (pk_then (pk_blk (pk_then (pk_then (pk_blk (pk_then pk_body))))))))) ha rfl (fun w => ex_pickF ha) rfl ?_; clear ha; (try clear a); intro a ha
              refine nt_done (by kernel_rfl) ?_ _
              refine then_n ?_
              refine wp_ifF ha ?_
              refine wp_skip ?_
              refine then_n ?_
              refine wp_seq ?_
              refine wp_region_lit ?_
              refine wpList_k (st_set ha rfl (ex_move ha) rfl ?_); clear ha; (try clear a); intro a ha
              refine wpList_nil ?_
              refine then_n ?_
              refine wp_ifF ha ?_
              refine wp_skip ?_
              refine blk_n <| then_n ?_
              refine wp_seq ?_
              refine wp_region_lit ?_
              refine wpList_k (st_set ha rfl (ex_move ha) rfl ?_); clear ha; (try clear a); intro a ha
              refine wpList_k (st_call ha rfl Ty.c13 rfl (len_jobs (hs.jobs q)) ?_); clear ha hs
              rintro e w ⟨rfl, hs⟩
              refine ⟨_, rfl, ?_⟩
              intro a ha
              refine wpList_k (st_set ha rfl (ex_move ha) rfl ?_); clear ha; (try clear a); intro a ha
              refine wpList_k (st_set ha rfl (ex_len ha Try.underlying27) rfl ?_); clear ha; (try clear a); intro a ha
              refine wpList_k (st_set ha rfl (ex_neq ha) rfl ?_); clear ha; (try clear a); intro a ha
              rw [dne] at ha
              refine wpList_nil ?_
              refine then_n ?_
              refine wp_ifF ha ?_
              refine wp_skip ?_
              refine blk_n <| then_n ?_
              refine wp_region_lit ?_
              refine wpList_k (st_set ha rfl (ex_move ha) rfl ?_); clear ha; (try clear a); intro a ha
              refine wpList_k (st_set ha rfl (ex_addI ha (by omega) (by omega)) rfl ?_); clear ha; (try clear a); intro a ha
              replace ha := ha.del 6
              refine wpList_k (st_set ha rfl (ex_assign ha) rfl ?_); clear ha; (try clear a); intro a ha
              refine wpList_nil ?_
              refine then_n ?_
              refine ⟨60 - (i + 1), by omega, i + 1, _, _, _, ⟨rfl, by omega, ?_⟩, ha.keep [0, 2, 4, 5, 6], hs.sub⟩
              first | exact hm | (simp at hm ⊢; omega)
          ·
            try simp only [decide_eq_true_eq, decide_eq_false_iff_not, Bool.not_eq_true', Bool.not_eq_false', Int.not_lt, Int.not_le, ne_eq, Decidable.not_not] at hc6
            refine wp_seq ?_
            refine wp_region_lit ?_
            refine wpList_k (st_set ha rfl (ex_assign ha) rfl ?_); clear ha; (try clear a); intro a ha
            refine wpList_nil ?_
            refine then_n ?_
            refine wp_seq ?_
            refine wp_seq ?_
            refine wp_region_lit ?_
            refine wpList_k (st_set ha rfl (ex_assign ha) rfl ?_); clear ha; (try clear a); intro a ha
            refine wpList_nil ?_
            refine then_n ?_
            refine wp_block ?_
            refine wp_loop_ghost (fun μ a w => ∃ (kk c2 : Nat) (ad2 : Option Addr), (μ = m.length - kk ∧ kk ≤ m.length) ∧ Fr a 156 [(0, .slice (some ⟨b, off, none⟩) len cap), (2, .bool false), (4, .pointer (some ⟨q, 0, none⟩)), (5, .slice ad m.length c), (6, .int .i64 i), (7, .pointer (some ⟨b7, 0, none⟩)), (12, .slice ad2 (kept (fun y => decide (y.2 < ep)) (m.take kk)).length c2), (13, .int .i64 kk)] ∧ St W w [blk b7 29 [.int .i64 k, .int .i64 br, .int .i64 ep], Jobs q m, Sl 31 2 ad m.length c (jc m), Sl 31 2 ad2 (kept (fun y => decide (y.2 < ep)) (m.take kk)).length c2 (jc (kept (fun y => decide (y.2 < ep)) (m.take kk)))]) (m.length) ?_ ?_
            · exact ⟨0, 0, none, ⟨by simp, by simp⟩, ha.keep [0, 2, 4, 5, 6, 7, 12, 13], ((hs.sl0 31 2 none).sub (M := [blk b7 _ _, Jobs q m, Sl _ 2 ad m.length c (jc m), Sl _ 2 none 0 0 []]))⟩
            ·
              clear ha hs
              rintro μ a w ⟨kk, c2, ad2, ⟨rfl, hkk⟩, ha, hs⟩
              have hkl := kept_le (fun y : Int × Int => decide (y.2 < ep)) m kk
              refine wp_seq ?_
              refine wp_seq ?_
              refine wp_region_lit ?_
              refine wpList_k (st_set ha rfl (ex_move ha) rfl ?_); clear ha; (try clear a); intro a ha
              refine wpList_k (st_set ha rfl (ex_move ha) rfl ?_); clear ha; (try clear a); intro a ha
              refine wpList_k (st_set ha rfl (ex_len ha Try.underlying27) rfl ?_); clear ha; (try clear a); intro a ha
              refine wpList_k (st_set ha rfl (ex_lss ha) rfl ?_); clear ha; (try clear a); intro a ha
              refine wpList_nil ?_
              refine then_n ?_
              refine wp_if ha (fun hc9 => ?_) (fun hc9 => ?_)
              ·
                try simp only [decide_eq_true_eq, decide_eq_false_iff_not, Bool.not_eq_true', Bool.not_eq_false', Int.not_lt, Int.not_le, ne_eq, Decidable.not_not] at hc9
                refine wp_skip ?_
                refine then_n ?_
                refine wp_seq ?_
                refine wp_block ?_
                refine wp_seq ?_
                obtain ⟨b', off', rfl, hrd0⟩ := hs.slRd ad (by omega)
                have hks := kept_snoc (fun y : Int × Int => decide (y.2 < ep)) m kk (by omega)
                refine wp_draw (m := 8) (l0 := #[false, false, false, false, false, false, false, false]) (Old w.drew) [6] Ty.mixed (by kernel_rfl) (by kernel_rfl) ?_
                replace hs := hs.drew
                have hC := Old.refl w.drew
                generalize w.drew = w at hs hC ⊢
                have hrd := hs.slRdAt b' off' (by omega)
                have hm1 := jcRd hrd kk (by omega)
                refine nt_pure (i := 0) (listed' := #[true, false, false, false, false, false, false, false]) (by kernel_rfl) rfl (by kernel_rfl) (by decide) (pk_then (pk_blk (pk_then (pk_then (pk_blk (pk_then (pk_blk (pk_then (pk_blk (pk_then (pk_then (pk_blk (pk_then pk_body))))))))))))) ha rfl (fun w => ex_move ha) rfl ?_; clear ha; (try clear a); intro a ha
                refine nt_pure (i := 1) (listed' := #[true, true, false, false, false, false, false, false]) (by kernel_rfl) rfl (by kernel_rfl) (by decide) (pk_then (pk_blk (pk_then (pk_then (pk_blk (pk_then (pk_blk (pk_then (pk_blk (pk_then (pk_then (pk_blk (pk_then pk_body))))))))))))) ha rfl (fun w => ex_move ha) rfl ?_; clear ha; (try clear a); intro a ha
                refine nt_pure (i := 2) (listed' := #[true, true, true, false, false, false, false, false]) (by kernel_rfl) rfl (by kernel_rfl) (by decide) (pk_then (pk_blk (pk_then (pk_then (pk_blk (pk_then (pk_blk (pk_then (pk_blk (pk_then (pk_then (pk_blk (pk_then pk_body))))))))))))) ha rfl (fun w => ex_indexAddr ha Try.underlying27 Ty.t31 (by omega)) rfl ?_; clear ha; (try clear a); intro a ha
                refine nt_pure (i := 3) (listed' := #[true, true, true, true, false, false, false, false]) (by kernel_rfl) rfl (by kernel_rfl) (by decide) (pk_then (pk_blk (pk_then (pk_then (pk_blk (pk_then (pk_blk (pk_then (pk_blk (pk_then (pk_then (pk_blk (pk_then pk_body))))))))))))) ha rfl (fun w => ex_fieldAddr ha Try.underlying31 rfl Ty.t2 rfl) rfl ?_; clear ha; (try clear a); intro a ha
                refine nt_pure (i := 5) (listed' := #[true, true, true, true, false, true, false, false]) (by kernel_rfl) rfl (by kernel_rfl) (by decide) (pk_then (pk_blk (pk_then (pk_then (pk_blk (pk_then (pk_blk (pk_then (pk_blk (pk_then (pk_then (pk_blk (pk_then pk_body))))))))))))) ha rfl (fun w => ex_fieldAddr ha Try.underlying29 rfl Ty.t2 rfl) rfl ?_; clear ha; (try clear a); intro a ha
                refine nt_held (i := 4) (listed' := #[true, true, true, true, true, true, false, false]) (by kernel_rfl) rfl (by kernel_rfl) (pk_then (pk_blk (pk_then (pk_then (pk_blk (pk_then (pk_blk (pk_then (pk_blk (pk_then (pk_then (pk_blk (pk_then pk_body))))))))))))) ha rfl (fun w hc => ex_load1 ha Try.underlying2 rfl (hc.cell (hm1.2))) hC rfl ?_; clear ha; (try clear a); intro a ha
                refine nt_one (i := 6) (listed' := #[true, true, true, true, true, true, true, false]) (by kernel_rfl) (by kernel_rfl) rfl (st_set ha rfl (ex_load1 ha Try.underlying2 rfl (hs.rd1 rfl)) rfl ?_); clear ha; (try clear a); intro a ha
                refine ⟨fun _ => hC, ?_⟩
                refine nt_pure (i := 7) (listed' := #[true, true, true, true, true, true, true, true]) (by kernel_rfl) rfl (by kernel_rfl) (by decide) (pk_then (pk_blk (pk_then (pk_then (pk_blk (pk_then (pk_blk (pk_then (pk_blk (pk_then (pk_then (pk_blk (pk_then pk_body))))))))))))) ha rfl (fun w => ex_geq ha) rfl ?_; clear ha; (try clear a); intro a ha
                refine nt_done (by kernel_rfl) ?_ _
                refine then_n ?_
                refine wp_if ha (fun hc10 => ?_) (fun hc10 => ?_)
                ·
                  try simp only [decide_eq_true_eq, decide_eq_false_iff_not, Bool.not_eq_true', Bool.not_eq_false', Int.not_lt, Int.not_le, ne_eq, Decidable.not_not] at hc10
                  rw [show decide (m[kk].2 < ep) = false from by simp; omega, if_neg (by simp)] at hks
                  refine wp_region_lit ?_
                  have hr2 := (hs.slRdAt b' off' (by omega)).part (kk * 2) 2
                  rw [jc_at m kk (by omega)] at hr2
                  refine wpList_k (st_set ha rfl (ex_move ha) rfl ?_); clear ha; (try clear a); intro a ha
                  refine wpList_k (st_set ha rfl (ex_move ha) rfl ?_); clear ha; (try clear a); intro a ha
                  refine wpList_k (st_set ha rfl (ex_move ha) rfl ?_); clear ha; (try clear a); intro a ha
                  refine wpList_k (st_set ha rfl (ex_indexAddr ha Try.underlying27 Ty.t31 (by omega)) rfl ?_); clear ha; (try clear a); intro a ha
                  refine wpList_k (st_set ha rfl (ex_loadN ha Try.underlying31 rfl Ty.t31 (hr2)) rfl ?_); clear ha; (try clear a); intro a ha
                  refine wpList_k (st_buildSlice ha rfl hs Try.underlying27 Ty.t31 rfl rfl rfl rfl (by decide) (by decide) ?_); clear ha hs; (try clear a); (try clear w); intro b53 a w ha hs ho
                  clear ho
                  refine wpList_k (st_append ha rfl hs Try.underlying27 Ty.t31 rfl rfl hs.rdAll rfl (by simp [Value.oneCell']) (by decide) (by decide) (by omega) ?_); clear ha hs; (try clear a); (try clear w); intro ad54 c54 a w ha hs
                  rw [show jc (kept (fun y : Int × Int => decide (y.2 < ep)) (m.take kk)) ++ [[Value.int .i64 m[kk].1, Value.int .i64 m[kk].2]].flatten = jc (kept (fun y : Int × Int => decide (y.2 < ep)) (m.take (kk + 1))) from by rw [hks, jc_app]; rfl] at hs
                  rw [show (kept (fun y : Int × Int => decide (y.2 < ep)) (m.take kk)).length + 1 = (kept (fun y : Int × Int => decide (y.2 < ep)) (m.take (kk + 1))).length from by rw [hks]; simp] at ha hs
                  replace ha := ha.del 12
                  refine wpList_k (st_set ha rfl (ex_assign ha) rfl ?_); clear ha; (try clear a); intro a ha
                  refine wpList_nil ?_
                  refine blk_n <| then_n ?_
                  refine wp_region_lit ?_
                  refine wpList_k (st_set ha rfl (ex_move ha) rfl ?_); clear ha; (try clear a); intro a ha
                  refine wpList_k (st_set ha rfl (ex_addI ha (by omega) (by omega)) rfl ?_); clear ha; (try clear a); intro a ha
                  replace ha := ha.del 13
                  refine wpList_k (st_set ha rfl (ex_assign ha) rfl ?_); clear ha; (try clear a); intro a ha
                  refine wpList_nil ?_
                  refine then_n ?_
                  exact ⟨m.length - (kk + 1), by omega, kk + 1, _, _, ⟨rfl, by omega⟩, ha.keep [0, 2, 4, 5, 6, 7, 12, 13], hs.sub⟩
                ·
                  try simp only [decide_eq_true_eq, decide_eq_false_iff_not, Bool.not_eq_true', Bool.not_eq_false', Int.not_lt, Int.not_le, ne_eq, Decidable.not_not] at hc10
                  rw [show decide (m[kk].2 < ep) = true from by simp; omega, if_pos rfl, List.append_nil] at hks
                  refine wp_skip ?_
                  refine blk_n <| then_n ?_
                  refine wp_region_lit ?_
                  refine wpList_k (st_set ha rfl (ex_move ha) rfl ?_); clear ha; (try clear a); intro a ha
                  refine wpList_k (st_set ha rfl (ex_addI ha (by omega) (by omega)) rfl ?_); clear ha; (try clear a); intro a ha
                  replace ha := ha.del 13
                  refine wpList_k (st_set ha rfl (ex_assign ha) rfl ?_); clear ha; (try clear a); intro a ha
                  refine wpList_nil ?_
                  refine then_n ?_
                  exact ⟨m.length - (kk + 1), by omega, kk + 1, _, _, ⟨rfl, by omega⟩, by rw [hks]; exact ha.keep [0, 2, 4, 5, 6, 7, 12, 13], by rw [hks]; exact hs.sub⟩
              ·
                try simp only [decide_eq_true_eq, decide_eq_false_iff_not, Bool.not_eq_true', Bool.not_eq_false', Int.not_lt, Int.not_le, ne_eq, Decidable.not_not] at hc9
                obtain rfl : kk = m.length := by omega
                rw [List.take_length] at ha hs hkl
                refine wp_exit ?_
                refine then_e <| then_e <| blk_e ?_
                refine then_n ?_
                refine wp_seq ?_
                refine wp_seq ?_
                refine wp_region_lit ?_
                refine wpList_k (st_set ha rfl (ex_move ha) rfl ?_); clear ha; (try clear a); intro a ha
                refine wpList_k (st_set ha rfl (ex_fieldAddr ha Try.underlying29 rfl Ty.t2 rfl) rfl ?_); clear ha; (try clear a); intro a ha
                refine wpList_k (st_set ha rfl (ex_load1 ha Try.underlying2 rfl (hs.rd1 rfl)) rfl ?_); clear ha; (try clear a); intro a ha
                refine wpList_k (st_call ha rfl Ty.c12 rfl (cancel_spec (hs.jobs q) hm) ?_); clear ha hs
                rintro e w ⟨rfl, hs⟩
                refine ⟨_, rfl, ?_⟩
                intro a ha
                refine wpList_k (st_set ha rfl (ex_move ha) rfl ?_); clear ha; (try clear a); intro a ha
                refine wpList_k (st_set ha rfl (ex_len ha Try.underlying27) rfl ?_); clear ha; (try clear a); intro a ha
                refine wpList_k (st_set ha rfl (ex_move ha) rfl ?_); clear ha; (try clear a); intro a ha
                refine wpList_k (st_set ha rfl (ex_len ha Try.underlying27) rfl ?_); clear ha; (try clear a); intro a ha
                refine wpList_k (st_set ha rfl (ex_subI ha (by omega) (by omega)) rfl ?_); clear ha; (try clear a); intro a ha
                refine wpList_k (st_set ha rfl (ex_neq ha) rfl ?_); clear ha; (try clear a); intro a ha
                rw [dne] at ha
                refine wpList_nil ?_
                refine then_n ?_
                refine wp_ifF ha ?_
                refine wp_skip ?_
                refine then_n ?_
                refine wp_region_lit ?_
                refine wpList_k (st_set ha rfl (ex_move ha) rfl ?_); clear ha; (try clear a); intro a ha
                replace ha := ha.del 5
                refine wpList_k (st_set ha rfl (ex_assign ha) rfl ?_); clear ha; (try clear a); intro a ha
                refine wpList_nil ?_
                refine blk_n <| then_n ?_
                refine wp_seq ?_
                refine wp_region_lit ?_
                refine wpList_k (st_set ha rfl (ex_move ha) rfl ?_); clear ha; (try clear a); intro a ha
                refine wpList_k (st_call ha rfl Ty.c13 rfl (len_jobs (hs.jobs q)) ?_); clear ha hs
                rintro e w ⟨rfl, hs⟩
                refine ⟨_, rfl, ?_⟩
                intro a ha
                refine wpList_k (st_set ha rfl (ex_move ha) rfl ?_); clear ha; (try clear a); intro a ha
                refine wpList_k (st_set ha rfl (ex_len ha Try.underlying27) rfl ?_); clear ha; (try clear a); intro a ha
                refine wpList_k (st_set ha rfl (ex_neq ha) rfl ?_); clear ha; (try clear a); intro a ha
                rw [dne] at ha
                refine wpList_nil ?_
                refine then_n ?_
                refine wp_ifF ha ?_
                refine wp_skip ?_
                refine blk_n <| then_n ?_
                refine wp_region_lit ?_
                refine wpList_k (st_set ha rfl (ex_move ha) rfl ?_); clear ha; (try clear a); intro a ha
                refine wpList_k (st_set ha rfl (ex_addI ha (by omega) (by omega)) rfl ?_); clear ha; (try clear a); intro a ha
                replace ha := ha.del 6
                refine wpList_k (st_set ha rfl (ex_assign ha) rfl ?_); clear ha; (try clear a); intro a ha
                refine wpList_nil ?_
                refine then_n ?_
                exact ⟨60 - (i + 1), by omega, i + 1, _, _, _, ⟨rfl, by omega, by omega⟩, ha.keep [0, 2, 4, 5, 6], hs.sub⟩
      ·
        try simp only [decide_eq_true_eq, decide_eq_false_iff_not, Bool.not_eq_true', Bool.not_eq_false', Int.not_lt, Int.not_le, ne_eq, Decidable.not_not] at hc1
        refine wp_exit ?_
        refine then_e <| then_e <| blk_e ?_
        refine then_n ?_
        refine wp_seq ?_
        refine wp_region_lit ?_
        replace ha := ha.del 2
        refine wpList_k (st_set ha rfl (ex_assign ha) rfl ?_); clear ha; (try clear a); intro a ha
        refine wpList_nil ?_
        refine then_n ?_
        refine wp_ret ?_
        refine ret1 ha rfl ?_
        exact ⟨rfl, hs.below⟩
    ·
      try simp only [decide_eq_true_eq, decide_eq_false_iff_not, Bool.not_eq_true', Bool.not_eq_false', Int.not_lt, Int.not_le, ne_eq, Decidable.not_not] at hg4
      refine wpList_k (st_off ha (wgF ha rfl (s := 22) rfl) rfl ?_); clear ha; (try clear a); intro a ha
      refine wpList_k (st_off ha (wgF ha rfl (s := 22) rfl) rfl ?_); clear ha; (try clear a); intro a ha
      refine wpList_k (st_set ha rfl (ex_pickF ha) rfl ?_); clear ha; (try clear a); intro a ha
      refine wpList_nil ?_
      refine then_n ?_
      refine wp_ifF ha ?_
      refine wp_exit ?_
      refine then_e <| then_e <| blk_e ?_
      refine then_n ?_
      refine wp_seq ?_
      refine wp_region_lit ?_
      replace ha := ha.del 2
      refine wpList_k (st_set ha rfl (ex_assign ha) rfl ?_); clear ha; (try clear a); intro a ha
      refine wpList_nil ?_
      refine then_n ?_
      refine wp_ret ?_
      refine ret1 ha rfl ?_
      exact ⟨rfl, hs.below⟩

theorem argOps_of {H : Type} {enc : TypeId × Value → H} {W : World} {len cap : Nat} {ad : Option Addr} {d : DataW H} {p : List MemPlace}
    (h : DataW.Trod enc Try.prog W 0 (fun _ => true) true 24 (.slice ad len cap) d p) : ArgOps W ad len cap := by
  obtain ⟨h1, h2⟩ := argRows (sz := 3) Try.underlying24 (by kernel_rfl) (by decide) h
  refine ⟨h1, h2.imp id ?_⟩
  rintro ⟨b, off, h3, h4, h5⟩
  refine ⟨b, off, h3, h4, fun i hi => ?_⟩
  obtain ⟨cs, m, x, g1, g2, g3⟩ := h5 i hi
  obtain ⟨y0, y1, y2, n, _, _, e0, e1, e2⟩ := Go.Deep.trod_struct3 Try.underlying29 g3
  obtain ⟨k, hk, _, _⟩ := DataW.trod_int Try.underlying3 e0
  obtain ⟨br, hb, _, _⟩ := DataW.trod_int Try.underlying2 e1
  obtain ⟨ep, he, _, _⟩ := DataW.trod_int Try.underlying2 e2
  rw [show Try.prog.cellsOf 3 = 1 from by kernel_rfl] at hk
  rw [show Try.prog.cellsOf 2 = 1 from by kernel_rfl] at hb he
  refine ⟨k, br, ep, ?_⟩
  match cs, g1 with
  | [c0, c1, c2], _ =>
    simp at hk hb he
    subst hk; subst hb; subst he
    exact g2
end Go.Proofs.Ythkmncddppfdaaa

