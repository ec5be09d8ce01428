/- SnapAll: what both tell, and the statement. -/
import Derived.Test.YtpfblmpgljodmaaSnapE
namespace Go.Proofs.Ytpfblmpgljodmaa
open Go.RowKit
set_option linter.unusedVariables false
set_option linter.unusedSimpArgs false
set_option maxRecDepth 10000
set_option synthInstance.maxSize 4000
set_option synthInstance.maxHeartbeats 400000

section
variable {W w : World} {L L' R : List SP} {q r bb rm nx kk c k : Nat} {A : Sn} {B : List Bz} {z : Bz} {ad : Option Addr} {inn : Bool} {kI xI : Int}
theorem state_case (hs : St W w (Store q r A :: L)) (hB : BkOk A B nx) (hz : B[kk]? = some z) :
    Calls Try.prog 25 #[.pointer (some ⟨q, 0, none⟩), .int .i64 z.1.id] w fun e w' => ∃ (ok : Bool) (g : Nat → Int), e = .returned (.tuple #[.agg (ints .i32 32 g).toArray, .bool ok]) ∧
      ((ok = true ∧ 0 < z.1.refs ∧ g = z.1.g) ∨ (ok = false ∧ z.1.refs = 0 ∧ g = fun _ => 0)) ∧ St W w' (Store q r A :: L) := by
  by_cases h0 : 0 < z.1.refs
  · exact (snap_state (x := stp z) hs (hB.at hz h0).1).mono fun e w' ⟨h1, hs⟩ => ⟨_, _, h1, .inl ⟨rfl, h0, rfl⟩, hs⟩
  · exact (snap_state_no hs (hB.dead hz (by omega))).mono fun e w' ⟨h1, hs⟩ => ⟨_, _, h1, .inr ⟨rfl, by omega, rfl⟩, hs⟩
theorem refs_case (hs : St W w (Store q r A :: L)) (hB : BkOk A B nx) (hz : B[kk]? = some z) :
    Calls Try.prog 22 #[.pointer (some ⟨q, 0, none⟩), .int .i64 z.1.id] w fun e w' => e = .returned (.int .i64 z.1.refs) ∧ St W w' (Store q r A :: L) := by
  by_cases h0 : 0 < z.1.refs
  · exact snap_refs (x := stp z) hs (hB.at hz h0).1
  · have h1 : z.1.refs = 0 := by omega
    exact (snap_refs_no hs (hB.dead hz h1)).mono fun e w' ⟨h2, hs⟩ => ⟨by rw [h1]; exact h2, hs⟩
theorem pages_case {ok : Bool} (hs : St W w (Store q r A :: L)) (hB : BkOk A B nx) (hz : B[kk]? = some z) (hok : ok = decide (0 < z.1.refs)) :
    Calls Try.prog 28 #[.pointer (some ⟨q, 0, none⟩), .int .i64 z.1.id] w fun e w' => ∃ (ad : Option Addr) (n c : Nat), e = .returned (.slice ad n c) ∧ decide ((n : Int) = 4) = ok ∧ St W w' (Store q r A :: L) := by
  by_cases h0 : 0 < z.1.refs
  · exact (snap_pages (x := stp z) hs (hB.at hz h0).1).mono fun e w' ⟨ad, c, h1, hs⟩ => ⟨ad, 4, c, h1, by rw [hok, decide_eq_true h0]; rfl, hs.tail⟩
  · exact (snap_pages_no hs (hB.dead hz (by omega))).mono fun e w' ⟨h1, hs⟩ => ⟨none, 0, 0, h1, by rw [hok, decide_eq_false h0]; rfl, hs⟩
theorem bk_game {b : Nat} {L : List SP} (hs : St W w (blk b 92 (bkc z) :: L)) : Rd w b 2 (ints .i32 32 z.1.g) := fun j v hj => by
  have hj2 := (List.getElem?_eq_some_iff.1 hj).1
  rw [ints_len] at hj2
  rw [ints_get _ hj2] at hj; cases hj
  rw [hs.cell]; exact bkc_g z hj2
theorem live_take (hz : B[kk]? = some z) : (live (B.take (kk + 1))).length = (live (B.take kk)).length + if 0 < z.1.refs then 1 else 0 := by
  obtain ⟨hk, rfl⟩ := List.getElem?_eq_some_iff.1 hz
  rw [live, live, List.take_succ_eq_append_getElem hk, List.filter_append, List.length_append]
  congr 1
  by_cases h : 0 < B[kk].1.refs
  · rw [List.filter_cons, if_pos (by simpa [lv] using h), if_pos h]; rfl
  · rw [List.filter_cons, if_neg (by simpa [lv] using h), if_neg h]; rfl
set_option maxHeartbeats 8000000 in
theorem same11 (hs : St W w (Book bb A.room nx B :: Store q r A :: L)) (hB : BkOk A B nx) (hnx : nx ≤ 1000) :
    Calls Try.prog 27 #[.pointer (some ⟨bb, 0, none⟩), .pointer (some ⟨q, 0, none⟩)] w fun e w' => e = .returned (.bool true) ∧ St W w' (Book bb A.room nx B :: Store q r A :: L) := by
  have hu := hB.used (Store.facts (hs.store q)).2
  have hwf := (Store.facts (hs.store q)).1
  have hul := usedTo_le B nx
  have hur : A.used ≤ A.room := by
    have := List.countP_le_length (p := fun p => decide (0 < cnt A.pics p)) (l := List.range A.room)
    rw [List.length_range] at this; exact this
  have hrm := hwf.room
  have hBl : B.length ≤ 1000 := by
    obtain ⟨_, _, h, _⟩ := Book.open hs
    exact h
  have hpl : A.pics.length = (live B).length := by rw [hB.pics, List.length_map]
  have hll : (live B).length ≤ B.length := List.length_filter_le _ _
  refine calls_enter Try.func27 rfl Try.ntmps27 (Nat.le_of_ble_eq_true rfl) ?_
  intro a ha
  replace ha : Fr a 174 [(0, _), (1, _)] := ha
  refine wp_seq ?_
  refine wp_region_lit ?_
  refine wpList_k (st_set ha rfl (ex_assign ha) rfl ?_); clear ha; (try clear a); intro a ha
  refine wpList_nil ?_
  refine then_n ?_
  refine wp_seq ?_
  refine wp_region_lit ?_
  refine wpList_k (st_set ha rfl (ex_move ha) rfl ?_); clear ha; (try clear a); intro a ha
  refine wpList_k (st_call ha rfl Ty.c23 rfl (snap_live (hs.store q)) ?_); clear ha hs
  rintro e w ⟨adl, cl, rfl, hs⟩
  refine ⟨_, rfl, ?_⟩
  intro a ha
  refine wpList_k (st_set ha rfl (ex_assign ha) rfl ?_); clear ha; (try clear a); intro a ha
  refine wpList_nil ?_
  refine then_n ?_
  refine wp_seq ?_
  refine wp_region_lit ?_
  refine wpList_k (st_set ha rfl (ex_assign ha) rfl ?_); clear ha; (try clear a); intro a ha
  refine wpList_nil ?_
  refine then_n ?_
  refine wp_seq ?_
  refine wp_seq ?_
  refine wp_region_lit ?_
  refine wpList_k (st_set ha rfl (ex_assign ha) rfl ?_); clear ha; (try clear a); intro a ha
  refine wpList_nil ?_
  refine then_n ?_
  refine wp_block ?_
  refine wp_loop_ghost (fun μ a w => ∃ i : Nat, (μ = B.length - i ∧ i ≤ B.length) ∧ Fr a 174 [(0, .pointer (some ⟨bb, 0, none⟩)), (1, .pointer (some ⟨q, 0, none⟩)), (5, .slice adl A.pics.length cl), (6, .int .i64 (live (B.take i)).length), (7, .int .i64 i)] ∧ St W w (Sl 25 1 adl A.pics.length cl (A.pics.map fun x => .int .i64 x.id) :: Book bb A.room nx B :: Store q r A :: L)) (B.length) ?_ ?_
  · exact ⟨0, ⟨by simp, by simp⟩, ha.keep [0, 1, 5, 6, 7], hs.sub⟩
  ·
    clear ha hs
    rintro μ a w ⟨i, ⟨rfl, hi⟩, ha, hs⟩
    refine wp_seq ?_
    refine wp_seq ?_
    obtain ⟨ad, cb, _, ho⟩ := Book.open (hs.pick (Book bb A.room nx B))
    refine wp_region_lit ?_
    refine wpList_k (st_set ha rfl (ex_move ha) rfl ?_); clear ha; (try clear a); intro a ha
    refine wpList_k (st_set ha rfl (ex_move ha) rfl ?_); clear ha; (try clear a); intro a ha
    refine wpList_k (st_set ha rfl (ex_nilCheck ha) rfl ?_); clear ha; (try clear a); intro a ha
    refine wpList_k (st_set ha rfl (ex_fieldAddr (k := 0) ha Try.underlying56 rfl Ty.t54 rfl) rfl ?_); clear ha; (try clear a); intro a ha
    refine wpList_k (st_set ha rfl (ex_load1 ha Try.underlying54 rfl (ho.rd1 rfl)) rfl ?_); clear ha; (try clear a); intro a ha
    refine wpList_k (st_set ha rfl (ex_len ha Try.underlying54) rfl ?_); clear ha; (try clear a); intro a ha
    refine wpList_k (st_set ha rfl (ex_lss ha) rfl ?_); clear ha; (try clear a); intro a ha
    refine wpList_nil ?_
    refine then_n ?_
    refine wp_if ha (fun hc0 => ?_) (fun hc0 => ?_)
    ·
      try simp only [decide_eq_true_eq, decide_eq_false_iff_not, Bool.not_eq_true', Bool.not_eq_false', Int.not_lt, Int.not_le, ne_eq, Decidable.not_not] at hc0
      refine wp_skip ?_
      refine then_n ?_
      refine wp_seq ?_
      refine wp_block ?_
      refine wp_seq ?_
      obtain ⟨z, hz⟩ : ∃ z, B[i]? = some z := ⟨_, List.getElem?_eq_getElem (by omega)⟩
      obtain ⟨ad, cb, _, ho⟩ := Book.open (hs.pick (Book bb A.room nx B))
      obtain ⟨b', off', hade, hrd⟩ := ho.slRd ad (by omega)
      rw [hade] at ho
      have hlt := live_take hz
      have hlb : (live (B.take i)).length ≤ 1000 := Nat.le_trans (List.length_filter_le _ _) (by rw [List.length_take]; omega)
      refine wp_region_lit ?_
      refine wpList_k (st_set ha rfl (ex_move ha) rfl ?_); clear ha; (try clear a); intro a ha
      refine wpList_k (st_set ha rfl (ex_nilCheck ha) rfl ?_); clear ha; (try clear a); intro a ha
      refine wpList_k (st_set ha rfl (ex_fieldAddr (k := 0) ha Try.underlying56 rfl Ty.t54 rfl) rfl ?_); clear ha; (try clear a); intro a ha
      refine wpList_k (st_set ha rfl (ex_load1 ha Try.underlying54 rfl (ho.rd1 rfl)) rfl ?_); clear ha; (try clear a); intro a ha
      refine wpList_k (st_set ha rfl (ex_move ha) rfl ?_); clear ha; (try clear a); intro a ha
      refine wpList_k (st_set ha rfl (ex_indexAddr ha Try.underlying54 Ty.t92 (by omega)) rfl ?_); clear ha; (try clear a); intro a ha
      refine wpList_k (st_set ha rfl (ex_loadN ha Try.underlying92 rfl Ty.t92 (bk_rd hrd hz)) rfl ?_); clear ha; (try clear a); intro a ha
      refine wpList_k (st_alloc ha rfl hs Ty.t92 rfl ?_); clear ha hs; (try clear a); (try clear w); intro b8 a w ha hs ho
      clear ho
      refine wpList_k (st_storeAll ha rfl hs Ty.t92 (bkc_one z) (by rfl) ?_); clear ha hs; (try clear a); (try clear w); intro a w ha hs
      refine wpList_nil ?_
      refine then_n ?_
      refine wp_seq ?_
      refine wp_region_lit ?_
      refine wpList_k (st_set ha rfl (ex_move ha) rfl ?_); clear ha; (try clear a); intro a ha
      refine wpList_k (st_set ha rfl (ex_fieldAddr (k := 0) ha Try.underlying92 rfl Ty.t25 rfl) rfl ?_); clear ha; (try clear a); intro a ha
      refine wpList_k (st_set ha rfl (ex_load1 ha Try.underlying25 rfl (hs.rd1 rfl)) rfl ?_); clear ha; (try clear a); intro a ha
      refine wpList_k (st_call ha rfl Ty.c25 rfl (state_case (hs.store q) hB hz) ?_); clear ha hs
      rintro e w ⟨ok, g, rfl, hcase, hs⟩
      refine ⟨_, rfl, ?_⟩
      intro a ha
      refine wpList_k (st_set ha rfl (ex_move ha) rfl ?_); clear ha; (try clear a); intro a ha
      refine wpList_k (st_set ha rfl (ex_extract ha rfl) rfl ?_); clear ha; (try clear a); intro a ha
      refine wpList_k (st_set ha rfl (ex_extract ha rfl) rfl ?_); clear ha; (try clear a); intro a ha
      refine wpList_k (st_alloc ha rfl hs Ty.t29 rfl ?_); clear ha hs; (try clear a); (try clear w); intro b9 a w ha hs ho
      clear ho
      change St W w (blk b9 29 (ints .i32 32 (fun _ => 0)) :: _) at hs
      refine wpList_k (st_storeAll ha rfl hs Ty.t29 ints_one (by rw [ints_len, ints_len]) ?_); clear ha hs; (try clear a); (try clear w); intro a w ha hs
      refine wpList_k (st_set ha rfl (ex_assign ha) rfl ?_); clear ha; (try clear a); intro a ha
      refine wpList_nil ?_
      refine then_n ?_
      refine wp_seq ?_
      refine wp_seq_cut (M := fun a w => ∃ ok : Bool, ((ok = true ∧ 0 < z.1.refs) ∨ (ok = false ∧ z.1.refs = 0)) ∧ Fr a 174 [(0, .pointer (some ⟨bb, 0, none⟩)), (1, .pointer (some ⟨q, 0, none⟩)), (5, .slice adl A.pics.length cl), (6, .int .i64 (live (B.take i)).length), (7, .int .i64 i), (8, .pointer (some ⟨b8, 0, none⟩)), (10, .bool ok), (81, .bool false)] ∧ St W w (blk b8 92 (bkc z) :: Sl 25 1 adl A.pics.length cl (A.pics.map fun x => .int .i64 x.id) :: Book bb A.room nx B :: Store q r A :: L)) ?_ ?_
      ·
        have hok : ok = decide (0 < z.1.refs) := by
          rcases hcase with ⟨rfl, h, _⟩ | ⟨rfl, h, _⟩
          · exact (decide_eq_true h).symm
          · exact (decide_eq_false (by omega)).symm
        have hr8 : Rd w.drew b8 0 (bkc z) := hs.drew.rdAll
        have hr9 : Rd w.drew b9 0 (ints .i32 32 g) := hs.drew.rdAll
        refine wp_draw (m := 42) (l0 := lb 42 0) (fun w' => Rd w' b8 0 (bkc z) ∧ Rd w' b9 0 (ints .i32 32 g)) [9, 11, 19] Ty.mixed (by kernel_rfl) (by kernel_rfl) (pk_then (pk_then (pk_blk (pk_then (pk_then (pk_blk (pk_then pk_body))))))) (fun hpk => ?_)
        replace hs := hs.drew
        generalize w.drew = w at hs hpk hr8 hr9 ⊢
        have hC := And.intro hr8 hr9
        refine nt_pure (i := 0) (listed' := lb 42 1) (by kernel_rfl) rfl (by kernel_rfl) (by decide) hpk ha rfl (fun w => ex_move ha) rfl ?_; clear ha; (try clear a); intro a ha
        refine nt_pure (i := 1) (listed' := lb 42 3) (by kernel_rfl) rfl (by kernel_rfl) (by decide) hpk ha rfl (fun w => ex_fieldAddr (k := 1) ha Try.underlying92 rfl Ty.t3 rfl) rfl ?_; clear ha; (try clear a); intro a ha
        refine nt_one (i := 2) (listed' := lb 42 7) (by kernel_rfl) (by kernel_rfl) rfl (st_set ha rfl (ex_load1 ha Try.underlying3 rfl (hC.1 1 _ rfl)) rfl ?_); clear ha; (try clear a); intro a ha
        refine ⟨fun h => absurd h (by decide), ?_⟩
        refine nt_pure (i := 3) (listed' := lb 42 15) (by kernel_rfl) rfl (by kernel_rfl) (by decide) hpk ha rfl (fun w => ex_gtr ha) rfl ?_; clear ha; (try clear a); intro a ha
        refine nt_pure (i := 4) (listed' := lb 42 31) (by kernel_rfl) rfl (by kernel_rfl) (by decide) hpk ha rfl (fun w => ex_neqB ha Try.underlying4) rfl ?_; clear ha; (try clear a); intro a ha
        rw [show (ok != decide ((0 : Int) < (z.1.refs : Int))) = false from by rw [hok, show decide ((0 : Int) < (z.1.refs : Int)) = decide (0 < z.1.refs) from by rw [decide_eq_decide]; omega, bne_self_eq_false]] at ha
        refine nt_pure (i := 5) (listed' := lb 42 63) (by kernel_rfl) rfl (by kernel_rfl) (by decide) hpk ha rfl (fun w => ex_move ha) rfl ?_; clear ha; (try clear a); intro a ha
        refine nt_pure (i := 6) (listed' := lb 42 127) (by kernel_rfl) rfl (by kernel_rfl) (by decide) hpk ha (wgT ha rfl (s := 45)) (fun w => ex_move ha) rfl ?_; clear ha; (try clear a); intro a ha
        refine nt_pure (i := 7) (listed' := lb 42 255) (by kernel_rfl) rfl (by kernel_rfl) (by decide) hpk ha (wgT ha rfl (s := 45)) (fun w => ex_fieldAddr (k := 0) ha Try.underlying92 rfl Ty.t25 rfl) rfl ?_; clear ha; (try clear a); intro a ha
        refine nt_pure (i := 10) (listed' := lb 42 1279) (by kernel_rfl) rfl (by kernel_rfl) (by decide) hpk ha (wgT ha rfl (s := 45)) (fun w => ex_fieldAddr (k := 1) ha Try.underlying92 rfl Ty.t3 rfl) rfl ?_; clear ha; (try clear a); intro a ha
        refine nt_held (i := 8) (listed' := lb 42 1535) (by kernel_rfl) rfl (by kernel_rfl) hpk ha (wgT ha rfl (s := 45)) (fun w hc => ex_load1 ha Try.underlying25 rfl (hc.1 0 _ rfl)) hC rfl ?_; clear ha; (try clear a); intro a ha
        refine nt_held (i := 11) (listed' := lb 42 3583) (by kernel_rfl) rfl (by kernel_rfl) hpk ha (wgT ha rfl (s := 45)) (fun w hc => ex_load1 ha Try.underlying3 rfl (hc.1 1 _ rfl)) hC rfl ?_; clear ha; (try clear a); intro a ha
        refine nt_one (i := 9) (listed' := lb 42 4095) (by kernel_rfl) (by kernel_rfl) rfl (st_call ha (wgT ha rfl (s := 45)) Ty.c22 rfl (refs_case (hs.store q) hB hz) ?_); clear ha hs
        rintro e w ⟨rfl, hs⟩
        refine ⟨_, rfl, ?_⟩
        intro a ha
        replace hC : (fun w' => Rd w' b8 0 (bkc z) ∧ Rd w' b9 0 (ints .i32 32 g)) w := And.intro hs.rdAll hs.rdAll
        refine ⟨fun _ => hC, ?_⟩
        refine nt_pure (i := 12) (listed' := lb 42 8191) (by kernel_rfl) rfl (by kernel_rfl) (by decide) hpk ha (wgT ha rfl (s := 45)) (fun w => ex_neq ha) rfl ?_; clear ha; (try clear a); intro a ha
        rw [decide_eq_false (by simp)] at ha
        refine nt_pure (i := 13) (listed' := lb 42 16383) (by kernel_rfl) rfl (by kernel_rfl) (by decide) hpk ha rfl (fun w => ex_pickF ha) rfl ?_; clear ha; (try clear a); intro a ha
        refine nt_pure (i := 14) (listed' := lb 42 32767) (by kernel_rfl) rfl (by kernel_rfl) (by decide) hpk ha rfl (fun w => ex_move ha) rfl ?_; clear ha; (try clear a); intro a ha
        refine nt_pure (i := 15) (listed' := lb 42 65535) (by kernel_rfl) rfl (by kernel_rfl) (by decide) hpk ha (wgT ha rfl (s := 54)) (fun w => ex_move ha) rfl ?_; clear ha; (try clear a); intro a ha
        refine nt_pure (i := 16) (listed' := lb 42 131071) (by kernel_rfl) rfl (by kernel_rfl) (by decide) hpk ha (wgT ha rfl (s := 54)) (fun w => ex_move ha) rfl ?_; clear ha; (try clear a); intro a ha
        refine ha.bool (s := 56) (fun hg16 ha => ?_) (fun hg16 ha => ?_)
        ·
          try simp only [decide_eq_true_eq, decide_eq_false_iff_not, Bool.not_eq_true', Bool.not_eq_false', Int.not_lt, Int.not_le, ne_eq, Decidable.not_not] at hg16
          obtain ⟨_, h0, hg⟩ := hcase.resolve_right (fun h => by rw [hg16] at h; cases h.1)
          rw [hg16] at ha
          refine nt_pure (i := 18) (listed' := lb 42 393215) (by kernel_rfl) rfl (by kernel_rfl) (by decide) hpk ha (wgT ha rfl (s := 56)) (fun w => ex_fieldAddr (k := 2) ha Try.underlying92 rfl Ty.t46 rfl) rfl ?_; clear ha; (try clear a); intro a ha
          refine nt_held (i := 17) (listed' := lb 42 524287) (by kernel_rfl) rfl (by kernel_rfl) hpk ha (wgT ha rfl (s := 56)) (fun w hc => ex_loadN ha Try.underlying29 rfl Ty.t29 (hc.2)) hC rfl ?_; clear ha; (try clear a); intro a ha
          refine nt_one (i := 19) (listed' := lb 42 1048575) (by kernel_rfl) (by kernel_rfl) rfl (st_set ha (wgT ha rfl (s := 56)) (ex_loadN ha Try.underlying46 rfl Ty.t46 (bk_game (hs.bring b8))) rfl ?_); clear ha; (try clear a); intro a ha
          refine ⟨fun _ => hC, ?_⟩
          refine nt_pure (i := 20) (listed' := lb 42 2097151) (by kernel_rfl) rfl (by kernel_rfl) (by decide) hpk ha (wgT ha rfl (s := 56)) (fun w => ex_neqA ha Try.underlying46 Try.underlying21 Ty.t21 (by kernel_rfl) Try.eqGuardType46) rfl ?_; clear ha; (try clear a); intro a ha
          rw [hg, sameN_self] at ha
          refine nt_pure (i := 21) (listed' := lb 42 4194303) (by kernel_rfl) rfl (by kernel_rfl) (by decide) hpk ha (wgT ha rfl (s := 54)) (fun w => ex_pickT ha) rfl ?_; clear ha; (try clear a); intro a ha
          rw [show (!true) = false from rfl] at ha
          refine nt_pure (i := 22) (listed' := lb 42 8388607) (by kernel_rfl) rfl (by kernel_rfl) (by decide) hpk ha rfl (fun w => ex_pickF ha) rfl ?_; clear ha; (try clear a); intro a ha
          refine nt_pure (i := 23) (listed' := lb 42 16777215) (by kernel_rfl) rfl (by kernel_rfl) (by decide) hpk ha rfl (fun w => ex_move ha) rfl ?_; clear ha; (try clear a); intro a ha
          refine nt_pure (i := 24) (listed' := lb 42 33554431) (by kernel_rfl) rfl (by kernel_rfl) (by decide) hpk ha (wgT ha rfl (s := 63)) (fun w => ex_move ha) rfl ?_; clear ha; (try clear a); intro a ha
          refine nt_pure (i := 25) (listed' := lb 42 67108863) (by kernel_rfl) rfl (by kernel_rfl) (by decide) hpk ha (wgT ha rfl (s := 63)) (fun w => ex_not ha) rfl ?_; clear ha; (try clear a); intro a ha
          rw [show (!true) = false from rfl] at ha
          refine nt_pure (i := 26) (listed' := lb 42 134217727) (by kernel_rfl) rfl (by kernel_rfl) (by decide) hpk ha (wgT ha rfl (s := 63)) (fun w => ex_move ha) rfl ?_; clear ha; (try clear a); intro a ha
          refine nt_off (i := 28) (listed' := lb 42 402653183) (by kernel_rfl) rfl (by kernel_rfl) (by decide) hpk ha (wgF ha rfl (s := 66) rfl) rfl ?_; clear ha; (try clear a); intro a ha
          refine nt_off (i := 27) (listed' := lb 42 536870911) (by kernel_rfl) rfl (by kernel_rfl) (by decide) hpk ha (wgF ha rfl (s := 66) rfl) rfl ?_; clear ha; (try clear a); intro a ha
          refine nt_off (i := 29) (listed' := lb 42 1073741823) (by kernel_rfl) rfl (by kernel_rfl) (by decide) hpk ha (wgF ha rfl (s := 66) rfl) rfl ?_; clear ha; (try clear a); intro a ha
          refine nt_pure (i := 30) (listed' := lb 42 2147483647) (by kernel_rfl) rfl (by kernel_rfl) (by decide) hpk ha (wgT ha rfl (s := 63)) (fun w => ex_pickF ha) rfl ?_; clear ha; (try clear a); intro a ha
          refine nt_pure (i := 31) (listed' := lb 42 4294967295) (by kernel_rfl) rfl (by kernel_rfl) (by decide) hpk ha rfl (fun w => ex_pickF ha) rfl ?_; clear ha; (try clear a); intro a ha
          refine nt_pure (i := 32) (listed' := lb 42 8589934591) (by kernel_rfl) rfl (by kernel_rfl) (by decide) hpk ha rfl (fun w => ex_move ha) rfl ?_; clear ha; (try clear a); intro a ha
          refine nt_pure (i := 33) (listed' := lb 42 17179869183) (by kernel_rfl) rfl (by kernel_rfl) (by decide) hpk ha (wgT ha rfl (s := 72)) (fun w => ex_move ha) rfl ?_; clear ha; (try clear a); intro a ha
          refine nt_pure (i := 34) (listed' := lb 42 34359738367) (by kernel_rfl) rfl (by kernel_rfl) (by decide) hpk ha (wgT ha rfl (s := 72)) (fun w => ex_fieldAddr (k := 0) ha Try.underlying92 rfl Ty.t25 rfl) rfl ?_; clear ha; (try clear a); intro a ha
          refine nt_pure (i := 39) (listed' := lb 42 584115552255) (by kernel_rfl) rfl (by kernel_rfl) (by decide) hpk ha (wgT ha rfl (s := 72)) (fun w => ex_move ha) rfl ?_; clear ha; (try clear a); intro a ha
          refine nt_one (i := 35) (listed' := lb 42 618475290623) (by kernel_rfl) (by kernel_rfl) rfl (st_set ha (wgT ha rfl (s := 72)) (ex_load1 ha Try.underlying25 rfl (hs.rd1 rfl)) rfl ?_); clear ha; (try clear a); intro a ha
          refine ⟨fun h => absurd h (by decide), ?_⟩
          refine nt_one (i := 36) (listed' := lb 42 687194767359) (by kernel_rfl) (by kernel_rfl) rfl (st_call ha (wgT ha rfl (s := 72)) Ty.c28 rfl (pages_case (ok := ok) (hs.store q) hB hz hok) ?_); clear ha hs
          rintro e w ⟨adp, np, cp, rfl, hnp, hs⟩
          refine ⟨_, rfl, ?_⟩
          intro a ha
          refine ⟨fun h => absurd h (by decide), ?_⟩
          refine nt_pure (i := 37) (listed' := lb 42 824633720831) (by kernel_rfl) rfl (by kernel_rfl) (by decide) hpk ha (wgT ha rfl (s := 72)) (fun w => ex_len ha Try.underlying45) rfl ?_; clear ha; (try clear a); intro a ha
          refine nt_pure (i := 38) (listed' := lb 42 1099511627775) (by kernel_rfl) rfl (by kernel_rfl) (by decide) hpk ha (wgT ha rfl (s := 72)) (fun w => ex_eql ha) rfl ?_; clear ha; (try clear a); intro a ha
          rw [hnp] at ha
          refine nt_pure (i := 40) (listed' := lb 42 2199023255551) (by kernel_rfl) rfl (by kernel_rfl) (by decide) hpk ha (wgT ha rfl (s := 72)) (fun w => ex_neqB ha Try.underlying4) rfl ?_; clear ha; (try clear a); intro a ha
          rw [hg16, show (true != true) = false from rfl] at ha
          refine nt_pure (i := 41) (listed' := lb 42 4398046511103) (by kernel_rfl) rfl (by kernel_rfl) (by decide) hpk ha rfl (fun w => ex_pickF ha) rfl ?_; clear ha; (try clear a); intro a ha
          refine nt_done (by kernel_rfl) ?_ _
          refine then_n ?_
          exact ⟨true, .inl ⟨rfl, h0⟩, ha.keep [0, 1, 5, 6, 7, 8, 10, 81], hs.sub⟩
        ·
          try simp only [decide_eq_true_eq, decide_eq_false_iff_not, Bool.not_eq_true', Bool.not_eq_false', Int.not_lt, Int.not_le, ne_eq, Decidable.not_not] at hg16
          obtain ⟨_, h0, hg⟩ := hcase.resolve_left (fun h => by rw [hg16] at h; cases h.1)
          rw [hg16] at ha
          refine nt_off (i := 18) (listed' := lb 42 393215) (by kernel_rfl) rfl (by kernel_rfl) (by decide) hpk ha (wgF ha rfl (s := 56) rfl) rfl ?_; clear ha; (try clear a); intro a ha
          refine nt_offH (i := 17) (listed' := lb 42 524287) (by kernel_rfl) rfl (by kernel_rfl) hpk ha (wgF ha rfl (s := 56) rfl) hC rfl ?_; clear ha; (try clear a); intro a ha
          refine nt_offH (i := 19) (listed' := lb 42 1048575) (by kernel_rfl) rfl (by kernel_rfl) hpk ha (wgF ha rfl (s := 56) rfl) hC rfl ?_; clear ha; (try clear a); intro a ha
          refine nt_off (i := 20) (listed' := lb 42 2097151) (by kernel_rfl) rfl (by kernel_rfl) (by decide) hpk ha (wgF ha rfl (s := 56) rfl) rfl ?_; clear ha; (try clear a); intro a ha
          refine nt_pure (i := 21) (listed' := lb 42 4194303) (by kernel_rfl) rfl (by kernel_rfl) (by decide) hpk ha (wgT ha rfl (s := 54)) (fun w => ex_pickF ha) rfl ?_; clear ha; (try clear a); intro a ha
          refine nt_pure (i := 22) (listed' := lb 42 8388607) (by kernel_rfl) rfl (by kernel_rfl) (by decide) hpk ha rfl (fun w => ex_pickF ha) rfl ?_; clear ha; (try clear a); intro a ha
          refine nt_pure (i := 23) (listed' := lb 42 16777215) (by kernel_rfl) rfl (by kernel_rfl) (by decide) hpk ha rfl (fun w => ex_move ha) rfl ?_; clear ha; (try clear a); intro a ha
          refine nt_pure (i := 24) (listed' := lb 42 33554431) (by kernel_rfl) rfl (by kernel_rfl) (by decide) hpk ha (wgT ha rfl (s := 63)) (fun w => ex_move ha) rfl ?_; clear ha; (try clear a); intro a ha
          refine nt_pure (i := 25) (listed' := lb 42 67108863) (by kernel_rfl) rfl (by kernel_rfl) (by decide) hpk ha (wgT ha rfl (s := 63)) (fun w => ex_not ha) rfl ?_; clear ha; (try clear a); intro a ha
          rw [show (!false) = true from rfl] at ha
          refine nt_pure (i := 26) (listed' := lb 42 134217727) (by kernel_rfl) rfl (by kernel_rfl) (by decide) hpk ha (wgT ha rfl (s := 63)) (fun w => ex_move ha) rfl ?_; clear ha; (try clear a); intro a ha
          refine nt_pure (i := 28) (listed' := lb 42 402653183) (by kernel_rfl) rfl (by kernel_rfl) (by decide) hpk ha (wgT ha rfl (s := 66)) (fun w => ex_buildA0 ha Try.underlying29 Ty.t29 Ty.t21) rfl ?_; clear ha; (try clear a); intro a ha
          change Fr a 174 ((68, .agg (ints .i32 32 (fun _ => 0)).toArray) :: _) at ha
          refine nt_one (i := 27) (listed' := lb 42 536870911) (by kernel_rfl) (by kernel_rfl) rfl (st_set ha (wgT ha rfl (s := 66)) (ex_loadN ha Try.underlying29 rfl Ty.t29 (hC.2)) rfl ?_); clear ha; (try clear a); intro a ha
          refine ⟨fun h => absurd h (by decide), ?_⟩
          refine nt_pure (i := 29) (listed' := lb 42 1073741823) (by kernel_rfl) rfl (by kernel_rfl) (by decide) hpk ha (wgT ha rfl (s := 66)) (fun w => ex_neqA ha Try.underlying29 Try.underlying21 Ty.t21 (by kernel_rfl) Try.eqGuardType29) rfl ?_; clear ha; (try clear a); intro a ha
          rw [hg, sameN_self, show (!true) = false from rfl] at ha
          refine nt_pure (i := 30) (listed' := lb 42 2147483647) (by kernel_rfl) rfl (by kernel_rfl) (by decide) hpk ha (wgT ha rfl (s := 63)) (fun w => ex_pickT ha) rfl ?_; clear ha; (try clear a); intro a ha
          refine nt_pure (i := 31) (listed' := lb 42 4294967295) (by kernel_rfl) rfl (by kernel_rfl) (by decide) hpk ha rfl (fun w => ex_pickF ha) rfl ?_; clear ha; (try clear a); intro a ha
          refine nt_pure (i := 32) (listed' := lb 42 8589934591) (by kernel_rfl) rfl (by kernel_rfl) (by decide) hpk ha rfl (fun w => ex_move ha) rfl ?_; clear ha; (try clear a); intro a ha
          refine nt_pure (i := 33) (listed' := lb 42 17179869183) (by kernel_rfl) rfl (by kernel_rfl) (by decide) hpk ha (wgT ha rfl (s := 72)) (fun w => ex_move ha) rfl ?_; clear ha; (try clear a); intro a ha
          refine nt_pure (i := 34) (listed' := lb 42 34359738367) (by kernel_rfl) rfl (by kernel_rfl) (by decide) hpk ha (wgT ha rfl (s := 72)) (fun w => ex_fieldAddr (k := 0) ha Try.underlying92 rfl Ty.t25 rfl) rfl ?_; clear ha; (try clear a); intro a ha
          refine nt_pure (i := 39) (listed' := lb 42 584115552255) (by kernel_rfl) rfl (by kernel_rfl) (by decide) hpk ha (wgT ha rfl (s := 72)) (fun w => ex_move ha) rfl ?_; clear ha; (try clear a); intro a ha
          refine nt_one (i := 35) (listed' := lb 42 618475290623) (by kernel_rfl) (by kernel_rfl) rfl (st_set ha (wgT ha rfl (s := 72)) (ex_load1 ha Try.underlying25 rfl (hs.rd1 rfl)) rfl ?_); clear ha; (try clear a); intro a ha
          refine ⟨fun h => absurd h (by decide), ?_⟩
          refine nt_one (i := 36) (listed' := lb 42 687194767359) (by kernel_rfl) (by kernel_rfl) rfl (st_call ha (wgT ha rfl (s := 72)) Ty.c28 rfl (pages_case (ok := ok) (hs.store q) hB hz hok) ?_); clear ha hs
          rintro e w ⟨adp, np, cp, rfl, hnp, hs⟩
          refine ⟨_, rfl, ?_⟩
          intro a ha
          refine ⟨fun h => absurd h (by decide), ?_⟩
          refine nt_pure (i := 37) (listed' := lb 42 824633720831) (by kernel_rfl) rfl (by kernel_rfl) (by decide) hpk ha (wgT ha rfl (s := 72)) (fun w => ex_len ha Try.underlying45) rfl ?_; clear ha; (try clear a); intro a ha
          refine nt_pure (i := 38) (listed' := lb 42 1099511627775) (by kernel_rfl) rfl (by kernel_rfl) (by decide) hpk ha (wgT ha rfl (s := 72)) (fun w => ex_eql ha) rfl ?_; clear ha; (try clear a); intro a ha
          rw [hnp] at ha
          refine nt_pure (i := 40) (listed' := lb 42 2199023255551) (by kernel_rfl) rfl (by kernel_rfl) (by decide) hpk ha (wgT ha rfl (s := 72)) (fun w => ex_neqB ha Try.underlying4) rfl ?_; clear ha; (try clear a); intro a ha
          rw [hg16, show (false != false) = false from rfl] at ha
          refine nt_pure (i := 41) (listed' := lb 42 4398046511103) (by kernel_rfl) rfl (by kernel_rfl) (by decide) hpk ha rfl (fun w => ex_pickF ha) rfl ?_; clear ha; (try clear a); intro a ha
          refine nt_done (by kernel_rfl) ?_ _
          refine then_n ?_
          exact ⟨false, .inr ⟨rfl, h0⟩, ha.keep [0, 1, 5, 6, 7, 8, 10, 81], hs.sub⟩
      · clear ha; (try clear hs)
        intro a w hcut
        obtain ⟨ok, hcase, ha, hs⟩ := hcut
        refine wp_ifF ha ?_
        refine wp_skip ?_
        refine then_n ?_
        refine wp_seq ?_
        refine wp_seq ?_
        refine wp_region_lit ?_
        refine wpList_k (st_set ha rfl (ex_move ha) rfl ?_); clear ha; (try clear a); intro a ha
        refine wpList_k (st_set ha rfl (ex_not ha) rfl ?_); clear ha; (try clear a); intro a ha
        refine wpList_nil ?_
        refine then_n ?_
        refine wp_if ha (fun hc2 => ?_) (fun hc2 => ?_)
        ·
          try simp only [decide_eq_true_eq, decide_eq_false_iff_not, Bool.not_eq_true', Bool.not_eq_false', Int.not_lt, Int.not_le, ne_eq, Decidable.not_not] at hc2
          have h0 : z.1.refs = 0 := by
            rcases hcase with ⟨rfl, _⟩ | ⟨_, h⟩
            · cases hc2
            · exact h
          rw [if_neg (by omega)] at hlt
          refine wp_exit ?_
          refine then_e <| blk_e ?_
          refine then_n ?_
          refine wp_region_lit ?_
          refine wpList_k (st_set ha rfl (ex_move ha) rfl ?_); clear ha; (try clear a); intro a ha
          refine wpList_k (st_set ha rfl (ex_addI ha (by omega) (by omega)) rfl ?_); clear ha; (try clear a); intro a ha
          replace ha := ha.del 7
          refine wpList_k (st_set ha rfl (ex_assign ha) rfl ?_); clear ha; (try clear a); intro a ha
          refine wpList_nil ?_
          refine then_n ?_
          exact ⟨B.length - (i + 1), by omega, i + 1, ⟨rfl, by omega⟩, (by rw [show (live (B.take (i + 1))).length = (live (B.take i)).length from hlt]; exact ha.keep [0, 1, 5, 6, 7]), hs.sub⟩
        ·
          try simp only [decide_eq_true_eq, decide_eq_false_iff_not, Bool.not_eq_true', Bool.not_eq_false', Int.not_lt, Int.not_le, ne_eq, Decidable.not_not] at hc2
          have h0 : 0 < z.1.refs := by
            rcases hcase with ⟨_, h⟩ | ⟨rfl, _⟩
            · exact h
            · cases hc2
          rw [if_pos h0] at hlt
          obtain ⟨hat, hzl⟩ := hB.at hz h0
          obtain ⟨ix, hix⟩ : ∃ ix, idx B i = ix := ⟨_, rfl⟩
          rw [hix] at hat
          have hixl := (List.getElem?_eq_some_iff.1 hat).1
          refine wp_skip ?_
          refine then_n ?_
          refine wp_seq ?_
          refine wp_region_lit ?_
          refine wpList_k (st_set ha rfl (ex_move ha) rfl ?_); clear ha; (try clear a); intro a ha
          refine wpList_k (st_set ha rfl (ex_addI ha (by omega) (by omega)) rfl ?_); clear ha; (try clear a); intro a ha
          replace ha := ha.del 6
          refine wpList_k (st_set ha rfl (ex_assign ha) rfl ?_); clear ha; (try clear a); intro a ha
          refine wpList_nil ?_
          rw [show (((live (B.take i)).length : Int) + 1) = (((live (B.take (i + 1))).length : Nat) : Int) from by rw [hlt]; rfl] at ha
          refine then_n ?_
          refine wp_seq ?_
          refine wp_region_lit ?_
          refine wpList_k (st_set ha rfl (ex_assign ha) rfl ?_); clear ha; (try clear a); intro a ha
          refine wpList_nil ?_
          refine then_n ?_
          refine wp_seq ?_
          refine wp_block ?_
          refine wp_loop_ghost (fun μ a w => ∃ at' : Nat, (μ = A.pics.length - at' ∧ at' ≤ ix) ∧ Fr a 174 [(0, .pointer (some ⟨bb, 0, none⟩)), (1, .pointer (some ⟨q, 0, none⟩)), (5, .slice adl A.pics.length cl), (6, .int .i64 (live (B.take (i + 1))).length), (7, .int .i64 i), (8, .pointer (some ⟨b8, 0, none⟩)), (11, .int .i64 at')] ∧ St W w (blk b8 92 (bkc z) :: Sl 25 1 adl A.pics.length cl (A.pics.map fun x => .int .i64 x.id) :: Book bb A.room nx B :: Store q r A :: L)) (A.pics.length) ?_ ?_
          · exact ⟨0, ⟨by simp, by simp⟩, ha.keep [0, 1, 5, 6, 7, 8, 11], hs.sub⟩
          ·
            clear ha hs
            rintro μ a w ⟨at', ⟨rfl, hai⟩, ha, hs⟩
            refine wp_seq ?_
            refine wp_seq ?_
            obtain ⟨bl, ol, hadl, hlr⟩ := hs.drew.slRd adl (by omega)
            rw [hadl] at ha
            obtain ⟨y, hy⟩ : ∃ y, A.pics[at']? = some y := ⟨_, List.getElem?_eq_getElem (by omega)⟩
            have hyc := hlr at' (.int .i64 y.id) (by rw [List.getElem?_map, hy]; rfl)
            refine wp_draw (m := 13) (l0 := lb 13 0) (Old w.drew) [10] Ty.mixed (by kernel_rfl) (by kernel_rfl) (pk_then (pk_then (pk_then (pk_blk (pk_then (pk_blk (pk_then (pk_then (pk_blk (pk_then pk_body)))))))))) (fun hpk => ?_)
            replace hs := hs.drew
            have hC := Old.refl w.drew
            generalize w.drew = w at hs hC hpk hyc ⊢
            refine nt_pure (i := 0) (listed' := lb 13 1) (by kernel_rfl) rfl (by kernel_rfl) (by decide) hpk ha rfl (fun w => ex_move ha) rfl ?_; clear ha; (try clear a); intro a ha
            refine nt_pure (i := 1) (listed' := lb 13 3) (by kernel_rfl) rfl (by kernel_rfl) (by decide) hpk ha rfl (fun w => ex_move ha) rfl ?_; clear ha; (try clear a); intro a ha
            refine nt_pure (i := 2) (listed' := lb 13 7) (by kernel_rfl) rfl (by kernel_rfl) (by decide) hpk ha rfl (fun w => ex_len ha Try.underlying42) rfl ?_; clear ha; (try clear a); intro a ha
            refine nt_pure (i := 3) (listed' := lb 13 15) (by kernel_rfl) rfl (by kernel_rfl) (by decide) hpk ha rfl (fun w => ex_lss ha) rfl ?_; clear ha; (try clear a); intro a ha
            refine nt_pure (i := 4) (listed' := lb 13 31) (by kernel_rfl) rfl (by kernel_rfl) (by decide) hpk ha rfl (fun w => ex_move ha) rfl ?_; clear ha; (try clear a); intro a ha
            rw [decide_eq_true (by omega)] at ha
            refine nt_pure (i := 5) (listed' := lb 13 63) (by kernel_rfl) rfl (by kernel_rfl) (by decide) hpk ha (wgT ha rfl (s := 90)) (fun w => ex_move ha) rfl ?_; clear ha; (try clear a); intro a ha
            refine nt_pure (i := 6) (listed' := lb 13 127) (by kernel_rfl) rfl (by kernel_rfl) (by decide) hpk ha (wgT ha rfl (s := 90)) (fun w => ex_move ha) rfl ?_; clear ha; (try clear a); intro a ha
            refine nt_pure (i := 7) (listed' := lb 13 255) (by kernel_rfl) rfl (by kernel_rfl) (by decide) hpk ha (wgT ha rfl (s := 90)) (fun w => ex_indexAddr ha Try.underlying42 Ty.t25 (by omega)) rfl ?_; clear ha; (try clear a); intro a ha
            rw [Nat.mul_one] at ha
            refine nt_pure (i := 9) (listed' := lb 13 767) (by kernel_rfl) rfl (by kernel_rfl) (by decide) hpk ha (wgT ha rfl (s := 90)) (fun w => ex_fieldAddr (k := 0) ha Try.underlying92 rfl Ty.t25 rfl) rfl ?_; clear ha; (try clear a); intro a ha
            refine nt_held (i := 8) (listed' := lb 13 1023) (by kernel_rfl) rfl (by kernel_rfl) hpk ha (wgT ha rfl (s := 90)) (fun w hc => ex_load1 ha Try.underlying25 rfl (hc.cell (hyc))) hC rfl ?_; clear ha; (try clear a); intro a ha
            refine nt_one (i := 10) (listed' := lb 13 2047) (by kernel_rfl) (by kernel_rfl) rfl (st_set ha (wgT ha rfl (s := 90)) (ex_load1 ha Try.underlying25 rfl (hs.rd1 rfl)) rfl ?_); clear ha; (try clear a); intro a ha
            refine ⟨fun _ => hC, ?_⟩
            refine nt_pure (i := 11) (listed' := lb 13 4095) (by kernel_rfl) rfl (by kernel_rfl) (by decide) hpk ha (wgT ha rfl (s := 90)) (fun w => ex_neq ha) rfl ?_; clear ha; (try clear a); intro a ha
            refine nt_pure (i := 12) (listed' := lb 13 8191) (by kernel_rfl) rfl (by kernel_rfl) (by decide) hpk ha rfl (fun w => ex_pickT ha) rfl ?_; clear ha; (try clear a); intro a ha
            refine nt_done (by kernel_rfl) ?_ _
            refine then_n ?_
            refine wp_if ha (fun hc3 => ?_) (fun hc3 => ?_)
            ·
              try simp only [decide_eq_true_eq, decide_eq_false_iff_not, Bool.not_eq_true', Bool.not_eq_false', Int.not_lt, Int.not_le, ne_eq, Decidable.not_not] at hc3
              have hne : at' ≠ ix := fun e => by
                subst e
                rw [hat] at hy; cases hy
                exact hc3 rfl
              refine wp_skip ?_
              refine then_n ?_
              refine wp_block ?_
              refine wp_region_lit ?_
              refine wpList_k (st_set ha rfl (ex_move ha) rfl ?_); clear ha; (try clear a); intro a ha
              refine wpList_k (st_set ha rfl (ex_addI ha (by omega) (by omega)) rfl ?_); clear ha; (try clear a); intro a ha
              replace ha := ha.del 11
              refine wpList_k (st_set ha rfl (ex_assign ha) rfl ?_); clear ha; (try clear a); intro a ha
              refine wpList_nil ?_
              refine blk_n <| then_n ?_
              rw [← hadl] at ha
              exact ⟨A.pics.length - (at' + 1), by omega, at' + 1, ⟨rfl, by omega⟩, ha.keep [0, 1, 5, 6, 7, 8, 11], hs.sub⟩
            ·
              try simp only [decide_eq_true_eq, decide_eq_false_iff_not, Bool.not_eq_true', Bool.not_eq_false', Int.not_lt, Int.not_le, ne_eq, Decidable.not_not] at hc3
              obtain rfl : at' = ix := hwf.ids hy hat (by have : (stp z).id = z.1.id := rfl; omega)
              rw [← hadl] at ha
              refine wp_exit ?_
              refine then_e <| then_e <| blk_e ?_
              refine then_n ?_
              refine wp_seq ?_
              refine wp_region_lit ?_
              refine wpList_k (st_set ha rfl (ex_move ha) rfl ?_); clear ha; (try clear a); intro a ha
              refine wpList_k (st_set ha rfl (ex_fieldAddr (k := 0) ha Try.underlying92 rfl Ty.t25 rfl) rfl ?_); clear ha; (try clear a); intro a ha
              refine wpList_k (st_set ha rfl (ex_load1 ha Try.underlying25 rfl (hs.rd1 rfl)) rfl ?_); clear ha; (try clear a); intro a ha
              refine wpList_k (st_call ha rfl Ty.c28 rfl (snap_pages (i := at') (x := stp z) (hs.store q) hat) ?_); clear ha hs
              rintro e w ⟨adp, cp, rfl, hs⟩
              refine ⟨_, rfl, ?_⟩
              intro a ha
              refine wpList_k (st_set ha rfl (ex_assign ha) rfl ?_); clear ha; (try clear a); intro a ha
              refine wpList_nil ?_
              refine then_n ?_
              refine wp_seq ?_
              refine wp_seq ?_
              refine wp_region_lit ?_
              refine wpList_k (st_set ha rfl (ex_assign ha) rfl ?_); clear ha; (try clear a); intro a ha
              refine wpList_nil ?_
              refine then_n ?_
              refine wp_block ?_
              refine wp_loop_ghost (fun μ a w => ∃ k : Nat, (μ = 4 - k ∧ k ≤ 4) ∧ Fr a 174 [(0, .pointer (some ⟨bb, 0, none⟩)), (1, .pointer (some ⟨q, 0, none⟩)), (5, .slice adl A.pics.length cl), (6, .int .i64 (live (B.take (i + 1))).length), (7, .int .i64 i), (8, .pointer (some ⟨b8, 0, none⟩)), (11, .int .i64 at'), (12, .slice adp 4 cp), (13, .int .i64 k)] ∧ St W w (Sl 3 1 adp 4 cp (ints .i64 4 (fun k => ((stp z).p k : Int) + 1)) :: blk b8 92 (bkc z) :: Sl 25 1 adl A.pics.length cl (A.pics.map fun x => .int .i64 x.id) :: Book bb A.room nx B :: Store q r A :: L)) (4) ?_ ?_
              · exact ⟨0, ⟨by simp, by simp⟩, ha.keep [0, 1, 5, 6, 7, 8, 11, 12, 13], hs.sub⟩
              ·
                clear ha hs
                rintro μ a w ⟨k, ⟨rfl, hk⟩, ha, hs⟩
                refine wp_seq ?_
                refine wp_seq ?_
                refine wp_region_lit ?_
                refine wpList_k (st_set ha rfl (ex_move ha) rfl ?_); clear ha; (try clear a); intro a ha
                refine wpList_k (st_set ha rfl (ex_lss ha) rfl ?_); clear ha; (try clear a); intro a ha
                refine wpList_nil ?_
                refine then_n ?_
                refine wp_if ha (fun hc4 => ?_) (fun hc4 => ?_)
                ·
                  try simp only [decide_eq_true_eq, decide_eq_false_iff_not, Bool.not_eq_true', Bool.not_eq_false', Int.not_lt, Int.not_le, ne_eq, Decidable.not_not] at hc4
                  refine wp_skip ?_
                  refine then_n ?_
                  refine wp_seq ?_
                  refine wp_block ?_
                  refine wp_seq ?_
                  obtain ⟨bp, op, hadp, hpr⟩ := hs.drew.slRd adp (by omega)
                  rw [hadp] at ha
                  rw [hadp] at hs
                  have hpc := hpr k (.int .i64 (((stp z).p k : Int) + 1)) (ints_get _ (by omega))
                  have hzc : w.drew.cell? ⟨b8, 34 + k, none⟩ = some (.int .i64 (z.1.p k)) := hs.drew.rd1 (bkc_p z (by omega))
                  refine wp_draw (m := 14) (l0 := lb 14 0) (fun w' => w'.cell? ⟨bp, op + k, none⟩ = some (.int .i64 (((stp z).p k : Int) + 1)) ∧ w'.cell? ⟨b8, 34 + k, none⟩ = some (.int .i64 (z.1.p k))) [1, 6, 11] Ty.mixed (by kernel_rfl) (by kernel_rfl) (pk_then (pk_blk (pk_then (pk_then (pk_blk (pk_then (pk_blk (pk_then (pk_then (pk_blk (pk_then pk_body))))))))))) (fun hpk => ?_)
                  replace hs := hs.drew
                  generalize w.drew = w at hs hpk hpc hzc ⊢
                  have hC := And.intro hpc hzc
                  refine nt_pure (i := 0) (listed' := lb 14 1) (by kernel_rfl) rfl (by kernel_rfl) (by decide) hpk ha rfl (fun w => ex_move ha) rfl ?_; clear ha; (try clear a); intro a ha
                  refine nt_pure (i := 2) (listed' := lb 14 5) (by kernel_rfl) rfl (by kernel_rfl) (by decide) hpk ha rfl (fun w => ex_move ha) rfl ?_; clear ha; (try clear a); intro a ha
                  refine nt_pure (i := 3) (listed' := lb 14 13) (by kernel_rfl) rfl (by kernel_rfl) (by decide) hpk ha rfl (fun w => ex_move ha) rfl ?_; clear ha; (try clear a); intro a ha
                  refine nt_pure (i := 4) (listed' := lb 14 29) (by kernel_rfl) rfl (by kernel_rfl) (by decide) hpk ha rfl (fun w => ex_indexAddr ha Try.underlying45 Ty.t3 (by omega)) rfl ?_; clear ha; (try clear a); intro a ha
                  rw [Nat.mul_one] at ha
                  refine nt_pure (i := 7) (listed' := lb 14 157) (by kernel_rfl) rfl (by kernel_rfl) (by decide) hpk ha rfl (fun w => ex_move ha) rfl ?_; clear ha; (try clear a); intro a ha
                  refine nt_pure (i := 8) (listed' := lb 14 413) (by kernel_rfl) rfl (by kernel_rfl) (by decide) hpk ha rfl (fun w => ex_move ha) rfl ?_; clear ha; (try clear a); intro a ha
                  refine nt_pure (i := 9) (listed' := lb 14 925) (by kernel_rfl) rfl (by kernel_rfl) (by decide) hpk ha rfl (fun w => ex_fieldAddr (k := 34) ha Try.underlying92 rfl Ty.t67 rfl) rfl ?_; clear ha; (try clear a); intro a ha
                  refine nt_pure (i := 10) (listed' := lb 14 1949) (by kernel_rfl) rfl (by kernel_rfl) (by decide) hpk ha rfl (fun w => ex_indexAddrA ha Try.underlying67 Ty.t3 (by omega)) rfl ?_; clear ha; (try clear a); intro a ha
                  rw [Nat.mul_one] at ha
                  refine nt_held (i := 5) (listed' := lb 14 1981) (by kernel_rfl) rfl (by kernel_rfl) hpk ha rfl (fun w hc => ex_load1 ha Try.underlying3 rfl (hc.1)) hC rfl ?_; clear ha; (try clear a); intro a ha
                  refine nt_held (i := 11) (listed' := lb 14 4029) (by kernel_rfl) rfl (by kernel_rfl) hpk ha rfl (fun w hc => ex_load1 ha Try.underlying3 rfl (hc.2)) hC rfl ?_; clear ha; (try clear a); intro a ha
                  refine nt_one (i := 1) (listed' := lb 14 4031) (by kernel_rfl) (by kernel_rfl) rfl (st_call ha rfl Ty.c19 rfl (snap_room (hs.store q)) ?_); clear ha hs
                  rintro e w ⟨rfl, hs⟩
                  refine ⟨_, rfl, ?_⟩
                  intro a ha
                  replace hC : (fun w' => w'.cell? ⟨bp, op + k, none⟩ = some (.int .i64 (((stp z).p k : Int) + 1)) ∧ w'.cell? ⟨b8, 34 + k, none⟩ = some (.int .i64 (z.1.p k))) w := And.intro ((hs.slRdAt bp op (by omega)) k _ (ints_get _ (by omega))) (hs.rd1 (bkc_p z (by omega)))
                  refine ⟨fun _ => hC, ?_⟩
                  refine nt_one (i := 6) (listed' := lb 14 4095) (by kernel_rfl) (by kernel_rfl) rfl (st_call ha rfl Ty.c35 rfl (snap_prefs (i := at') (x := stp z) (k := k) (hs.store q) hat (by omega)) ?_); clear ha hs
                  rintro e w ⟨rfl, hs⟩
                  refine ⟨_, rfl, ?_⟩
                  intro a ha
                  replace hC : (fun w' => w'.cell? ⟨bp, op + k, none⟩ = some (.int .i64 (((stp z).p k : Int) + 1)) ∧ w'.cell? ⟨b8, 34 + k, none⟩ = some (.int .i64 (z.1.p k))) w := And.intro ((hs.slRdAt bp op (by omega)) k _ (ints_get _ (by omega))) (hs.rd1 (bkc_p z (by omega)))
                  refine ⟨fun _ => hC, ?_⟩
                  refine nt_one (i := 12) (listed' := lb 14 8191) (by kernel_rfl) (by kernel_rfl) rfl (st_call ha rfl Ty.c45 rfl (count_spec (p := z.1.p k) (hs.pick (Book bb A.room nx B))) ?_); clear ha hs
                  rintro e w ⟨rfl, hs⟩
                  refine ⟨_, rfl, ?_⟩
                  intro a ha
                  refine ⟨fun h => absurd h (by decide), ?_⟩
                  refine nt_pure (i := 13) (listed' := lb 14 16383) (by kernel_rfl) rfl (by kernel_rfl) (by decide) hpk ha rfl (fun w => ex_neq ha) rfl ?_; clear ha; (try clear a); intro a ha
                  rw [show cnt A.pics ((stp z).p k) = cntB B (z.1.p k) from hB.cnt hzl (by omega), decide_eq_false (by simp)] at ha
                  refine nt_done (by kernel_rfl) ?_ _
                  refine then_n ?_
                  refine wp_ifF ha ?_
                  refine wp_skip ?_
                  refine blk_n <| then_n ?_
                  refine wp_region_lit ?_
                  refine wpList_k (st_set ha rfl (ex_move ha) rfl ?_); clear ha; (try clear a); intro a ha
                  refine wpList_k (st_set ha rfl (ex_addI ha (by omega) (by omega)) rfl ?_); clear ha; (try clear a); intro a ha
                  replace ha := ha.del 13
                  refine wpList_k (st_set ha rfl (ex_assign ha) rfl ?_); clear ha; (try clear a); intro a ha
                  refine wpList_nil ?_
                  refine then_n ?_
                  rw [← hadp] at ha hs
                  exact ⟨4 - (k + 1), by omega, k + 1, ⟨rfl, by omega⟩, ha.keep [0, 1, 5, 6, 7, 8, 11, 12, 13], hs.sub⟩
                ·
                  try simp only [decide_eq_true_eq, decide_eq_false_iff_not, Bool.not_eq_true', Bool.not_eq_false', Int.not_lt, Int.not_le, ne_eq, Decidable.not_not] at hc4
                  refine wp_exit ?_
                  refine then_e <| then_e <| blk_e ?_
                  refine then_n ?_
                  refine wp_seq ?_
                  obtain ⟨bl, ol, hadl2, hlr⟩ := hs.drew.slRd adl (by omega)
                  rw [hadl2] at ha
                  have hyc := hlr at' (.int .i64 z.1.id) (by rw [List.getElem?_map, hat]; rfl)
                  obtain ⟨y2, hy2⟩ : ∃ y2, 0 < at' → A.pics[at' - 1]? = some y2 ∧ y2.id < z.1.id := by
                    rcases Nat.eq_zero_or_pos at' with h | h
                    · exact ⟨stp z, fun h2 => by omega⟩
                    · obtain ⟨y2, hy2⟩ : ∃ y2, A.pics[at' - 1]? = some y2 := ⟨_, List.getElem?_eq_getElem (by omega)⟩
                      refine ⟨y2, fun _ => ⟨hy2, ?_⟩⟩
                      obtain ⟨h3, h4⟩ := List.getElem?_eq_some_iff.1 hy2
                      obtain ⟨h5, h6⟩ := List.getElem?_eq_some_iff.1 hat
                      have := List.pairwise_iff_getElem.1 hwf.sorted (at' - 1) at' (by simp; omega) (by simp; omega) (by omega)
                      simp only [List.getElem_map, h4, h6] at this
                      exact this
                  have hyc2 : 0 < at' → w.drew.cell? ⟨bl, ol + (at' - 1), none⟩ = some (.int .i64 y2.id) := fun h => hlr (at' - 1) _ (by rw [List.getElem?_map, (hy2 h).1]; rfl)
                  refine wp_draw (m := 20) (l0 := lb 20 0) (Old w.drew) [16] Ty.mixed (by kernel_rfl) (by kernel_rfl) (pk_then (pk_blk (pk_then (pk_then (pk_blk (pk_then pk_body)))))) (fun hpk => ?_)
                  replace hs := hs.drew
                  have hC := Old.refl w.drew
                  generalize w.drew = w at hs hC hpk hyc hyc2 ⊢
                  refine nt_pure (i := 0) (listed' := lb 20 1) (by kernel_rfl) rfl (by kernel_rfl) (by decide) hpk ha rfl (fun w => ex_move ha) rfl ?_; clear ha; (try clear a); intro a ha
                  refine nt_pure (i := 1) (listed' := lb 20 3) (by kernel_rfl) rfl (by kernel_rfl) (by decide) hpk ha rfl (fun w => ex_move ha) rfl ?_; clear ha; (try clear a); intro a ha
                  refine nt_pure (i := 2) (listed' := lb 20 7) (by kernel_rfl) rfl (by kernel_rfl) (by decide) hpk ha rfl (fun w => ex_len ha Try.underlying42) rfl ?_; clear ha; (try clear a); intro a ha
                  refine nt_pure (i := 3) (listed' := lb 20 15) (by kernel_rfl) rfl (by kernel_rfl) (by decide) hpk ha rfl (fun w => ex_eql ha) rfl ?_; clear ha; (try clear a); intro a ha
                  refine nt_pure (i := 4) (listed' := lb 20 31) (by kernel_rfl) rfl (by kernel_rfl) (by decide) hpk ha rfl (fun w => ex_move ha) rfl ?_; clear ha; (try clear a); intro a ha
                  rw [decide_eq_false (by omega)] at ha
                  refine nt_pure (i := 5) (listed' := lb 20 63) (by kernel_rfl) rfl (by kernel_rfl) (by decide) hpk ha (wgT ha rfl (s := 127)) (fun w => ex_move ha) rfl ?_; clear ha; (try clear a); intro a ha
                  refine nt_pure (i := 6) (listed' := lb 20 127) (by kernel_rfl) rfl (by kernel_rfl) (by decide) hpk ha (wgT ha rfl (s := 127)) (fun w => ex_gtr ha) rfl ?_; clear ha; (try clear a); intro a ha
                  refine nt_pure (i := 7) (listed' := lb 20 255) (by kernel_rfl) rfl (by kernel_rfl) (by decide) hpk ha (wgT ha rfl (s := 127)) (fun w => ex_move ha) rfl ?_; clear ha; (try clear a); intro a ha
                  refine ha.bool (s := 130) (fun hg7 ha => ?_) (fun hg7 ha => ?_)
                  ·
                    try simp only [decide_eq_true_eq, decide_eq_false_iff_not, Bool.not_eq_true', Bool.not_eq_false', Int.not_lt, Int.not_le, ne_eq, Decidable.not_not] at hg7
                    refine nt_pure (i := 8) (listed' := lb 20 511) (by kernel_rfl) rfl (by kernel_rfl) (by decide) hpk ha (wgT ha rfl (s := 130)) (fun w => ex_move ha) rfl ?_; clear ha; (try clear a); intro a ha
                    refine nt_pure (i := 9) (listed' := lb 20 1023) (by kernel_rfl) rfl (by kernel_rfl) (by decide) hpk ha (wgT ha rfl (s := 130)) (fun w => ex_move ha) rfl ?_; clear ha; (try clear a); intro a ha
                    refine nt_pure (i := 10) (listed' := lb 20 2047) (by kernel_rfl) rfl (by kernel_rfl) (by decide) hpk ha (wgT ha rfl (s := 130)) (fun w => ex_indexAddr ha Try.underlying42 Ty.t25 (by omega)) rfl ?_; clear ha; (try clear a); intro a ha
                    rw [Nat.mul_one] at ha
                    refine nt_pure (i := 12) (listed' := lb 20 6143) (by kernel_rfl) rfl (by kernel_rfl) (by decide) hpk ha (wgT ha rfl (s := 130)) (fun w => ex_move ha) rfl ?_; clear ha; (try clear a); intro a ha
                    refine nt_pure (i := 13) (listed' := lb 20 14335) (by kernel_rfl) rfl (by kernel_rfl) (by decide) hpk ha (wgT ha rfl (s := 130)) (fun w => ex_move ha) rfl ?_; clear ha; (try clear a); intro a ha
                    refine nt_pure (i := 14) (listed' := lb 20 30719) (by kernel_rfl) rfl (by kernel_rfl) (by decide) hpk ha (wgT ha rfl (s := 130)) (fun w => ex_subI ha (by omega) (by omega)) rfl ?_; clear ha; (try clear a); intro a ha
                    rw [show ((at' : Int) - 1) = ((at' - 1 : Nat) : Int) from by omega] at ha
                    refine nt_pure (i := 15) (listed' := lb 20 63487) (by kernel_rfl) rfl (by kernel_rfl) (by decide) hpk ha (wgT ha rfl (s := 130)) (fun w => ex_indexAddr ha Try.underlying42 Ty.t25 (by omega)) rfl ?_; clear ha; (try clear a); intro a ha
                    rw [Nat.mul_one] at ha
                    refine nt_held (i := 11) (listed' := lb 20 65535) (by kernel_rfl) rfl (by kernel_rfl) hpk ha (wgT ha rfl (s := 130)) (fun w hc => ex_load1 ha Try.underlying25 rfl (hc.cell (hyc))) hC rfl ?_; clear ha; (try clear a); intro a ha
                    refine nt_one (i := 16) (listed' := lb 20 131071) (by kernel_rfl) (by kernel_rfl) rfl (st_set ha (wgT ha rfl (s := 130)) (ex_load1 ha Try.underlying25 rfl (hyc2 (by omega))) rfl ?_); clear ha; (try clear a); intro a ha
                    refine ⟨fun _ => hC, ?_⟩
                    refine nt_pure (i := 17) (listed' := lb 20 262143) (by kernel_rfl) rfl (by kernel_rfl) (by decide) hpk ha (wgT ha rfl (s := 130)) (fun w => ex_leq ha) rfl ?_; clear ha; (try clear a); intro a ha
                    rw [decide_eq_false (by have := (hy2 (by omega)).2; omega)] at ha
                    refine nt_pure (i := 18) (listed' := lb 20 524287) (by kernel_rfl) rfl (by kernel_rfl) (by decide) hpk ha (wgT ha rfl (s := 127)) (fun w => ex_pickT ha) rfl ?_; clear ha; (try clear a); intro a ha
                    refine nt_pure (i := 19) (listed' := lb 20 1048575) (by kernel_rfl) rfl (by kernel_rfl) (by decide) hpk ha rfl (fun w => ex_pickF ha) rfl ?_; clear ha; (try clear a); intro a ha
                    refine nt_done (by kernel_rfl) ?_ _
                    refine then_n ?_
                    refine wp_ifF ha ?_
                    refine wp_skip ?_
                    refine blk_n <| then_n ?_
                    refine wp_region_lit ?_
                    refine wpList_k (st_set ha rfl (ex_move ha) rfl ?_); clear ha; (try clear a); intro a ha
                    refine wpList_k (st_set ha rfl (ex_addI ha (by omega) (by omega)) rfl ?_); clear ha; (try clear a); intro a ha
                    replace ha := ha.del 7
                    refine wpList_k (st_set ha rfl (ex_assign ha) rfl ?_); clear ha; (try clear a); intro a ha
                    refine wpList_nil ?_
                    refine then_n ?_
                    rw [← hadl2] at ha
                    exact ⟨B.length - (i + 1), by omega, i + 1, ⟨rfl, by omega⟩, ha.keep [0, 1, 5, 6, 7], hs.sub⟩
                  ·
                    try simp only [decide_eq_true_eq, decide_eq_false_iff_not, Bool.not_eq_true', Bool.not_eq_false', Int.not_lt, Int.not_le, ne_eq, Decidable.not_not] at hg7
                    refine nt_off (i := 8) (listed' := lb 20 511) (by kernel_rfl) rfl (by kernel_rfl) (by decide) hpk ha (wgF ha rfl (s := 130) rfl) rfl ?_; clear ha; (try clear a); intro a ha
                    refine nt_off (i := 9) (listed' := lb 20 1023) (by kernel_rfl) rfl (by kernel_rfl) (by decide) hpk ha (wgF ha rfl (s := 130) rfl) rfl ?_; clear ha; (try clear a); intro a ha
                    refine nt_off (i := 10) (listed' := lb 20 2047) (by kernel_rfl) rfl (by kernel_rfl) (by decide) hpk ha (wgF ha rfl (s := 130) rfl) rfl ?_; clear ha; (try clear a); intro a ha
                    refine nt_off (i := 12) (listed' := lb 20 6143) (by kernel_rfl) rfl (by kernel_rfl) (by decide) hpk ha (wgF ha rfl (s := 130) rfl) rfl ?_; clear ha; (try clear a); intro a ha
                    refine nt_off (i := 13) (listed' := lb 20 14335) (by kernel_rfl) rfl (by kernel_rfl) (by decide) hpk ha (wgF ha rfl (s := 130) rfl) rfl ?_; clear ha; (try clear a); intro a ha
                    refine nt_off (i := 14) (listed' := lb 20 30719) (by kernel_rfl) rfl (by kernel_rfl) (by decide) hpk ha (wgF ha rfl (s := 130) rfl) rfl ?_; clear ha; (try clear a); intro a ha
                    refine nt_off (i := 15) (listed' := lb 20 63487) (by kernel_rfl) rfl (by kernel_rfl) (by decide) hpk ha (wgF ha rfl (s := 130) rfl) rfl ?_; clear ha; (try clear a); intro a ha
                    refine nt_offH (i := 11) (listed' := lb 20 65535) (by kernel_rfl) rfl (by kernel_rfl) hpk ha (wgF ha rfl (s := 130) rfl) hC rfl ?_; clear ha; (try clear a); intro a ha
                    refine nt_offH (i := 16) (listed' := lb 20 131071) (by kernel_rfl) rfl (by kernel_rfl) hpk ha (wgF ha rfl (s := 130) rfl) hC rfl ?_; clear ha; (try clear a); intro a ha
                    refine nt_off (i := 17) (listed' := lb 20 262143) (by kernel_rfl) rfl (by kernel_rfl) (by decide) hpk ha (wgF ha rfl (s := 130) rfl) rfl ?_; clear ha; (try clear a); intro a ha
                    refine nt_pure (i := 18) (listed' := lb 20 524287) (by kernel_rfl) rfl (by kernel_rfl) (by decide) hpk ha (wgT ha rfl (s := 127)) (fun w => ex_pickF ha) rfl ?_; clear ha; (try clear a); intro a ha
                    refine nt_pure (i := 19) (listed' := lb 20 1048575) (by kernel_rfl) rfl (by kernel_rfl) (by decide) hpk ha rfl (fun w => ex_pickF ha) rfl ?_; clear ha; (try clear a); intro a ha
                    refine nt_done (by kernel_rfl) ?_ _
                    refine then_n ?_
                    refine wp_ifF ha ?_
                    refine wp_skip ?_
                    refine blk_n <| then_n ?_
                    refine wp_region_lit ?_
                    refine wpList_k (st_set ha rfl (ex_move ha) rfl ?_); clear ha; (try clear a); intro a ha
                    refine wpList_k (st_set ha rfl (ex_addI ha (by omega) (by omega)) rfl ?_); clear ha; (try clear a); intro a ha
                    replace ha := ha.del 7
                    refine wpList_k (st_set ha rfl (ex_assign ha) rfl ?_); clear ha; (try clear a); intro a ha
                    refine wpList_nil ?_
                    refine then_n ?_
                    rw [← hadl2] at ha
                    exact ⟨B.length - (i + 1), by omega, i + 1, ⟨rfl, by omega⟩, ha.keep [0, 1, 5, 6, 7], hs.sub⟩
    ·
      try simp only [decide_eq_true_eq, decide_eq_false_iff_not, Bool.not_eq_true', Bool.not_eq_false', Int.not_lt, Int.not_le, ne_eq, Decidable.not_not] at hc0
      refine wp_exit ?_
      refine then_e <| then_e <| blk_e ?_
      refine then_n ?_
      refine wp_seq ?_
      obtain rfl : i = B.length := by omega
      rw [List.take_length] at ha
      have hbr : w.drew.cell? ⟨bb, 2, none⟩ = some (.int .i64 A.room) := by
        obtain ⟨_, _, _, ho⟩ := Book.open (hs.drew.pick (Book bb A.room nx B))
        exact ho.rd1 rfl
      refine wp_draw (m := 8) (l0 := lb 8 0) (fun w' => w'.cell? ⟨bb, 2, none⟩ = some (.int .i64 A.room)) [5] Ty.mixed (by kernel_rfl) (by kernel_rfl) (pk_then pk_body) (fun hpk => ?_)
      replace hs := hs.drew
      generalize w.drew = w at hs hpk hbr ⊢
      have hC := hbr
      refine nt_pure (i := 0) (listed' := lb 8 1) (by kernel_rfl) rfl (by kernel_rfl) (by decide) hpk ha rfl (fun w => ex_move ha) rfl ?_; clear ha; (try clear a); intro a ha
      refine nt_pure (i := 1) (listed' := lb 8 3) (by kernel_rfl) rfl (by kernel_rfl) (by decide) hpk ha rfl (fun w => ex_nilCheck ha) rfl ?_; clear ha; (try clear a); intro a ha
      refine nt_pure (i := 2) (listed' := lb 8 7) (by kernel_rfl) rfl (by kernel_rfl) (by decide) hpk ha rfl (fun w => ex_fieldAddr (k := 2) ha Try.underlying56 rfl Ty.t3 rfl) rfl ?_; clear ha; (try clear a); intro a ha
      refine nt_pure (i := 4) (listed' := lb 8 23) (by kernel_rfl) rfl (by kernel_rfl) (by decide) hpk ha rfl (fun w => ex_move ha) rfl ?_; clear ha; (try clear a); intro a ha
      refine nt_held (i := 3) (listed' := lb 8 31) (by kernel_rfl) rfl (by kernel_rfl) hpk ha rfl (fun w hc => ex_load1 ha Try.underlying3 rfl (hc)) hC rfl ?_; clear ha; (try clear a); intro a ha
      refine nt_one (i := 5) (listed' := lb 8 63) (by kernel_rfl) (by kernel_rfl) rfl (st_call ha rfl Ty.c43 rfl (used_spec (hs.pick (Book bb A.room nx B)) hB.zero (by omega)) ?_); clear ha hs
      rintro e w ⟨rfl, hs⟩
      refine ⟨_, rfl, ?_⟩
      intro a ha
      replace hC : (fun w' => w'.cell? ⟨bb, 2, none⟩ = some (.int .i64 A.room)) w := (by
        obtain ⟨_, _, _, ho⟩ := Book.open (hs.pick (Book bb A.room nx B))
        exact ho.rd1 rfl)
      refine ⟨fun _ => hC, ?_⟩
      refine nt_pure (i := 6) (listed' := lb 8 127) (by kernel_rfl) rfl (by kernel_rfl) (by decide) hpk ha rfl (fun w => ex_subI ha (by omega) (by omega)) rfl ?_; clear ha; (try clear a); intro a ha
      refine nt_pure (i := 7) (listed' := lb 8 255) (by kernel_rfl) rfl (by kernel_rfl) (by decide) hpk ha rfl (fun w => ex_assign ha) rfl ?_; clear ha; (try clear a); intro a ha
      refine nt_done (by kernel_rfl) ?_ _
      refine then_n ?_
      refine wp_seq ?_
      refine wp_region_lit ?_
      refine wpList_k (st_set ha rfl (ex_move ha) rfl ?_); clear ha; (try clear a); intro a ha
      refine wpList_k (st_set ha rfl (ex_len ha Try.underlying42) rfl ?_); clear ha; (try clear a); intro a ha
      refine wpList_k (st_set ha rfl (ex_move ha) rfl ?_); clear ha; (try clear a); intro a ha
      refine wpList_k (st_set ha rfl (ex_eql ha) rfl ?_); clear ha; (try clear a); intro a ha
      refine wpList_k (st_set ha rfl (ex_move ha) rfl ?_); clear ha; (try clear a); intro a ha
      rw [decide_eq_true (by rw [hpl])] at ha
      refine wpList_k (st_set ha (wgT ha rfl (s := 154)) (ex_move ha) rfl ?_); clear ha; (try clear a); intro a ha
      refine wpList_k (st_call ha (wgT ha rfl (s := 154)) Ty.c19 rfl (snap_room (hs.store q)) ?_); clear ha hs
      rintro e w ⟨rfl, hs⟩
      refine ⟨_, rfl, ?_⟩
      intro a ha
      refine wpList_k (st_call ha (wgT ha rfl (s := 154)) Ty.c20 rfl (snap_used (hs.store q)) ?_); clear ha hs
      rintro e w ⟨rfl, hs⟩
      refine ⟨_, rfl, ?_⟩
      intro a ha
      refine wpList_k (st_set ha (wgT ha rfl (s := 154)) (ex_move ha) rfl ?_); clear ha; (try clear a); intro a ha
      refine wpList_k (st_call ha (wgT ha rfl (s := 154)) Ty.c43 rfl (used_spec (hs.pick (Book bb A.room nx B)) hB.zero (by omega)) ?_); clear ha hs
      rintro e w ⟨rfl, hs⟩
      refine ⟨_, rfl, ?_⟩
      intro a ha
      refine wpList_k (st_set ha (wgT ha rfl (s := 154)) (ex_eql ha) rfl ?_); clear ha; (try clear a); intro a ha
      refine wpList_k (st_set ha rfl (ex_pickT ha) rfl ?_); clear ha; (try clear a); intro a ha
      refine wpList_k (st_set ha rfl (ex_move ha) rfl ?_); clear ha; (try clear a); intro a ha
      rw [decide_eq_true (by rw [hu])] at ha
      refine wpList_k (st_set ha (wgT ha rfl (s := 162)) (ex_move ha) rfl ?_); clear ha; (try clear a); intro a ha
      refine wpList_k (st_set ha (wgT ha rfl (s := 162)) (ex_move ha) rfl ?_); clear ha; (try clear a); intro a ha
      refine wpList_k (st_call ha (wgT ha rfl (s := 162)) Ty.c24 rfl (snap_has (hs.store q)) ?_); clear ha hs
      rintro e w ⟨rfl, hs⟩
      refine ⟨_, rfl, ?_⟩
      intro a ha
      refine wpList_k (st_set ha rfl (ex_pickT ha) rfl ?_); clear ha; (try clear a); intro a ha
      refine wpList_k (st_set ha rfl (ex_move ha) rfl ?_); clear ha; (try clear a); intro a ha
      rw [decide_eq_true (by omega)] at ha
      refine wpList_k (st_set ha (wgT ha rfl (s := 167)) (ex_move ha) rfl ?_); clear ha; (try clear a); intro a ha
      refine wpList_k (st_set ha (wgT ha rfl (s := 167)) (ex_move ha) rfl ?_); clear ha; (try clear a); intro a ha
      refine wpList_k (st_set ha (wgT ha rfl (s := 167)) (ex_addI ha (by omega) (by omega)) rfl ?_); clear ha; (try clear a); intro a ha
      refine wpList_k (st_call ha (wgT ha rfl (s := 167)) Ty.c24 rfl (snap_has (hs.store q)) ?_); clear ha hs
      rintro e w ⟨rfl, hs⟩
      refine ⟨_, rfl, ?_⟩
      intro a ha
      refine wpList_k (st_set ha (wgT ha rfl (s := 167)) (ex_not ha) rfl ?_); clear ha; (try clear a); intro a ha
      refine wpList_k (st_set ha rfl (ex_pickT ha) rfl ?_); clear ha; (try clear a); intro a ha
      refine wpList_k (st_set ha rfl (ex_assign ha) rfl ?_); clear ha; (try clear a); intro a ha
      refine wpList_nil ?_
      refine then_n ?_
      refine wp_ret ?_
      refine ret1 ha rfl ?_
      refine ⟨?_, hs.sub⟩
      rw [decide_eq_false (by omega)]; rfl
end
end Go.Proofs.Ytpfblmpgljodmaa

