/- BranchAll: the walk. -/
import Derived.Test.YtkjmmchmanofkaaBranchI
import Derived.Test.YtkjmmchmanofkaaSnapW
namespace Go.Proofs.Ytkjmmchmanofkaa
open Go.RowKit
set_option linter.unusedVariables false
set_option linter.unusedSimpArgs false
set_option maxRecDepth 10000
set_option synthInstance.maxSize 4000
set_option synthInstance.maxHeartbeats 400000

theorem bop_one (k f d id : Int) (pa : Option Addr) (pl pc : Nat) (v : Int) (dead : Bool) : ∀ z ∈ bop k f d id pa pl pc v dead, z.oneCell' = true := by
  intro z hz
  simp [bop] at hz
  rcases hz with rfl | rfl | rfl | rfl | rfl | rfl | rfl <;> rfl
/-- Where the branch of that number lies among the first k: -1, or its index. -/
def AtK (ys : List Tw) (id : Int) (k : Nat) (a : Int) : Prop := (a = -1 ∧ ∀ j y, j < k → ys[j]? = some y → (y.1.id : Int) ≠ id) ∨ ∃ j y, j < k ∧ a = (j : Int) ∧ ys[j]? = some y ∧ (y.1.id : Int) = id
theorem AtK.zero (ys : List Tw) (id : Int) : AtK ys id 0 (-1) := .inl ⟨rfl, fun j y h => absurd h (by omega)⟩
theorem AtK.hit {ys : List Tw} {id : Int} {k : Nat} {y : Tw} (hy : ys[k]? = some y) (he : (y.1.id : Int) = id) : AtK ys id (k + 1) (k : Int) := .inr ⟨k, y, by omega, rfl, hy, he⟩
theorem AtK.miss {ys : List Tw} {id a : Int} {k : Nat} {y : Tw} (h : AtK ys id k a) (hy : ys[k]? = some y) (he : (y.1.id : Int) ≠ id) : AtK ys id (k + 1) a := by
  rcases h with ⟨h1, h2⟩ | ⟨j, z, h1, h2, h3, h4⟩
  · refine .inl ⟨h1, fun j z hj hz => ?_⟩
    by_cases hk : j = k
    · subst hk; rw [hy] at hz; cases hz; exact he
    · exact h2 j z (by omega) hz
  · exact .inr ⟨j, z, by omega, h2, h3, h4⟩
set_option maxHeartbeats 4000000 in
theorem branchAll_walk (most : Int) (a1 : Option Addr) (len1 cap1 : Nat) (W : World) (w0 : (Lit.int .i64 most).wf = true) (w1 : BOps W a1 len1) :
    Calls Try.prog 8 #[.int .i64 most, .slice a1 len1 cap1] W fun e w' => e = .returned (.bool true) ∧ Below W.heap.size W w' := by
  have hs := St.start W
  obtain ⟨M, hM⟩ : ∃ M : Nat, (min (max most 0) 8).toNat = M := ⟨_, rfl⟩
  have hb1 := w1.1
  refine calls_enter Try.func8 rfl Try.ntmps8 (Nat.le_of_ble_eq_true rfl) ?_
  intro a ha
  replace ha : Fr a 418 [(0, _), (1, _)] := ha
  refine wp_seq ?_
  refine wp_region_lit ?_
  refine wpList_k (st_set ha rfl (ex_assign ha) rfl ?_); clear ha; (try clear a); intro a ha
  refine wpList_nil ?_
  refine then_n ?_
  refine wp_seq ?_
  refine wp_region_lit ?_
  refine wpList_k (st_call ha rfl Ty.c9 rfl (begun23 hs) ?_); clear ha hs
  rintro e w ⟨rfl, hs⟩
  refine ⟨_, rfl, ?_⟩
  intro a ha
  refine wpList_k (st_set ha rfl (ex_assign ha) rfl ?_); clear ha; (try clear a); intro a ha
  refine wpList_nil ?_
  refine then_n ?_
  refine wp_seq ?_
  refine wp_seq ?_
  refine wp_region_lit ?_
  refine wpList_k (st_set ha rfl (ex_move ha) rfl ?_); clear ha; (try clear a); intro a ha
  refine wpList_k (st_set ha rfl (ex_not ha) rfl ?_); clear ha; (try clear a); intro a ha
  refine wpList_nil ?_
  refine then_n ?_
  refine wp_ifF ha ?_
  refine wp_skip ?_
  refine then_n ?_
  refine wp_seq ?_
  refine wp_region_lit ?_
  refine wpList_k (st_call ha rfl Ty.c11 rfl (snap_new (n := 30) hs (by decide)) ?_); clear ha hs
  rintro e w ⟨q, r, rfl, hs⟩
  refine ⟨_, rfl, ?_⟩
  intro a ha
  refine wpList_k (st_set ha rfl (ex_assign ha) rfl ?_); clear ha; (try clear a); intro a ha
  refine wpList_nil ?_
  refine then_n ?_
  refine wp_seq ?_
  refine wp_region_lit ?_
  refine wpList_k (st_set ha rfl (ex_move ha) rfl ?_); clear ha; (try clear a); intro a ha
  refine wpList_k (st_set ha rfl (ex_move ha) rfl ?_); clear ha; (try clear a); intro a ha
  refine wpList_k (st_call ha rfl Ty.c12 rfl (tree_new (m := most) hs) ?_); clear ha hs
  rintro e w ⟨tq, rfl, hs⟩
  refine ⟨_, rfl, ?_⟩
  intro a ha
  rw [hM] at hs
  refine wpList_k (st_set ha rfl (ex_assign ha) rfl ?_); clear ha; (try clear a); intro a ha
  refine wpList_nil ?_
  refine then_n ?_
  refine wp_seq ?_
  refine wp_region_lit ?_
  refine wpList_k (st_set ha rfl (ex_move ha) rfl ?_); clear ha; (try clear a); intro a ha
  refine wpList_k (st_set ha rfl (ex_min ha) rfl ?_); clear ha; (try clear a); intro a ha
  refine wpList_k (st_set ha rfl (ex_max ha) rfl ?_); clear ha; (try clear a); intro a ha
  rw [show max 0 (min most 8) = (M : Int) from by omega] at ha
  replace ha := ha.del 0
  refine wpList_k (st_set ha rfl (ex_assign ha) rfl ?_); clear ha; (try clear a); intro a ha
  refine wpList_nil ?_
  refine then_n ?_
  refine wp_seq ?_
  refine wp_region_lit ?_
  refine wpList_k (st_set ha rfl (ex_move ha) rfl ?_); clear ha; (try clear a); intro a ha
  refine wpList_k (st_set ha rfl (ex_buildA0 ha Try.underlying34 Ty.t34 Ty.t21) rfl ?_); clear ha; (try clear a); intro a ha
  change Fr a 418 ((47, .agg (ints .i32 32 (fun _ => 0)).toArray) :: _) at ha
  refine wpList_k (st_call ha rfl Ty.c13 rfl (snap_make (hs.store q) (by decide) (by decide)) ?_); clear ha hs
  rintro e w ⟨t, rfl, ⟨ht1, ht2⟩, hs⟩
  refine ⟨_, rfl, ?_⟩
  intro a ha
  change St W w (Store q r ⟨1, 120, 1, [⟨1, 1, fun _ => 0, t⟩]⟩ :: _) at hs
  refine wpList_k (st_set ha rfl (ex_move ha) rfl ?_); clear ha; (try clear a); intro a ha
  refine wpList_k (st_set ha rfl (ex_extract ha rfl) rfl ?_); clear ha; (try clear a); intro a ha
  refine wpList_k (st_set ha rfl (ex_extract ha rfl) rfl ?_); clear ha; (try clear a); intro a ha
  refine wpList_k (st_set ha rfl (ex_assign ha) rfl ?_); clear ha; (try clear a); intro a ha
  refine wpList_k (st_set ha rfl (ex_assign ha) rfl ?_); clear ha; (try clear a); intro a ha
  refine wpList_nil ?_
  refine then_n ?_
  refine wp_seq ?_
  refine wp_seq ?_
  refine wp_region_lit ?_
  refine wpList_k (st_set ha rfl (ex_move ha) rfl ?_); clear ha; (try clear a); intro a ha
  refine wpList_k (st_set ha rfl (ex_not ha) rfl ?_); clear ha; (try clear a); intro a ha
  refine wpList_nil ?_
  refine then_n ?_
  refine wp_ifF ha ?_
  refine wp_skip ?_
  refine then_n ?_
  refine wp_seq ?_
  replace hs := hs.sl0 68 5 none
  replace hs := St.allNil (f := two) hs
  have hM8 : M ≤ 8 := by omega
  refine wp_region_lit ?_
  refine wpList_k (st_set ha rfl (ex_assign ha) rfl ?_); clear ha; (try clear a); intro a ha
  refine wpList_nil ?_
  refine then_n ?_
  refine wp_seq ?_
  refine wp_region_lit ?_
  refine wpList_k (st_set ha rfl (ex_assign ha) rfl ?_); clear ha; (try clear a); intro a ha
  refine wpList_k (st_set ha rfl (ex_assign ha) rfl ?_); clear ha; (try clear a); intro a ha
  refine wpList_nil ?_
  refine then_n ?_
  refine wp_seq ?_
  refine wp_seq ?_
  refine wp_region_lit ?_
  refine wpList_k (st_set ha rfl (ex_assign ha) rfl ?_); clear ha; (try clear a); intro a ha
  refine wpList_nil ?_
  refine then_n ?_
  refine wp_block ?_
  refine wp_loop_ghost (fun μ a w => ∃ (i : Nat) (ys : List Tw) (adl : Option Addr) (cl lt ep : Nat) (A : Sn), (μ = 40 - i ∧ i ≤ 40 ∧ i ≤ len1 ∧ lt ≤ i ∧ ep ≤ i ∧ TwOk W ys ∧ Held t A (ys.map (·.1)) ∧ A.room = 120 ∧ A.n ≤ 2 * i + 1) ∧ Fr a 418 [(0, .int .i64 M), (1, .slice a1 len1 cap1), (6, .pointer (some ⟨q, 0, none⟩)), (7, .pointer (some ⟨tq, 0, none⟩)), (8, .int .i64 ((1 : Nat) : Int)), (10, .slice adl ys.length cl), (11, .int .i64 lt), (12, .int .i64 ep), (13, .int .i64 i)] ∧ St W w [Tree tq q ⟨M, ys.map (·.1), lt, ep⟩, Store q r A, Sl 68 5 adl ys.length cl (rows tc ys), All two ys]) (40) ?_ ?_
  · exact ⟨0, [], none, 0, 0, 0, ⟨1, 120, 1, [⟨1, 1, fun _ => 0, t⟩]⟩, ⟨by simp, by simp, by simp, by simp, by simp, fun x hx => (by cases hx), ⟨rfl, by simp, by simp⟩, rfl, by simp⟩, ha.keep [0, 1, 6, 7, 8, 10, 11, 12, 13], hs.sub (M := [Tree tq q ⟨M, [], 0, 0⟩, Store q r ⟨1, 120, 1, [⟨1, 1, fun _ => 0, t⟩]⟩, Sl 68 5 none 0 0 [], All two []])⟩
  ·
    clear ha hs
    rintro μ a w ⟨i, ys, adl, cl, lt, ep, A, ⟨rfl, hi, hil, hlt, hep, hok, hH, hAr, hAn⟩, ha, hs⟩
    refine wp_seq ?_
    refine wp_seq ?_
    refine wp_region_lit ?_
    refine wpList_k (st_set ha rfl (ex_move ha) rfl ?_); clear ha; (try clear a); intro a ha
    refine wpList_k (st_set ha rfl (ex_move ha) rfl ?_); clear ha; (try clear a); intro a ha
    refine wpList_k (st_set ha rfl (ex_len ha Try.underlying63) rfl ?_); clear ha; (try clear a); intro a ha
    refine wpList_k (st_set ha rfl (ex_lss ha) rfl ?_); clear ha; (try clear a); intro a ha
    refine wpList_k (st_set ha rfl (ex_move ha) rfl ?_); clear ha; (try clear a); intro a ha
    refine ha.bool (s := 57) (fun hg4 ha => ?_) (fun hg4 ha => ?_)
    ·
      try simp only [decide_eq_true_eq, decide_eq_false_iff_not, Bool.not_eq_true', Bool.not_eq_false', Int.not_lt, Int.not_le, ne_eq, Decidable.not_not] at hg4
      refine wpList_k (st_set ha (wgT ha rfl (s := 57)) (ex_move ha) rfl ?_); clear ha; (try clear a); intro a ha
      refine wpList_k (st_set ha (wgT ha rfl (s := 57)) (ex_lss ha) rfl ?_); clear ha; (try clear a); intro a ha
      refine wpList_k (st_set ha rfl (ex_pickT ha) rfl ?_); clear ha; (try clear a); intro a ha
      refine wpList_nil ?_
      refine then_n ?_
      refine wp_if ha (fun hc2 => ?_) (fun hc2 => ?_)
      ·
        try simp only [decide_eq_true_eq, decide_eq_false_iff_not, Bool.not_eq_true', Bool.not_eq_false', Int.not_lt, Int.not_le, ne_eq, Decidable.not_not] at hc2
        refine wp_skip ?_
        refine then_n ?_
        refine wp_seq ?_
        refine wp_block ?_
        refine wp_seq ?_
        obtain ⟨bo, oo, rfl, hbo, hop⟩ := w1.2.resolve_left (by omega)
        obtain ⟨k, f, d, id, pa, pc, zs, v, dead, hrow, hzs⟩ := hop i (by omega)
        have hrow2 : Rd w bo (oo + i * 7) (bop k f d id pa zs.length pc v dead) := fun j v hj => (hs.old hbo).trans (hrow j v hj)
        obtain ⟨P, hP⟩ : ∃ P, (cut4 zs).map (·.2.2) = P := ⟨_, rfl⟩
        have hPl : min zs.length 4 = P.length := by rw [← hP, List.length_map, cut4_len]
        have hPo : OkP P := hP ▸ cut4_ok zs
        have hPc : (cut4 zs).length = P.length := by rw [← hP, List.length_map]
        have hPr := cut4_rd hzs
        obtain ⟨X, hX⟩ : ∃ X, cut4 zs = X := ⟨_, rfl⟩
        rw [hX] at hP hPc hPr
        refine wp_region_lit ?_
        refine wpList_k (st_set ha rfl (ex_move ha) rfl ?_); clear ha; (try clear a); intro a ha
        refine wpList_k (st_set ha rfl (ex_move ha) rfl ?_); clear ha; (try clear a); intro a ha
        refine wpList_k (st_set ha rfl (ex_indexAddr ha Try.underlying63 Ty.t66 (by omega)) rfl ?_); clear ha; (try clear a); intro a ha
        refine wpList_k (st_set ha rfl (ex_loadN ha Try.underlying66 rfl Ty.t66 (hrow2)) rfl ?_); clear ha; (try clear a); intro a ha
        refine wpList_k (st_alloc ha rfl hs Ty.t66 rfl ?_); clear ha hs; (try clear a); (try clear w); intro b14 a w ha hs ho
        clear ho
        refine wpList_k (st_storeAll ha rfl hs Ty.t66 (bop_one k f d id pa zs.length pc v dead) (by rfl) ?_); clear ha hs; (try clear a); (try clear w); intro a w ha hs
        refine wpList_nil ?_
        refine then_n ?_
        refine wp_seq ?_
        refine wp_region_lit ?_
        refine wpList_k (st_set ha rfl (ex_fieldAddr (k := 4) ha Try.underlying66 rfl Ty.t23 rfl) rfl ?_); clear ha; (try clear a); intro a ha
        refine wpList_k (st_set ha rfl (ex_load1 ha Try.underlying23 rfl (hs.rd1 rfl)) rfl ?_); clear ha; (try clear a); intro a ha
        refine wpList_k (st_call ha rfl Ty.c10 rfl (presses_spec hs hzs rfl) ?_); clear ha hs
        rintro e w ⟨adp, cp, rfl, hcp, hs⟩
        refine ⟨_, rfl, ?_⟩
        intro a ha
        rw [hPl] at ha hs hcp
        rw [hX] at hs
        refine wpList_k (st_set ha rfl (ex_fieldAddr (k := 4) ha Try.underlying66 rfl Ty.t23 rfl) rfl ?_); clear ha; (try clear a); intro a ha
        refine wpList_k (st_store ha rfl hs Ty.t23 rfl (by simp [bop]) ?_); clear ha hs; (try clear a); (try clear w); intro a w ha hs
        refine wpList_nil ?_
        change St W w (blk b14 66 (bop k f d id adp P.length cp v dead) :: _) at hs
        have hwt := Tree.wt (hs.tree tq)
        have hysl : (ys.map (·.1)).length = ys.length := List.length_map ..
        have hys8 : ys.length ≤ 8 := by have h1 : (ys.map (·.1)).length ≤ M := hwt.most.2; omega
        refine then_n ?_
        refine wp_seq ?_
        refine wp_region_lit ?_
        refine wpList_k (st_set ha rfl (ex_assign ha) rfl ?_); clear ha; (try clear a); intro a ha
        refine wpList_nil ?_
        refine then_n ?_
        refine wp_seq ?_
        refine wp_seq ?_
        refine wp_region_lit ?_
        refine wpList_k (st_set ha rfl (ex_assign ha) rfl ?_); clear ha; (try clear a); intro a ha
        refine wpList_nil ?_
        refine then_n ?_
        refine wp_block ?_
        refine wp_loop_ghost (fun μ a w => ∃ (k' : Nat) (at' : Int), (μ = ys.length - k' ∧ k' ≤ ys.length ∧ AtK ys id k' at') ∧ Fr a 418 [(0, .int .i64 M), (1, .slice (some ⟨bo, oo, none⟩) len1 cap1), (6, .pointer (some ⟨q, 0, none⟩)), (7, .pointer (some ⟨tq, 0, none⟩)), (8, .int .i64 ((1 : Nat) : Int)), (10, .slice adl ys.length cl), (11, .int .i64 lt), (12, .int .i64 ep), (13, .int .i64 i), (14, .pointer (some ⟨b14, 0, none⟩)), (15, .int .i64 at'), (16, .int .i64 k')] ∧ St W w [blk b14 66 (bop k f d id adp P.length cp v dead), Sl 48 1 adp P.length cp (X.map bbv), Tree tq q ⟨M, ys.map (·.1), lt, ep⟩, Store q r A, Sl 68 5 adl ys.length cl (rows tc ys), All two ys]) (ys.length) ?_ ?_
        · exact ⟨0, -1, ⟨by simp, by simp, AtK.zero ys id⟩, ha.keep [0, 1, 6, 7, 8, 10, 11, 12, 13, 14, 15, 16], hs.sub⟩
        ·
          clear ha hs
          rintro μ a w ⟨k', at', ⟨rfl, hk, hat⟩, ha, hs⟩
          refine wp_seq ?_
          refine wp_seq ?_
          refine wp_region_lit ?_
          refine wpList_k (st_set ha rfl (ex_move ha) rfl ?_); clear ha; (try clear a); intro a ha
          refine wpList_k (st_set ha rfl (ex_move ha) rfl ?_); clear ha; (try clear a); intro a ha
          refine wpList_k (st_set ha rfl (ex_len ha Try.underlying64) rfl ?_); clear ha; (try clear a); intro a ha
          refine wpList_k (st_set ha rfl (ex_lss ha) rfl ?_); clear ha; (try clear a); intro a ha
          refine wpList_nil ?_
          refine then_n ?_
          refine wp_if ha (fun hc3 => ?_) (fun hc3 => ?_)
          ·
            try simp only [decide_eq_true_eq, decide_eq_false_iff_not, Bool.not_eq_true', Bool.not_eq_false', Int.not_lt, Int.not_le, ne_eq, Decidable.not_not] at hc3
            refine wp_skip ?_
            refine then_n ?_
            refine wp_seq ?_
            refine wp_block ?_
            refine wp_seq ?_
            obtain ⟨bt, ot, rfl, hrt⟩ := hs.drew.slRd adl (by omega)
            obtain ⟨y, hyy⟩ : ∃ y, ys[k']? = some y := ⟨_, List.getElem?_eq_getElem (by omega)⟩
            have hyc := tw_rd hrt hyy 0 _ rfl
            have hoc : w.drew.cell? ⟨b14, 0 + 3, none⟩ = some (.int .i64 id) := hs.drew.rd1 rfl
            refine wp_draw (m := 8) (l0 := lb 8 0) (fun w' => w'.cell? ⟨bt, ot + k' * 5 + 0, none⟩ = some (.int .i64 y.1.id) ∧ w'.cell? ⟨b14, 0 + 3, none⟩ = some (.int .i64 id)) [6] Ty.mixed (by kernel_rfl) (by kernel_rfl) (pk_then (pk_blk (pk_then (pk_then (pk_blk (pk_then (pk_blk (pk_then (pk_then (pk_blk (pk_then pk_body))))))))))) (fun hpk => ?_)
            replace hs := hs.drew
            generalize w.drew = w at hs hpk hyc hoc ⊢
            have hC := And.intro hyc hoc
            refine nt_pure (i := 0) (listed' := lb 8 1) (by kernel_rfl) rfl (by kernel_rfl) (by decide) hpk ha rfl (fun w => ex_move ha) rfl ?_; clear ha; (try clear a); intro a ha
            refine nt_pure (i := 1) (listed' := lb 8 3) (by kernel_rfl) rfl (by kernel_rfl) (by decide) hpk ha rfl (fun w => ex_move ha) rfl ?_; clear ha; (try clear a); intro a ha
            refine nt_pure (i := 2) (listed' := lb 8 7) (by kernel_rfl) rfl (by kernel_rfl) (by decide) hpk ha rfl (fun w => ex_indexAddr ha Try.underlying64 Ty.t68 (by omega)) rfl ?_; clear ha; (try clear a); intro a ha
            refine nt_pure (i := 3) (listed' := lb 8 15) (by kernel_rfl) rfl (by kernel_rfl) (by decide) hpk ha rfl (fun w => ex_fieldAddr (k := 0) ha Try.underlying68 rfl Ty.t2 rfl) rfl ?_; clear ha; (try clear a); intro a ha
            refine nt_pure (i := 5) (listed' := lb 8 47) (by kernel_rfl) rfl (by kernel_rfl) (by decide) hpk ha rfl (fun w => ex_fieldAddr (k := 3) ha Try.underlying66 rfl Ty.t2 rfl) rfl ?_; clear ha; (try clear a); intro a ha
            refine nt_held (i := 4) (listed' := lb 8 63) (by kernel_rfl) rfl (by kernel_rfl) hpk ha rfl (fun w hc => ex_load1 ha Try.underlying2 rfl (hc.1)) hC rfl ?_; clear ha; (try clear a); intro a ha
            refine nt_one (i := 6) (listed' := lb 8 127) (by kernel_rfl) (by kernel_rfl) rfl (st_set ha rfl (ex_load1 ha Try.underlying2 rfl (hoc)) rfl ?_); clear ha; (try clear a); intro a ha
            refine ⟨fun _ => hC, ?_⟩
            refine nt_pure (i := 7) (listed' := lb 8 255) (by kernel_rfl) rfl (by kernel_rfl) (by decide) hpk ha rfl (fun w => ex_eql ha) rfl ?_; clear ha; (try clear a); intro a ha
            refine nt_done (by kernel_rfl) ?_ _
            refine then_n ?_
            refine wp_if ha (fun hc4 => ?_) (fun hc4 => ?_)
            ·
              try simp only [decide_eq_true_eq, decide_eq_false_iff_not, Bool.not_eq_true', Bool.not_eq_false', Int.not_lt, Int.not_le, ne_eq, Decidable.not_not] at hc4
              refine wp_region_lit ?_
              refine wpList_k (st_set ha rfl (ex_move ha) rfl ?_); clear ha; (try clear a); intro a ha
              replace ha := ha.del 15
              refine wpList_k (st_set ha rfl (ex_assign ha) rfl ?_); clear ha; (try clear a); intro a ha
              refine wpList_nil ?_
              refine blk_n <| then_n ?_
              refine wp_region_lit ?_
              refine wpList_k (st_set ha rfl (ex_move ha) rfl ?_); clear ha; (try clear a); intro a ha
              refine wpList_k (st_set ha rfl (ex_addI ha (by omega) (by omega)) rfl ?_); clear ha; (try clear a); intro a ha
              replace ha := ha.del 16
              refine wpList_k (st_set ha rfl (ex_assign ha) rfl ?_); clear ha; (try clear a); intro a ha
              refine wpList_nil ?_
              refine then_n ?_
              exact ⟨ys.length - (k' + 1), by omega, k' + 1, _, ⟨rfl, by omega, AtK.hit hyy hc4⟩, ha.keep [0, 1, 6, 7, 8, 10, 11, 12, 13, 14, 15, 16], hs.sub⟩
            ·
              try simp only [decide_eq_true_eq, decide_eq_false_iff_not, Bool.not_eq_true', Bool.not_eq_false', Int.not_lt, Int.not_le, ne_eq, Decidable.not_not] at hc4
              refine wp_skip ?_
              refine blk_n <| then_n ?_
              refine wp_region_lit ?_
              refine wpList_k (st_set ha rfl (ex_move ha) rfl ?_); clear ha; (try clear a); intro a ha
              refine wpList_k (st_set ha rfl (ex_addI ha (by omega) (by omega)) rfl ?_); clear ha; (try clear a); intro a ha
              replace ha := ha.del 16
              refine wpList_k (st_set ha rfl (ex_assign ha) rfl ?_); clear ha; (try clear a); intro a ha
              refine wpList_nil ?_
              refine then_n ?_
              exact ⟨ys.length - (k' + 1), by omega, k' + 1, at', ⟨rfl, by omega, hat.miss hyy hc4⟩, ha.keep [0, 1, 6, 7, 8, 10, 11, 12, 13, 14, 15, 16], hs.sub⟩
          ·
            try simp only [decide_eq_true_eq, decide_eq_false_iff_not, Bool.not_eq_true', Bool.not_eq_false', Int.not_lt, Int.not_le, ne_eq, Decidable.not_not] at hc3
            refine wp_exit ?_
            refine then_e <| then_e <| blk_e ?_
            refine then_n ?_
            refine wp_seq_cut (M := fun a w => ∃ (ys : List Tw) (adl : Option Addr) (cl lt ep : Nat) (A : Sn), (lt ≤ i + 1 ∧ ep ≤ i + 1 ∧ TwOk W ys ∧ Held t A (ys.map (·.1)) ∧ A.room = 120 ∧ A.n ≤ 2 * i + 3) ∧ Fr a 418 [(0, .int .i64 M), (1, .slice (some ⟨bo, oo, none⟩) len1 cap1), (6, .pointer (some ⟨q, 0, none⟩)), (7, .pointer (some ⟨tq, 0, none⟩)), (8, .int .i64 ((1 : Nat) : Int)), (10, .slice adl ys.length cl), (11, .int .i64 lt), (12, .int .i64 ep), (13, .int .i64 i)] ∧ St W w [Tree tq q ⟨M, ys.map (·.1), lt, ep⟩, Store q r A, Sl 68 5 adl ys.length cl (rows tc ys), All two ys]) ?_ ?_
            ·
              refine wp_seq ?_
              obtain rfl : k' = ys.length := by omega
              have hT : ∀ (j : Nat) (y : Tw), ys[j]? = some y → (ys.map (·.1))[j]? = some y.1 := fun j y h => by rw [List.getElem?_map, h]; rfl
              refine wp_region_lit ?_
              refine wpList_k (st_set ha rfl (ex_fieldAddr (k := 0) ha Try.underlying66 rfl Ty.t3 rfl) rfl ?_); clear ha; (try clear a); intro a ha
              refine wpList_k (st_set ha rfl (ex_load1 ha Try.underlying3 rfl (hs.rd1 rfl)) rfl ?_); clear ha; (try clear a); intro a ha
              refine wpList_nil ?_
              refine then_n ?_
              refine wp_block ?_
              refine wp_seq ?_
              refine wp_region_lit ?_
              refine wpList_k (st_set ha rfl (ex_eql ha) rfl ?_); clear ha; (try clear a); intro a ha
              refine wpList_k (st_set ha rfl (ex_assign ha) rfl ?_); clear ha; (try clear a); intro a ha
              refine wpList_nil ?_
              refine then_n ?_
              refine wp_if ha (fun hc5 => ?_) (fun hc5 => ?_)
              ·
                try simp only [decide_eq_true_eq, decide_eq_false_iff_not, Bool.not_eq_true', Bool.not_eq_false', Int.not_lt, Int.not_le, ne_eq, Decidable.not_not] at hc5
                refine wp_seq_cut (M := fun a w => ∃ wb : Bool, NewK M ys f P 0 wb ∧ Fr a 418 [(0, .int .i64 M), (1, .slice (some ⟨bo, oo, none⟩) len1 cap1), (6, .pointer (some ⟨q, 0, none⟩)), (7, .pointer (some ⟨tq, 0, none⟩)), (8, .int .i64 ((1 : Nat) : Int)), (10, .slice adl ys.length cl), (11, .int .i64 lt), (12, .int .i64 ep), (13, .int .i64 i), (14, .pointer (some ⟨b14, 0, none⟩)), (17, .bool wb)] ∧ St W w [blk b14 66 (bop k f d id adp P.length cp v dead), Sl 48 1 adp P.length cp (X.map bbv), Tree tq q ⟨M, ys.map (·.1), lt, ep⟩, Store q r A, Sl 68 5 adl ys.length cl (rows tc ys), All two ys]) ?_ ?_
                ·
                  refine wp_region_lit ?_
                  refine wpList_k (st_set ha rfl (ex_move ha) rfl ?_); clear ha; (try clear a); intro a ha
                  refine wpList_k (st_set ha rfl (ex_len ha Try.underlying64) rfl ?_); clear ha; (try clear a); intro a ha
                  refine wpList_k (st_set ha rfl (ex_move ha) rfl ?_); clear ha; (try clear a); intro a ha
                  refine wpList_k (st_set ha rfl (ex_lss ha) rfl ?_); clear ha; (try clear a); intro a ha
                  refine wpList_k (st_set ha rfl (ex_move ha) rfl ?_); clear ha; (try clear a); intro a ha
                  refine ha.bool (s := 154) (fun hg4 ha => ?_) (fun hg4 ha => ?_)
                  ·
                    try simp only [decide_eq_true_eq, decide_eq_false_iff_not, Bool.not_eq_true', Bool.not_eq_false', Int.not_lt, Int.not_le, ne_eq, Decidable.not_not] at hg4
                    refine wpList_k (st_set ha (wgT ha rfl (s := 154)) (ex_fieldAddr (k := 4) ha Try.underlying66 rfl Ty.t23 rfl) rfl ?_); clear ha; (try clear a); intro a ha
                    refine wpList_k (st_set ha (wgT ha rfl (s := 154)) (ex_load1 ha Try.underlying23 rfl (hs.rd1 rfl)) rfl ?_); clear ha; (try clear a); intro a ha
                    refine wpList_k (st_set ha (wgT ha rfl (s := 154)) (ex_len ha Try.underlying23) rfl ?_); clear ha; (try clear a); intro a ha
                    refine wpList_k (st_set ha (wgT ha rfl (s := 154)) (ex_gtr ha) rfl ?_); clear ha; (try clear a); intro a ha
                    refine wpList_k (st_set ha rfl (ex_pickT ha) rfl ?_); clear ha; (try clear a); intro a ha
                    refine wpList_k (st_set ha rfl (ex_assign ha) rfl ?_); clear ha; (try clear a); intro a ha
                    refine wpList_nil ?_
                    refine then_n ?_
                    exact ⟨_, by
                      simp only [NewK, decide_eq_true_eq]
                      exact ⟨fun h => ⟨by omega, by omega, fun j y hj => absurd hj (by omega)⟩, fun h => by have := h.2.1; omega⟩, ha.keep [0, 1, 6, 7, 8, 10, 11, 12, 13, 14, 17], hs.sub⟩
                  ·
                    try simp only [decide_eq_true_eq, decide_eq_false_iff_not, Bool.not_eq_true', Bool.not_eq_false', Int.not_lt, Int.not_le, ne_eq, Decidable.not_not] at hg4
                    refine wpList_k (st_off ha (wgF ha rfl (s := 154) rfl) rfl ?_); clear ha; (try clear a); intro a ha
                    refine wpList_k (st_off ha (wgF ha rfl (s := 154) rfl) rfl ?_); clear ha; (try clear a); intro a ha
                    refine wpList_k (st_off ha (wgF ha rfl (s := 154) rfl) rfl ?_); clear ha; (try clear a); intro a ha
                    refine wpList_k (st_off ha (wgF ha rfl (s := 154) rfl) rfl ?_); clear ha; (try clear a); intro a ha
                    refine wpList_k (st_set ha rfl (ex_pickF ha) rfl ?_); clear ha; (try clear a); intro a ha
                    refine wpList_k (st_set ha rfl (ex_assign ha) rfl ?_); clear ha; (try clear a); intro a ha
                    refine wpList_nil ?_
                    refine then_n ?_
                    exact ⟨_, by
                      simp only [NewK]
                      exact ⟨fun h => (by cases h), fun h => by have := h.1; omega⟩, ha.keep [0, 1, 6, 7, 8, 10, 11, 12, 13, 14, 17], hs.sub⟩
                · clear ha; (try clear hs)
                  intro a w hcut
                  obtain ⟨wb, hwb, ha, hs⟩ := hcut
                  refine wp_seq ?_
                  refine wp_seq ?_
                  refine wp_region_lit ?_
                  refine wpList_k (st_set ha rfl (ex_assign ha) rfl ?_); clear ha; (try clear a); intro a ha
                  refine wpList_nil ?_
                  refine then_n ?_
                  refine wp_block ?_
                  refine wp_loop_ghost (fun μ a w => ∃ (k' : Nat) (wb : Bool), (μ = ys.length - k' ∧ k' ≤ ys.length ∧ NewK M ys f P k' wb) ∧ Fr a 418 [(0, .int .i64 M), (1, .slice (some ⟨bo, oo, none⟩) len1 cap1), (6, .pointer (some ⟨q, 0, none⟩)), (7, .pointer (some ⟨tq, 0, none⟩)), (8, .int .i64 ((1 : Nat) : Int)), (10, .slice adl ys.length cl), (11, .int .i64 lt), (12, .int .i64 ep), (13, .int .i64 i), (14, .pointer (some ⟨b14, 0, none⟩)), (17, .bool wb), (18, .int .i64 k')] ∧ St W w [blk b14 66 (bop k f d id adp P.length cp v dead), Sl 48 1 adp P.length cp (X.map bbv), Tree tq q ⟨M, ys.map (·.1), lt, ep⟩, Store q r A, Sl 68 5 adl ys.length cl (rows tc ys), All two ys]) (ys.length) ?_ ?_
                  · exact ⟨0, wb, ⟨by simp, by simp, hwb⟩, ha.keep [0, 1, 6, 7, 8, 10, 11, 12, 13, 14, 17, 18], hs.sub⟩
                  ·
                    clear ha hs
                    rintro μ a w ⟨k', wb, ⟨rfl, hk2, hwb⟩, ha, hs⟩
                    refine wp_seq ?_
                    refine wp_seq ?_
                    refine wp_region_lit ?_
                    refine wpList_k (st_set ha rfl (ex_move ha) rfl ?_); clear ha; (try clear a); intro a ha
                    refine wpList_k (st_set ha rfl (ex_move ha) rfl ?_); clear ha; (try clear a); intro a ha
                    refine wpList_k (st_set ha rfl (ex_len ha Try.underlying64) rfl ?_); clear ha; (try clear a); intro a ha
                    refine wpList_k (st_set ha rfl (ex_lss ha) rfl ?_); clear ha; (try clear a); intro a ha
                    refine wpList_nil ?_
                    refine then_n ?_
                    refine wp_if ha (fun hc6 => ?_) (fun hc6 => ?_)
                    ·
                      try simp only [decide_eq_true_eq, decide_eq_false_iff_not, Bool.not_eq_true', Bool.not_eq_false', Int.not_lt, Int.not_le, ne_eq, Decidable.not_not] at hc6
                      refine wp_skip ?_
                      refine then_n ?_
                      refine wp_seq ?_
                      refine wp_block ?_
                      obtain ⟨bt, ot, hade, hrt⟩ := hs.drew.slRd adl (by omega)
                      obtain ⟨y, hyy⟩ : ∃ y, ys[k']? = some y := ⟨_, List.getElem?_eq_getElem (by omega)⟩
                      have hyc := tw_rd hrt hyy
                      have hoc : Rd w.drew b14 0 (bop k f d id adp P.length cp v dead) := hs.drew.rdAll
                      rw [hade] at ha
                      refine wp_draw (m := 23) (l0 := lb 23 0) (fun w' => Rd w' bt (ot + k' * 5) (brC y.1 y.2.1 y.2.2.1) ∧ Rd w' b14 0 (bop k f d id adp P.length cp v dead)) [8, 17] Ty.mixed (by kernel_rfl) (by kernel_rfl) (pk_blk (pk_then (pk_then (pk_blk (pk_then (pk_blk (pk_then (pk_blk (pk_then (pk_then (pk_blk (pk_then pk_body)))))))))))) (fun hpk => ?_)
                      replace hs := hs.drew
                      generalize w.drew = w at hs hpk hyc hoc ⊢
                      have hC := And.intro hyc hoc
                      refine nt_pure (i := 0) (listed' := lb 23 1) (by kernel_rfl) rfl (by kernel_rfl) (by decide) hpk ha rfl (fun w => ex_move ha) rfl ?_; clear ha; (try clear a); intro a ha
                      refine nt_pure (i := 1) (listed' := lb 23 3) (by kernel_rfl) rfl (by kernel_rfl) (by decide) hpk ha rfl (fun w => ex_move ha) rfl ?_; clear ha; (try clear a); intro a ha
                      refine ha.bool (s := 167) (fun hg1 ha => ?_) (fun hg1 ha => ?_)
                      ·
                        try simp only [decide_eq_true_eq, decide_eq_false_iff_not, Bool.not_eq_true', Bool.not_eq_false', Int.not_lt, Int.not_le, ne_eq, Decidable.not_not] at hg1
                        refine nt_pure (i := 2) (listed' := lb 23 7) (by kernel_rfl) rfl (by kernel_rfl) (by decide) hpk ha (wgT ha rfl (s := 167)) (fun w => ex_move ha) rfl ?_; clear ha; (try clear a); intro a ha
                        refine nt_pure (i := 3) (listed' := lb 23 15) (by kernel_rfl) rfl (by kernel_rfl) (by decide) hpk ha (wgT ha rfl (s := 167)) (fun w => ex_move ha) rfl ?_; clear ha; (try clear a); intro a ha
                        refine nt_pure (i := 4) (listed' := lb 23 31) (by kernel_rfl) rfl (by kernel_rfl) (by decide) hpk ha (wgT ha rfl (s := 167)) (fun w => ex_indexAddr ha Try.underlying64 Ty.t68 (by omega)) rfl ?_; clear ha; (try clear a); intro a ha
                        refine nt_pure (i := 5) (listed' := lb 23 63) (by kernel_rfl) rfl (by kernel_rfl) (by decide) hpk ha (wgT ha rfl (s := 167)) (fun w => ex_fieldAddr (k := 1) ha Try.underlying68 rfl Ty.t3 rfl) rfl ?_; clear ha; (try clear a); intro a ha
                        refine nt_pure (i := 7) (listed' := lb 23 191) (by kernel_rfl) rfl (by kernel_rfl) (by decide) hpk ha (wgT ha rfl (s := 167)) (fun w => ex_fieldAddr (k := 1) ha Try.underlying66 rfl Ty.t3 rfl) rfl ?_; clear ha; (try clear a); intro a ha
                        refine nt_held (i := 6) (listed' := lb 23 255) (by kernel_rfl) rfl (by kernel_rfl) hpk ha (wgT ha rfl (s := 167)) (fun w hc => ex_load1 ha Try.underlying3 rfl (hc.1 1 _ rfl)) hC rfl ?_; clear ha; (try clear a); intro a ha
                        refine nt_one (i := 8) (listed' := lb 23 511) (by kernel_rfl) (by kernel_rfl) rfl (st_set ha (wgT ha rfl (s := 167)) (ex_load1 ha Try.underlying3 rfl (hC.2 1 _ rfl)) rfl ?_); clear ha; (try clear a); intro a ha
                        refine ⟨fun _ => hC, ?_⟩
                        refine nt_pure (i := 9) (listed' := lb 23 1023) (by kernel_rfl) rfl (by kernel_rfl) (by decide) hpk ha (wgT ha rfl (s := 167)) (fun w => ex_eql ha) rfl ?_; clear ha; (try clear a); intro a ha
                        refine nt_pure (i := 10) (listed' := lb 23 2047) (by kernel_rfl) rfl (by kernel_rfl) (by decide) hpk ha (wgT ha rfl (s := 167)) (fun w => ex_move ha) rfl ?_; clear ha; (try clear a); intro a ha
                        refine ha.bool (s := 176) (fun hg10 ha => ?_) (fun hg10 ha => ?_)
                        ·
                          try simp only [decide_eq_true_eq, decide_eq_false_iff_not, Bool.not_eq_true', Bool.not_eq_false', Int.not_lt, Int.not_le, ne_eq, Decidable.not_not] at hg10
                          refine nt_pure (i := 11) (listed' := lb 23 4095) (by kernel_rfl) rfl (by kernel_rfl) (by decide) hpk ha (wgT ha rfl (s := 176)) (fun w => ex_move ha) rfl ?_; clear ha; (try clear a); intro a ha
                          refine nt_pure (i := 12) (listed' := lb 23 8191) (by kernel_rfl) rfl (by kernel_rfl) (by decide) hpk ha (wgT ha rfl (s := 176)) (fun w => ex_move ha) rfl ?_; clear ha; (try clear a); intro a ha
                          refine nt_pure (i := 13) (listed' := lb 23 16383) (by kernel_rfl) rfl (by kernel_rfl) (by decide) hpk ha (wgT ha rfl (s := 176)) (fun w => ex_indexAddr ha Try.underlying64 Ty.t68 (by omega)) rfl ?_; clear ha; (try clear a); intro a ha
                          refine nt_pure (i := 14) (listed' := lb 23 32767) (by kernel_rfl) rfl (by kernel_rfl) (by decide) hpk ha (wgT ha rfl (s := 176)) (fun w => ex_fieldAddr (k := 2) ha Try.underlying68 rfl Ty.t23 rfl) rfl ?_; clear ha; (try clear a); intro a ha
                          refine nt_pure (i := 16) (listed' := lb 23 98303) (by kernel_rfl) rfl (by kernel_rfl) (by decide) hpk ha (wgT ha rfl (s := 176)) (fun w => ex_fieldAddr (k := 4) ha Try.underlying66 rfl Ty.t23 rfl) rfl ?_; clear ha; (try clear a); intro a ha
                          refine nt_held (i := 15) (listed' := lb 23 131071) (by kernel_rfl) rfl (by kernel_rfl) hpk ha (wgT ha rfl (s := 176)) (fun w hc => ex_load1 ha Try.underlying23 rfl (hc.1 2 _ rfl)) hC rfl ?_; clear ha; (try clear a); intro a ha
                          refine nt_one (i := 17) (listed' := lb 23 262143) (by kernel_rfl) (by kernel_rfl) rfl (st_set ha (wgT ha rfl (s := 176)) (ex_load1 ha Try.underlying23 rfl (hC.2 4 _ rfl)) rfl ?_); clear ha; (try clear a); intro a ha
                          refine ⟨fun _ => hC, ?_⟩
                          have hyo := (hwt.ok _ (List.mem_of_getElem? (map_at hyy))).1
                          refine nt_one (i := 18) (listed' := lb 23 524287) (by kernel_rfl) (by kernel_rfl) rfl (st_call ha (wgT ha rfl (s := 176)) Ty.c27 rfl (whole_spec (u := y.1.press) (v := P) hs (by have := hyo.1; omega) (fun w' h => (tw_bb (h.pick (All two ys)) hok hyy).1) (fun w' h => (RdX.sl h adp hPc hPr).bbP hP)) ?_); clear ha hs
                          rintro e w ⟨rfl, hs⟩
                          refine ⟨_, rfl, ?_⟩
                          intro a ha
                          refine ⟨fun h => absurd h (by decide), ?_⟩
                          refine nt_pure (i := 19) (listed' := lb 23 1048575) (by kernel_rfl) rfl (by kernel_rfl) (by decide) hpk ha (wgT ha rfl (s := 167)) (fun w => ex_pickT ha) rfl ?_; clear ha; (try clear a); intro a ha
                          refine nt_pure (i := 20) (listed' := lb 23 2097151) (by kernel_rfl) rfl (by kernel_rfl) (by decide) hpk ha (wgT ha rfl (s := 167)) (fun w => ex_not ha) rfl ?_; clear ha; (try clear a); intro a ha
                          refine nt_pure (i := 21) (listed' := lb 23 4194303) (by kernel_rfl) rfl (by kernel_rfl) (by decide) hpk ha rfl (fun w => ex_pickT ha) rfl ?_; clear ha; (try clear a); intro a ha
                          replace ha := ha.del 17
                          refine nt_pure (i := 22) (listed' := lb 23 8388607) (by kernel_rfl) rfl (by kernel_rfl) (by decide) hpk ha rfl (fun w => ex_assign ha) rfl ?_; clear ha; (try clear a); intro a ha
                          refine nt_done (by kernel_rfl) ?_ _
                          refine blk_n <| then_n ?_
                          refine wp_region_lit ?_
                          refine wpList_k (st_set ha rfl (ex_move ha) rfl ?_); clear ha; (try clear a); intro a ha
                          refine wpList_k (st_set ha rfl (ex_addI ha (by omega) (by omega)) rfl ?_); clear ha; (try clear a); intro a ha
                          replace ha := ha.del 18
                          refine wpList_k (st_set ha rfl (ex_assign ha) rfl ?_); clear ha; (try clear a); intro a ha
                          refine wpList_nil ?_
                          refine then_n ?_
                          rw [← hade] at ha
                          exact ⟨ys.length - (k' + 1), by omega, k' + 1, _, ⟨rfl, by omega, hwb.step hyy (by simp [hg1, Br.is, hg10])⟩, ha.keep [0, 1, 6, 7, 8, 10, 11, 12, 13, 14, 17, 18], hs.sub⟩
                        ·
                          try simp only [decide_eq_true_eq, decide_eq_false_iff_not, Bool.not_eq_true', Bool.not_eq_false', Int.not_lt, Int.not_le, ne_eq, Decidable.not_not] at hg10
                          refine nt_off (i := 11) (listed' := lb 23 4095) (by kernel_rfl) rfl (by kernel_rfl) (by decide) hpk ha (wgF ha rfl (s := 176) rfl) rfl ?_; clear ha; (try clear a); intro a ha
                          refine nt_off (i := 12) (listed' := lb 23 8191) (by kernel_rfl) rfl (by kernel_rfl) (by decide) hpk ha (wgF ha rfl (s := 176) rfl) rfl ?_; clear ha; (try clear a); intro a ha
                          refine nt_off (i := 13) (listed' := lb 23 16383) (by kernel_rfl) rfl (by kernel_rfl) (by decide) hpk ha (wgF ha rfl (s := 176) rfl) rfl ?_; clear ha; (try clear a); intro a ha
                          refine nt_off (i := 14) (listed' := lb 23 32767) (by kernel_rfl) rfl (by kernel_rfl) (by decide) hpk ha (wgF ha rfl (s := 176) rfl) rfl ?_; clear ha; (try clear a); intro a ha
                          refine nt_off (i := 16) (listed' := lb 23 98303) (by kernel_rfl) rfl (by kernel_rfl) (by decide) hpk ha (wgF ha rfl (s := 176) rfl) rfl ?_; clear ha; (try clear a); intro a ha
                          refine nt_offH (i := 15) (listed' := lb 23 131071) (by kernel_rfl) rfl (by kernel_rfl) hpk ha (wgF ha rfl (s := 176) rfl) hC rfl ?_; clear ha; (try clear a); intro a ha
                          refine nt_offH (i := 17) (listed' := lb 23 262143) (by kernel_rfl) rfl (by kernel_rfl) hpk ha (wgF ha rfl (s := 176) rfl) hC rfl ?_; clear ha; (try clear a); intro a ha
                          have hyo := (hwt.ok _ (List.mem_of_getElem? (map_at hyy))).1
                          refine nt_off (i := 18) (listed' := lb 23 524287) (by kernel_rfl) rfl (by kernel_rfl) (by decide) hpk ha (wgF ha rfl (s := 176) rfl) rfl ?_; clear ha; (try clear a); intro a ha
                          refine nt_pure (i := 19) (listed' := lb 23 1048575) (by kernel_rfl) rfl (by kernel_rfl) (by decide) hpk ha (wgT ha rfl (s := 167)) (fun w => ex_pickF ha) rfl ?_; clear ha; (try clear a); intro a ha
                          refine nt_pure (i := 20) (listed' := lb 23 2097151) (by kernel_rfl) rfl (by kernel_rfl) (by decide) hpk ha (wgT ha rfl (s := 167)) (fun w => ex_not ha) rfl ?_; clear ha; (try clear a); intro a ha
                          refine nt_pure (i := 21) (listed' := lb 23 4194303) (by kernel_rfl) rfl (by kernel_rfl) (by decide) hpk ha rfl (fun w => ex_pickT ha) rfl ?_; clear ha; (try clear a); intro a ha
                          replace ha := ha.del 17
                          refine nt_pure (i := 22) (listed' := lb 23 8388607) (by kernel_rfl) rfl (by kernel_rfl) (by decide) hpk ha rfl (fun w => ex_assign ha) rfl ?_; clear ha; (try clear a); intro a ha
                          refine nt_done (by kernel_rfl) ?_ _
                          refine blk_n <| then_n ?_
                          refine wp_region_lit ?_
                          refine wpList_k (st_set ha rfl (ex_move ha) rfl ?_); clear ha; (try clear a); intro a ha
                          refine wpList_k (st_set ha rfl (ex_addI ha (by omega) (by omega)) rfl ?_); clear ha; (try clear a); intro a ha
                          replace ha := ha.del 18
                          refine wpList_k (st_set ha rfl (ex_assign ha) rfl ?_); clear ha; (try clear a); intro a ha
                          refine wpList_nil ?_
                          refine then_n ?_
                          rw [← hade] at ha
                          exact ⟨ys.length - (k' + 1), by omega, k' + 1, _, ⟨rfl, by omega, hwb.step hyy (by simp [hg1, Br.is, hg10])⟩, ha.keep [0, 1, 6, 7, 8, 10, 11, 12, 13, 14, 17, 18], hs.sub⟩
                      ·
                        try simp only [decide_eq_true_eq, decide_eq_false_iff_not, Bool.not_eq_true', Bool.not_eq_false', Int.not_lt, Int.not_le, ne_eq, Decidable.not_not] at hg1
                        refine nt_off (i := 2) (listed' := lb 23 7) (by kernel_rfl) rfl (by kernel_rfl) (by decide) hpk ha (wgF ha rfl (s := 167) rfl) rfl ?_; clear ha; (try clear a); intro a ha
                        refine nt_off (i := 3) (listed' := lb 23 15) (by kernel_rfl) rfl (by kernel_rfl) (by decide) hpk ha (wgF ha rfl (s := 167) rfl) rfl ?_; clear ha; (try clear a); intro a ha
                        refine nt_off (i := 4) (listed' := lb 23 31) (by kernel_rfl) rfl (by kernel_rfl) (by decide) hpk ha (wgF ha rfl (s := 167) rfl) rfl ?_; clear ha; (try clear a); intro a ha
                        refine nt_off (i := 5) (listed' := lb 23 63) (by kernel_rfl) rfl (by kernel_rfl) (by decide) hpk ha (wgF ha rfl (s := 167) rfl) rfl ?_; clear ha; (try clear a); intro a ha
                        refine nt_off (i := 7) (listed' := lb 23 191) (by kernel_rfl) rfl (by kernel_rfl) (by decide) hpk ha (wgF ha rfl (s := 167) rfl) rfl ?_; clear ha; (try clear a); intro a ha
                        refine nt_offH (i := 6) (listed' := lb 23 255) (by kernel_rfl) rfl (by kernel_rfl) hpk ha (wgF ha rfl (s := 167) rfl) hC rfl ?_; clear ha; (try clear a); intro a ha
                        refine nt_offH (i := 8) (listed' := lb 23 511) (by kernel_rfl) rfl (by kernel_rfl) hpk ha (wgF ha rfl (s := 167) rfl) hC rfl ?_; clear ha; (try clear a); intro a ha
                        refine nt_off (i := 9) (listed' := lb 23 1023) (by kernel_rfl) rfl (by kernel_rfl) (by decide) hpk ha (wgF ha rfl (s := 167) rfl) rfl ?_; clear ha; (try clear a); intro a ha
                        refine nt_offU (i := 10) (listed' := lb 23 2047) (by kernel_rfl) rfl (by kernel_rfl) (by decide) hpk ha (wgF ha rfl (s := 167) rfl) rfl ?_; clear ha; (try clear a); intro a ha
                        refine nt_off (i := 11) (listed' := lb 23 4095) (by kernel_rfl) rfl (by kernel_rfl) (by decide) hpk ha (wgU ha rfl (s := 176)) rfl ?_; clear ha; (try clear a); intro a ha
                        refine nt_off (i := 12) (listed' := lb 23 8191) (by kernel_rfl) rfl (by kernel_rfl) (by decide) hpk ha (wgU ha rfl (s := 176)) rfl ?_; clear ha; (try clear a); intro a ha
                        refine nt_off (i := 13) (listed' := lb 23 16383) (by kernel_rfl) rfl (by kernel_rfl) (by decide) hpk ha (wgU ha rfl (s := 176)) rfl ?_; clear ha; (try clear a); intro a ha
                        refine nt_off (i := 14) (listed' := lb 23 32767) (by kernel_rfl) rfl (by kernel_rfl) (by decide) hpk ha (wgU ha rfl (s := 176)) rfl ?_; clear ha; (try clear a); intro a ha
                        refine nt_off (i := 16) (listed' := lb 23 98303) (by kernel_rfl) rfl (by kernel_rfl) (by decide) hpk ha (wgU ha rfl (s := 176)) rfl ?_; clear ha; (try clear a); intro a ha
                        refine nt_offH (i := 15) (listed' := lb 23 131071) (by kernel_rfl) rfl (by kernel_rfl) hpk ha (wgU ha rfl (s := 176)) hC rfl ?_; clear ha; (try clear a); intro a ha
                        refine nt_offH (i := 17) (listed' := lb 23 262143) (by kernel_rfl) rfl (by kernel_rfl) hpk ha (wgU ha rfl (s := 176)) hC rfl ?_; clear ha; (try clear a); intro a ha
                        have hyo := (hwt.ok _ (List.mem_of_getElem? (map_at hyy))).1
                        refine nt_off (i := 18) (listed' := lb 23 524287) (by kernel_rfl) rfl (by kernel_rfl) (by decide) hpk ha (wgU ha rfl (s := 176)) rfl ?_; clear ha; (try clear a); intro a ha
                        refine nt_off (i := 19) (listed' := lb 23 1048575) (by kernel_rfl) rfl (by kernel_rfl) (by decide) hpk ha (wgF ha rfl (s := 167) rfl) rfl ?_; clear ha; (try clear a); intro a ha
                        refine nt_off (i := 20) (listed' := lb 23 2097151) (by kernel_rfl) rfl (by kernel_rfl) (by decide) hpk ha (wgF ha rfl (s := 167) rfl) rfl ?_; clear ha; (try clear a); intro a ha
                        refine nt_pure (i := 21) (listed' := lb 23 4194303) (by kernel_rfl) rfl (by kernel_rfl) (by decide) hpk ha rfl (fun w => ex_pickF ha) rfl ?_; clear ha; (try clear a); intro a ha
                        replace ha := ha.del 17
                        refine nt_pure (i := 22) (listed' := lb 23 8388607) (by kernel_rfl) rfl (by kernel_rfl) (by decide) hpk ha rfl (fun w => ex_assign ha) rfl ?_; clear ha; (try clear a); intro a ha
                        refine nt_done (by kernel_rfl) ?_ _
                        refine blk_n <| then_n ?_
                        refine wp_region_lit ?_
                        refine wpList_k (st_set ha rfl (ex_move ha) rfl ?_); clear ha; (try clear a); intro a ha
                        refine wpList_k (st_set ha rfl (ex_addI ha (by omega) (by omega)) rfl ?_); clear ha; (try clear a); intro a ha
                        replace ha := ha.del 18
                        refine wpList_k (st_set ha rfl (ex_assign ha) rfl ?_); clear ha; (try clear a); intro a ha
                        refine wpList_nil ?_
                        refine then_n ?_
                        rw [← hade] at ha
                        exact ⟨ys.length - (k' + 1), by omega, k' + 1, _, ⟨rfl, by omega, hwb.step hyy (by simp [hg1])⟩, ha.keep [0, 1, 6, 7, 8, 10, 11, 12, 13, 14, 17, 18], hs.sub⟩
                    ·
                      try simp only [decide_eq_true_eq, decide_eq_false_iff_not, Bool.not_eq_true', Bool.not_eq_false', Int.not_lt, Int.not_le, ne_eq, Decidable.not_not] at hc6
                      refine wp_exit ?_
                      refine then_e <| then_e <| blk_e ?_
                      refine then_n ?_
                      refine wp_seq ?_
                      obtain rfl : k' = ys.length := by omega
                      have hwf := (Store.facts (hs.store q)).1
                      have hl1 : 1 ≤ A.last := ((hwf.pic _ (List.mem_of_getElem? hH.base)).2.1)
                      refine wp_region_lit ?_
                      refine wpList_k (st_set ha rfl (ex_move ha) rfl ?_); clear ha; (try clear a); intro a ha
                      refine wpList_k (st_set ha rfl (ex_fieldAddr (k := 1) ha Try.underlying66 rfl Ty.t3 rfl) rfl ?_); clear ha; (try clear a); intro a ha
                      refine wpList_k (st_set ha rfl (ex_load1 ha Try.underlying3 rfl (hs.rd1 rfl)) rfl ?_); clear ha; (try clear a); intro a ha
                      refine wpList_k (st_set ha rfl (ex_move ha) rfl ?_); clear ha; (try clear a); intro a ha
                      refine wpList_k (st_set ha rfl (ex_fieldAddr (k := 4) ha Try.underlying66 rfl Ty.t23 rfl) rfl ?_); clear ha; (try clear a); intro a ha
                      refine wpList_k (st_set ha rfl (ex_load1 ha Try.underlying23 rfl (hs.rd1 rfl)) rfl ?_); clear ha; (try clear a); intro a ha
                      refine wpList_k (st_call ha rfl Ty.c14 rfl (add_case (wb := wb) (zs := X) (t := t) ((hs.store q).tree tq) (fun w' h => RdX.sl h adp hPc hPr) hP hcp hPo hH.base (by omega) (by simp only; omega) hwb.all) ?_); clear ha hs
                      rintro e w ⟨z, T', A', rfl, hzb, hcase, hs⟩
                      refine ⟨_, rfl, ?_⟩
                      intro a ha
                      refine wpList_k (st_set ha rfl (ex_move ha) rfl ?_); clear ha; (try clear a); intro a ha
                      refine wpList_k (st_set ha rfl (ex_extract ha rfl) rfl ?_); clear ha; (try clear a); intro a ha
                      refine wpList_k (st_set ha rfl (ex_extract ha rfl) rfl ?_); clear ha; (try clear a); intro a ha
                      refine wpList_k (st_set ha rfl (ex_assign ha) rfl ?_); clear ha; (try clear a); intro a ha
                      refine wpList_k (st_set ha rfl (ex_assign ha) rfl ?_); clear ha; (try clear a); intro a ha
                      refine wpList_nil ?_
                      refine then_n ?_
                      refine wp_seq ?_
                      refine wp_seq ?_
                      refine wp_region_lit ?_
                      refine wpList_k (st_set ha rfl (ex_move ha) rfl ?_); clear ha; (try clear a); intro a ha
                      refine wpList_k (st_set ha rfl (ex_move ha) rfl ?_); clear ha; (try clear a); intro a ha
                      refine wpList_k (st_set ha rfl (ex_neqB ha Try.underlying4) rfl ?_); clear ha; (try clear a); intro a ha
                      rw [bne_self_eq_false] at ha
                      refine wpList_k (st_set ha rfl (ex_move ha) rfl ?_); clear ha; (try clear a); intro a ha
                      refine wpList_k (st_set ha (wgT ha rfl (s := 201)) (ex_move ha) rfl ?_); clear ha; (try clear a); intro a ha
                      refine wpList_k (st_set ha (wgT ha rfl (s := 201)) (ex_move ha) rfl ?_); clear ha; (try clear a); intro a ha
                      refine wpList_k (st_set ha (wgT ha rfl (s := 201)) (ex_gtr ha) rfl ?_); clear ha; (try clear a); intro a ha
                      refine wpList_k (st_set ha (wgT ha rfl (s := 201)) (ex_neqB ha Try.underlying4) rfl ?_); clear ha; (try clear a); intro a ha
                      rw [hzb, bne_self_eq_false] at ha
                      refine wpList_k (st_set ha rfl (ex_pickF ha) rfl ?_); clear ha; (try clear a); intro a ha
                      refine wpList_nil ?_
                      refine then_n ?_
                      refine wp_ifF ha ?_
                      refine wp_skip ?_
                      refine then_n ?_
                      refine wp_seq ?_
                      refine wp_region_lit ?_
                      refine wpList_k (st_set ha rfl (ex_move ha) rfl ?_); clear ha; (try clear a); intro a ha
                      refine wpList_nil ?_
                      refine then_n ?_
                      refine wp_if ha (fun hc8 => ?_) (fun hc8 => ?_)
                      ·
                        try simp only [decide_eq_true_eq, decide_eq_false_iff_not, Bool.not_eq_true', Bool.not_eq_false', Int.not_lt, Int.not_le, ne_eq, Decidable.not_not] at hc8
                        obtain ⟨_, ez, e1, e2⟩ := hcase.resolve_left (fun h => by rw [hc8] at h; cases h.1)
                        rw [e1, e2] at hs
                        rw [ez] at ha
                        have hHn : Held t (A.add (fun _ => 0) t) (ys.map (·.1) ++ [⟨lt + 1, f, P, 0, A.last + 1⟩]) := hH.add hwf rfl
                        obtain ⟨xn, hxn⟩ : ∃ xn : Br, (⟨lt + 1, f, P, 0, A.last + 1⟩ : Br) = xn := ⟨_, rfl⟩
                        have hxi : ((lt + 1 : Nat) : Int) = (xn.id : Int) := by rw [← hxn]
                        have hxs : xn.snap = A.last + 1 := by rw [← hxn]
                        have hTl : (T'.l)[ys.length]? = some xn := by rw [e1, ← hxn]; simp [Tr.add]
                        rw [← e1] at hs
                        refine wp_seq ?_
                        refine wp_region_lit ?_
                        refine wpList_k (st_set ha rfl (ex_move ha) rfl ?_); clear ha; (try clear a); intro a ha
                        refine wpList_k (st_set ha rfl (ex_addI ha (by omega) (by omega)) rfl ?_); clear ha; (try clear a); intro a ha
                        replace ha := ha.del 11
                        refine wpList_k (st_set ha rfl (ex_assign ha) rfl ?_); clear ha; (try clear a); intro a ha
                        refine wpList_nil ?_
                        rw [show ((lt : Int) + 1) = ((lt + 1 : Nat) : Int) from rfl, hxi] at ha
                        refine then_n ?_
                        refine wp_seq ?_
                        refine wp_region_lit ?_
                        refine wpList_k (st_set ha rfl (ex_move ha) rfl ?_); clear ha; (try clear a); intro a ha
                        refine wpList_k (st_set ha rfl (ex_move ha) rfl ?_); clear ha; (try clear a); intro a ha
                        refine wpList_k (st_call ha rfl Ty.c26 rfl (tree_get (k := ys.length) (x := xn) (hs.tree tq) hTl) ?_); clear ha hs
                        rintro e w ⟨adg, cg, rfl, hs⟩
                        refine ⟨_, rfl, ?_⟩
                        intro a ha
                        refine wpList_k (st_set ha rfl (ex_move ha) rfl ?_); clear ha; (try clear a); intro a ha
                        refine wpList_k (st_set ha rfl (ex_extract ha rfl) rfl ?_); clear ha; (try clear a); intro a ha
                        refine wpList_k (st_set ha rfl (ex_extract ha rfl) rfl ?_); clear ha; (try clear a); intro a ha
                        refine wpList_k (st_alloc ha rfl hs Ty.t42 rfl ?_); clear ha hs; (try clear a); (try clear w); intro b21 a w ha hs ho
                        clear ho
                        refine wpList_k (st_storeAll ha rfl hs Ty.t42 (brC_one xn adg cg) (by rfl) ?_); clear ha hs; (try clear a); (try clear w); intro a w ha hs
                        refine wpList_k (st_set ha rfl (ex_assign ha) rfl ?_); clear ha; (try clear a); intro a ha
                        refine wpList_nil ?_
                        refine then_n ?_
                        refine wp_seq ?_
                        refine wp_seq ?_
                        refine wp_region_lit ?_
                        refine wpList_k (st_set ha rfl (ex_move ha) rfl ?_); clear ha; (try clear a); intro a ha
                        refine wpList_k (st_set ha rfl (ex_move ha) rfl ?_); clear ha; (try clear a); intro a ha
                        refine wpList_k (st_set ha rfl (ex_neq ha) rfl ?_); clear ha; (try clear a); intro a ha
                        refine wpList_k (st_set ha rfl (ex_move ha) rfl ?_); clear ha; (try clear a); intro a ha
                        rw [decide_eq_false (by simp)] at ha
                        refine wpList_k (st_set ha (wgT ha rfl (s := 219)) (ex_move ha) rfl ?_); clear ha; (try clear a); intro a ha
                        refine wpList_k (st_set ha (wgT ha rfl (s := 219)) (ex_not ha) rfl ?_); clear ha; (try clear a); intro a ha
                        rw [show (!true) = false from rfl] at ha
                        refine wpList_k (st_set ha rfl (ex_pickF ha) rfl ?_); clear ha; (try clear a); intro a ha
                        refine wpList_k (st_set ha rfl (ex_move ha) rfl ?_); clear ha; (try clear a); intro a ha
                        refine wpList_k (st_set ha (wgT ha rfl (s := 223)) (ex_fieldAddr (k := 4) ha Try.underlying42 rfl Ty.t30 rfl) rfl ?_); clear ha; (try clear a); intro a ha
                        refine wpList_k (st_set ha (wgT ha rfl (s := 223)) (ex_load1 ha Try.underlying30 rfl (hs.rd1 rfl)) rfl ?_); clear ha; (try clear a); intro a ha
                        refine wpList_k (st_set ha (wgT ha rfl (s := 223)) (ex_move ha) rfl ?_); clear ha; (try clear a); intro a ha
                        refine wpList_k (st_set ha (wgT ha rfl (s := 223)) (ex_eql ha) rfl ?_); clear ha; (try clear a); intro a ha
                        refine wpList_k (st_set ha rfl (ex_pickF ha) rfl ?_); clear ha; (try clear a); intro a ha
                        refine wpList_k (st_set ha rfl (ex_move ha) rfl ?_); clear ha; (try clear a); intro a ha
                        rw [decide_eq_false (by omega)] at ha
                        refine wpList_k (st_set ha (wgT ha rfl (s := 229)) (ex_fieldAddr (k := 4) ha Try.underlying42 rfl Ty.t30 rfl) rfl ?_); clear ha; (try clear a); intro a ha
                        refine wpList_k (st_set ha (wgT ha rfl (s := 229)) (ex_load1 ha Try.underlying30 rfl (hs.rd1 rfl)) rfl ?_); clear ha; (try clear a); intro a ha
                        refine wpList_k (st_set ha (wgT ha rfl (s := 229)) (ex_lss ha) rfl ?_); clear ha; (try clear a); intro a ha
                        refine wpList_k (st_set ha rfl (ex_pickF ha) rfl ?_); clear ha; (try clear a); intro a ha
                        refine wpList_nil ?_
                        refine then_n ?_
                        rw [decide_eq_false (by omega)] at ha
                        refine wp_ifF ha ?_
                        refine wp_skip ?_
                        refine then_n ?_
                        refine wp_region_lit ?_
                        refine wpList_k (st_set ha rfl (ex_move ha) rfl ?_); clear ha; (try clear a); intro a ha
                        refine wpList_k (st_set ha rfl (ex_move ha) rfl ?_); clear ha; (try clear a); intro a ha
                        refine wpList_k (st_set ha rfl (ex_fieldAddr (k := 1) ha Try.underlying66 rfl Ty.t3 rfl) rfl ?_); clear ha; (try clear a); intro a ha
                        refine wpList_k (st_set ha rfl (ex_load1 ha Try.underlying3 rfl (hs.rd1 rfl)) rfl ?_); clear ha; (try clear a); intro a ha
                        refine wpList_k (st_set ha rfl (ex_fieldAddr (k := 4) ha Try.underlying66 rfl Ty.t23 rfl) rfl ?_); clear ha; (try clear a); intro a ha
                        refine wpList_k (st_set ha rfl (ex_load1 ha Try.underlying23 rfl (hs.rd1 rfl)) rfl ?_); clear ha; (try clear a); intro a ha
                        refine wpList_k (st_set ha rfl (ex_fieldAddr (k := 4) ha Try.underlying42 rfl Ty.t30 rfl) rfl ?_); clear ha; (try clear a); intro a ha
                        refine wpList_k (st_set ha rfl (ex_load1 ha Try.underlying30 rfl (hs.rd1 rfl)) rfl ?_); clear ha; (try clear a); intro a ha
                        refine wpList_k (st_set ha rfl (ex_build ha Ty.b68 Ty.t68 rfl) rfl ?_); clear ha; (try clear a); intro a ha
                        refine wpList_k (st_buildSlice ha rfl hs Try.underlying64 Ty.t68 rfl rfl rfl rfl (by decide) (by decide) ?_); clear ha hs; (try clear a); (try clear w); intro b243 a w ha hs ho
                        clear ho
                        refine wpList_k (st_append ha rfl hs Try.underlying64 Ty.t68 rfl rfl hs.rdAll rfl (by simp [Value.oneCell']) (by decide) (by decide) (by omega) ?_); clear ha hs; (try clear a); (try clear w); intro ad244 c244 a w ha hs
                        rw [← hxn] at ha hs
                        rw [e1] at hs
                        change St W w (Sl 68 5 ad244 (ys.length + 1) c244 (rows tc ys ++ [tc (⟨lt + 1, f, P, 0, A.last + 1⟩, adp, cp, X)].flatten) :: _) at hs
                        rw [tw_snoc] at hs
                        have h8 := St.allPush (f := two) (l := ys) (x := (⟨lt + 1, f, P, 0, A.last + 1⟩, adp, cp, X)) (hs.sub (M := [Sl 48 1 adp P.length cp (X.map bbv), All two ys, Tree tq q ((⟨M, ys.map (·.1), lt, ep⟩ : Tr).add f P (A.last + 1)), Store q r (A.add (fun _ => 0) t), Sl 68 5 ad244 (ys.length + 1) c244 (rows tc (ys ++ [(⟨lt + 1, f, P, 0, A.last + 1⟩, adp, cp, X)]))]))
                        replace hs := h8
                        clear h8
                        replace ha := ha.del 10
                        refine wpList_k (st_set ha rfl (ex_assign ha) rfl ?_); clear ha; (try clear a); intro a ha
                        refine wpList_nil ?_
                        refine blk_n <| then_n ?_
                        have hTa : (⟨M, ys.map (·.1), lt, ep⟩ : Tr).add f P (A.last + 1) = ⟨M, (ys ++ [((⟨lt + 1, f, P, 0, A.last + 1⟩, adp, cp, X) : Tw)]).map (·.1), lt + 1, ep⟩ := by rw [List.map_append]; rfl
                        rw [hTa] at hs
                        refine ⟨ys ++ [(⟨lt + 1, f, P, 0, A.last + 1⟩, adp, cp, X)], _, _, lt + 1, ep, A.add (fun _ => 0) t, ⟨by omega, by omega, ?_, ?_, hAr, by simp only [Sn.add]; omega⟩, by rw [List.length_append]; exact ha.keep [0, 1, 6, 7, 8, 10, 11, 12, 13], by rw [List.length_append]; exact hs.sub⟩
                        · intro z hz
                          rcases List.mem_append.1 hz with hz | hz
                          · exact hok z hz
                          · obtain rfl := List.mem_singleton.1 hz
                            exact ⟨hP, hPr⟩
                        · rw [List.map_append]; exact hHn
                      ·
                        try simp only [decide_eq_true_eq, decide_eq_false_iff_not, Bool.not_eq_true', Bool.not_eq_false', Int.not_lt, Int.not_le, ne_eq, Decidable.not_not] at hc8
                        obtain ⟨_, e1, e2⟩ := hcase.resolve_right (fun h => by rw [hc8] at h; cases h.1)
                        rw [e1, e2] at hs
                        refine wp_skip ?_
                        refine blk_n <| then_n ?_
                        exact ⟨ys, adl, cl, lt, ep, A, ⟨by omega, by omega, hok, hH, hAr, by omega⟩, ha.keep [0, 1, 6, 7, 8, 10, 11, 12, 13], hs.sub⟩
              ·
                try simp only [decide_eq_true_eq, decide_eq_false_iff_not, Bool.not_eq_true', Bool.not_eq_false', Int.not_lt, Int.not_le, ne_eq, Decidable.not_not] at hc5
                refine wp_seq ?_
                refine wp_region_lit ?_
                refine wpList_k (st_set ha rfl (ex_eql ha) rfl ?_); clear ha; (try clear a); intro a ha
                refine wpList_k (st_set ha rfl (ex_assign ha) rfl ?_); clear ha; (try clear a); intro a ha
                refine wpList_nil ?_
                refine then_n ?_
                refine wp_if ha (fun hc10 => ?_) (fun hc10 => ?_)
                ·
                  try simp only [decide_eq_true_eq, decide_eq_false_iff_not, Bool.not_eq_true', Bool.not_eq_false', Int.not_lt, Int.not_le, ne_eq, Decidable.not_not] at hc10
                  refine wp_seq ?_
                  refine wp_region_lit ?_
                  refine wpList_k (st_set ha rfl (ex_move ha) rfl ?_); clear ha; (try clear a); intro a ha
                  refine wpList_k (st_set ha rfl (ex_move ha) rfl ?_); clear ha; (try clear a); intro a ha
                  have hs0 := hs
                  refine wpList_k (st_call ha rfl Ty.c20 rfl (snap_fork (i := 0) (x := ⟨1, 1, fun _ => 0, t⟩) (hs.store q) hH.base (by omega)) ?_); clear ha hs
                  rintro e w ⟨rfl, hs⟩
                  refine ⟨_, rfl, ?_⟩
                  intro a ha
                  obtain ⟨s, hsl⟩ : ∃ s, A.last + 1 = s := ⟨_, rfl⟩
                  have hH1 : Held t (A.add (fun _ => 0) t) (ys.map (·.1) ++ [⟨0, 0, [], 0, s⟩]) := hH.add (Store.facts (hs0.store q)).1 hsl.symm
                  refine wpList_k (st_set ha rfl (ex_move ha) rfl ?_); clear ha; (try clear a); intro a ha
                  refine wpList_k (st_set ha rfl (ex_extract ha rfl) rfl ?_); clear ha; (try clear a); intro a ha
                  refine wpList_k (st_set ha rfl (ex_extract ha rfl) rfl ?_); clear ha; (try clear a); intro a ha
                  refine wpList_k (st_set ha rfl (ex_assign ha) rfl ?_); clear ha; (try clear a); intro a ha
                  refine wpList_k (st_set ha rfl (ex_assign ha) rfl ?_); clear ha; (try clear a); intro a ha
                  refine wpList_nil ?_
                  change St W w (Store q r (A.add (fun _ => 0) t) :: _) at hs
                  have hs1 : 2 ≤ s := by
                    have := ((Store.facts (hs0.store q)).1.pic _ (List.mem_of_getElem? hH.base)).2.1
                    simp only at this; omega
                  obtain ⟨A1, hA1⟩ : ∃ A1, A.add (fun _ => 0) t = A1 := ⟨_, rfl⟩
                  have hA1n : A1.n = A.n + 1 := by rw [← hA1]; rfl
                  have hA1r : A1.room = 120 := by rw [← hA1]; exact hAr
                  have hA1x : A1.pics[A.pics.length]? = some ⟨s, 1, fun _ => 0, t⟩ := by rw [← hA1, ← hsl]; simp [Sn.add]
                  rw [hA1] at hs hH1
                  rw [hsl] at ha
                  have hA1u : A1.used < A1.room := by
                    have h1 := Store.used_le (hs.store q)
                    have h2 := hH1.len
                    rw [List.length_append, hysl] at h2
                    simp at h2
                    omega
                  refine then_n ?_
                  refine wp_seq ?_
                  refine wp_seq ?_
                  refine wp_region_lit ?_
                  refine wpList_k (st_set ha rfl (ex_move ha) rfl ?_); clear ha; (try clear a); intro a ha
                  refine wpList_k (st_set ha rfl (ex_not ha) rfl ?_); clear ha; (try clear a); intro a ha
                  refine wpList_k (st_set ha rfl (ex_move ha) rfl ?_); clear ha; (try clear a); intro a ha
                  refine wpList_k (st_set ha (wgT ha rfl (s := 255)) (ex_move ha) rfl ?_); clear ha; (try clear a); intro a ha
                  refine wpList_k (st_set ha (wgT ha rfl (s := 255)) (ex_move ha) rfl ?_); clear ha; (try clear a); intro a ha
                  refine wpList_k (st_set ha (wgT ha rfl (s := 255)) (ex_fieldAddr (k := 5) ha Try.underlying66 rfl Ty.t21 rfl) rfl ?_); clear ha; (try clear a); intro a ha
                  refine wpList_k (st_set ha (wgT ha rfl (s := 255)) (ex_load1 ha Try.underlying21 rfl (hs.rd1 rfl)) rfl ?_); clear ha; (try clear a); intro a ha
                  refine wpList_k (st_call ha (wgT ha rfl (s := 255)) Ty.c29 rfl (snap_set_any (i := A.pics.length) (x := ⟨s, 1, fun _ => 0, t⟩) (c := 3) (hs.store q) hA1x (by decide) hA1u) ?_); clear ha hs
                  rintro e w ⟨p', rfl, _, hs⟩
                  refine ⟨_, rfl, ?_⟩
                  intro a ha
                  have hH2 := hH1.put (g := upd (fun _ => 0) 3 v) (u := p') hA1x (by simp only; omega)
                  have hA2x : (A1.pics.set A.pics.length ⟨s, 1, upd (fun _ => 0) 3 v, p'⟩)[A.pics.length]? = some ⟨s, 1, upd (fun _ => 0) 3 v, p'⟩ := by
                    rw [List.getElem?_set_self (List.getElem?_eq_some_iff.1 hA1x).1]
                  refine wpList_k (st_set ha (wgT ha rfl (s := 255)) (ex_not ha) rfl ?_); clear ha; (try clear a); intro a ha
                  refine wpList_k (st_set ha rfl (ex_pickF ha) rfl ?_); clear ha; (try clear a); intro a ha
                  refine wpList_nil ?_
                  obtain ⟨A2, hA2⟩ : ∃ A2 : Sn, (⟨A1.last, A1.room, A1.n, A1.pics.set A.pics.length ⟨s, 1, upd (fun _ => 0) 3 v, p'⟩⟩ : Sn) = A2 := ⟨_, rfl⟩
                  replace hH2 : Held t A2 (ys.map (·.1) ++ [⟨0, 0, [], 0, s⟩]) := by rw [← hA2]; exact hH2
                  replace hA2x : A2.pics[A.pics.length]? = some ⟨s, 1, upd (fun _ => 0) 3 v, p'⟩ := by rw [← hA2]; exact hA2x
                  have hA2n : A2.n = A1.n := by rw [← hA2]
                  have hA2r : A2.room = 120 := by rw [← hA2]; exact hA1r
                  change St W w (Store q r ⟨A1.last, A1.room, A1.n, A1.pics.set A.pics.length ⟨s, 1, upd (fun _ => 0) 3 v, p'⟩⟩ :: _) at hs
                  rw [hA2] at hs
                  refine then_n ?_
                  refine wp_ifF ha ?_
                  refine wp_skip ?_
                  refine then_n ?_
                  refine wp_seq_cut (M := fun a w => ∃ A3 : Sn, (A3.room = 120 ∧ A3.n = A1.n ∧ (dead = true → Held t A3 (ys.map (·.1)) ∧ ∀ z ∈ A3.pics, z.id ≠ s) ∧ (dead = false → Held t A3 (ys.map (·.1) ++ [⟨0, 0, [], 0, s⟩]) ∧ ∃ px, A3.pics[A.pics.length]? = some px ∧ px.id = s)) ∧ Fr a 418 [(0, .int .i64 M), (1, .slice (some ⟨bo, oo, none⟩) len1 cap1), (6, .pointer (some ⟨q, 0, none⟩)), (7, .pointer (some ⟨tq, 0, none⟩)), (8, .int .i64 ((1 : Nat) : Int)), (10, .slice adl ys.length cl), (11, .int .i64 lt), (12, .int .i64 ep), (13, .int .i64 i), (14, .pointer (some ⟨b14, 0, none⟩)), (15, .int .i64 at'), (23, .int .i64 s)] ∧ St W w [blk b14 66 (bop k f d id adp P.length cp v dead), Sl 48 1 adp P.length cp (X.map bbv), Tree tq q ⟨M, ys.map (·.1), lt, ep⟩, Store q r A3, Sl 68 5 adl ys.length cl (rows tc ys), All two ys]) ?_ ?_
                  ·
                    refine wp_seq ?_
                    refine wp_region_lit ?_
                    refine wpList_k (st_set ha rfl (ex_fieldAddr (k := 6) ha Try.underlying66 rfl Ty.t4 rfl) rfl ?_); clear ha; (try clear a); intro a ha
                    refine wpList_k (st_set ha rfl (ex_load1 ha Try.underlying4 rfl (hs.rd1 rfl)) rfl ?_); clear ha; (try clear a); intro a ha
                    refine wpList_nil ?_
                    refine then_n ?_
                    refine wp_if ha (fun hc12 => ?_) (fun hc12 => ?_)
                    ·
                      try simp only [decide_eq_true_eq, decide_eq_false_iff_not, Bool.not_eq_true', Bool.not_eq_false', Int.not_lt, Int.not_le, ne_eq, Decidable.not_not] at hc12
                      refine wp_region_lit ?_
                      refine wpList_k (st_set ha rfl (ex_move ha) rfl ?_); clear ha; (try clear a); intro a ha
                      refine wpList_k (st_set ha rfl (ex_move ha) rfl ?_); clear ha; (try clear a); intro a ha
                      refine wpList_k (st_call ha rfl Ty.c30 rfl (snap_dropId (id := s) (hs.store q)) ?_); clear ha hs
                      rintro e w ⟨vv, rfl, hs⟩
                      refine ⟨_, rfl, ?_⟩
                      intro a ha
                      refine wpList_nil ?_
                      refine then_n ?_
                      have hu := hH2.undo
                      have hdn : (A2.dropId s).n = A2.n ∧ (A2.dropId s).room = A2.room := by
                        rw [Sn.dropId]
                        split
                        · split <;> exact ⟨rfl, rfl⟩
                        · exact ⟨rfl, rfl⟩
                      exact ⟨A2.dropId s, ⟨hdn.2.trans hA2r, hdn.1.trans hA2n, fun _ => hu, fun e => (by rw [hc12] at e; cases e)⟩, ha.keep [0, 1, 6, 7, 8, 10, 11, 12, 13, 14, 15, 23], hs.sub⟩
                    ·
                      try simp only [decide_eq_true_eq, decide_eq_false_iff_not, Bool.not_eq_true', Bool.not_eq_false', Int.not_lt, Int.not_le, ne_eq, Decidable.not_not] at hc12
                      refine wp_skip ?_
                      refine then_n ?_
                      exact ⟨A2, ⟨hA2r, hA2n, fun e => (by rw [hc12] at e; cases e), fun _ => ⟨hH2, _, hA2x, rfl⟩⟩, ha.keep [0, 1, 6, 7, 8, 10, 11, 12, 13, 14, 15, 23], hs.sub⟩
                  · clear ha; (try clear hs)
                    intro a w hcut
                    obtain ⟨A3, ⟨hA3r, hA3n, hA3d, hA3l⟩, ha, hs⟩ := hcut
                    refine wp_seq_cut (M := fun a w => ∃ wb : Bool, Pub (ys.map (·.1)) id d dead at' wb ∧ Fr a 418 [(0, .int .i64 M), (1, .slice (some ⟨bo, oo, none⟩) len1 cap1), (6, .pointer (some ⟨q, 0, none⟩)), (7, .pointer (some ⟨tq, 0, none⟩)), (8, .int .i64 ((1 : Nat) : Int)), (10, .slice adl ys.length cl), (11, .int .i64 lt), (12, .int .i64 ep), (13, .int .i64 i), (14, .pointer (some ⟨b14, 0, none⟩)), (15, .int .i64 at'), (23, .int .i64 s), (25, .bool wb)] ∧ St W w [blk b14 66 (bop k f d id adp P.length cp v dead), Sl 48 1 adp P.length cp (X.map bbv), Tree tq q ⟨M, ys.map (·.1), lt, ep⟩, Store q r A3, Sl 68 5 adl ys.length cl (rows tc ys), All two ys]) ?_ ?_
                    ·
                      obtain ⟨j, y, hjy⟩ : ∃ (j : Nat) (y : Tw), 0 ≤ at' → j < ys.length ∧ at' = j ∧ ys[j]? = some y ∧ (y.1.id : Int) = id := by
                        rcases hat with ⟨rfl, _⟩ | ⟨j, y, h1, h2, h3, h4⟩
                        · exact ⟨0, (⟨0, 0, [], 0, 0⟩, none, 0, []), fun h => absurd h (by omega)⟩
                        · exact ⟨j, y, fun _ => ⟨h1, h2, h3, h4⟩⟩
                      obtain ⟨bt, ot, hbt⟩ : ∃ bt ot, 0 ≤ at' → adl = some ⟨bt, ot, none⟩ ∧ Rd w.drew bt (ot + j * 5) (brC y.1 y.2.1 y.2.2.1) := by
                        by_cases h : 0 ≤ at'
                        · obtain ⟨h1, h2, h3, h4⟩ := hjy h
                          obtain ⟨b, o, e, hr⟩ := hs.drew.slRd adl (by omega)
                          exact ⟨b, o, fun _ => ⟨e, tw_rd hr h3⟩⟩
                        · exact ⟨0, 0, fun h' => absurd h' h⟩
                      have hob : Rd w.drew b14 0 (bop k f d id adp P.length cp v dead) := hs.drew.rdAll
                      refine wp_draw (m := 29) (l0 := lb 29 0) (fun w' => Rd w' b14 0 (bop k f d id adp P.length cp v dead) ∧ (0 ≤ at' → Rd w' bt (ot + j * 5) (brC y.1 y.2.1 y.2.2.1))) [9, 19, 20] Ty.mixed (by kernel_rfl) (by kernel_rfl) (pk_then (pk_blk (pk_then (pk_blk (pk_then (pk_then (pk_blk (pk_then pk_body)))))))) (fun hpk => ?_)
                      replace hs := hs.drew
                      generalize w.drew = w at hs hpk hbt hob ⊢
                      have hC := And.intro hob (fun h => (hbt h).2)
                      refine nt_pure (i := 0) (listed' := lb 29 1) (by kernel_rfl) rfl (by kernel_rfl) (by decide) hpk ha rfl (fun w => ex_move ha) rfl ?_; clear ha; (try clear a); intro a ha
                      refine nt_pure (i := 1) (listed' := lb 29 3) (by kernel_rfl) rfl (by kernel_rfl) (by decide) hpk ha rfl (fun w => ex_geq ha) rfl ?_; clear ha; (try clear a); intro a ha
                      refine nt_pure (i := 2) (listed' := lb 29 7) (by kernel_rfl) rfl (by kernel_rfl) (by decide) hpk ha rfl (fun w => ex_move ha) rfl ?_; clear ha; (try clear a); intro a ha
                      refine ha.bool (s := 270) (fun hg2 ha => ?_) (fun hg2 ha => ?_)
                      ·
                        try simp only [decide_eq_true_eq, decide_eq_false_iff_not, Bool.not_eq_true', Bool.not_eq_false', Int.not_lt, Int.not_le, ne_eq, Decidable.not_not] at hg2
                        obtain ⟨hj1, rfl, hyy, hid⟩ := hjy (by omega)
                        obtain ⟨rfl, hrt⟩ := hbt (by omega)
                        refine nt_pure (i := 3) (listed' := lb 29 15) (by kernel_rfl) rfl (by kernel_rfl) (by decide) hpk ha (wgT ha rfl (s := 270)) (fun w => ex_fieldAddr (k := 2) ha Try.underlying66 rfl Ty.t3 rfl) rfl ?_; clear ha; (try clear a); intro a ha
                        refine nt_pure (i := 5) (listed' := lb 29 47) (by kernel_rfl) rfl (by kernel_rfl) (by decide) hpk ha (wgT ha rfl (s := 270)) (fun w => ex_move ha) rfl ?_; clear ha; (try clear a); intro a ha
                        refine nt_pure (i := 6) (listed' := lb 29 111) (by kernel_rfl) rfl (by kernel_rfl) (by decide) hpk ha (wgT ha rfl (s := 270)) (fun w => ex_move ha) rfl ?_; clear ha; (try clear a); intro a ha
                        refine nt_pure (i := 7) (listed' := lb 29 239) (by kernel_rfl) rfl (by kernel_rfl) (by decide) hpk ha (wgT ha rfl (s := 270)) (fun w => ex_indexAddr ha Try.underlying64 Ty.t68 (by omega)) rfl ?_; clear ha; (try clear a); intro a ha
                        refine nt_pure (i := 8) (listed' := lb 29 495) (by kernel_rfl) rfl (by kernel_rfl) (by decide) hpk ha (wgT ha rfl (s := 270)) (fun w => ex_fieldAddr (k := 3) ha Try.underlying68 rfl Ty.t3 rfl) rfl ?_; clear ha; (try clear a); intro a ha
                        refine nt_held (i := 4) (listed' := lb 29 511) (by kernel_rfl) rfl (by kernel_rfl) hpk ha (wgT ha rfl (s := 270)) (fun w hc => ex_load1 ha Try.underlying3 rfl (hc.1 2 _ rfl)) hC rfl ?_; clear ha; (try clear a); intro a ha
                        refine nt_one (i := 9) (listed' := lb 29 1023) (by kernel_rfl) (by kernel_rfl) rfl (st_set ha (wgT ha rfl (s := 270)) (ex_load1 ha Try.underlying3 rfl (hC.2 (by omega) 3 _ rfl)) rfl ?_); clear ha; (try clear a); intro a ha
                        refine ⟨fun _ => hC, ?_⟩
                        refine nt_pure (i := 10) (listed' := lb 29 2047) (by kernel_rfl) rfl (by kernel_rfl) (by decide) hpk ha (wgT ha rfl (s := 270)) (fun w => ex_gtr ha) rfl ?_; clear ha; (try clear a); intro a ha
                        refine nt_pure (i := 11) (listed' := lb 29 4095) (by kernel_rfl) rfl (by kernel_rfl) (by decide) hpk ha rfl (fun w => ex_pickT ha) rfl ?_; clear ha; (try clear a); intro a ha
                        refine nt_pure (i := 12) (listed' := lb 29 8191) (by kernel_rfl) rfl (by kernel_rfl) (by decide) hpk ha rfl (fun w => ex_move ha) rfl ?_; clear ha; (try clear a); intro a ha
                        refine ha.bool (s := 280) (fun hg12 ha => ?_) (fun hg12 ha => ?_)
                        ·
                          try simp only [decide_eq_true_eq, decide_eq_false_iff_not, Bool.not_eq_true', Bool.not_eq_false', Int.not_lt, Int.not_le, ne_eq, Decidable.not_not] at hg12
                          refine nt_pure (i := 13) (listed' := lb 29 16383) (by kernel_rfl) rfl (by kernel_rfl) (by decide) hpk ha (wgT ha rfl (s := 280)) (fun w => ex_fieldAddr (k := 2) ha Try.underlying66 rfl Ty.t3 rfl) rfl ?_; clear ha; (try clear a); intro a ha
                          refine nt_pure (i := 15) (listed' := lb 29 49151) (by kernel_rfl) rfl (by kernel_rfl) (by decide) hpk ha (wgT ha rfl (s := 280)) (fun w => ex_move ha) rfl ?_; clear ha; (try clear a); intro a ha
                          refine nt_pure (i := 16) (listed' := lb 29 114687) (by kernel_rfl) rfl (by kernel_rfl) (by decide) hpk ha (wgT ha rfl (s := 280)) (fun w => ex_move ha) rfl ?_; clear ha; (try clear a); intro a ha
                          refine nt_pure (i := 17) (listed' := lb 29 245759) (by kernel_rfl) rfl (by kernel_rfl) (by decide) hpk ha (wgT ha rfl (s := 280)) (fun w => ex_indexAddr ha Try.underlying64 Ty.t68 (by omega)) rfl ?_; clear ha; (try clear a); intro a ha
                          refine nt_pure (i := 18) (listed' := lb 29 507903) (by kernel_rfl) rfl (by kernel_rfl) (by decide) hpk ha (wgT ha rfl (s := 280)) (fun w => ex_fieldAddr (k := 2) ha Try.underlying68 rfl Ty.t23 rfl) rfl ?_; clear ha; (try clear a); intro a ha
                          refine nt_held (i := 14) (listed' := lb 29 524287) (by kernel_rfl) rfl (by kernel_rfl) hpk ha (wgT ha rfl (s := 280)) (fun w hc => ex_load1 ha Try.underlying3 rfl (hc.1 2 _ rfl)) hC rfl ?_; clear ha; (try clear a); intro a ha
                          refine nt_one (i := 19) (listed' := lb 29 1048575) (by kernel_rfl) (by kernel_rfl) rfl (st_set ha (wgT ha rfl (s := 280)) (ex_load1 ha Try.underlying23 rfl (hC.2 (by omega) 2 _ rfl)) rfl ?_); clear ha; (try clear a); intro a ha
                          refine ⟨fun _ => hC, ?_⟩
                          refine nt_one (i := 20) (listed' := lb 29 2097151) (by kernel_rfl) (by kernel_rfl) rfl (st_set ha (wgT ha rfl (s := 280)) (ex_len ha Try.underlying23) rfl ?_); clear ha; (try clear a); intro a ha
                          refine ⟨fun _ => hC, ?_⟩
                          refine nt_pure (i := 21) (listed' := lb 29 4194303) (by kernel_rfl) rfl (by kernel_rfl) (by decide) hpk ha (wgT ha rfl (s := 280)) (fun w => ex_leq ha) rfl ?_; clear ha; (try clear a); intro a ha
                          refine nt_pure (i := 22) (listed' := lb 29 8388607) (by kernel_rfl) rfl (by kernel_rfl) (by decide) hpk ha rfl (fun w => ex_pickT ha) rfl ?_; clear ha; (try clear a); intro a ha
                          refine nt_pure (i := 23) (listed' := lb 29 16777215) (by kernel_rfl) rfl (by kernel_rfl) (by decide) hpk ha rfl (fun w => ex_move ha) rfl ?_; clear ha; (try clear a); intro a ha
                          refine ha.bool (s := 291) (fun hg23 ha => ?_) (fun hg23 ha => ?_)
                          ·
                            try simp only [decide_eq_true_eq, decide_eq_false_iff_not, Bool.not_eq_true', Bool.not_eq_false', Int.not_lt, Int.not_le, ne_eq, Decidable.not_not] at hg23
                            refine nt_pure (i := 24) (listed' := lb 29 33554431) (by kernel_rfl) rfl (by kernel_rfl) (by decide) hpk ha (wgT ha rfl (s := 291)) (fun w => ex_fieldAddr (k := 6) ha Try.underlying66 rfl Ty.t4 rfl) rfl ?_; clear ha; (try clear a); intro a ha
                            refine nt_one (i := 25) (listed' := lb 29 67108863) (by kernel_rfl) (by kernel_rfl) rfl (st_set ha (wgT ha rfl (s := 291)) (ex_load1 ha Try.underlying4 rfl (hC.1 6 _ rfl)) rfl ?_); clear ha; (try clear a); intro a ha
                            refine ⟨fun h => absurd h (by decide), ?_⟩
                            refine nt_pure (i := 26) (listed' := lb 29 134217727) (by kernel_rfl) rfl (by kernel_rfl) (by decide) hpk ha (wgT ha rfl (s := 291)) (fun w => ex_not ha) rfl ?_; clear ha; (try clear a); intro a ha
                            refine nt_pure (i := 27) (listed' := lb 29 268435455) (by kernel_rfl) rfl (by kernel_rfl) (by decide) hpk ha rfl (fun w => ex_pickT ha) rfl ?_; clear ha; (try clear a); intro a ha
                            refine nt_pure (i := 28) (listed' := lb 29 536870911) (by kernel_rfl) rfl (by kernel_rfl) (by decide) hpk ha rfl (fun w => ex_assign ha) rfl ?_; clear ha; (try clear a); intro a ha
                            refine nt_done (by kernel_rfl) ?_ _
                            refine then_n ?_
                            refine ⟨!dead, ?_, ha.keep [0, 1, 6, 7, 8, 10, 11, 12, 13, 14, 15, 23, 25], hs.sub⟩
                            cases dead with
                            | false => exact .inl ⟨rfl, rfl, j, y.1, hT _ _ hyy, hid, rfl, by omega, by omega⟩
                            | true => exact .inr ⟨rfl, .inr ⟨j, y.1, hT _ _ hyy, hid, .inr (.inr rfl)⟩⟩
                          ·
                            try simp only [decide_eq_true_eq, decide_eq_false_iff_not, Bool.not_eq_true', Bool.not_eq_false', Int.not_lt, Int.not_le, ne_eq, Decidable.not_not] at hg23
                            refine nt_off (i := 24) (listed' := lb 29 33554431) (by kernel_rfl) rfl (by kernel_rfl) (by decide) hpk ha (wgF ha rfl (s := 291) rfl) rfl ?_; clear ha; (try clear a); intro a ha
                            refine nt_off (i := 25) (listed' := lb 29 67108863) (by kernel_rfl) rfl (by kernel_rfl) (by decide) hpk ha (wgF ha rfl (s := 291) rfl) rfl ?_; clear ha; (try clear a); intro a ha
                            refine nt_off (i := 26) (listed' := lb 29 134217727) (by kernel_rfl) rfl (by kernel_rfl) (by decide) hpk ha (wgF ha rfl (s := 291) rfl) rfl ?_; clear ha; (try clear a); intro a ha
                            refine nt_pure (i := 27) (listed' := lb 29 268435455) (by kernel_rfl) rfl (by kernel_rfl) (by decide) hpk ha rfl (fun w => ex_pickF ha) rfl ?_; clear ha; (try clear a); intro a ha
                            refine nt_pure (i := 28) (listed' := lb 29 536870911) (by kernel_rfl) rfl (by kernel_rfl) (by decide) hpk ha rfl (fun w => ex_assign ha) rfl ?_; clear ha; (try clear a); intro a ha
                            refine nt_done (by kernel_rfl) ?_ _
                            refine then_n ?_
                            exact ⟨false, .inr ⟨rfl, .inr ⟨j, y.1, hT _ _ hyy, hid, .inr (.inl (by omega))⟩⟩, ha.keep [0, 1, 6, 7, 8, 10, 11, 12, 13, 14, 15, 23, 25], hs.sub⟩
                        ·
                          try simp only [decide_eq_true_eq, decide_eq_false_iff_not, Bool.not_eq_true', Bool.not_eq_false', Int.not_lt, Int.not_le, ne_eq, Decidable.not_not] at hg12
                          refine nt_off (i := 13) (listed' := lb 29 16383) (by kernel_rfl) rfl (by kernel_rfl) (by decide) hpk ha (wgF ha rfl (s := 280) rfl) rfl ?_; clear ha; (try clear a); intro a ha
                          refine nt_off (i := 15) (listed' := lb 29 49151) (by kernel_rfl) rfl (by kernel_rfl) (by decide) hpk ha (wgF ha rfl (s := 280) rfl) rfl ?_; clear ha; (try clear a); intro a ha
                          refine nt_off (i := 16) (listed' := lb 29 114687) (by kernel_rfl) rfl (by kernel_rfl) (by decide) hpk ha (wgF ha rfl (s := 280) rfl) rfl ?_; clear ha; (try clear a); intro a ha
                          refine nt_off (i := 17) (listed' := lb 29 245759) (by kernel_rfl) rfl (by kernel_rfl) (by decide) hpk ha (wgF ha rfl (s := 280) rfl) rfl ?_; clear ha; (try clear a); intro a ha
                          refine nt_off (i := 18) (listed' := lb 29 507903) (by kernel_rfl) rfl (by kernel_rfl) (by decide) hpk ha (wgF ha rfl (s := 280) rfl) rfl ?_; clear ha; (try clear a); intro a ha
                          refine nt_offH (i := 14) (listed' := lb 29 524287) (by kernel_rfl) rfl (by kernel_rfl) hpk ha (wgF ha rfl (s := 280) rfl) hC rfl ?_; clear ha; (try clear a); intro a ha
                          refine nt_offH (i := 19) (listed' := lb 29 1048575) (by kernel_rfl) rfl (by kernel_rfl) hpk ha (wgF ha rfl (s := 280) rfl) hC rfl ?_; clear ha; (try clear a); intro a ha
                          refine nt_offH (i := 20) (listed' := lb 29 2097151) (by kernel_rfl) rfl (by kernel_rfl) hpk ha (wgF ha rfl (s := 280) rfl) hC rfl ?_; clear ha; (try clear a); intro a ha
                          refine nt_off (i := 21) (listed' := lb 29 4194303) (by kernel_rfl) rfl (by kernel_rfl) (by decide) hpk ha (wgF ha rfl (s := 280) rfl) rfl ?_; clear ha; (try clear a); intro a ha
                          refine nt_pure (i := 22) (listed' := lb 29 8388607) (by kernel_rfl) rfl (by kernel_rfl) (by decide) hpk ha rfl (fun w => ex_pickF ha) rfl ?_; clear ha; (try clear a); intro a ha
                          refine nt_pure (i := 23) (listed' := lb 29 16777215) (by kernel_rfl) rfl (by kernel_rfl) (by decide) hpk ha rfl (fun w => ex_move ha) rfl ?_; clear ha; (try clear a); intro a ha
                          refine nt_off (i := 24) (listed' := lb 29 33554431) (by kernel_rfl) rfl (by kernel_rfl) (by decide) hpk ha (wgF ha rfl (s := 291) rfl) rfl ?_; clear ha; (try clear a); intro a ha
                          refine nt_off (i := 25) (listed' := lb 29 67108863) (by kernel_rfl) rfl (by kernel_rfl) (by decide) hpk ha (wgF ha rfl (s := 291) rfl) rfl ?_; clear ha; (try clear a); intro a ha
                          refine nt_off (i := 26) (listed' := lb 29 134217727) (by kernel_rfl) rfl (by kernel_rfl) (by decide) hpk ha (wgF ha rfl (s := 291) rfl) rfl ?_; clear ha; (try clear a); intro a ha
                          refine nt_pure (i := 27) (listed' := lb 29 268435455) (by kernel_rfl) rfl (by kernel_rfl) (by decide) hpk ha rfl (fun w => ex_pickF ha) rfl ?_; clear ha; (try clear a); intro a ha
                          refine nt_pure (i := 28) (listed' := lb 29 536870911) (by kernel_rfl) rfl (by kernel_rfl) (by decide) hpk ha rfl (fun w => ex_assign ha) rfl ?_; clear ha; (try clear a); intro a ha
                          refine nt_done (by kernel_rfl) ?_ _
                          refine then_n ?_
                          exact ⟨false, .inr ⟨rfl, .inr ⟨j, y.1, hT _ _ hyy, hid, .inl (by omega)⟩⟩, ha.keep [0, 1, 6, 7, 8, 10, 11, 12, 13, 14, 15, 23, 25], hs.sub⟩
                      ·
                        try simp only [decide_eq_true_eq, decide_eq_false_iff_not, Bool.not_eq_true', Bool.not_eq_false', Int.not_lt, Int.not_le, ne_eq, Decidable.not_not] at hg2
                        refine nt_off (i := 3) (listed' := lb 29 15) (by kernel_rfl) rfl (by kernel_rfl) (by decide) hpk ha (wgF ha rfl (s := 270) rfl) rfl ?_; clear ha; (try clear a); intro a ha
                        refine nt_off (i := 5) (listed' := lb 29 47) (by kernel_rfl) rfl (by kernel_rfl) (by decide) hpk ha (wgF ha rfl (s := 270) rfl) rfl ?_; clear ha; (try clear a); intro a ha
                        refine nt_off (i := 6) (listed' := lb 29 111) (by kernel_rfl) rfl (by kernel_rfl) (by decide) hpk ha (wgF ha rfl (s := 270) rfl) rfl ?_; clear ha; (try clear a); intro a ha
                        refine nt_off (i := 7) (listed' := lb 29 239) (by kernel_rfl) rfl (by kernel_rfl) (by decide) hpk ha (wgF ha rfl (s := 270) rfl) rfl ?_; clear ha; (try clear a); intro a ha
                        refine nt_off (i := 8) (listed' := lb 29 495) (by kernel_rfl) rfl (by kernel_rfl) (by decide) hpk ha (wgF ha rfl (s := 270) rfl) rfl ?_; clear ha; (try clear a); intro a ha
                        refine nt_offH (i := 4) (listed' := lb 29 511) (by kernel_rfl) rfl (by kernel_rfl) hpk ha (wgF ha rfl (s := 270) rfl) hC rfl ?_; clear ha; (try clear a); intro a ha
                        refine nt_offH (i := 9) (listed' := lb 29 1023) (by kernel_rfl) rfl (by kernel_rfl) hpk ha (wgF ha rfl (s := 270) rfl) hC rfl ?_; clear ha; (try clear a); intro a ha
                        refine nt_off (i := 10) (listed' := lb 29 2047) (by kernel_rfl) rfl (by kernel_rfl) (by decide) hpk ha (wgF ha rfl (s := 270) rfl) rfl ?_; clear ha; (try clear a); intro a ha
                        refine nt_pure (i := 11) (listed' := lb 29 4095) (by kernel_rfl) rfl (by kernel_rfl) (by decide) hpk ha rfl (fun w => ex_pickF ha) rfl ?_; clear ha; (try clear a); intro a ha
                        refine nt_pure (i := 12) (listed' := lb 29 8191) (by kernel_rfl) rfl (by kernel_rfl) (by decide) hpk ha rfl (fun w => ex_move ha) rfl ?_; clear ha; (try clear a); intro a ha
                        refine nt_off (i := 13) (listed' := lb 29 16383) (by kernel_rfl) rfl (by kernel_rfl) (by decide) hpk ha (wgF ha rfl (s := 280) rfl) rfl ?_; clear ha; (try clear a); intro a ha
                        refine nt_off (i := 15) (listed' := lb 29 49151) (by kernel_rfl) rfl (by kernel_rfl) (by decide) hpk ha (wgF ha rfl (s := 280) rfl) rfl ?_; clear ha; (try clear a); intro a ha
                        refine nt_off (i := 16) (listed' := lb 29 114687) (by kernel_rfl) rfl (by kernel_rfl) (by decide) hpk ha (wgF ha rfl (s := 280) rfl) rfl ?_; clear ha; (try clear a); intro a ha
                        refine nt_off (i := 17) (listed' := lb 29 245759) (by kernel_rfl) rfl (by kernel_rfl) (by decide) hpk ha (wgF ha rfl (s := 280) rfl) rfl ?_; clear ha; (try clear a); intro a ha
                        refine nt_off (i := 18) (listed' := lb 29 507903) (by kernel_rfl) rfl (by kernel_rfl) (by decide) hpk ha (wgF ha rfl (s := 280) rfl) rfl ?_; clear ha; (try clear a); intro a ha
                        refine nt_offH (i := 14) (listed' := lb 29 524287) (by kernel_rfl) rfl (by kernel_rfl) hpk ha (wgF ha rfl (s := 280) rfl) hC rfl ?_; clear ha; (try clear a); intro a ha
                        refine nt_offH (i := 19) (listed' := lb 29 1048575) (by kernel_rfl) rfl (by kernel_rfl) hpk ha (wgF ha rfl (s := 280) rfl) hC rfl ?_; clear ha; (try clear a); intro a ha
                        refine nt_offH (i := 20) (listed' := lb 29 2097151) (by kernel_rfl) rfl (by kernel_rfl) hpk ha (wgF ha rfl (s := 280) rfl) hC rfl ?_; clear ha; (try clear a); intro a ha
                        refine nt_off (i := 21) (listed' := lb 29 4194303) (by kernel_rfl) rfl (by kernel_rfl) (by decide) hpk ha (wgF ha rfl (s := 280) rfl) rfl ?_; clear ha; (try clear a); intro a ha
                        refine nt_pure (i := 22) (listed' := lb 29 8388607) (by kernel_rfl) rfl (by kernel_rfl) (by decide) hpk ha rfl (fun w => ex_pickF ha) rfl ?_; clear ha; (try clear a); intro a ha
                        refine nt_pure (i := 23) (listed' := lb 29 16777215) (by kernel_rfl) rfl (by kernel_rfl) (by decide) hpk ha rfl (fun w => ex_move ha) rfl ?_; clear ha; (try clear a); intro a ha
                        refine nt_off (i := 24) (listed' := lb 29 33554431) (by kernel_rfl) rfl (by kernel_rfl) (by decide) hpk ha (wgF ha rfl (s := 291) rfl) rfl ?_; clear ha; (try clear a); intro a ha
                        refine nt_off (i := 25) (listed' := lb 29 67108863) (by kernel_rfl) rfl (by kernel_rfl) (by decide) hpk ha (wgF ha rfl (s := 291) rfl) rfl ?_; clear ha; (try clear a); intro a ha
                        refine nt_off (i := 26) (listed' := lb 29 134217727) (by kernel_rfl) rfl (by kernel_rfl) (by decide) hpk ha (wgF ha rfl (s := 291) rfl) rfl ?_; clear ha; (try clear a); intro a ha
                        refine nt_pure (i := 27) (listed' := lb 29 268435455) (by kernel_rfl) rfl (by kernel_rfl) (by decide) hpk ha rfl (fun w => ex_pickF ha) rfl ?_; clear ha; (try clear a); intro a ha
                        refine nt_pure (i := 28) (listed' := lb 29 536870911) (by kernel_rfl) rfl (by kernel_rfl) (by decide) hpk ha rfl (fun w => ex_assign ha) rfl ?_; clear ha; (try clear a); intro a ha
                        refine nt_done (by kernel_rfl) ?_ _
                        refine then_n ?_
                        exact ⟨false, .inr ⟨rfl, .inl (fun z hz => by
                          obtain ⟨y', hy', rfl⟩ := List.mem_map.1 hz
                          obtain ⟨j', hj'⟩ := List.mem_iff_getElem?.1 hy'
                          rcases hat with ⟨_, hno⟩ | ⟨j2, _, _, h2, _, _⟩
                          · exact hno j' y' (List.getElem?_eq_some_iff.1 hj').1 hj'
                          · omega)⟩, ha.keep [0, 1, 6, 7, 8, 10, 11, 12, 13, 14, 15, 23, 25], hs.sub⟩
                    · clear ha; (try clear hs)
                      intro a w hcut
                      obtain ⟨wb, hwb, ha, hs⟩ := hcut
                      refine wp_seq ?_
                      refine wp_seq ?_
                      refine wp_region_lit ?_
                      refine wpList_k (st_set ha rfl (ex_move ha) rfl ?_); clear ha; (try clear a); intro a ha
                      refine wpList_k (st_set ha rfl (ex_fieldAddr (k := 3) ha Try.underlying66 rfl Ty.t2 rfl) rfl ?_); clear ha; (try clear a); intro a ha
                      refine wpList_k (st_set ha rfl (ex_load1 ha Try.underlying2 rfl (hs.rd1 rfl)) rfl ?_); clear ha; (try clear a); intro a ha
                      refine wpList_k (st_set ha rfl (ex_fieldAddr (k := 2) ha Try.underlying66 rfl Ty.t3 rfl) rfl ?_); clear ha; (try clear a); intro a ha
                      refine wpList_k (st_set ha rfl (ex_load1 ha Try.underlying3 rfl (hs.rd1 rfl)) rfl ?_); clear ha; (try clear a); intro a ha
                      refine wpList_k (st_set ha rfl (ex_move ha) rfl ?_); clear ha; (try clear a); intro a ha
                      obtain ⟨px, hpx⟩ : ∃ px : Pic, dead = false → A3.pics[A.pics.length]? = some px ∧ px.id = s := by
                        cases dead with
                        | false =>
                          obtain ⟨_, px, h⟩ := hA3l rfl
                          exact ⟨px, fun _ => h⟩
                        | true => exact ⟨⟨0, 0, fun _ => 0, fun _ => 0⟩, fun e => (by cases e)⟩
                      refine wpList_k (st_call ha rfl Ty.c21 rfl (publish_case (dead := dead) (wb := wb) (a := at') (s := s) (i := A.pics.length) ((hs.store q).tree tq) hwb hpx (fun e => (hA3d e).2)) ?_); clear ha hs
                      rintro e w ⟨T2, A4, rfl, hcase, hs⟩
                      refine ⟨_, rfl, ?_⟩
                      intro a ha
                      refine wpList_k (st_set ha rfl (ex_move ha) rfl ?_); clear ha; (try clear a); intro a ha
                      refine wpList_k (st_set ha rfl (ex_neqB ha Try.underlying4) rfl ?_); clear ha; (try clear a); intro a ha
                      rw [bne_self_eq_false] at ha
                      refine wpList_nil ?_
                      refine then_n ?_
                      refine wp_ifF ha ?_
                      refine wp_skip ?_
                      refine then_n ?_
                      refine wp_seq ?_
                      refine wp_region_lit ?_
                      refine wpList_k (st_set ha rfl (ex_move ha) rfl ?_); clear ha; (try clear a); intro a ha
                      refine wpList_nil ?_
                      refine then_n ?_
                      refine wp_if ha (fun hc14 => ?_) (fun hc14 => ?_)
                      ·
                        try simp only [decide_eq_true_eq, decide_eq_false_iff_not, Bool.not_eq_true', Bool.not_eq_false', Int.not_lt, Int.not_le, ne_eq, Decidable.not_not] at hc14
                        obtain ⟨_, hdf, j, y0, D, hTj, ea, ed, e1, e2⟩ := hcase.resolve_left (fun h => by rw [hc14] at h; cases h.1)
                        rw [e1, e2, ed] at hs
                        rw [ea] at ha
                        clear e1 e2
                        obtain ⟨⟨x, ax, cx, zz⟩, hyy, hy0⟩ := Option.map_eq_some_iff.1 ((List.getElem?_map (f := fun z : Tw => z.1) (l := ys) (i := j)).symm.trans hTj)
                        rw [← hy0] at hs hTj
                        have hs14 : St W w (Tree tq q ⟨M, (ys.map (·.1)).set j { x with done := D, snap := s }, lt, ep⟩ :: Store q r (A3.dropId x.snap) :: _) := hs
                        replace hs := hs14
                        clear hs14
                        obtain ⟨hjx, hye⟩ := List.getElem?_eq_some_iff.1 hyy
                        obtain ⟨bb, pre, post, ⟨h3, h4, h5, h6⟩, hs0⟩ := (hs.pick (Sl 68 5 adl ys.length cl (rows tc ys))).slOpen (by have := (hs.sl adl).2; omega)
                        replace hs := hs0
                        clear hs0
                        rw [h5] at ha
                        have hrl : (rows tc ys).length = ys.length * 5 := rows_len tc_len ys
                        refine wp_region_lit ?_
                        refine wpList_k (st_set ha rfl (ex_move ha) rfl ?_); clear ha; (try clear a); intro a ha
                        refine wpList_k (st_set ha rfl (ex_move ha) rfl ?_); clear ha; (try clear a); intro a ha
                        refine wpList_k (st_set ha rfl (ex_move ha) rfl ?_); clear ha; (try clear a); intro a ha
                        refine wpList_k (st_set ha rfl (ex_move ha) rfl ?_); clear ha; (try clear a); intro a ha
                        refine wpList_k (st_set ha rfl (ex_fieldAddr (k := 2) ha Try.underlying66 rfl Ty.t3 rfl) rfl ?_); clear ha; (try clear a); intro a ha
                        refine wpList_k (st_set ha rfl (ex_load1 ha Try.underlying3 rfl (hs.rd1 rfl)) rfl ?_); clear ha; (try clear a); intro a ha
                        refine wpList_k (st_set ha rfl (ex_move ha) rfl ?_); clear ha; (try clear a); intro a ha
                        refine wpList_k (st_set ha rfl (ex_indexAddr ha Try.underlying64 Ty.t68 (by omega)) rfl ?_); clear ha; (try clear a); intro a ha
                        refine wpList_k (st_set ha rfl (ex_fieldAddr (k := 3) ha Try.underlying68 rfl Ty.t3 rfl) rfl ?_); clear ha; (try clear a); intro a ha
                        refine wpList_k (st_store ha rfl hs Ty.t3 rfl (by simp only [List.length_append]; omega) ?_); clear ha hs; (try clear a); (try clear w); intro a w ha hs
                        rw [show pre.length + j * 5 + 3 = pre.length + (j * 5 + 3) from by omega, set_mid (by omega), rows_set1 tc_len ys ({ x with done := D }, ax, cx, zz) hjx (by decide) (by rw [hye]; rfl)] at hs
                        refine wpList_k (st_set ha rfl (ex_indexAddr ha Try.underlying64 Ty.t68 (by omega)) rfl ?_); clear ha; (try clear a); intro a ha
                        refine wpList_k (st_set ha rfl (ex_fieldAddr (k := 4) ha Try.underlying68 rfl Ty.t30 rfl) rfl ?_); clear ha; (try clear a); intro a ha
                        refine wpList_k (st_store ha rfl hs Ty.t30 rfl (by simp only [List.length_append, rows_len tc_len, List.length_set]; omega) ?_); clear ha hs; (try clear a); (try clear w); intro a w ha hs
                        rw [show pre.length + j * 5 + 4 = pre.length + (j * 5 + 4) from by omega, set_mid (by simp only [rows_len tc_len, List.length_set]; omega), rows_set1 tc_len _ ({ x with done := D, snap := s }, ax, cx, zz) (by rw [List.length_set]; exact hjx) (by decide) (by rw [List.getElem_set_self]; rfl), List.set_set] at hs
                        refine wpList_nil ?_
                        refine blk_n <| then_n ?_
                        have h7 := St.slShut (n := ys.length) (c := cl) (sz := 5) (cs := rows tc (ys.set j ({ x with done := D, snap := s }, ax, cx, zz))) (hs.bring bb) (by rw [rows_len tc_len, List.length_set]) h4 h6
                        have h8 := (h7.pick (All two ys)).allOut hjx
                        rw [hye] at h8
                        have h9 : St W w (two ({ x with done := D, snap := s }, ax, cx, zz) :: All two (ys.eraseIdx j) :: _) := h8
                        have h10 := St.allPut hjx h9
                        have hmap : (ys.set j ({ x with done := D, snap := s }, ax, cx, zz)).map (·.1) = (ys.map (·.1)).set j { x with done := D, snap := s } := by rw [List.map_set]
                        have hdn : (A3.dropId x.snap).n = A3.n ∧ (A3.dropId x.snap).room = A3.room := dropAll_n [x] A3
                        refine ⟨ys.set j ({ x with done := D, snap := s }, ax, cx, zz), some ⟨bb, pre.length, none⟩, cl, lt, ep, A3.dropId x.snap, ⟨by omega, by omega, ?_, ?_, hdn.2.trans hA3r, by rw [hdn.1]; omega⟩, by rw [List.length_set]; exact ha.keep [0, 1, 6, 7, 8, 10, 11, 12, 13], by rw [hmap, List.length_set]; exact h10.sub⟩
                        · intro z hz
                          rcases List.mem_or_eq_of_mem_set hz with hz | rfl
                          · exact hok z hz
                          · exact hok (x, ax, cx, zz) (List.mem_of_getElem? hyy)
                        · rw [hmap]
                          exact (hA3l hdf).1.swap (k := j) (x := x) hTj rfl
                      ·
                        try simp only [decide_eq_true_eq, decide_eq_false_iff_not, Bool.not_eq_true', Bool.not_eq_false', Int.not_lt, Int.not_le, ne_eq, Decidable.not_not] at hc14
                        obtain ⟨_, e1, e2⟩ := hcase.resolve_right (fun h => by rw [hc14] at h; cases h.1)
                        rw [e1, e2] at hs
                        refine wp_seq ?_
                        refine wp_region_lit ?_
                        refine wpList_k (st_set ha rfl (ex_fieldAddr (k := 6) ha Try.underlying66 rfl Ty.t4 rfl) rfl ?_); clear ha; (try clear a); intro a ha
                        refine wpList_k (st_set ha rfl (ex_load1 ha Try.underlying4 rfl (hs.rd1 rfl)) rfl ?_); clear ha; (try clear a); intro a ha
                        refine wpList_k (st_set ha rfl (ex_not ha) rfl ?_); clear ha; (try clear a); intro a ha
                        refine wpList_nil ?_
                        refine then_n ?_
                        refine wp_if ha (fun hc15 => ?_) (fun hc15 => ?_)
                        ·
                          try simp only [decide_eq_true_eq, decide_eq_false_iff_not, Bool.not_eq_true', Bool.not_eq_false', Int.not_lt, Int.not_le, ne_eq, Decidable.not_not] at hc15
                          refine wp_region_lit ?_
                          refine wpList_k (st_set ha rfl (ex_move ha) rfl ?_); clear ha; (try clear a); intro a ha
                          refine wpList_k (st_set ha rfl (ex_move ha) rfl ?_); clear ha; (try clear a); intro a ha
                          refine wpList_k (st_call ha rfl Ty.c30 rfl (snap_dropId (id := s) (hs.store q)) ?_); clear ha hs
                          rintro e w ⟨vv2, rfl, hs⟩
                          refine ⟨_, rfl, ?_⟩
                          intro a ha
                          refine wpList_nil ?_
                          refine blk_n <| then_n ?_
                          have hdn : (A3.dropId s).n = A3.n ∧ (A3.dropId s).room = A3.room := dropAll_n [(⟨0, 0, [], 0, s⟩ : Br)] A3
                          have hdf : dead = false := by simpa using hc15
                          exact ⟨ys, adl, cl, lt, ep, A3.dropId s, ⟨by omega, by omega, hok, (hA3l hdf).1.undo.1, hdn.2.trans hA3r, by rw [hdn.1]; omega⟩, ha.keep [0, 1, 6, 7, 8, 10, 11, 12, 13], hs.sub⟩
                        ·
                          try simp only [decide_eq_true_eq, decide_eq_false_iff_not, Bool.not_eq_true', Bool.not_eq_false', Int.not_lt, Int.not_le, ne_eq, Decidable.not_not] at hc15
                          refine wp_skip ?_
                          refine blk_n <| then_n ?_
                          have hdf : dead = true := by simpa using hc15
                          exact ⟨ys, adl, cl, lt, ep, A3, ⟨by omega, by omega, hok, (hA3d hdf).1, hA3r, by omega⟩, ha.keep [0, 1, 6, 7, 8, 10, 11, 12, 13], hs.sub⟩
                ·
                  try simp only [decide_eq_true_eq, decide_eq_false_iff_not, Bool.not_eq_true', Bool.not_eq_false', Int.not_lt, Int.not_le, ne_eq, Decidable.not_not] at hc10
                  refine wp_seq ?_
                  refine wp_region_lit ?_
                  refine wpList_k (st_set ha rfl (ex_eql ha) rfl ?_); clear ha; (try clear a); intro a ha
                  refine wpList_k (st_set ha rfl (ex_assign ha) rfl ?_); clear ha; (try clear a); intro a ha
                  refine wpList_nil ?_
                  refine then_n ?_
                  refine wp_if ha (fun hc16 => ?_) (fun hc16 => ?_)
                  ·
                    try simp only [decide_eq_true_eq, decide_eq_false_iff_not, Bool.not_eq_true', Bool.not_eq_false', Int.not_lt, Int.not_le, ne_eq, Decidable.not_not] at hc16
                    refine wp_seq ?_
                    refine wp_region_lit ?_
                    refine wpList_k (st_set ha rfl (ex_assign ha) rfl ?_); clear ha; (try clear a); intro a ha
                    refine wpList_nil ?_
                    refine then_n ?_
                    refine wp_seq ?_
                    refine wp_seq ?_
                    refine wp_region_lit ?_
                    refine wpList_k (st_set ha rfl (ex_assign ha) rfl ?_); clear ha; (try clear a); intro a ha
                    refine wpList_nil ?_
                    refine then_n ?_
                    refine wp_block ?_
                    refine wp_loop_ghost (fun μ a w => ∃ (k' : Nat) (bi : Int), (μ = ys.length - k' ∧ k' ≤ ys.length ∧ BestK ys f P k' bi) ∧ Fr a 418 [(0, .int .i64 M), (1, .slice (some ⟨bo, oo, none⟩) len1 cap1), (6, .pointer (some ⟨q, 0, none⟩)), (7, .pointer (some ⟨tq, 0, none⟩)), (8, .int .i64 ((1 : Nat) : Int)), (10, .slice adl ys.length cl), (11, .int .i64 lt), (12, .int .i64 ep), (13, .int .i64 i), (14, .pointer (some ⟨b14, 0, none⟩)), (26, .int .i64 bi), (27, .int .i64 k')] ∧ St W w [blk b14 66 (bop k f d id adp P.length cp v dead), Sl 48 1 adp P.length cp (X.map bbv), Tree tq q ⟨M, ys.map (·.1), lt, ep⟩, Store q r A, Sl 68 5 adl ys.length cl (rows tc ys), All two ys]) (ys.length) ?_ ?_
                    · exact ⟨0, -1, ⟨by simp, by simp, BestK.zero ys f P⟩, ha.keep [0, 1, 6, 7, 8, 10, 11, 12, 13, 14, 26, 27], hs.sub⟩
                    ·
                      clear ha hs
                      rintro μ a w ⟨k', bi, ⟨rfl, hk3, hbk⟩, ha, hs⟩
                      refine wp_seq ?_
                      refine wp_seq ?_
                      refine wp_region_lit ?_
                      refine wpList_k (st_set ha rfl (ex_move ha) rfl ?_); clear ha; (try clear a); intro a ha
                      refine wpList_k (st_set ha rfl (ex_move ha) rfl ?_); clear ha; (try clear a); intro a ha
                      refine wpList_k (st_set ha rfl (ex_len ha Try.underlying64) rfl ?_); clear ha; (try clear a); intro a ha
                      refine wpList_k (st_set ha rfl (ex_lss ha) rfl ?_); clear ha; (try clear a); intro a ha
                      refine wpList_nil ?_
                      refine then_n ?_
                      refine wp_if ha (fun hc17 => ?_) (fun hc17 => ?_)
                      ·
                        try simp only [decide_eq_true_eq, decide_eq_false_iff_not, Bool.not_eq_true', Bool.not_eq_false', Int.not_lt, Int.not_le, ne_eq, Decidable.not_not] at hc17
                        refine wp_skip ?_
                        refine then_n ?_
                        refine wp_seq ?_
                        refine wp_block ?_
                        refine wp_seq ?_
                        obtain ⟨bt, ot, hade, hrt⟩ := hs.slRd adl (by omega)
                        obtain ⟨y, hyy⟩ : ∃ y, ys[k']? = some y := ⟨_, List.getElem?_eq_getElem (by omega)⟩
                        have hyc := tw_rd hrt hyy
                        have hyk := hwt.ok _ (List.mem_of_getElem? (map_at hyy))
                        rw [hade] at ha
                        refine wp_region_lit ?_
                        refine wpList_k (st_set ha rfl (ex_move ha) rfl ?_); clear ha; (try clear a); intro a ha
                        refine wpList_k (st_set ha rfl (ex_move ha) rfl ?_); clear ha; (try clear a); intro a ha
                        refine wpList_k (st_set ha rfl (ex_indexAddr ha Try.underlying64 Ty.t68 (by omega)) rfl ?_); clear ha; (try clear a); intro a ha
                        refine wpList_k (st_set ha rfl (ex_loadN ha Try.underlying68 rfl Ty.t68 (hyc)) rfl ?_); clear ha; (try clear a); intro a ha
                        refine wpList_k (st_alloc ha rfl hs Ty.t68 rfl ?_); clear ha hs; (try clear a); (try clear w); intro b28 a w ha hs ho
                        clear ho
                        refine wpList_k (st_storeAll ha rfl hs Ty.t68 (brC_one y.1 y.2.1 y.2.2.1) (by rfl) ?_); clear ha hs; (try clear a); (try clear w); intro a w ha hs
                        refine wpList_nil ?_
                        refine then_n ?_
                        refine wp_seq ?_
                        obtain ⟨j, z, hjz⟩ : ∃ (j : Nat) (z : Tw), 0 ≤ bi → bi = j ∧ ys[j]? = some z := by
                          rcases hbk with ⟨rfl, _⟩ | ⟨j, z, h1, h2, h3, h4⟩
                          · exact ⟨0, (⟨0, 0, [], 0, 0⟩, none, 0, []), fun h => absurd h (by omega)⟩
                          · exact ⟨j, z, fun _ => ⟨h2, h3⟩⟩
                        rw [hade] at hs
                        have hrt2 := hs.drew.slRdAt bt ot (by omega)
                        have hbz : 0 ≤ bi → Rd w.drew bt (ot + j * 5) (brC z.1 z.2.1 z.2.2.1) := fun h => tw_rd hrt2 (hjz h).2
                        have hob : Rd w.drew b14 0 (bop k f d id adp P.length cp v dead) := hs.drew.rdAll
                        have hoy : Rd w.drew b28 0 (brC y.1 y.2.1 y.2.2.1) := hs.drew.rdAll
                        refine wp_draw (m := 45) (l0 := lb 45 0) (fun w' => Rd w' b28 0 (brC y.1 y.2.1 y.2.2.1) ∧ Rd w' b14 0 (bop k f d id adp P.length cp v dead) ∧ (0 ≤ bi → Rd w' bt (ot + j * 5) (brC z.1 z.2.1 z.2.2.1))) [3, 15, 22, 25, 27, 28, 41] Ty.mixed (by kernel_rfl) (by kernel_rfl) (pk_then (pk_blk (pk_then (pk_then (pk_blk (pk_then (pk_blk (pk_then (pk_blk (pk_then (pk_then (pk_blk (pk_then pk_body))))))))))))) (fun hpk => ?_)
                        replace hs := hs.drew
                        generalize w.drew = w at hs hpk hbz hob hoy ⊢
                        have hC := And.intro hoy (And.intro hob hbz)
                        refine nt_pure (i := 0) (listed' := lb 45 1) (by kernel_rfl) rfl (by kernel_rfl) (by decide) hpk ha rfl (fun w => ex_fieldAddr (k := 1) ha Try.underlying68 rfl Ty.t3 rfl) rfl ?_; clear ha; (try clear a); intro a ha
                        refine nt_pure (i := 2) (listed' := lb 45 5) (by kernel_rfl) rfl (by kernel_rfl) (by decide) hpk ha rfl (fun w => ex_fieldAddr (k := 1) ha Try.underlying66 rfl Ty.t3 rfl) rfl ?_; clear ha; (try clear a); intro a ha
                        refine nt_held (i := 1) (listed' := lb 45 7) (by kernel_rfl) rfl (by kernel_rfl) hpk ha rfl (fun w hc => ex_load1 ha Try.underlying3 rfl (hc.1 1 _ rfl)) hC rfl ?_; clear ha; (try clear a); intro a ha
                        refine nt_one (i := 3) (listed' := lb 45 15) (by kernel_rfl) (by kernel_rfl) rfl (st_set ha rfl (ex_load1 ha Try.underlying3 rfl (hC.2.1 1 _ rfl)) rfl ?_); clear ha; (try clear a); intro a ha
                        refine ⟨fun _ => hC, ?_⟩
                        refine nt_pure (i := 4) (listed' := lb 45 31) (by kernel_rfl) rfl (by kernel_rfl) (by decide) hpk ha rfl (fun w => ex_eql ha) rfl ?_; clear ha; (try clear a); intro a ha
                        refine nt_pure (i := 5) (listed' := lb 45 63) (by kernel_rfl) rfl (by kernel_rfl) (by decide) hpk ha rfl (fun w => ex_move ha) rfl ?_; clear ha; (try clear a); intro a ha
                        refine ha.bool (s := 340) (fun hg5 ha => ?_) (fun hg5 ha => ?_)
                        ·
                          try simp only [decide_eq_true_eq, decide_eq_false_iff_not, Bool.not_eq_true', Bool.not_eq_false', Int.not_lt, Int.not_le, ne_eq, Decidable.not_not] at hg5
                          refine nt_pure (i := 6) (listed' := lb 45 127) (by kernel_rfl) rfl (by kernel_rfl) (by decide) hpk ha (wgT ha rfl (s := 340)) (fun w => ex_fieldAddr (k := 3) ha Try.underlying68 rfl Ty.t3 rfl) rfl ?_; clear ha; (try clear a); intro a ha
                          refine nt_one (i := 7) (listed' := lb 45 255) (by kernel_rfl) (by kernel_rfl) rfl (st_set ha (wgT ha rfl (s := 340)) (ex_load1 ha Try.underlying3 rfl (hC.1 3 _ rfl)) rfl ?_); clear ha; (try clear a); intro a ha
                          refine ⟨fun h => absurd h (by decide), ?_⟩
                          refine nt_pure (i := 8) (listed' := lb 45 511) (by kernel_rfl) rfl (by kernel_rfl) (by decide) hpk ha (wgT ha rfl (s := 340)) (fun w => ex_gtr ha) rfl ?_; clear ha; (try clear a); intro a ha
                          refine nt_pure (i := 9) (listed' := lb 45 1023) (by kernel_rfl) rfl (by kernel_rfl) (by decide) hpk ha rfl (fun w => ex_pickT ha) rfl ?_; clear ha; (try clear a); intro a ha
                          refine nt_pure (i := 10) (listed' := lb 45 2047) (by kernel_rfl) rfl (by kernel_rfl) (by decide) hpk ha rfl (fun w => ex_move ha) rfl ?_; clear ha; (try clear a); intro a ha
                          refine ha.bool (s := 345) (fun hg10 ha => ?_) (fun hg10 ha => ?_)
                          ·
                            try simp only [decide_eq_true_eq, decide_eq_false_iff_not, Bool.not_eq_true', Bool.not_eq_false', Int.not_lt, Int.not_le, ne_eq, Decidable.not_not] at hg10
                            refine nt_pure (i := 11) (listed' := lb 45 4095) (by kernel_rfl) rfl (by kernel_rfl) (by decide) hpk ha (wgT ha rfl (s := 345)) (fun w => ex_fieldAddr (k := 4) ha Try.underlying66 rfl Ty.t23 rfl) rfl ?_; clear ha; (try clear a); intro a ha
                            refine nt_pure (i := 14) (listed' := lb 45 20479) (by kernel_rfl) rfl (by kernel_rfl) (by decide) hpk ha (wgT ha rfl (s := 345)) (fun w => ex_fieldAddr (k := 3) ha Try.underlying68 rfl Ty.t3 rfl) rfl ?_; clear ha; (try clear a); intro a ha
                            refine nt_held (i := 12) (listed' := lb 45 24575) (by kernel_rfl) rfl (by kernel_rfl) hpk ha (wgT ha rfl (s := 345)) (fun w hc => ex_load1 ha Try.underlying23 rfl (hc.2.1 4 _ rfl)) hC rfl ?_; clear ha; (try clear a); intro a ha
                            refine nt_pure (i := 13) (listed' := lb 45 32767) (by kernel_rfl) rfl (by kernel_rfl) (by decide) hpk ha (wgT ha rfl (s := 345)) (fun w => ex_len ha Try.underlying23) rfl ?_; clear ha; (try clear a); intro a ha
                            refine nt_one (i := 15) (listed' := lb 45 65535) (by kernel_rfl) (by kernel_rfl) rfl (st_set ha (wgT ha rfl (s := 345)) (ex_load1 ha Try.underlying3 rfl (hC.1 3 _ rfl)) rfl ?_); clear ha; (try clear a); intro a ha
                            refine ⟨fun _ => hC, ?_⟩
                            refine nt_pure (i := 16) (listed' := lb 45 131071) (by kernel_rfl) rfl (by kernel_rfl) (by decide) hpk ha (wgT ha rfl (s := 345)) (fun w => ex_geq ha) rfl ?_; clear ha; (try clear a); intro a ha
                            refine nt_pure (i := 17) (listed' := lb 45 262143) (by kernel_rfl) rfl (by kernel_rfl) (by decide) hpk ha rfl (fun w => ex_pickT ha) rfl ?_; clear ha; (try clear a); intro a ha
                            refine nt_pure (i := 18) (listed' := lb 45 524287) (by kernel_rfl) rfl (by kernel_rfl) (by decide) hpk ha rfl (fun w => ex_move ha) rfl ?_; clear ha; (try clear a); intro a ha
                            refine ha.bool (s := 353) (fun hg18 ha => ?_) (fun hg18 ha => ?_)
                            ·
                              try simp only [decide_eq_true_eq, decide_eq_false_iff_not, Bool.not_eq_true', Bool.not_eq_false', Int.not_lt, Int.not_le, ne_eq, Decidable.not_not] at hg18
                              refine nt_pure (i := 19) (listed' := lb 45 1048575) (by kernel_rfl) rfl (by kernel_rfl) (by decide) hpk ha (wgT ha rfl (s := 353)) (fun w => ex_fieldAddr (k := 2) ha Try.underlying68 rfl Ty.t23 rfl) rfl ?_; clear ha; (try clear a); intro a ha
                              refine nt_pure (i := 21) (listed' := lb 45 3145727) (by kernel_rfl) rfl (by kernel_rfl) (by decide) hpk ha (wgT ha rfl (s := 353)) (fun w => ex_fieldAddr (k := 3) ha Try.underlying68 rfl Ty.t3 rfl) rfl ?_; clear ha; (try clear a); intro a ha
                              refine nt_pure (i := 24) (listed' := lb 45 19922943) (by kernel_rfl) rfl (by kernel_rfl) (by decide) hpk ha (wgT ha rfl (s := 353)) (fun w => ex_fieldAddr (k := 4) ha Try.underlying66 rfl Ty.t23 rfl) rfl ?_; clear ha; (try clear a); intro a ha
                              refine nt_pure (i := 26) (listed' := lb 45 87031807) (by kernel_rfl) rfl (by kernel_rfl) (by decide) hpk ha (wgT ha rfl (s := 353)) (fun w => ex_fieldAddr (k := 3) ha Try.underlying68 rfl Ty.t3 rfl) rfl ?_; clear ha; (try clear a); intro a ha
                              refine nt_held (i := 20) (listed' := lb 45 88080383) (by kernel_rfl) rfl (by kernel_rfl) hpk ha (wgT ha rfl (s := 353)) (fun w hc => ex_load1 ha Try.underlying23 rfl (hc.1 2 _ rfl)) hC rfl ?_; clear ha; (try clear a); intro a ha
                              refine nt_held (i := 22) (listed' := lb 45 92274687) (by kernel_rfl) rfl (by kernel_rfl) hpk ha (wgT ha rfl (s := 353)) (fun w hc => ex_load1 ha Try.underlying3 rfl (hc.1 3 _ rfl)) hC rfl ?_; clear ha; (try clear a); intro a ha
                              refine nt_pure (i := 23) (listed' := lb 45 100663295) (by kernel_rfl) rfl (by kernel_rfl) (by decide) hpk ha (wgT ha rfl (s := 353)) (fun w => ex_sliceH ha Try.underlying23 Ty.t48 (by have := (tw_bb (hs.pick (All two ys)) hok hyy).2; have := hyk.2.1; omega)) rfl ?_; clear ha; (try clear a); intro a ha
                              rw [cutAd_zero, Nat.sub_zero, Nat.sub_zero] at ha
                              refine nt_held (i := 25) (listed' := lb 45 134217727) (by kernel_rfl) rfl (by kernel_rfl) hpk ha (wgT ha rfl (s := 353)) (fun w hc => ex_load1 ha Try.underlying23 rfl (hc.2.1 4 _ rfl)) hC rfl ?_; clear ha; (try clear a); intro a ha
                              refine nt_one (i := 27) (listed' := lb 45 268435455) (by kernel_rfl) (by kernel_rfl) rfl (st_set ha (wgT ha rfl (s := 353)) (ex_load1 ha Try.underlying3 rfl (hC.1 3 _ rfl)) rfl ?_); clear ha; (try clear a); intro a ha
                              refine ⟨fun _ => hC, ?_⟩
                              refine nt_one (i := 28) (listed' := lb 45 536870911) (by kernel_rfl) (by kernel_rfl) rfl (st_set ha (wgT ha rfl (s := 353)) (ex_sliceH ha Try.underlying23 Ty.t48 (by omega)) rfl ?_); clear ha; (try clear a); intro a ha
                              refine ⟨fun _ => hC, ?_⟩
                              rw [cutAd_zero, Nat.sub_zero, Nat.sub_zero] at ha
                              have hyl : (y.1.press.take y.1.done).length = y.1.done := by rw [List.length_take, Nat.min_eq_left hyk.2.1]
                              have hPd : (P.take y.1.done).length = y.1.done := by rw [List.length_take, Nat.min_eq_left (by omega)]
                              rw [show Value.slice y.2.1 y.1.done y.2.2.1 = Value.slice y.2.1 (y.1.press.take y.1.done).length y.2.2.1 from by rw [hyl], show Value.slice adp y.1.done cp = Value.slice adp (P.take y.1.done).length cp from by rw [hPd]] at ha
                              refine nt_one (i := 29) (listed' := lb 45 1073741823) (by kernel_rfl) (by kernel_rfl) rfl (st_call ha (wgT ha rfl (s := 353)) Ty.c27 rfl (whole_spec (u := y.1.press.take y.1.done) (v := P.take y.1.done) hs (by have := hyk.1.1; have := hyk.2.1; omega) (fun w' h => by rw [hyl]; exact (tw_bb (h.pick (All two ys)) hok hyy).1.take hyk.2.1) (fun w' h => by rw [hPd]; exact ((RdX.sl h adp hPc hPr).bbP hP).take (by omega))) ?_); clear ha hs
                              rintro e w ⟨rfl, hs⟩
                              refine ⟨_, rfl, ?_⟩
                              intro a ha
                              refine ⟨fun h => absurd h (by decide), ?_⟩
                              have hrt3 := hs.slRdAt bt ot (by omega)
                              have hbz2 : 0 ≤ bi → Rd w bt (ot + j * 5) (brC z.1 z.2.1 z.2.2.1) := fun h => tw_rd hrt3 (hjz h).2
                              have hC : Rd w b28 0 (brC y.1 y.2.1 y.2.2.1) ∧ Rd w b14 0 (bop k f d id adp P.length cp v dead) ∧ (0 ≤ bi → Rd w bt (ot + j * 5) (brC z.1 z.2.1 z.2.2.1)) := ⟨hs.rdAll, hs.rdAll, hbz2⟩
                              refine nt_pure (i := 30) (listed' := lb 45 2147483647) (by kernel_rfl) rfl (by kernel_rfl) (by decide) hpk ha rfl (fun w => ex_pickT ha) rfl ?_; clear ha; (try clear a); intro a ha
                              refine nt_pure (i := 31) (listed' := lb 45 4294967295) (by kernel_rfl) rfl (by kernel_rfl) (by decide) hpk ha rfl (fun w => ex_move ha) rfl ?_; clear ha; (try clear a); intro a ha
                              refine ha.bool (s := 366) (fun hg31 ha => ?_) (fun hg31 ha => ?_)
                              ·
                                try simp only [decide_eq_true_eq, decide_eq_false_iff_not, Bool.not_eq_true', Bool.not_eq_false', Int.not_lt, Int.not_le, ne_eq, Decidable.not_not] at hg31
                                refine nt_pure (i := 32) (listed' := lb 45 8589934591) (by kernel_rfl) rfl (by kernel_rfl) (by decide) hpk ha (wgT ha rfl (s := 366)) (fun w => ex_move ha) rfl ?_; clear ha; (try clear a); intro a ha
                                refine nt_pure (i := 33) (listed' := lb 45 17179869183) (by kernel_rfl) rfl (by kernel_rfl) (by decide) hpk ha (wgT ha rfl (s := 366)) (fun w => ex_lss ha) rfl ?_; clear ha; (try clear a); intro a ha
                                refine nt_pure (i := 34) (listed' := lb 45 34359738367) (by kernel_rfl) rfl (by kernel_rfl) (by decide) hpk ha (wgT ha rfl (s := 366)) (fun w => ex_move ha) rfl ?_; clear ha; (try clear a); intro a ha
                                refine ha.bool (s := 369) (fun hg34 ha => ?_) (fun hg34 ha => ?_)
                                ·
                                  try simp only [decide_eq_true_eq, decide_eq_false_iff_not, Bool.not_eq_true', Bool.not_eq_false', Int.not_lt, Int.not_le, ne_eq, Decidable.not_not] at hg34
                                  refine nt_off (i := 35) (listed' := lb 45 68719476735) (by kernel_rfl) rfl (by kernel_rfl) (by decide) hpk ha (wgF ha rfl (s := 369) rfl) rfl ?_; clear ha; (try clear a); intro a ha
                                  refine nt_off (i := 37) (listed' := lb 45 206158430207) (by kernel_rfl) rfl (by kernel_rfl) (by decide) hpk ha (wgF ha rfl (s := 369) rfl) rfl ?_; clear ha; (try clear a); intro a ha
                                  refine nt_off (i := 38) (listed' := lb 45 481036337151) (by kernel_rfl) rfl (by kernel_rfl) (by decide) hpk ha (wgF ha rfl (s := 369) rfl) rfl ?_; clear ha; (try clear a); intro a ha
                                  refine nt_off (i := 39) (listed' := lb 45 1030792151039) (by kernel_rfl) rfl (by kernel_rfl) (by decide) hpk ha (wgF ha rfl (s := 369) rfl) rfl ?_; clear ha; (try clear a); intro a ha
                                  refine nt_off (i := 40) (listed' := lb 45 2130303778815) (by kernel_rfl) rfl (by kernel_rfl) (by decide) hpk ha (wgF ha rfl (s := 369) rfl) rfl ?_; clear ha; (try clear a); intro a ha
                                  refine nt_offH (i := 36) (listed' := lb 45 2199023255551) (by kernel_rfl) rfl (by kernel_rfl) hpk ha (wgF ha rfl (s := 369) rfl) hC rfl ?_; clear ha; (try clear a); intro a ha
                                  refine nt_offH (i := 41) (listed' := lb 45 4398046511103) (by kernel_rfl) rfl (by kernel_rfl) hpk ha (wgF ha rfl (s := 369) rfl) hC rfl ?_; clear ha; (try clear a); intro a ha
                                  refine nt_off (i := 42) (listed' := lb 45 8796093022207) (by kernel_rfl) rfl (by kernel_rfl) (by decide) hpk ha (wgF ha rfl (s := 369) rfl) rfl ?_; clear ha; (try clear a); intro a ha
                                  refine nt_pure (i := 43) (listed' := lb 45 17592186044415) (by kernel_rfl) rfl (by kernel_rfl) (by decide) hpk ha (wgT ha rfl (s := 366)) (fun w => ex_pickT ha) rfl ?_; clear ha; (try clear a); intro a ha
                                  refine nt_pure (i := 44) (listed' := lb 45 35184372088831) (by kernel_rfl) rfl (by kernel_rfl) (by decide) hpk ha rfl (fun w => ex_pickT ha) rfl ?_; clear ha; (try clear a); intro a ha
                                  refine nt_done (by kernel_rfl) ?_ _
                                  refine then_n ?_
                                  refine wp_ifT ha ?_
                                  refine wp_region_lit ?_
                                  refine wpList_k (st_set ha rfl (ex_move ha) rfl ?_); clear ha; (try clear a); intro a ha
                                  replace ha := ha.del 26
                                  refine wpList_k (st_set ha rfl (ex_assign ha) rfl ?_); clear ha; (try clear a); intro a ha
                                  refine wpList_nil ?_
                                  refine blk_n <| then_n ?_
                                  refine wp_region_lit ?_
                                  refine wpList_k (st_set ha rfl (ex_move ha) rfl ?_); clear ha; (try clear a); intro a ha
                                  refine wpList_k (st_set ha rfl (ex_addI ha (by omega) (by omega)) rfl ?_); clear ha; (try clear a); intro a ha
                                  replace ha := ha.del 27
                                  refine wpList_k (st_set ha rfl (ex_assign ha) rfl ?_); clear ha; (try clear a); intro a ha
                                  refine wpList_nil ?_
                                  refine then_n ?_
                                  rw [← hade] at ha hs
                                  exact ⟨ys.length - (k' + 1), by omega, k' + 1, _, ⟨rfl, by omega, hbk.hit hyy (by omega) (by omega) (by omega) hg31 (.inl (by omega)) hyk.2.1⟩, ha.keep [0, 1, 6, 7, 8, 10, 11, 12, 13, 14, 26, 27], hs.sub⟩
                                ·
                                  try simp only [decide_eq_true_eq, decide_eq_false_iff_not, Bool.not_eq_true', Bool.not_eq_false', Int.not_lt, Int.not_le, ne_eq, Decidable.not_not] at hg34
                                  obtain ⟨hj1, hzz⟩ := hjz (by omega)
                                  have hjl := (List.getElem?_eq_some_iff.1 hzz).1
                                  rw [hj1] at ha
                                  refine nt_pure (i := 35) (listed' := lb 45 68719476735) (by kernel_rfl) rfl (by kernel_rfl) (by decide) hpk ha (wgT ha rfl (s := 369)) (fun w => ex_fieldAddr (k := 3) ha Try.underlying68 rfl Ty.t3 rfl) rfl ?_; clear ha; (try clear a); intro a ha
                                  refine nt_pure (i := 37) (listed' := lb 45 206158430207) (by kernel_rfl) rfl (by kernel_rfl) (by decide) hpk ha (wgT ha rfl (s := 369)) (fun w => ex_move ha) rfl ?_; clear ha; (try clear a); intro a ha
                                  refine nt_pure (i := 38) (listed' := lb 45 481036337151) (by kernel_rfl) rfl (by kernel_rfl) (by decide) hpk ha (wgT ha rfl (s := 369)) (fun w => ex_move ha) rfl ?_; clear ha; (try clear a); intro a ha
                                  refine nt_pure (i := 39) (listed' := lb 45 1030792151039) (by kernel_rfl) rfl (by kernel_rfl) (by decide) hpk ha (wgT ha rfl (s := 369)) (fun w => ex_indexAddr ha Try.underlying64 Ty.t68 (by omega)) rfl ?_; clear ha; (try clear a); intro a ha
                                  refine nt_pure (i := 40) (listed' := lb 45 2130303778815) (by kernel_rfl) rfl (by kernel_rfl) (by decide) hpk ha (wgT ha rfl (s := 369)) (fun w => ex_fieldAddr (k := 3) ha Try.underlying68 rfl Ty.t3 rfl) rfl ?_; clear ha; (try clear a); intro a ha
                                  refine nt_held (i := 36) (listed' := lb 45 2199023255551) (by kernel_rfl) rfl (by kernel_rfl) hpk ha (wgT ha rfl (s := 369)) (fun w hc => ex_load1 ha Try.underlying3 rfl (hc.1 3 _ rfl)) hC rfl ?_; clear ha; (try clear a); intro a ha
                                  refine nt_one (i := 41) (listed' := lb 45 4398046511103) (by kernel_rfl) (by kernel_rfl) rfl (st_set ha (wgT ha rfl (s := 369)) (ex_load1 ha Try.underlying3 rfl ((hbz2 (by omega)) 3 _ rfl)) rfl ?_); clear ha; (try clear a); intro a ha
                                  refine ⟨fun _ => hC, ?_⟩
                                  refine nt_pure (i := 42) (listed' := lb 45 8796093022207) (by kernel_rfl) rfl (by kernel_rfl) (by decide) hpk ha (wgT ha rfl (s := 369)) (fun w => ex_gtr ha) rfl ?_; clear ha; (try clear a); intro a ha
                                  refine nt_pure (i := 43) (listed' := lb 45 17592186044415) (by kernel_rfl) rfl (by kernel_rfl) (by decide) hpk ha (wgT ha rfl (s := 366)) (fun w => ex_pickF ha) rfl ?_; clear ha; (try clear a); intro a ha
                                  refine nt_pure (i := 44) (listed' := lb 45 35184372088831) (by kernel_rfl) rfl (by kernel_rfl) (by decide) hpk ha rfl (fun w => ex_pickT ha) rfl ?_; clear ha; (try clear a); intro a ha
                                  refine nt_done (by kernel_rfl) ?_ _
                                  refine then_n ?_
                                  refine wp_if ha (fun hc18 => ?_) (fun hc18 => ?_)
                                  ·
                                    try simp only [decide_eq_true_eq, decide_eq_false_iff_not, Bool.not_eq_true', Bool.not_eq_false', Int.not_lt, Int.not_le, ne_eq, Decidable.not_not] at hc18
                                    refine wp_region_lit ?_
                                    refine wpList_k (st_set ha rfl (ex_move ha) rfl ?_); clear ha; (try clear a); intro a ha
                                    replace ha := ha.del 26
                                    refine wpList_k (st_set ha rfl (ex_assign ha) rfl ?_); clear ha; (try clear a); intro a ha
                                    refine wpList_nil ?_
                                    refine blk_n <| then_n ?_
                                    refine wp_region_lit ?_
                                    refine wpList_k (st_set ha rfl (ex_move ha) rfl ?_); clear ha; (try clear a); intro a ha
                                    refine wpList_k (st_set ha rfl (ex_addI ha (by omega) (by omega)) rfl ?_); clear ha; (try clear a); intro a ha
                                    replace ha := ha.del 27
                                    refine wpList_k (st_set ha rfl (ex_assign ha) rfl ?_); clear ha; (try clear a); intro a ha
                                    refine wpList_nil ?_
                                    refine then_n ?_
                                    rw [← hade] at ha hs
                                    exact ⟨ys.length - (k' + 1), by omega, k' + 1, _, ⟨rfl, by omega, hbk.hit hyy (by omega) (by omega) (by omega) hg31 (.inr fun j' z' hb' hz' => (by
                                      obtain rfl : j' = j := by omega
                                      rw [hzz] at hz'; cases hz'; omega)) hyk.2.1⟩, ha.keep [0, 1, 6, 7, 8, 10, 11, 12, 13, 14, 26, 27], hs.sub⟩
                                  ·
                                    try simp only [decide_eq_true_eq, decide_eq_false_iff_not, Bool.not_eq_true', Bool.not_eq_false', Int.not_lt, Int.not_le, ne_eq, Decidable.not_not] at hc18
                                    refine wp_skip ?_
                                    refine blk_n <| then_n ?_
                                    refine wp_region_lit ?_
                                    refine wpList_k (st_set ha rfl (ex_move ha) rfl ?_); clear ha; (try clear a); intro a ha
                                    refine wpList_k (st_set ha rfl (ex_addI ha (by omega) (by omega)) rfl ?_); clear ha; (try clear a); intro a ha
                                    replace ha := ha.del 27
                                    refine wpList_k (st_set ha rfl (ex_assign ha) rfl ?_); clear ha; (try clear a); intro a ha
                                    refine wpList_nil ?_
                                    refine then_n ?_
                                    rw [← hade] at ha hs
                                    rw [← hj1] at ha
                                    exact ⟨ys.length - (k' + 1), by omega, k' + 1, _, ⟨rfl, by omega, hbk.miss hyy hyk.2.1 (fun h => (by
                                      have h5 := h.2.2.2.2.resolve_left (by omega) j z hj1 hzz
                                      omega))⟩, ha.keep [0, 1, 6, 7, 8, 10, 11, 12, 13, 14, 26, 27], hs.sub⟩
                              ·
                                try simp only [decide_eq_true_eq, decide_eq_false_iff_not, Bool.not_eq_true', Bool.not_eq_false', Int.not_lt, Int.not_le, ne_eq, Decidable.not_not] at hg31
                                refine nt_off (i := 32) (listed' := lb 45 8589934591) (by kernel_rfl) rfl (by kernel_rfl) (by decide) hpk ha (wgF ha rfl (s := 366) rfl) rfl ?_; clear ha; (try clear a); intro a ha
                                refine nt_off (i := 33) (listed' := lb 45 17179869183) (by kernel_rfl) rfl (by kernel_rfl) (by decide) hpk ha (wgF ha rfl (s := 366) rfl) rfl ?_; clear ha; (try clear a); intro a ha
                                refine nt_offU (i := 34) (listed' := lb 45 34359738367) (by kernel_rfl) rfl (by kernel_rfl) (by decide) hpk ha (wgF ha rfl (s := 366) rfl) rfl ?_; clear ha; (try clear a); intro a ha
                                refine nt_off (i := 35) (listed' := lb 45 68719476735) (by kernel_rfl) rfl (by kernel_rfl) (by decide) hpk ha (wgU ha rfl (s := 369)) rfl ?_; clear ha; (try clear a); intro a ha
                                refine nt_off (i := 37) (listed' := lb 45 206158430207) (by kernel_rfl) rfl (by kernel_rfl) (by decide) hpk ha (wgU ha rfl (s := 369)) rfl ?_; clear ha; (try clear a); intro a ha
                                refine nt_off (i := 38) (listed' := lb 45 481036337151) (by kernel_rfl) rfl (by kernel_rfl) (by decide) hpk ha (wgU ha rfl (s := 369)) rfl ?_; clear ha; (try clear a); intro a ha
                                refine nt_off (i := 39) (listed' := lb 45 1030792151039) (by kernel_rfl) rfl (by kernel_rfl) (by decide) hpk ha (wgU ha rfl (s := 369)) rfl ?_; clear ha; (try clear a); intro a ha
                                refine nt_off (i := 40) (listed' := lb 45 2130303778815) (by kernel_rfl) rfl (by kernel_rfl) (by decide) hpk ha (wgU ha rfl (s := 369)) rfl ?_; clear ha; (try clear a); intro a ha
                                refine nt_offH (i := 36) (listed' := lb 45 2199023255551) (by kernel_rfl) rfl (by kernel_rfl) hpk ha (wgU ha rfl (s := 369)) hC rfl ?_; clear ha; (try clear a); intro a ha
                                refine nt_offH (i := 41) (listed' := lb 45 4398046511103) (by kernel_rfl) rfl (by kernel_rfl) hpk ha (wgU ha rfl (s := 369)) hC rfl ?_; clear ha; (try clear a); intro a ha
                                refine nt_off (i := 42) (listed' := lb 45 8796093022207) (by kernel_rfl) rfl (by kernel_rfl) (by decide) hpk ha (wgU ha rfl (s := 369)) rfl ?_; clear ha; (try clear a); intro a ha
                                refine nt_off (i := 43) (listed' := lb 45 17592186044415) (by kernel_rfl) rfl (by kernel_rfl) (by decide) hpk ha (wgF ha rfl (s := 366) rfl) rfl ?_; clear ha; (try clear a); intro a ha
                                refine nt_pure (i := 44) (listed' := lb 45 35184372088831) (by kernel_rfl) rfl (by kernel_rfl) (by decide) hpk ha rfl (fun w => ex_pickF ha) rfl ?_; clear ha; (try clear a); intro a ha
                                refine nt_done (by kernel_rfl) ?_ _
                                refine then_n ?_
                                refine wp_ifF ha ?_
                                refine wp_skip ?_
                                refine blk_n <| then_n ?_
                                refine wp_region_lit ?_
                                refine wpList_k (st_set ha rfl (ex_move ha) rfl ?_); clear ha; (try clear a); intro a ha
                                refine wpList_k (st_set ha rfl (ex_addI ha (by omega) (by omega)) rfl ?_); clear ha; (try clear a); intro a ha
                                replace ha := ha.del 27
                                refine wpList_k (st_set ha rfl (ex_assign ha) rfl ?_); clear ha; (try clear a); intro a ha
                                refine wpList_nil ?_
                                refine then_n ?_
                                rw [← hade] at ha hs
                                exact ⟨ys.length - (k' + 1), by omega, k' + 1, _, ⟨rfl, by omega, hbk.miss hyy hyk.2.1 (fun h => hg31 h.2.2.2.1)⟩, ha.keep [0, 1, 6, 7, 8, 10, 11, 12, 13, 14, 26, 27], hs.sub⟩
                            ·
                              try simp only [decide_eq_true_eq, decide_eq_false_iff_not, Bool.not_eq_true', Bool.not_eq_false', Int.not_lt, Int.not_le, ne_eq, Decidable.not_not] at hg18
                              refine nt_off (i := 19) (listed' := lb 45 1048575) (by kernel_rfl) rfl (by kernel_rfl) (by decide) hpk ha (wgF ha rfl (s := 353) rfl) rfl ?_; clear ha; (try clear a); intro a ha
                              refine nt_off (i := 21) (listed' := lb 45 3145727) (by kernel_rfl) rfl (by kernel_rfl) (by decide) hpk ha (wgF ha rfl (s := 353) rfl) rfl ?_; clear ha; (try clear a); intro a ha
                              refine nt_off (i := 24) (listed' := lb 45 19922943) (by kernel_rfl) rfl (by kernel_rfl) (by decide) hpk ha (wgF ha rfl (s := 353) rfl) rfl ?_; clear ha; (try clear a); intro a ha
                              refine nt_off (i := 26) (listed' := lb 45 87031807) (by kernel_rfl) rfl (by kernel_rfl) (by decide) hpk ha (wgF ha rfl (s := 353) rfl) rfl ?_; clear ha; (try clear a); intro a ha
                              refine nt_offH (i := 20) (listed' := lb 45 88080383) (by kernel_rfl) rfl (by kernel_rfl) hpk ha (wgF ha rfl (s := 353) rfl) hC rfl ?_; clear ha; (try clear a); intro a ha
                              refine nt_offH (i := 22) (listed' := lb 45 92274687) (by kernel_rfl) rfl (by kernel_rfl) hpk ha (wgF ha rfl (s := 353) rfl) hC rfl ?_; clear ha; (try clear a); intro a ha
                              refine nt_off (i := 23) (listed' := lb 45 100663295) (by kernel_rfl) rfl (by kernel_rfl) (by decide) hpk ha (wgF ha rfl (s := 353) rfl) rfl ?_; clear ha; (try clear a); intro a ha
                              refine nt_offH (i := 25) (listed' := lb 45 134217727) (by kernel_rfl) rfl (by kernel_rfl) hpk ha (wgF ha rfl (s := 353) rfl) hC rfl ?_; clear ha; (try clear a); intro a ha
                              refine nt_offH (i := 27) (listed' := lb 45 268435455) (by kernel_rfl) rfl (by kernel_rfl) hpk ha (wgF ha rfl (s := 353) rfl) hC rfl ?_; clear ha; (try clear a); intro a ha
                              refine nt_offH (i := 28) (listed' := lb 45 536870911) (by kernel_rfl) rfl (by kernel_rfl) hpk ha (wgF ha rfl (s := 353) rfl) hC rfl ?_; clear ha; (try clear a); intro a ha
                              refine nt_off (i := 29) (listed' := lb 45 1073741823) (by kernel_rfl) rfl (by kernel_rfl) (by decide) hpk ha (wgF ha rfl (s := 353) rfl) rfl ?_; clear ha; (try clear a); intro a ha
                              refine nt_pure (i := 30) (listed' := lb 45 2147483647) (by kernel_rfl) rfl (by kernel_rfl) (by decide) hpk ha rfl (fun w => ex_pickF ha) rfl ?_; clear ha; (try clear a); intro a ha
                              refine nt_pure (i := 31) (listed' := lb 45 4294967295) (by kernel_rfl) rfl (by kernel_rfl) (by decide) hpk ha rfl (fun w => ex_move ha) rfl ?_; clear ha; (try clear a); intro a ha
                              refine nt_off (i := 32) (listed' := lb 45 8589934591) (by kernel_rfl) rfl (by kernel_rfl) (by decide) hpk ha (wgF ha rfl (s := 366) rfl) rfl ?_; clear ha; (try clear a); intro a ha
                              refine nt_off (i := 33) (listed' := lb 45 17179869183) (by kernel_rfl) rfl (by kernel_rfl) (by decide) hpk ha (wgF ha rfl (s := 366) rfl) rfl ?_; clear ha; (try clear a); intro a ha
                              refine nt_offU (i := 34) (listed' := lb 45 34359738367) (by kernel_rfl) rfl (by kernel_rfl) (by decide) hpk ha (wgF ha rfl (s := 366) rfl) rfl ?_; clear ha; (try clear a); intro a ha
                              refine nt_off (i := 35) (listed' := lb 45 68719476735) (by kernel_rfl) rfl (by kernel_rfl) (by decide) hpk ha (wgU ha rfl (s := 369)) rfl ?_; clear ha; (try clear a); intro a ha
                              refine nt_off (i := 37) (listed' := lb 45 206158430207) (by kernel_rfl) rfl (by kernel_rfl) (by decide) hpk ha (wgU ha rfl (s := 369)) rfl ?_; clear ha; (try clear a); intro a ha
                              refine nt_off (i := 38) (listed' := lb 45 481036337151) (by kernel_rfl) rfl (by kernel_rfl) (by decide) hpk ha (wgU ha rfl (s := 369)) rfl ?_; clear ha; (try clear a); intro a ha
                              refine nt_off (i := 39) (listed' := lb 45 1030792151039) (by kernel_rfl) rfl (by kernel_rfl) (by decide) hpk ha (wgU ha rfl (s := 369)) rfl ?_; clear ha; (try clear a); intro a ha
                              refine nt_off (i := 40) (listed' := lb 45 2130303778815) (by kernel_rfl) rfl (by kernel_rfl) (by decide) hpk ha (wgU ha rfl (s := 369)) rfl ?_; clear ha; (try clear a); intro a ha
                              refine nt_offH (i := 36) (listed' := lb 45 2199023255551) (by kernel_rfl) rfl (by kernel_rfl) hpk ha (wgU ha rfl (s := 369)) hC rfl ?_; clear ha; (try clear a); intro a ha
                              refine nt_offH (i := 41) (listed' := lb 45 4398046511103) (by kernel_rfl) rfl (by kernel_rfl) hpk ha (wgU ha rfl (s := 369)) hC rfl ?_; clear ha; (try clear a); intro a ha
                              refine nt_off (i := 42) (listed' := lb 45 8796093022207) (by kernel_rfl) rfl (by kernel_rfl) (by decide) hpk ha (wgU ha rfl (s := 369)) rfl ?_; clear ha; (try clear a); intro a ha
                              refine nt_off (i := 43) (listed' := lb 45 17592186044415) (by kernel_rfl) rfl (by kernel_rfl) (by decide) hpk ha (wgF ha rfl (s := 366) rfl) rfl ?_; clear ha; (try clear a); intro a ha
                              refine nt_pure (i := 44) (listed' := lb 45 35184372088831) (by kernel_rfl) rfl (by kernel_rfl) (by decide) hpk ha rfl (fun w => ex_pickF ha) rfl ?_; clear ha; (try clear a); intro a ha
                              refine nt_done (by kernel_rfl) ?_ _
                              refine then_n ?_
                              refine wp_ifF ha ?_
                              refine wp_skip ?_
                              refine blk_n <| then_n ?_
                              refine wp_region_lit ?_
                              refine wpList_k (st_set ha rfl (ex_move ha) rfl ?_); clear ha; (try clear a); intro a ha
                              refine wpList_k (st_set ha rfl (ex_addI ha (by omega) (by omega)) rfl ?_); clear ha; (try clear a); intro a ha
                              replace ha := ha.del 27
                              refine wpList_k (st_set ha rfl (ex_assign ha) rfl ?_); clear ha; (try clear a); intro a ha
                              refine wpList_nil ?_
                              refine then_n ?_
                              rw [← hade] at ha hs
                              exact ⟨ys.length - (k' + 1), by omega, k' + 1, _, ⟨rfl, by omega, hbk.miss hyy hyk.2.1 (fun h => by have := h.2.2.1; omega)⟩, ha.keep [0, 1, 6, 7, 8, 10, 11, 12, 13, 14, 26, 27], hs.sub⟩
                          ·
                            try simp only [decide_eq_true_eq, decide_eq_false_iff_not, Bool.not_eq_true', Bool.not_eq_false', Int.not_lt, Int.not_le, ne_eq, Decidable.not_not] at hg10
                            refine nt_off (i := 11) (listed' := lb 45 4095) (by kernel_rfl) rfl (by kernel_rfl) (by decide) hpk ha (wgF ha rfl (s := 345) rfl) rfl ?_; clear ha; (try clear a); intro a ha
                            refine nt_off (i := 14) (listed' := lb 45 20479) (by kernel_rfl) rfl (by kernel_rfl) (by decide) hpk ha (wgF ha rfl (s := 345) rfl) rfl ?_; clear ha; (try clear a); intro a ha
                            refine nt_offH (i := 12) (listed' := lb 45 24575) (by kernel_rfl) rfl (by kernel_rfl) hpk ha (wgF ha rfl (s := 345) rfl) hC rfl ?_; clear ha; (try clear a); intro a ha
                            refine nt_off (i := 13) (listed' := lb 45 32767) (by kernel_rfl) rfl (by kernel_rfl) (by decide) hpk ha (wgF ha rfl (s := 345) rfl) rfl ?_; clear ha; (try clear a); intro a ha
                            refine nt_offH (i := 15) (listed' := lb 45 65535) (by kernel_rfl) rfl (by kernel_rfl) hpk ha (wgF ha rfl (s := 345) rfl) hC rfl ?_; clear ha; (try clear a); intro a ha
                            refine nt_off (i := 16) (listed' := lb 45 131071) (by kernel_rfl) rfl (by kernel_rfl) (by decide) hpk ha (wgF ha rfl (s := 345) rfl) rfl ?_; clear ha; (try clear a); intro a ha
                            refine nt_pure (i := 17) (listed' := lb 45 262143) (by kernel_rfl) rfl (by kernel_rfl) (by decide) hpk ha rfl (fun w => ex_pickF ha) rfl ?_; clear ha; (try clear a); intro a ha
                            refine nt_pure (i := 18) (listed' := lb 45 524287) (by kernel_rfl) rfl (by kernel_rfl) (by decide) hpk ha rfl (fun w => ex_move ha) rfl ?_; clear ha; (try clear a); intro a ha
                            refine nt_off (i := 19) (listed' := lb 45 1048575) (by kernel_rfl) rfl (by kernel_rfl) (by decide) hpk ha (wgF ha rfl (s := 353) rfl) rfl ?_; clear ha; (try clear a); intro a ha
                            refine nt_off (i := 21) (listed' := lb 45 3145727) (by kernel_rfl) rfl (by kernel_rfl) (by decide) hpk ha (wgF ha rfl (s := 353) rfl) rfl ?_; clear ha; (try clear a); intro a ha
                            refine nt_off (i := 24) (listed' := lb 45 19922943) (by kernel_rfl) rfl (by kernel_rfl) (by decide) hpk ha (wgF ha rfl (s := 353) rfl) rfl ?_; clear ha; (try clear a); intro a ha
                            refine nt_off (i := 26) (listed' := lb 45 87031807) (by kernel_rfl) rfl (by kernel_rfl) (by decide) hpk ha (wgF ha rfl (s := 353) rfl) rfl ?_; clear ha; (try clear a); intro a ha
                            refine nt_offH (i := 20) (listed' := lb 45 88080383) (by kernel_rfl) rfl (by kernel_rfl) hpk ha (wgF ha rfl (s := 353) rfl) hC rfl ?_; clear ha; (try clear a); intro a ha
                            refine nt_offH (i := 22) (listed' := lb 45 92274687) (by kernel_rfl) rfl (by kernel_rfl) hpk ha (wgF ha rfl (s := 353) rfl) hC rfl ?_; clear ha; (try clear a); intro a ha
                            refine nt_off (i := 23) (listed' := lb 45 100663295) (by kernel_rfl) rfl (by kernel_rfl) (by decide) hpk ha (wgF ha rfl (s := 353) rfl) rfl ?_; clear ha; (try clear a); intro a ha
                            refine nt_offH (i := 25) (listed' := lb 45 134217727) (by kernel_rfl) rfl (by kernel_rfl) hpk ha (wgF ha rfl (s := 353) rfl) hC rfl ?_; clear ha; (try clear a); intro a ha
                            refine nt_offH (i := 27) (listed' := lb 45 268435455) (by kernel_rfl) rfl (by kernel_rfl) hpk ha (wgF ha rfl (s := 353) rfl) hC rfl ?_; clear ha; (try clear a); intro a ha
                            refine nt_offH (i := 28) (listed' := lb 45 536870911) (by kernel_rfl) rfl (by kernel_rfl) hpk ha (wgF ha rfl (s := 353) rfl) hC rfl ?_; clear ha; (try clear a); intro a ha
                            refine nt_off (i := 29) (listed' := lb 45 1073741823) (by kernel_rfl) rfl (by kernel_rfl) (by decide) hpk ha (wgF ha rfl (s := 353) rfl) rfl ?_; clear ha; (try clear a); intro a ha
                            refine nt_pure (i := 30) (listed' := lb 45 2147483647) (by kernel_rfl) rfl (by kernel_rfl) (by decide) hpk ha rfl (fun w => ex_pickF ha) rfl ?_; clear ha; (try clear a); intro a ha
                            refine nt_pure (i := 31) (listed' := lb 45 4294967295) (by kernel_rfl) rfl (by kernel_rfl) (by decide) hpk ha rfl (fun w => ex_move ha) rfl ?_; clear ha; (try clear a); intro a ha
                            refine nt_off (i := 32) (listed' := lb 45 8589934591) (by kernel_rfl) rfl (by kernel_rfl) (by decide) hpk ha (wgF ha rfl (s := 366) rfl) rfl ?_; clear ha; (try clear a); intro a ha
                            refine nt_off (i := 33) (listed' := lb 45 17179869183) (by kernel_rfl) rfl (by kernel_rfl) (by decide) hpk ha (wgF ha rfl (s := 366) rfl) rfl ?_; clear ha; (try clear a); intro a ha
                            refine nt_offU (i := 34) (listed' := lb 45 34359738367) (by kernel_rfl) rfl (by kernel_rfl) (by decide) hpk ha (wgF ha rfl (s := 366) rfl) rfl ?_; clear ha; (try clear a); intro a ha
                            refine nt_off (i := 35) (listed' := lb 45 68719476735) (by kernel_rfl) rfl (by kernel_rfl) (by decide) hpk ha (wgU ha rfl (s := 369)) rfl ?_; clear ha; (try clear a); intro a ha
                            refine nt_off (i := 37) (listed' := lb 45 206158430207) (by kernel_rfl) rfl (by kernel_rfl) (by decide) hpk ha (wgU ha rfl (s := 369)) rfl ?_; clear ha; (try clear a); intro a ha
                            refine nt_off (i := 38) (listed' := lb 45 481036337151) (by kernel_rfl) rfl (by kernel_rfl) (by decide) hpk ha (wgU ha rfl (s := 369)) rfl ?_; clear ha; (try clear a); intro a ha
                            refine nt_off (i := 39) (listed' := lb 45 1030792151039) (by kernel_rfl) rfl (by kernel_rfl) (by decide) hpk ha (wgU ha rfl (s := 369)) rfl ?_; clear ha; (try clear a); intro a ha
                            refine nt_off (i := 40) (listed' := lb 45 2130303778815) (by kernel_rfl) rfl (by kernel_rfl) (by decide) hpk ha (wgU ha rfl (s := 369)) rfl ?_; clear ha; (try clear a); intro a ha
                            refine nt_offH (i := 36) (listed' := lb 45 2199023255551) (by kernel_rfl) rfl (by kernel_rfl) hpk ha (wgU ha rfl (s := 369)) hC rfl ?_; clear ha; (try clear a); intro a ha
                            refine nt_offH (i := 41) (listed' := lb 45 4398046511103) (by kernel_rfl) rfl (by kernel_rfl) hpk ha (wgU ha rfl (s := 369)) hC rfl ?_; clear ha; (try clear a); intro a ha
                            refine nt_off (i := 42) (listed' := lb 45 8796093022207) (by kernel_rfl) rfl (by kernel_rfl) (by decide) hpk ha (wgU ha rfl (s := 369)) rfl ?_; clear ha; (try clear a); intro a ha
                            refine nt_off (i := 43) (listed' := lb 45 17592186044415) (by kernel_rfl) rfl (by kernel_rfl) (by decide) hpk ha (wgF ha rfl (s := 366) rfl) rfl ?_; clear ha; (try clear a); intro a ha
                            refine nt_pure (i := 44) (listed' := lb 45 35184372088831) (by kernel_rfl) rfl (by kernel_rfl) (by decide) hpk ha rfl (fun w => ex_pickF ha) rfl ?_; clear ha; (try clear a); intro a ha
                            refine nt_done (by kernel_rfl) ?_ _
                            refine then_n ?_
                            refine wp_ifF ha ?_
                            refine wp_skip ?_
                            refine blk_n <| then_n ?_
                            refine wp_region_lit ?_
                            refine wpList_k (st_set ha rfl (ex_move ha) rfl ?_); clear ha; (try clear a); intro a ha
                            refine wpList_k (st_set ha rfl (ex_addI ha (by omega) (by omega)) rfl ?_); clear ha; (try clear a); intro a ha
                            replace ha := ha.del 27
                            refine wpList_k (st_set ha rfl (ex_assign ha) rfl ?_); clear ha; (try clear a); intro a ha
                            refine wpList_nil ?_
                            refine then_n ?_
                            rw [← hade] at ha hs
                            exact ⟨ys.length - (k' + 1), by omega, k' + 1, _, ⟨rfl, by omega, hbk.miss hyy hyk.2.1 (fun h => by have := h.2.1; omega)⟩, ha.keep [0, 1, 6, 7, 8, 10, 11, 12, 13, 14, 26, 27], hs.sub⟩
                        ·
                          try simp only [decide_eq_true_eq, decide_eq_false_iff_not, Bool.not_eq_true', Bool.not_eq_false', Int.not_lt, Int.not_le, ne_eq, Decidable.not_not] at hg5
                          refine nt_off (i := 6) (listed' := lb 45 127) (by kernel_rfl) rfl (by kernel_rfl) (by decide) hpk ha (wgF ha rfl (s := 340) rfl) rfl ?_; clear ha; (try clear a); intro a ha
                          refine nt_off (i := 7) (listed' := lb 45 255) (by kernel_rfl) rfl (by kernel_rfl) (by decide) hpk ha (wgF ha rfl (s := 340) rfl) rfl ?_; clear ha; (try clear a); intro a ha
                          refine nt_off (i := 8) (listed' := lb 45 511) (by kernel_rfl) rfl (by kernel_rfl) (by decide) hpk ha (wgF ha rfl (s := 340) rfl) rfl ?_; clear ha; (try clear a); intro a ha
                          refine nt_pure (i := 9) (listed' := lb 45 1023) (by kernel_rfl) rfl (by kernel_rfl) (by decide) hpk ha rfl (fun w => ex_pickF ha) rfl ?_; clear ha; (try clear a); intro a ha
                          refine nt_pure (i := 10) (listed' := lb 45 2047) (by kernel_rfl) rfl (by kernel_rfl) (by decide) hpk ha rfl (fun w => ex_move ha) rfl ?_; clear ha; (try clear a); intro a ha
                          refine nt_off (i := 11) (listed' := lb 45 4095) (by kernel_rfl) rfl (by kernel_rfl) (by decide) hpk ha (wgF ha rfl (s := 345) rfl) rfl ?_; clear ha; (try clear a); intro a ha
                          refine nt_off (i := 14) (listed' := lb 45 20479) (by kernel_rfl) rfl (by kernel_rfl) (by decide) hpk ha (wgF ha rfl (s := 345) rfl) rfl ?_; clear ha; (try clear a); intro a ha
                          refine nt_offH (i := 12) (listed' := lb 45 24575) (by kernel_rfl) rfl (by kernel_rfl) hpk ha (wgF ha rfl (s := 345) rfl) hC rfl ?_; clear ha; (try clear a); intro a ha
                          refine nt_off (i := 13) (listed' := lb 45 32767) (by kernel_rfl) rfl (by kernel_rfl) (by decide) hpk ha (wgF ha rfl (s := 345) rfl) rfl ?_; clear ha; (try clear a); intro a ha
                          refine nt_offH (i := 15) (listed' := lb 45 65535) (by kernel_rfl) rfl (by kernel_rfl) hpk ha (wgF ha rfl (s := 345) rfl) hC rfl ?_; clear ha; (try clear a); intro a ha
                          refine nt_off (i := 16) (listed' := lb 45 131071) (by kernel_rfl) rfl (by kernel_rfl) (by decide) hpk ha (wgF ha rfl (s := 345) rfl) rfl ?_; clear ha; (try clear a); intro a ha
                          refine nt_pure (i := 17) (listed' := lb 45 262143) (by kernel_rfl) rfl (by kernel_rfl) (by decide) hpk ha rfl (fun w => ex_pickF ha) rfl ?_; clear ha; (try clear a); intro a ha
                          refine nt_pure (i := 18) (listed' := lb 45 524287) (by kernel_rfl) rfl (by kernel_rfl) (by decide) hpk ha rfl (fun w => ex_move ha) rfl ?_; clear ha; (try clear a); intro a ha
                          refine nt_off (i := 19) (listed' := lb 45 1048575) (by kernel_rfl) rfl (by kernel_rfl) (by decide) hpk ha (wgF ha rfl (s := 353) rfl) rfl ?_; clear ha; (try clear a); intro a ha
                          refine nt_off (i := 21) (listed' := lb 45 3145727) (by kernel_rfl) rfl (by kernel_rfl) (by decide) hpk ha (wgF ha rfl (s := 353) rfl) rfl ?_; clear ha; (try clear a); intro a ha
                          refine nt_off (i := 24) (listed' := lb 45 19922943) (by kernel_rfl) rfl (by kernel_rfl) (by decide) hpk ha (wgF ha rfl (s := 353) rfl) rfl ?_; clear ha; (try clear a); intro a ha
                          refine nt_off (i := 26) (listed' := lb 45 87031807) (by kernel_rfl) rfl (by kernel_rfl) (by decide) hpk ha (wgF ha rfl (s := 353) rfl) rfl ?_; clear ha; (try clear a); intro a ha
                          refine nt_offH (i := 20) (listed' := lb 45 88080383) (by kernel_rfl) rfl (by kernel_rfl) hpk ha (wgF ha rfl (s := 353) rfl) hC rfl ?_; clear ha; (try clear a); intro a ha
                          refine nt_offH (i := 22) (listed' := lb 45 92274687) (by kernel_rfl) rfl (by kernel_rfl) hpk ha (wgF ha rfl (s := 353) rfl) hC rfl ?_; clear ha; (try clear a); intro a ha
                          refine nt_off (i := 23) (listed' := lb 45 100663295) (by kernel_rfl) rfl (by kernel_rfl) (by decide) hpk ha (wgF ha rfl (s := 353) rfl) rfl ?_; clear ha; (try clear a); intro a ha
                          refine nt_offH (i := 25) (listed' := lb 45 134217727) (by kernel_rfl) rfl (by kernel_rfl) hpk ha (wgF ha rfl (s := 353) rfl) hC rfl ?_; clear ha; (try clear a); intro a ha
                          refine nt_offH (i := 27) (listed' := lb 45 268435455) (by kernel_rfl) rfl (by kernel_rfl) hpk ha (wgF ha rfl (s := 353) rfl) hC rfl ?_; clear ha; (try clear a); intro a ha
                          refine nt_offH (i := 28) (listed' := lb 45 536870911) (by kernel_rfl) rfl (by kernel_rfl) hpk ha (wgF ha rfl (s := 353) rfl) hC rfl ?_; clear ha; (try clear a); intro a ha
                          refine nt_off (i := 29) (listed' := lb 45 1073741823) (by kernel_rfl) rfl (by kernel_rfl) (by decide) hpk ha (wgF ha rfl (s := 353) rfl) rfl ?_; clear ha; (try clear a); intro a ha
                          refine nt_pure (i := 30) (listed' := lb 45 2147483647) (by kernel_rfl) rfl (by kernel_rfl) (by decide) hpk ha rfl (fun w => ex_pickF ha) rfl ?_; clear ha; (try clear a); intro a ha
                          refine nt_pure (i := 31) (listed' := lb 45 4294967295) (by kernel_rfl) rfl (by kernel_rfl) (by decide) hpk ha rfl (fun w => ex_move ha) rfl ?_; clear ha; (try clear a); intro a ha
                          refine nt_off (i := 32) (listed' := lb 45 8589934591) (by kernel_rfl) rfl (by kernel_rfl) (by decide) hpk ha (wgF ha rfl (s := 366) rfl) rfl ?_; clear ha; (try clear a); intro a ha
                          refine nt_off (i := 33) (listed' := lb 45 17179869183) (by kernel_rfl) rfl (by kernel_rfl) (by decide) hpk ha (wgF ha rfl (s := 366) rfl) rfl ?_; clear ha; (try clear a); intro a ha
                          refine nt_offU (i := 34) (listed' := lb 45 34359738367) (by kernel_rfl) rfl (by kernel_rfl) (by decide) hpk ha (wgF ha rfl (s := 366) rfl) rfl ?_; clear ha; (try clear a); intro a ha
                          refine nt_off (i := 35) (listed' := lb 45 68719476735) (by kernel_rfl) rfl (by kernel_rfl) (by decide) hpk ha (wgU ha rfl (s := 369)) rfl ?_; clear ha; (try clear a); intro a ha
                          refine nt_off (i := 37) (listed' := lb 45 206158430207) (by kernel_rfl) rfl (by kernel_rfl) (by decide) hpk ha (wgU ha rfl (s := 369)) rfl ?_; clear ha; (try clear a); intro a ha
                          refine nt_off (i := 38) (listed' := lb 45 481036337151) (by kernel_rfl) rfl (by kernel_rfl) (by decide) hpk ha (wgU ha rfl (s := 369)) rfl ?_; clear ha; (try clear a); intro a ha
                          refine nt_off (i := 39) (listed' := lb 45 1030792151039) (by kernel_rfl) rfl (by kernel_rfl) (by decide) hpk ha (wgU ha rfl (s := 369)) rfl ?_; clear ha; (try clear a); intro a ha
                          refine nt_off (i := 40) (listed' := lb 45 2130303778815) (by kernel_rfl) rfl (by kernel_rfl) (by decide) hpk ha (wgU ha rfl (s := 369)) rfl ?_; clear ha; (try clear a); intro a ha
                          refine nt_offH (i := 36) (listed' := lb 45 2199023255551) (by kernel_rfl) rfl (by kernel_rfl) hpk ha (wgU ha rfl (s := 369)) hC rfl ?_; clear ha; (try clear a); intro a ha
                          refine nt_offH (i := 41) (listed' := lb 45 4398046511103) (by kernel_rfl) rfl (by kernel_rfl) hpk ha (wgU ha rfl (s := 369)) hC rfl ?_; clear ha; (try clear a); intro a ha
                          refine nt_off (i := 42) (listed' := lb 45 8796093022207) (by kernel_rfl) rfl (by kernel_rfl) (by decide) hpk ha (wgU ha rfl (s := 369)) rfl ?_; clear ha; (try clear a); intro a ha
                          refine nt_off (i := 43) (listed' := lb 45 17592186044415) (by kernel_rfl) rfl (by kernel_rfl) (by decide) hpk ha (wgF ha rfl (s := 366) rfl) rfl ?_; clear ha; (try clear a); intro a ha
                          refine nt_pure (i := 44) (listed' := lb 45 35184372088831) (by kernel_rfl) rfl (by kernel_rfl) (by decide) hpk ha rfl (fun w => ex_pickF ha) rfl ?_; clear ha; (try clear a); intro a ha
                          refine nt_done (by kernel_rfl) ?_ _
                          refine then_n ?_
                          refine wp_ifF ha ?_
                          refine wp_skip ?_
                          refine blk_n <| then_n ?_
                          refine wp_region_lit ?_
                          refine wpList_k (st_set ha rfl (ex_move ha) rfl ?_); clear ha; (try clear a); intro a ha
                          refine wpList_k (st_set ha rfl (ex_addI ha (by omega) (by omega)) rfl ?_); clear ha; (try clear a); intro a ha
                          replace ha := ha.del 27
                          refine wpList_k (st_set ha rfl (ex_assign ha) rfl ?_); clear ha; (try clear a); intro a ha
                          refine wpList_nil ?_
                          refine then_n ?_
                          rw [← hade] at ha hs
                          exact ⟨ys.length - (k' + 1), by omega, k' + 1, _, ⟨rfl, by omega, hbk.miss hyy hyk.2.1 (fun h => by have := h.1; omega)⟩, ha.keep [0, 1, 6, 7, 8, 10, 11, 12, 13, 14, 26, 27], hs.sub⟩
                      ·
                        try simp only [decide_eq_true_eq, decide_eq_false_iff_not, Bool.not_eq_true', Bool.not_eq_false', Int.not_lt, Int.not_le, ne_eq, Decidable.not_not] at hc17
                        refine wp_exit ?_
                        refine then_e <| then_e <| blk_e ?_
                        refine then_n ?_
                        refine wp_seq ?_
                        obtain rfl : k' = ys.length := by omega
                        obtain ⟨hfd, j, z, hjz⟩ := hbk.fin (T := ⟨M, ys.map (·.1), lt, ep⟩) rfl
                        refine wp_region_lit ?_
                        refine wpList_k (st_set ha rfl (ex_move ha) rfl ?_); clear ha; (try clear a); intro a ha
                        refine wpList_k (st_set ha rfl (ex_fieldAddr (k := 1) ha Try.underlying66 rfl Ty.t3 rfl) rfl ?_); clear ha; (try clear a); intro a ha
                        refine wpList_k (st_set ha rfl (ex_load1 ha Try.underlying3 rfl (hs.rd1 rfl)) rfl ?_); clear ha; (try clear a); intro a ha
                        refine wpList_k (st_set ha rfl (ex_fieldAddr (k := 4) ha Try.underlying66 rfl Ty.t23 rfl) rfl ?_); clear ha; (try clear a); intro a ha
                        refine wpList_k (st_set ha rfl (ex_load1 ha Try.underlying23 rfl (hs.rd1 rfl)) rfl ?_); clear ha; (try clear a); intro a ha
                        refine wpList_k (st_call ha rfl Ty.c22 rfl (tree_best (frm := f) (p := P) (hs.tree tq) (fun w' h => (RdX.sl h adp hPc hPr).bbP hP) hcp hPo) ?_); clear ha hs
                        rintro e w ⟨adb, cb, rfl, hs⟩
                        refine ⟨_, rfl, ?_⟩
                        intro a ha
                        rw [hfd] at ha
                        obtain ⟨B, hB⟩ : ∃ B, (⟨M, ys.map (·.1), lt, ep⟩ : Tr).best f P = B := ⟨_, rfl⟩
                        rw [hB] at ha hjz
                        refine wpList_k (st_set ha rfl (ex_move ha) rfl ?_); clear ha; (try clear a); intro a ha
                        refine wpList_k (st_set ha rfl (ex_extract ha rfl) rfl ?_); clear ha; (try clear a); intro a ha
                        refine wpList_k (st_set ha rfl (ex_extract ha rfl) rfl ?_); clear ha; (try clear a); intro a ha
                        refine wpList_k (st_alloc ha rfl hs Ty.t42 rfl ?_); clear ha hs; (try clear a); (try clear w); intro b29 a w ha hs ho
                        clear ho
                        refine wpList_k (st_storeAll ha rfl hs Ty.t42 (brC_one B adb cb) (by rfl) ?_); clear ha hs; (try clear a); (try clear w); intro a w ha hs
                        refine wpList_k (st_set ha rfl (ex_assign ha) rfl ?_); clear ha; (try clear a); intro a ha
                        refine wpList_nil ?_
                        refine then_n ?_
                        refine wp_seq ?_
                        obtain ⟨bt, ot, hbt⟩ : ∃ bt ot, 0 ≤ bi → adl = some ⟨bt, ot, none⟩ ∧ Rd w.drew bt (ot + j * 5) (brC z.1 z.2.1 z.2.2.1) := by
                          by_cases h : 0 ≤ bi
                          · obtain ⟨h1, h2, h3⟩ := hjz h
                            have hjl := (List.getElem?_eq_some_iff.1 h2).1
                            obtain ⟨b, o, e, hr⟩ := hs.drew.slRd adl (by omega)
                            exact ⟨b, o, fun _ => ⟨e, tw_rd hr h2⟩⟩
                          · exact ⟨0, 0, fun h' => absurd h' h⟩
                        have hoB : Rd w.drew b29 0 (brC B adb cb) := hs.drew.rdAll
                        refine wp_draw (m := 17) (l0 := lb 17 0) (fun w' => Rd w' b29 0 (brC B adb cb) ∧ (0 ≤ bi → Rd w' bt (ot + j * 5) (brC z.1 z.2.1 z.2.2.1))) [13] Ty.mixed (by kernel_rfl) (by kernel_rfl) (pk_then (pk_blk (pk_then (pk_blk (pk_then (pk_then (pk_blk (pk_then pk_body)))))))) (fun hpk => ?_)
                        replace hs := hs.drew
                        generalize w.drew = w at hs hpk hbt hoB ⊢
                        have hC := And.intro hoB (fun h => (hbt h).2)
                        refine nt_pure (i := 0) (listed' := lb 17 1) (by kernel_rfl) rfl (by kernel_rfl) (by decide) hpk ha rfl (fun w => ex_move ha) rfl ?_; clear ha; (try clear a); intro a ha
                        refine nt_pure (i := 1) (listed' := lb 17 3) (by kernel_rfl) rfl (by kernel_rfl) (by decide) hpk ha rfl (fun w => ex_move ha) rfl ?_; clear ha; (try clear a); intro a ha
                        refine nt_pure (i := 2) (listed' := lb 17 7) (by kernel_rfl) rfl (by kernel_rfl) (by decide) hpk ha rfl (fun w => ex_geq ha) rfl ?_; clear ha; (try clear a); intro a ha
                        refine nt_pure (i := 3) (listed' := lb 17 15) (by kernel_rfl) rfl (by kernel_rfl) (by decide) hpk ha rfl (fun w => ex_neqB ha Try.underlying4) rfl ?_; clear ha; (try clear a); intro a ha
                        rw [bne_self_eq_false] at ha
                        refine nt_pure (i := 4) (listed' := lb 17 31) (by kernel_rfl) rfl (by kernel_rfl) (by decide) hpk ha rfl (fun w => ex_move ha) rfl ?_; clear ha; (try clear a); intro a ha
                        refine nt_pure (i := 5) (listed' := lb 17 63) (by kernel_rfl) rfl (by kernel_rfl) (by decide) hpk ha (wgT ha rfl (s := 394)) (fun w => ex_move ha) rfl ?_; clear ha; (try clear a); intro a ha
                        refine nt_pure (i := 6) (listed' := lb 17 127) (by kernel_rfl) rfl (by kernel_rfl) (by decide) hpk ha (wgT ha rfl (s := 394)) (fun w => ex_move ha) rfl ?_; clear ha; (try clear a); intro a ha
                        refine ha.bool (s := 396) (fun hg6 ha => ?_) (fun hg6 ha => ?_)
                        ·
                          try simp only [decide_eq_true_eq, decide_eq_false_iff_not, Bool.not_eq_true', Bool.not_eq_false', Int.not_lt, Int.not_le, ne_eq, Decidable.not_not] at hg6
                          obtain ⟨hj1, hzz, hBz⟩ := hjz (by omega)
                          obtain ⟨hade, hrt⟩ := hbt (by omega)
                          have hjl := (List.getElem?_eq_some_iff.1 hzz).1
                          rw [hj1, hade] at ha
                          refine nt_pure (i := 7) (listed' := lb 17 255) (by kernel_rfl) rfl (by kernel_rfl) (by decide) hpk ha (wgT ha rfl (s := 396)) (fun w => ex_fieldAddr (k := 0) ha Try.underlying42 rfl Ty.t2 rfl) rfl ?_; clear ha; (try clear a); intro a ha
                          refine nt_pure (i := 9) (listed' := lb 17 767) (by kernel_rfl) rfl (by kernel_rfl) (by decide) hpk ha (wgT ha rfl (s := 396)) (fun w => ex_move ha) rfl ?_; clear ha; (try clear a); intro a ha
                          refine nt_pure (i := 10) (listed' := lb 17 1791) (by kernel_rfl) rfl (by kernel_rfl) (by decide) hpk ha (wgT ha rfl (s := 396)) (fun w => ex_move ha) rfl ?_; clear ha; (try clear a); intro a ha
                          refine nt_pure (i := 11) (listed' := lb 17 3839) (by kernel_rfl) rfl (by kernel_rfl) (by decide) hpk ha (wgT ha rfl (s := 396)) (fun w => ex_indexAddr ha Try.underlying64 Ty.t68 (by omega)) rfl ?_; clear ha; (try clear a); intro a ha
                          refine nt_pure (i := 12) (listed' := lb 17 7935) (by kernel_rfl) rfl (by kernel_rfl) (by decide) hpk ha (wgT ha rfl (s := 396)) (fun w => ex_fieldAddr (k := 0) ha Try.underlying68 rfl Ty.t2 rfl) rfl ?_; clear ha; (try clear a); intro a ha
                          refine nt_held (i := 8) (listed' := lb 17 8191) (by kernel_rfl) rfl (by kernel_rfl) hpk ha (wgT ha rfl (s := 396)) (fun w hc => ex_load1 ha Try.underlying2 rfl (hc.1 0 _ rfl)) hC rfl ?_; clear ha; (try clear a); intro a ha
                          refine nt_one (i := 13) (listed' := lb 17 16383) (by kernel_rfl) (by kernel_rfl) rfl (st_set ha (wgT ha rfl (s := 396)) (ex_load1 ha Try.underlying2 rfl ((hC.2 (by omega)) 0 _ rfl)) rfl ?_); clear ha; (try clear a); intro a ha
                          refine ⟨fun _ => hC, ?_⟩
                          refine nt_pure (i := 14) (listed' := lb 17 32767) (by kernel_rfl) rfl (by kernel_rfl) (by decide) hpk ha (wgT ha rfl (s := 396)) (fun w => ex_neq ha) rfl ?_; clear ha; (try clear a); intro a ha
                          rw [hBz, decide_eq_false (by simp)] at ha
                          refine nt_pure (i := 15) (listed' := lb 17 65535) (by kernel_rfl) rfl (by kernel_rfl) (by decide) hpk ha (wgT ha rfl (s := 394)) (fun w => ex_pickT ha) rfl ?_; clear ha; (try clear a); intro a ha
                          refine nt_pure (i := 16) (listed' := lb 17 131071) (by kernel_rfl) rfl (by kernel_rfl) (by decide) hpk ha rfl (fun w => ex_pickF ha) rfl ?_; clear ha; (try clear a); intro a ha
                          refine nt_done (by kernel_rfl) ?_ _
                          refine then_n ?_
                          refine wp_ifF ha ?_
                          refine wp_skip ?_
                          refine blk_n <| then_n ?_
                          rw [← hade] at ha
                          exact ⟨ys, adl, cl, lt, ep, A, ⟨by omega, by omega, hok, hH, hAr, by omega⟩, ha.keep [0, 1, 6, 7, 8, 10, 11, 12, 13], hs.sub⟩
                        ·
                          try simp only [decide_eq_true_eq, decide_eq_false_iff_not, Bool.not_eq_true', Bool.not_eq_false', Int.not_lt, Int.not_le, ne_eq, Decidable.not_not] at hg6
                          refine nt_off (i := 7) (listed' := lb 17 255) (by kernel_rfl) rfl (by kernel_rfl) (by decide) hpk ha (wgF ha rfl (s := 396) rfl) rfl ?_; clear ha; (try clear a); intro a ha
                          refine nt_off (i := 9) (listed' := lb 17 767) (by kernel_rfl) rfl (by kernel_rfl) (by decide) hpk ha (wgF ha rfl (s := 396) rfl) rfl ?_; clear ha; (try clear a); intro a ha
                          refine nt_off (i := 10) (listed' := lb 17 1791) (by kernel_rfl) rfl (by kernel_rfl) (by decide) hpk ha (wgF ha rfl (s := 396) rfl) rfl ?_; clear ha; (try clear a); intro a ha
                          refine nt_off (i := 11) (listed' := lb 17 3839) (by kernel_rfl) rfl (by kernel_rfl) (by decide) hpk ha (wgF ha rfl (s := 396) rfl) rfl ?_; clear ha; (try clear a); intro a ha
                          refine nt_off (i := 12) (listed' := lb 17 7935) (by kernel_rfl) rfl (by kernel_rfl) (by decide) hpk ha (wgF ha rfl (s := 396) rfl) rfl ?_; clear ha; (try clear a); intro a ha
                          refine nt_offH (i := 8) (listed' := lb 17 8191) (by kernel_rfl) rfl (by kernel_rfl) hpk ha (wgF ha rfl (s := 396) rfl) hC rfl ?_; clear ha; (try clear a); intro a ha
                          refine nt_offH (i := 13) (listed' := lb 17 16383) (by kernel_rfl) rfl (by kernel_rfl) hpk ha (wgF ha rfl (s := 396) rfl) hC rfl ?_; clear ha; (try clear a); intro a ha
                          refine nt_off (i := 14) (listed' := lb 17 32767) (by kernel_rfl) rfl (by kernel_rfl) (by decide) hpk ha (wgF ha rfl (s := 396) rfl) rfl ?_; clear ha; (try clear a); intro a ha
                          refine nt_pure (i := 15) (listed' := lb 17 65535) (by kernel_rfl) rfl (by kernel_rfl) (by decide) hpk ha (wgT ha rfl (s := 394)) (fun w => ex_pickF ha) rfl ?_; clear ha; (try clear a); intro a ha
                          refine nt_pure (i := 16) (listed' := lb 17 131071) (by kernel_rfl) rfl (by kernel_rfl) (by decide) hpk ha rfl (fun w => ex_pickF ha) rfl ?_; clear ha; (try clear a); intro a ha
                          refine nt_done (by kernel_rfl) ?_ _
                          refine then_n ?_
                          refine wp_ifF ha ?_
                          refine wp_skip ?_
                          refine blk_n <| then_n ?_
                          exact ⟨ys, adl, cl, lt, ep, A, ⟨by omega, by omega, hok, hH, hAr, by omega⟩, ha.keep [0, 1, 6, 7, 8, 10, 11, 12, 13], hs.sub⟩
                  ·
                    try simp only [decide_eq_true_eq, decide_eq_false_iff_not, Bool.not_eq_true', Bool.not_eq_false', Int.not_lt, Int.not_le, ne_eq, Decidable.not_not] at hc16
                    refine wp_seq ?_
                    replace hs := hs.sl0 68 5 none
                    refine wp_region_lit ?_
                    refine wpList_k (st_set ha rfl (ex_assign ha) rfl ?_); clear ha; (try clear a); intro a ha
                    refine wpList_nil ?_
                    refine then_n ?_
                    refine wp_seq ?_
                    refine wp_seq ?_
                    refine wp_region_lit ?_
                    refine wpList_k (st_set ha rfl (ex_assign ha) rfl ?_); clear ha; (try clear a); intro a ha
                    refine wpList_nil ?_
                    refine then_n ?_
                    refine wp_block ?_
                    refine wp_loop_ghost (fun μ a w => ∃ (k' : Nat) (adL : Option Addr) (cL : Nat), (μ = ys.length - k' ∧ k' ≤ ys.length) ∧ Fr a 418 [(0, .int .i64 M), (1, .slice (some ⟨bo, oo, none⟩) len1 cap1), (6, .pointer (some ⟨q, 0, none⟩)), (7, .pointer (some ⟨tq, 0, none⟩)), (8, .int .i64 ((1 : Nat) : Int)), (10, .slice adl ys.length cl), (11, .int .i64 lt), (12, .int .i64 ep), (13, .int .i64 i), (14, .pointer (some ⟨b14, 0, none⟩)), (31, .slice adL ((ys.take k').filter (kept k f P)).length cL), (32, .int .i64 k')] ∧ St W w [Sl 68 5 adL ((ys.take k').filter (kept k f P)).length cL (rows tc ((ys.take k').filter (kept k f P))), blk b14 66 (bop k f d id adp P.length cp v dead), Sl 48 1 adp P.length cp (X.map bbv), Tree tq q ⟨M, ys.map (·.1), lt, ep⟩, Store q r A, Sl 68 5 adl ys.length cl (rows tc ys), All two ys]) (ys.length) ?_ ?_
                    · exact ⟨0, none, 0, ⟨by simp, by simp⟩, ha.keep [0, 1, 6, 7, 8, 10, 11, 12, 13, 14, 31, 32], by rw [List.take_zero, List.filter_nil]; exact hs.sub (M := [Sl 68 5 none 0 0 [], blk b14 66 (bop k f d id adp P.length cp v dead), Sl 48 1 adp P.length cp (X.map bbv), Tree tq q ⟨M, ys.map (·.1), lt, ep⟩, Store q r A, Sl 68 5 adl ys.length cl (rows tc ys), All two ys])⟩
                    ·
                      clear ha hs
                      rintro μ a w ⟨k', adL, cL, ⟨rfl, hk4⟩, ha, hs⟩
                      refine wp_seq ?_
                      refine wp_seq ?_
                      refine wp_region_lit ?_
                      refine wpList_k (st_set ha rfl (ex_move ha) rfl ?_); clear ha; (try clear a); intro a ha
                      refine wpList_k (st_set ha rfl (ex_move ha) rfl ?_); clear ha; (try clear a); intro a ha
                      refine wpList_k (st_set ha rfl (ex_len ha Try.underlying64) rfl ?_); clear ha; (try clear a); intro a ha
                      refine wpList_k (st_set ha rfl (ex_lss ha) rfl ?_); clear ha; (try clear a); intro a ha
                      refine wpList_nil ?_
                      refine then_n ?_
                      refine wp_if ha (fun hc20 => ?_) (fun hc20 => ?_)
                      ·
                        try simp only [decide_eq_true_eq, decide_eq_false_iff_not, Bool.not_eq_true', Bool.not_eq_false', Int.not_lt, Int.not_le, ne_eq, Decidable.not_not] at hc20
                        refine wp_skip ?_
                        refine then_n ?_
                        refine wp_seq ?_
                        refine wp_block ?_
                        refine wp_seq ?_
                        obtain ⟨bt, ot, hade, hrt⟩ := hs.drew.slRd adl (by omega)
                        obtain ⟨y, hyy⟩ : ∃ y, ys[k']? = some y := ⟨_, List.getElem?_eq_getElem (by omega)⟩
                        have hyc := tw_rd hrt hyy
                        have hoc : Rd w.drew b14 0 (bop k f d id adp P.length cp v dead) := hs.drew.rdAll
                        have hyo := (hwt.ok _ (List.mem_of_getElem? (map_at hyy))).1
                        have hfs := filter_succ (f := kept k f P) hyy
                        rw [hade] at ha
                        refine wp_draw (m := 23) (l0 := lb 23 0) (fun w' => Rd w' bt (ot + k' * 5) (brC y.1 y.2.1 y.2.2.1) ∧ Rd w' b14 0 (bop k f d id adp P.length cp v dead)) [10, 20] Ty.mixed (by kernel_rfl) (by kernel_rfl) (pk_then (pk_blk (pk_then (pk_then (pk_blk (pk_then (pk_blk (pk_then (pk_blk (pk_then (pk_then (pk_blk (pk_then pk_body))))))))))))) (fun hpk => ?_)
                        replace hs := hs.drew
                        generalize w.drew = w at hs hpk hyc hoc ⊢
                        have hC := And.intro hyc hoc
                        refine nt_pure (i := 0) (listed' := lb 23 1) (by kernel_rfl) rfl (by kernel_rfl) (by decide) hpk ha rfl (fun w => ex_fieldAddr (k := 0) ha Try.underlying66 rfl Ty.t3 rfl) rfl ?_; clear ha; (try clear a); intro a ha
                        refine nt_one (i := 1) (listed' := lb 23 3) (by kernel_rfl) (by kernel_rfl) rfl (st_set ha rfl (ex_load1 ha Try.underlying3 rfl (hC.2 0 _ rfl)) rfl ?_); clear ha; (try clear a); intro a ha
                        refine ⟨fun h => absurd h (by decide), ?_⟩
                        refine nt_pure (i := 2) (listed' := lb 23 7) (by kernel_rfl) rfl (by kernel_rfl) (by decide) hpk ha rfl (fun w => ex_eql ha) rfl ?_; clear ha; (try clear a); intro a ha
                        refine nt_pure (i := 3) (listed' := lb 23 15) (by kernel_rfl) rfl (by kernel_rfl) (by decide) hpk ha rfl (fun w => ex_move ha) rfl ?_; clear ha; (try clear a); intro a ha
                        refine ha.bool (s := 97) (fun hg3 ha => ?_) (fun hg3 ha => ?_)
                        ·
                          try simp only [decide_eq_true_eq, decide_eq_false_iff_not, Bool.not_eq_true', Bool.not_eq_false', Int.not_lt, Int.not_le, ne_eq, Decidable.not_not] at hg3
                          refine nt_pure (i := 4) (listed' := lb 23 31) (by kernel_rfl) rfl (by kernel_rfl) (by decide) hpk ha (wgT ha rfl (s := 97)) (fun w => ex_move ha) rfl ?_; clear ha; (try clear a); intro a ha
                          refine nt_pure (i := 5) (listed' := lb 23 63) (by kernel_rfl) rfl (by kernel_rfl) (by decide) hpk ha (wgT ha rfl (s := 97)) (fun w => ex_move ha) rfl ?_; clear ha; (try clear a); intro a ha
                          refine nt_pure (i := 6) (listed' := lb 23 127) (by kernel_rfl) rfl (by kernel_rfl) (by decide) hpk ha (wgT ha rfl (s := 97)) (fun w => ex_indexAddr ha Try.underlying64 Ty.t68 (by omega)) rfl ?_; clear ha; (try clear a); intro a ha
                          refine nt_pure (i := 7) (listed' := lb 23 255) (by kernel_rfl) rfl (by kernel_rfl) (by decide) hpk ha (wgT ha rfl (s := 97)) (fun w => ex_fieldAddr (k := 1) ha Try.underlying68 rfl Ty.t3 rfl) rfl ?_; clear ha; (try clear a); intro a ha
                          refine nt_pure (i := 9) (listed' := lb 23 767) (by kernel_rfl) rfl (by kernel_rfl) (by decide) hpk ha (wgT ha rfl (s := 97)) (fun w => ex_fieldAddr (k := 1) ha Try.underlying66 rfl Ty.t3 rfl) rfl ?_; clear ha; (try clear a); intro a ha
                          refine nt_held (i := 8) (listed' := lb 23 1023) (by kernel_rfl) rfl (by kernel_rfl) hpk ha (wgT ha rfl (s := 97)) (fun w hc => ex_load1 ha Try.underlying3 rfl (hc.1 1 _ rfl)) hC rfl ?_; clear ha; (try clear a); intro a ha
                          refine nt_one (i := 10) (listed' := lb 23 2047) (by kernel_rfl) (by kernel_rfl) rfl (st_set ha (wgT ha rfl (s := 97)) (ex_load1 ha Try.underlying3 rfl (hC.2 1 _ rfl)) rfl ?_); clear ha; (try clear a); intro a ha
                          refine ⟨fun _ => hC, ?_⟩
                          refine nt_pure (i := 11) (listed' := lb 23 4095) (by kernel_rfl) rfl (by kernel_rfl) (by decide) hpk ha (wgT ha rfl (s := 97)) (fun w => ex_eql ha) rfl ?_; clear ha; (try clear a); intro a ha
                          refine nt_pure (i := 12) (listed' := lb 23 8191) (by kernel_rfl) rfl (by kernel_rfl) (by decide) hpk ha rfl (fun w => ex_pickT ha) rfl ?_; clear ha; (try clear a); intro a ha
                          refine nt_pure (i := 13) (listed' := lb 23 16383) (by kernel_rfl) rfl (by kernel_rfl) (by decide) hpk ha rfl (fun w => ex_move ha) rfl ?_; clear ha; (try clear a); intro a ha
                          refine ha.bool (s := 107) (fun hg13 ha => ?_) (fun hg13 ha => ?_)
                          ·
                            try simp only [decide_eq_true_eq, decide_eq_false_iff_not, Bool.not_eq_true', Bool.not_eq_false', Int.not_lt, Int.not_le, ne_eq, Decidable.not_not] at hg13
                            refine nt_pure (i := 14) (listed' := lb 23 32767) (by kernel_rfl) rfl (by kernel_rfl) (by decide) hpk ha (wgT ha rfl (s := 107)) (fun w => ex_move ha) rfl ?_; clear ha; (try clear a); intro a ha
                            refine nt_pure (i := 15) (listed' := lb 23 65535) (by kernel_rfl) rfl (by kernel_rfl) (by decide) hpk ha (wgT ha rfl (s := 107)) (fun w => ex_move ha) rfl ?_; clear ha; (try clear a); intro a ha
                            refine nt_pure (i := 16) (listed' := lb 23 131071) (by kernel_rfl) rfl (by kernel_rfl) (by decide) hpk ha (wgT ha rfl (s := 107)) (fun w => ex_indexAddr ha Try.underlying64 Ty.t68 (by omega)) rfl ?_; clear ha; (try clear a); intro a ha
                            refine nt_pure (i := 17) (listed' := lb 23 262143) (by kernel_rfl) rfl (by kernel_rfl) (by decide) hpk ha (wgT ha rfl (s := 107)) (fun w => ex_fieldAddr (k := 2) ha Try.underlying68 rfl Ty.t23 rfl) rfl ?_; clear ha; (try clear a); intro a ha
                            refine nt_pure (i := 19) (listed' := lb 23 786431) (by kernel_rfl) rfl (by kernel_rfl) (by decide) hpk ha (wgT ha rfl (s := 107)) (fun w => ex_fieldAddr (k := 4) ha Try.underlying66 rfl Ty.t23 rfl) rfl ?_; clear ha; (try clear a); intro a ha
                            refine nt_held (i := 18) (listed' := lb 23 1048575) (by kernel_rfl) rfl (by kernel_rfl) hpk ha (wgT ha rfl (s := 107)) (fun w hc => ex_load1 ha Try.underlying23 rfl (hc.1 2 _ rfl)) hC rfl ?_; clear ha; (try clear a); intro a ha
                            refine nt_one (i := 20) (listed' := lb 23 2097151) (by kernel_rfl) (by kernel_rfl) rfl (st_set ha (wgT ha rfl (s := 107)) (ex_load1 ha Try.underlying23 rfl (hC.2 4 _ rfl)) rfl ?_); clear ha; (try clear a); intro a ha
                            refine ⟨fun _ => hC, ?_⟩
                            refine nt_one (i := 21) (listed' := lb 23 4194303) (by kernel_rfl) (by kernel_rfl) rfl (st_call ha (wgT ha rfl (s := 107)) Ty.c17 rfl (front_spec (u := y.1.press) (v := P) hs (by have := hyo.1; omega) (fun w' h => (tw_bb (h.pick (All two ys)) hok hyy).1) (fun w' h => (RdX.sl h adp hPc hPr).bbP hP)) ?_); clear ha hs
                            rintro e w ⟨rfl, hs⟩
                            refine ⟨_, rfl, ?_⟩
                            intro a ha
                            refine ⟨fun h => absurd h (by decide), ?_⟩
                            refine nt_pure (i := 22) (listed' := lb 23 8388607) (by kernel_rfl) rfl (by kernel_rfl) (by decide) hpk ha rfl (fun w => ex_pickT ha) rfl ?_; clear ha; (try clear a); intro a ha
                            refine nt_done (by kernel_rfl) ?_ _
                            refine then_n ?_
                            refine wp_if ha (fun hc21 => ?_) (fun hc21 => ?_)
                            ·
                              try simp only [decide_eq_true_eq, decide_eq_false_iff_not, Bool.not_eq_true', Bool.not_eq_false', Int.not_lt, Int.not_le, ne_eq, Decidable.not_not] at hc21
                              have hkp : kept k f P y = true := by rw [kept_three hg3, decide_eq_true hg13, hc21]; rfl
                              have hrt2 := (hade ▸ hs).slRdAt bt ot (by omega)
                              have hkl : ((ys.take k').filter (kept k f P)).length ≤ 8 := Nat.le_trans (List.length_filter_le _ _) (by rw [List.length_take]; omega)
                              rw [if_pos hkp] at hfs
                              refine wp_region_lit ?_
                              refine wpList_k (st_set ha rfl (ex_move ha) rfl ?_); clear ha; (try clear a); intro a ha
                              refine wpList_k (st_set ha rfl (ex_move ha) rfl ?_); clear ha; (try clear a); intro a ha
                              refine wpList_k (st_set ha rfl (ex_move ha) rfl ?_); clear ha; (try clear a); intro a ha
                              refine wpList_k (st_set ha rfl (ex_indexAddr ha Try.underlying64 Ty.t68 (by omega)) rfl ?_); clear ha; (try clear a); intro a ha
                              refine wpList_k (st_set ha rfl (ex_loadN ha Try.underlying68 rfl Ty.t68 (tw_rd hrt2 hyy)) rfl ?_); clear ha; (try clear a); intro a ha
                              refine wpList_k (st_buildSlice ha rfl hs Try.underlying64 Ty.t68 rfl rfl rfl rfl (by decide) (by decide) ?_); clear ha hs; (try clear a); (try clear w); intro b122 a w ha hs ho
                              clear ho
                              refine wpList_k (st_append ha rfl hs Try.underlying64 Ty.t68 rfl rfl hs.rdAll rfl (by simp [Value.oneCell', brC]) (by decide) (by decide) (by omega) ?_); clear ha hs; (try clear a); (try clear w); intro ad123 c123 a w ha hs
                              rw [show [brC y.1 y.2.1 y.2.2.1] = [tc y] from rfl, tw_snoc, ← hfs] at hs
                              replace ha := ha.del 31
                              refine wpList_k (st_set ha rfl (ex_assign ha) rfl ?_); clear ha; (try clear a); intro a ha
                              refine wpList_nil ?_
                              refine blk_n <| then_n ?_
                              refine wp_region_lit ?_
                              refine wpList_k (st_set ha rfl (ex_move ha) rfl ?_); clear ha; (try clear a); intro a ha
                              refine wpList_k (st_set ha rfl (ex_addI ha (by omega) (by omega)) rfl ?_); clear ha; (try clear a); intro a ha
                              replace ha := ha.del 32
                              refine wpList_k (st_set ha rfl (ex_assign ha) rfl ?_); clear ha; (try clear a); intro a ha
                              refine wpList_nil ?_
                              refine then_n ?_
                              rw [← hade] at ha
                              exact ⟨ys.length - (k' + 1), by omega, k' + 1, _, _, ⟨rfl, by omega⟩, by rw [hfs, List.length_append]; exact ha.keep [0, 1, 6, 7, 8, 10, 11, 12, 13, 14, 31, 32], by rw [hfs, List.length_append, ← hfs]; exact hs.sub⟩
                            ·
                              try simp only [decide_eq_true_eq, decide_eq_false_iff_not, Bool.not_eq_true', Bool.not_eq_false', Int.not_lt, Int.not_le, ne_eq, Decidable.not_not] at hc21
                              have hkp : kept k f P y = false := by rw [kept_three hg3, hc21, Bool.and_false]
                              refine wp_skip ?_
                              refine blk_n <| then_n ?_
                              refine wp_region_lit ?_
                              refine wpList_k (st_set ha rfl (ex_move ha) rfl ?_); clear ha; (try clear a); intro a ha
                              refine wpList_k (st_set ha rfl (ex_addI ha (by omega) (by omega)) rfl ?_); clear ha; (try clear a); intro a ha
                              replace ha := ha.del 32
                              refine wpList_k (st_set ha rfl (ex_assign ha) rfl ?_); clear ha; (try clear a); intro a ha
                              refine wpList_nil ?_
                              refine then_n ?_
                              rw [← hade] at ha
                              rw [hkp, if_neg (by decide), List.append_nil] at hfs
                              rw [← hfs] at ha hs
                              exact ⟨ys.length - (k' + 1), by omega, k' + 1, _, _, ⟨rfl, by omega⟩, ha.keep [0, 1, 6, 7, 8, 10, 11, 12, 13, 14, 31, 32], hs.sub⟩
                          ·
                            try simp only [decide_eq_true_eq, decide_eq_false_iff_not, Bool.not_eq_true', Bool.not_eq_false', Int.not_lt, Int.not_le, ne_eq, Decidable.not_not] at hg13
                            have hkp : kept k f P y = false := by rw [kept_three hg3, decide_eq_false hg13]; rfl
                            refine nt_off (i := 14) (listed' := lb 23 32767) (by kernel_rfl) rfl (by kernel_rfl) (by decide) hpk ha (wgF ha rfl (s := 107) rfl) rfl ?_; clear ha; (try clear a); intro a ha
                            refine nt_off (i := 15) (listed' := lb 23 65535) (by kernel_rfl) rfl (by kernel_rfl) (by decide) hpk ha (wgF ha rfl (s := 107) rfl) rfl ?_; clear ha; (try clear a); intro a ha
                            refine nt_off (i := 16) (listed' := lb 23 131071) (by kernel_rfl) rfl (by kernel_rfl) (by decide) hpk ha (wgF ha rfl (s := 107) rfl) rfl ?_; clear ha; (try clear a); intro a ha
                            refine nt_off (i := 17) (listed' := lb 23 262143) (by kernel_rfl) rfl (by kernel_rfl) (by decide) hpk ha (wgF ha rfl (s := 107) rfl) rfl ?_; clear ha; (try clear a); intro a ha
                            refine nt_off (i := 19) (listed' := lb 23 786431) (by kernel_rfl) rfl (by kernel_rfl) (by decide) hpk ha (wgF ha rfl (s := 107) rfl) rfl ?_; clear ha; (try clear a); intro a ha
                            refine nt_offH (i := 18) (listed' := lb 23 1048575) (by kernel_rfl) rfl (by kernel_rfl) hpk ha (wgF ha rfl (s := 107) rfl) hC rfl ?_; clear ha; (try clear a); intro a ha
                            refine nt_offH (i := 20) (listed' := lb 23 2097151) (by kernel_rfl) rfl (by kernel_rfl) hpk ha (wgF ha rfl (s := 107) rfl) hC rfl ?_; clear ha; (try clear a); intro a ha
                            refine nt_off (i := 21) (listed' := lb 23 4194303) (by kernel_rfl) rfl (by kernel_rfl) (by decide) hpk ha (wgF ha rfl (s := 107) rfl) rfl ?_; clear ha; (try clear a); intro a ha
                            refine nt_pure (i := 22) (listed' := lb 23 8388607) (by kernel_rfl) rfl (by kernel_rfl) (by decide) hpk ha rfl (fun w => ex_pickF ha) rfl ?_; clear ha; (try clear a); intro a ha
                            refine nt_done (by kernel_rfl) ?_ _
                            refine then_n ?_
                            refine wp_ifF ha ?_
                            refine wp_skip ?_
                            refine blk_n <| then_n ?_
                            refine wp_region_lit ?_
                            refine wpList_k (st_set ha rfl (ex_move ha) rfl ?_); clear ha; (try clear a); intro a ha
                            refine wpList_k (st_set ha rfl (ex_addI ha (by omega) (by omega)) rfl ?_); clear ha; (try clear a); intro a ha
                            replace ha := ha.del 32
                            refine wpList_k (st_set ha rfl (ex_assign ha) rfl ?_); clear ha; (try clear a); intro a ha
                            refine wpList_nil ?_
                            refine then_n ?_
                            rw [← hade] at ha
                            rw [hkp, if_neg (by decide), List.append_nil] at hfs
                            rw [← hfs] at ha hs
                            exact ⟨ys.length - (k' + 1), by omega, k' + 1, _, _, ⟨rfl, by omega⟩, ha.keep [0, 1, 6, 7, 8, 10, 11, 12, 13, 14, 31, 32], hs.sub⟩
                        ·
                          try simp only [decide_eq_true_eq, decide_eq_false_iff_not, Bool.not_eq_true', Bool.not_eq_false', Int.not_lt, Int.not_le, ne_eq, Decidable.not_not] at hg3
                          have hkp : kept k f P y = false := kept_else hg3
                          refine nt_off (i := 4) (listed' := lb 23 31) (by kernel_rfl) rfl (by kernel_rfl) (by decide) hpk ha (wgF ha rfl (s := 97) rfl) rfl ?_; clear ha; (try clear a); intro a ha
                          refine nt_off (i := 5) (listed' := lb 23 63) (by kernel_rfl) rfl (by kernel_rfl) (by decide) hpk ha (wgF ha rfl (s := 97) rfl) rfl ?_; clear ha; (try clear a); intro a ha
                          refine nt_off (i := 6) (listed' := lb 23 127) (by kernel_rfl) rfl (by kernel_rfl) (by decide) hpk ha (wgF ha rfl (s := 97) rfl) rfl ?_; clear ha; (try clear a); intro a ha
                          refine nt_off (i := 7) (listed' := lb 23 255) (by kernel_rfl) rfl (by kernel_rfl) (by decide) hpk ha (wgF ha rfl (s := 97) rfl) rfl ?_; clear ha; (try clear a); intro a ha
                          refine nt_off (i := 9) (listed' := lb 23 767) (by kernel_rfl) rfl (by kernel_rfl) (by decide) hpk ha (wgF ha rfl (s := 97) rfl) rfl ?_; clear ha; (try clear a); intro a ha
                          refine nt_offH (i := 8) (listed' := lb 23 1023) (by kernel_rfl) rfl (by kernel_rfl) hpk ha (wgF ha rfl (s := 97) rfl) hC rfl ?_; clear ha; (try clear a); intro a ha
                          refine nt_offH (i := 10) (listed' := lb 23 2047) (by kernel_rfl) rfl (by kernel_rfl) hpk ha (wgF ha rfl (s := 97) rfl) hC rfl ?_; clear ha; (try clear a); intro a ha
                          refine nt_off (i := 11) (listed' := lb 23 4095) (by kernel_rfl) rfl (by kernel_rfl) (by decide) hpk ha (wgF ha rfl (s := 97) rfl) rfl ?_; clear ha; (try clear a); intro a ha
                          refine nt_pure (i := 12) (listed' := lb 23 8191) (by kernel_rfl) rfl (by kernel_rfl) (by decide) hpk ha rfl (fun w => ex_pickF ha) rfl ?_; clear ha; (try clear a); intro a ha
                          refine nt_pure (i := 13) (listed' := lb 23 16383) (by kernel_rfl) rfl (by kernel_rfl) (by decide) hpk ha rfl (fun w => ex_move ha) rfl ?_; clear ha; (try clear a); intro a ha
                          refine nt_off (i := 14) (listed' := lb 23 32767) (by kernel_rfl) rfl (by kernel_rfl) (by decide) hpk ha (wgF ha rfl (s := 107) rfl) rfl ?_; clear ha; (try clear a); intro a ha
                          refine nt_off (i := 15) (listed' := lb 23 65535) (by kernel_rfl) rfl (by kernel_rfl) (by decide) hpk ha (wgF ha rfl (s := 107) rfl) rfl ?_; clear ha; (try clear a); intro a ha
                          refine nt_off (i := 16) (listed' := lb 23 131071) (by kernel_rfl) rfl (by kernel_rfl) (by decide) hpk ha (wgF ha rfl (s := 107) rfl) rfl ?_; clear ha; (try clear a); intro a ha
                          refine nt_off (i := 17) (listed' := lb 23 262143) (by kernel_rfl) rfl (by kernel_rfl) (by decide) hpk ha (wgF ha rfl (s := 107) rfl) rfl ?_; clear ha; (try clear a); intro a ha
                          refine nt_off (i := 19) (listed' := lb 23 786431) (by kernel_rfl) rfl (by kernel_rfl) (by decide) hpk ha (wgF ha rfl (s := 107) rfl) rfl ?_; clear ha; (try clear a); intro a ha
                          refine nt_offH (i := 18) (listed' := lb 23 1048575) (by kernel_rfl) rfl (by kernel_rfl) hpk ha (wgF ha rfl (s := 107) rfl) hC rfl ?_; clear ha; (try clear a); intro a ha
                          refine nt_offH (i := 20) (listed' := lb 23 2097151) (by kernel_rfl) rfl (by kernel_rfl) hpk ha (wgF ha rfl (s := 107) rfl) hC rfl ?_; clear ha; (try clear a); intro a ha
                          refine nt_off (i := 21) (listed' := lb 23 4194303) (by kernel_rfl) rfl (by kernel_rfl) (by decide) hpk ha (wgF ha rfl (s := 107) rfl) rfl ?_; clear ha; (try clear a); intro a ha
                          refine nt_pure (i := 22) (listed' := lb 23 8388607) (by kernel_rfl) rfl (by kernel_rfl) (by decide) hpk ha rfl (fun w => ex_pickF ha) rfl ?_; clear ha; (try clear a); intro a ha
                          refine nt_done (by kernel_rfl) ?_ _
                          refine then_n ?_
                          refine wp_ifF ha ?_
                          refine wp_skip ?_
                          refine blk_n <| then_n ?_
                          refine wp_region_lit ?_
                          refine wpList_k (st_set ha rfl (ex_move ha) rfl ?_); clear ha; (try clear a); intro a ha
                          refine wpList_k (st_set ha rfl (ex_addI ha (by omega) (by omega)) rfl ?_); clear ha; (try clear a); intro a ha
                          replace ha := ha.del 32
                          refine wpList_k (st_set ha rfl (ex_assign ha) rfl ?_); clear ha; (try clear a); intro a ha
                          refine wpList_nil ?_
                          refine then_n ?_
                          rw [← hade] at ha
                          rw [hkp, if_neg (by decide), List.append_nil] at hfs
                          rw [← hfs] at ha hs
                          exact ⟨ys.length - (k' + 1), by omega, k' + 1, _, _, ⟨rfl, by omega⟩, ha.keep [0, 1, 6, 7, 8, 10, 11, 12, 13, 14, 31, 32], hs.sub⟩
                      ·
                        try simp only [decide_eq_true_eq, decide_eq_false_iff_not, Bool.not_eq_true', Bool.not_eq_false', Int.not_lt, Int.not_le, ne_eq, Decidable.not_not] at hc20
                        refine wp_exit ?_
                        refine then_e <| then_e <| blk_e ?_
                        refine then_n ?_
                        refine wp_seq ?_
                        obtain rfl : k' = ys.length := by omega
                        rw [List.take_length] at ha hs
                        obtain ⟨K, hK⟩ : ∃ K, ys.filter (kept k f P) = K := ⟨_, rfl⟩
                        have hKl : K.length ≤ ys.length := by rw [← hK]; exact List.length_filter_le _ _
                        have hKm := kept_map ys k f P
                        rw [hK] at ha hs hKm
                        have hKm2 : ((ys.map (·.1)).filter (fun x => !goes k f P x)).length = K.length := by rw [← hKm, List.length_map]
                        refine wp_region_lit ?_
                        refine wpList_k (st_set ha rfl (ex_move ha) rfl ?_); clear ha; (try clear a); intro a ha
                        refine wpList_k (st_set ha rfl (ex_len ha Try.underlying64) rfl ?_); clear ha; (try clear a); intro a ha
                        refine wpList_k (st_set ha rfl (ex_move ha) rfl ?_); clear ha; (try clear a); intro a ha
                        refine wpList_k (st_set ha rfl (ex_len ha Try.underlying64) rfl ?_); clear ha; (try clear a); intro a ha
                        refine wpList_k (st_set ha rfl (ex_subI ha (by omega) (by omega)) rfl ?_); clear ha; (try clear a); intro a ha
                        refine wpList_k (st_set ha rfl (ex_assign ha) rfl ?_); clear ha; (try clear a); intro a ha
                        refine wpList_nil ?_
                        obtain ⟨G, hG⟩ : ∃ G, ((ys.length : Int) - (K.length : Int)) = G := ⟨_, rfl⟩
                        rw [hG] at ha
                        refine then_n ?_
                        refine wp_seq ?_
                        refine wp_region_lit ?_
                        refine wpList_k (st_set ha rfl (ex_assign ha) rfl ?_); clear ha; (try clear a); intro a ha
                        refine wpList_nil ?_
                        refine then_n ?_
                        refine wp_seq_cut (M := fun a w => Fr a 418 [(0, .int .i64 M), (1, .slice (some ⟨bo, oo, none⟩) len1 cap1), (6, .pointer (some ⟨q, 0, none⟩)), (7, .pointer (some ⟨tq, 0, none⟩)), (8, .int .i64 ((1 : Nat) : Int)), (11, .int .i64 lt), (12, .int .i64 ep), (13, .int .i64 i), (31, .slice adL K.length cL), (33, .int .i64 G), (34, .int .i64 ((ys.length - K.length : Nat) : Int))] ∧ St W w [Sl 68 5 adL K.length cL (rows tc K), Tree tq q ((⟨M, ys.map (·.1), lt, ep⟩ : Tr).cut (goes k f P)), Store q r (A.dropAll ((ys.map (·.1)).filter (goes k f P))), All two ys]) ?_ ?_
                        ·
                          refine wp_seq ?_
                          refine wp_region_lit ?_
                          refine wpList_k (st_set ha rfl (ex_fieldAddr (k := 0) ha Try.underlying66 rfl Ty.t3 rfl) rfl ?_); clear ha; (try clear a); intro a ha
                          refine wpList_k (st_set ha rfl (ex_load1 ha Try.underlying3 rfl (hs.rd1 rfl)) rfl ?_); clear ha; (try clear a); intro a ha
                          refine wpList_k (st_set ha rfl (ex_eql ha) rfl ?_); clear ha; (try clear a); intro a ha
                          refine wpList_nil ?_
                          refine then_n ?_
                          refine wp_if ha (fun hc22 => ?_) (fun hc22 => ?_)
                          ·
                            try simp only [decide_eq_true_eq, decide_eq_false_iff_not, Bool.not_eq_true', Bool.not_eq_false', Int.not_lt, Int.not_le, ne_eq, Decidable.not_not] at hc22
                            refine wp_region_lit ?_
                            refine wpList_k (st_set ha rfl (ex_move ha) rfl ?_); clear ha; (try clear a); intro a ha
                            refine wpList_k (st_set ha rfl (ex_fieldAddr (k := 1) ha Try.underlying66 rfl Ty.t3 rfl) rfl ?_); clear ha; (try clear a); intro a ha
                            refine wpList_k (st_set ha rfl (ex_load1 ha Try.underlying3 rfl (hs.rd1 rfl)) rfl ?_); clear ha; (try clear a); intro a ha
                            refine wpList_k (st_set ha rfl (ex_fieldAddr (k := 4) ha Try.underlying66 rfl Ty.t23 rfl) rfl ?_); clear ha; (try clear a); intro a ha
                            refine wpList_k (st_set ha rfl (ex_load1 ha Try.underlying23 rfl (hs.rd1 rfl)) rfl ?_); clear ha; (try clear a); intro a ha
                            refine wpList_k (st_call ha rfl Ty.c16 rfl (tree_prune (frm := f) (p := P) ((hs.store q).tree tq) (by simp only; omega) (fun w' h => (RdX.sl h adp hPc hPr).bbP hP) hcp hPo) ?_); clear ha hs
                            rintro e w ⟨rfl, hs⟩
                            refine ⟨_, rfl, ?_⟩
                            intro a ha
                            rw [← goes_three hc22] at ha hs
                            simp only [hKm2, List.length_map] at ha
                            replace ha := ha.del 34
                            refine wpList_k (st_set ha rfl (ex_assign ha) rfl ?_); clear ha; (try clear a); intro a ha
                            refine wpList_nil ?_
                            refine then_n ?_
                            exact ⟨ha.keep [0, 1, 6, 7, 8, 11, 12, 13, 31, 33, 34], hs.sub⟩
                          ·
                            try simp only [decide_eq_true_eq, decide_eq_false_iff_not, Bool.not_eq_true', Bool.not_eq_false', Int.not_lt, Int.not_le, ne_eq, Decidable.not_not] at hc22
                            refine wp_region_lit ?_
                            refine wpList_k (st_set ha rfl (ex_move ha) rfl ?_); clear ha; (try clear a); intro a ha
                            refine wpList_k (st_call ha rfl Ty.c25 rfl (tree_clear ((hs.store q).tree tq) (by simp only; omega)) ?_); clear ha hs
                            rintro e w ⟨rfl, hs⟩
                            refine ⟨_, rfl, ?_⟩
                            intro a ha
                            have hfl : (ys.map (·.1)).filter (goes k f P) = ys.map (·.1) := by rw [goes_else hc22]; simp
                            have hK0 : K.length = 0 := by rw [← hKm2, goes_else hc22]; simp
                            simp only [List.length_map] at ha
                            rw [show ((ys.length : Nat) : Int) = ((ys.length - K.length : Nat) : Int) from by omega] at ha
                            rw [← goes_else (f := f) (P := P) hc22] at hs
                            change St W w (_ :: Store q r (A.dropAll (ys.map (·.1))) :: _) at hs
                            rw [show A.dropAll (ys.map (·.1)) = A.dropAll ((ys.map (·.1)).filter (goes k f P)) from by rw [hfl]] at hs
                            replace ha := ha.del 34
                            refine wpList_k (st_set ha rfl (ex_assign ha) rfl ?_); clear ha; (try clear a); intro a ha
                            refine wpList_nil ?_
                            refine then_n ?_
                            exact ⟨ha.keep [0, 1, 6, 7, 8, 11, 12, 13, 31, 33, 34], hs.sub⟩
                        · clear ha; (try clear hs)
                          intro a w hcut
                          obtain ⟨ha, hs⟩ := hcut
                          refine wp_seq ?_
                          refine wp_seq ?_
                          refine wp_region_lit ?_
                          refine wpList_k (st_set ha rfl (ex_move ha) rfl ?_); clear ha; (try clear a); intro a ha
                          refine wpList_k (st_set ha rfl (ex_move ha) rfl ?_); clear ha; (try clear a); intro a ha
                          refine wpList_k (st_set ha rfl (ex_neq ha) rfl ?_); clear ha; (try clear a); intro a ha
                          refine wpList_nil ?_
                          refine then_n ?_
                          rw [decide_eq_false (by omega)] at ha
                          refine wp_ifF ha ?_
                          refine wp_skip ?_
                          refine then_n ?_
                          refine wp_seq ?_
                          refine wp_seq ?_
                          refine wp_region_lit ?_
                          refine wpList_k (st_set ha rfl (ex_move ha) rfl ?_); clear ha; (try clear a); intro a ha
                          refine wpList_k (st_set ha rfl (ex_gtr ha) rfl ?_); clear ha; (try clear a); intro a ha
                          refine wpList_nil ?_
                          refine then_n ?_
                          refine wp_if ha (fun hc24 => ?_) (fun hc24 => ?_)
                          ·
                            try simp only [decide_eq_true_eq, decide_eq_false_iff_not, Bool.not_eq_true', Bool.not_eq_false', Int.not_lt, Int.not_le, ne_eq, Decidable.not_not] at hc24
                            refine wp_region_lit ?_
                            refine wpList_k (st_set ha rfl (ex_move ha) rfl ?_); clear ha; (try clear a); intro a ha
                            refine wpList_k (st_set ha rfl (ex_addI ha (by omega) (by omega)) rfl ?_); clear ha; (try clear a); intro a ha
                            replace ha := ha.del 12
                            refine wpList_k (st_set ha rfl (ex_assign ha) rfl ?_); clear ha; (try clear a); intro a ha
                            refine wpList_nil ?_
                            rw [show ((ep : Int) + 1) = ((ep + 1 : Nat) : Int) from rfl] at ha
                            refine then_n ?_
                            have hHd : Held t (A.dropAll ((ys.map (·.1)).filter (goes k f P))) (K.map (·.1)) := by rw [hKm]; exact Held.dropAll (ys.map (·.1)) [] A hH
                            have hdn := dropAll_n ((ys.map (·.1)).filter (goes k f P)) A
                            have hsK := (hs.pick (All two ys)).allFilter (kept k f P)
                            rw [hK, prune_cut, ← hKm] at hsK
                            have hokK : TwOk W K := fun z hz => hok z (by rw [← hK] at hz; exact (List.mem_filter.1 hz).1)
                            simp only [List.length_map] at hsK
                            refine wp_region_lit ?_
                            refine wpList_k (st_set ha rfl (ex_move ha) rfl ?_); clear ha; (try clear a); intro a ha
                            refine wpList_k (st_set ha rfl (ex_assign ha) rfl ?_); clear ha; (try clear a); intro a ha
                            refine wpList_nil ?_
                            refine blk_n <| then_n ?_
                            rw [if_pos (by omega)] at hsK
                            exact ⟨K, _, _, lt, ep + 1, _, ⟨by omega, by omega, hokK, hHd, hdn.2.trans hAr, by rw [hdn.1]; omega⟩, ha.keep [0, 1, 6, 7, 8, 10, 11, 12, 13], hsK.sub⟩
                          ·
                            try simp only [decide_eq_true_eq, decide_eq_false_iff_not, Bool.not_eq_true', Bool.not_eq_false', Int.not_lt, Int.not_le, ne_eq, Decidable.not_not] at hc24
                            refine wp_skip ?_
                            refine then_n ?_
                            have hHd : Held t (A.dropAll ((ys.map (·.1)).filter (goes k f P))) (K.map (·.1)) := by rw [hKm]; exact Held.dropAll (ys.map (·.1)) [] A hH
                            have hdn := dropAll_n ((ys.map (·.1)).filter (goes k f P)) A
                            have hsK := (hs.pick (All two ys)).allFilter (kept k f P)
                            rw [hK, prune_cut, ← hKm] at hsK
                            have hokK : TwOk W K := fun z hz => hok z (by rw [← hK] at hz; exact (List.mem_filter.1 hz).1)
                            simp only [List.length_map] at hsK
                            refine wp_region_lit ?_
                            refine wpList_k (st_set ha rfl (ex_move ha) rfl ?_); clear ha; (try clear a); intro a ha
                            refine wpList_k (st_set ha rfl (ex_assign ha) rfl ?_); clear ha; (try clear a); intro a ha
                            refine wpList_nil ?_
                            refine blk_n <| then_n ?_
                            rw [if_neg (by omega)] at hsK
                            exact ⟨K, _, _, lt, ep, _, ⟨by omega, by omega, hokK, hHd, hdn.2.trans hAr, by rw [hdn.1]; omega⟩, ha.keep [0, 1, 6, 7, 8, 10, 11, 12, 13], hsK.sub⟩
            · clear ha; (try clear hs)
              intro a w hcut
              obtain ⟨ys', adl', cl', lt', ep', A', ⟨hlt', hep', hok', hH', hAr', hAn'⟩, ha, hs⟩ := hcut
              refine wp_seq ?_
              refine wp_region_lit ?_
              refine wpList_k (st_set ha rfl (ex_move ha) rfl ?_); clear ha; (try clear a); intro a ha
              refine wpList_k (st_call ha rfl Ty.c19 rfl (tree_epoch (hs.tree tq)) ?_); clear ha hs
              rintro e w ⟨rfl, hs⟩
              refine ⟨_, rfl, ?_⟩
              intro a ha
              refine wpList_k (st_set ha rfl (ex_move ha) rfl ?_); clear ha; (try clear a); intro a ha
              refine wpList_k (st_set ha rfl (ex_neq ha) rfl ?_); clear ha; (try clear a); intro a ha
              refine wpList_k (st_set ha rfl (ex_move ha) rfl ?_); clear ha; (try clear a); intro a ha
              rw [decide_eq_false (by simp)] at ha
              refine wpList_k (st_set ha (wgT ha rfl (s := 411)) (ex_move ha) rfl ?_); clear ha; (try clear a); intro a ha
              refine wpList_k (st_set ha (wgT ha rfl (s := 411)) (ex_move ha) rfl ?_); clear ha; (try clear a); intro a ha
              refine wpList_k (st_set ha (wgT ha rfl (s := 411)) (ex_move ha) rfl ?_); clear ha; (try clear a); intro a ha
              refine wpList_k (st_call ha (wgT ha rfl (s := 411)) Ty.c31 rfl (same_spec (q := q) (r := r) (tq := tq) (A := A') (T := ⟨M, ys'.map (·.1), lt', ep'⟩) (ys := ys') (L := []) hs.sub rfl hok' hH'.len (fun x hx => hH'.own hx)) ?_); clear ha hs
              rintro e w ⟨rfl, hs⟩
              refine ⟨_, rfl, ?_⟩
              intro a ha
              refine wpList_k (st_set ha (wgT ha rfl (s := 411)) (ex_not ha) rfl ?_); clear ha; (try clear a); intro a ha
              refine wpList_k (st_set ha rfl (ex_pickF ha) rfl ?_); clear ha; (try clear a); intro a ha
              refine wpList_nil ?_
              refine then_n ?_
              refine wp_ifF ha ?_
              refine wp_skip ?_
              refine blk_n <| then_n ?_
              refine wp_region_lit ?_
              refine wpList_k (st_set ha rfl (ex_move ha) rfl ?_); clear ha; (try clear a); intro a ha
              refine wpList_k (st_set ha rfl (ex_addI ha (by omega) (by omega)) rfl ?_); clear ha; (try clear a); intro a ha
              replace ha := ha.del 13
              refine wpList_k (st_set ha rfl (ex_assign ha) rfl ?_); clear ha; (try clear a); intro a ha
              refine wpList_nil ?_
              refine then_n ?_
              exact ⟨40 - (i + 1), by omega, i + 1, ys', adl', cl', lt', ep', A', ⟨rfl, by omega, by omega, hlt', hep', hok', hH', hAr', by omega⟩, ha.keep [0, 1, 6, 7, 8, 10, 11, 12, 13], hs.sub⟩
      ·
        try simp only [decide_eq_true_eq, decide_eq_false_iff_not, Bool.not_eq_true', Bool.not_eq_false', Int.not_lt, Int.not_le, ne_eq, Decidable.not_not] at hc2
        refine wp_exit ?_
        refine then_e <| then_e <| blk_e ?_
        refine then_n ?_
        refine wp_seq ?_
        refine wp_region_lit ?_
        refine wpList_k (st_set ha rfl (ex_assign ha) rfl ?_); clear ha; (try clear a); intro a ha
        refine wpList_nil ?_
        refine then_n ?_
        refine wp_ret ?_
        refine ret1 ha rfl ?_
        first
          | exact ⟨rfl, hs.below⟩
          | skip
    ·
      try simp only [decide_eq_true_eq, decide_eq_false_iff_not, Bool.not_eq_true', Bool.not_eq_false', Int.not_lt, Int.not_le, ne_eq, Decidable.not_not] at hg4
      refine wpList_k (st_off ha (wgF ha rfl (s := 57) rfl) rfl ?_); clear ha; (try clear a); intro a ha
      refine wpList_k (st_off ha (wgF ha rfl (s := 57) rfl) rfl ?_); clear ha; (try clear a); intro a ha
      refine wpList_k (st_set ha rfl (ex_pickF ha) rfl ?_); clear ha; (try clear a); intro a ha
      refine wpList_nil ?_
      refine then_n ?_
      refine wp_ifF ha ?_
      refine wp_exit ?_
      refine then_e <| then_e <| blk_e ?_
      refine then_n ?_
      refine wp_seq ?_
      refine wp_region_lit ?_
      refine wpList_k (st_set ha rfl (ex_assign ha) rfl ?_); clear ha; (try clear a); intro a ha
      refine wpList_nil ?_
      refine then_n ?_
      refine wp_ret ?_
      refine ret1 ha rfl ?_
      first
        | exact ⟨rfl, hs.below⟩
        | skip
end Go.Proofs.Ytkjmmchmanofkaa

