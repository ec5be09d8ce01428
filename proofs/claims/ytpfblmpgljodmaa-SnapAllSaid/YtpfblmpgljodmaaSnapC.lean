/- The laws of snap that write cells that came in. -/
import Derived.Test.YtpfblmpgljodmaaSnapW
namespace Go.Proofs.Ytpfblmpgljodmaa
open Go.RowKit
set_option linter.unusedVariables false
set_option linter.unusedSimpArgs false
set_option maxRecDepth 10000
set_option synthInstance.maxSize 4000
set_option synthInstance.maxHeartbeats 400000

section
variable {W w : World} {L R : List SP} {q r : Nat} {A : Sn}
theorem rdv32 {W : World} {a : Option Addr} {zs : List Int} (hz : ∀ w L, St W w L → zs.length = 0 ∨ ∃ b off, a = some ⟨b, off, none⟩ ∧ b < W.heap.size ∧ Rd w b off (zs.map (.int .i32))) {w : World} {L : List SP} (hs : St W w L) : RdV w a zs.length (I32 zs) :=
  ⟨by simp [I32], fun h0 => by
    rcases hz w L hs with h | ⟨b, off, h1, _, h2⟩
    · omega
    · exact ⟨b, off, h1, h2⟩⟩
theorem map_getD {k : IntKind} {zs : List Int} {i : Nat} (h : i < zs.length) : (zs.map (Value.int k))[i]? = some (Value.int k (zs.getD i 0)) := by
  simp [List.getD_eq_getElem?_getD, List.getElem?_eq_getElem h]

theorem snapApart_walk (a0 : Option Addr) (len0 cap0 : Nat) (z0 : List Int) (a1 : Option Addr) (len1 cap1 : Nat) (z1 : List Int) (v : Int) (W : World) (w0 : ArgInts .i32 W a0 len0 cap0 z0) (w1 : ArgInts .i64 W a1 len1 cap1 z1) (w2 : (Lit.int .i32 v).wf = true) :
    Calls Try.prog 5 #[.slice a0 len0 cap0, .slice a1 len1 cap1, .int .i32 v] W fun e w' => e = .returned (.bool true) ∧ Below W.heap.size W w' := by
  have hs := St.start W
  obtain ⟨zs, hzl, hzw, hz⟩ := w0.vals
  have hb1 := w1.len_le
  obtain ⟨cs, hcl, hcw, hcr⟩ := w1.vals
  subst hzl
  subst hcl
  refine calls_enter Try.func5 rfl Try.ntmps5 (Nat.le_of_ble_eq_true rfl) ?_
  intro a ha
  replace ha : Fr a 118 [(0, _), (1, _), (2, _)] := ha
  refine wp_seq ?_
  refine wp_region_lit ?_
  refine wpList_k (st_set ha rfl (ex_assign ha) rfl ?_); clear ha; (try clear a); intro a ha
  refine wpList_nil ?_
  refine then_n ?_
  refine wp_seq ?_
  refine wp_region_lit ?_
  refine wpList_k (st_call ha rfl Ty.c11 rfl (begun11 hs) ?_); clear ha hs
  rintro e w ⟨rfl, hs⟩
  refine ⟨_, rfl, ?_⟩
  intro a ha
  refine wpList_k (st_set ha rfl (ex_assign ha) rfl ?_); clear ha; (try clear a); intro a ha
  refine wpList_nil ?_
  refine then_n ?_
  refine wp_seq ?_
  refine wp_seq ?_
  refine wp_region_lit ?_
  refine wpList_k (st_set ha rfl (ex_move ha) rfl ?_); clear ha; (try clear a); intro a ha
  refine wpList_k (st_set ha rfl (ex_not ha) rfl ?_); clear ha; (try clear a); intro a ha
  refine wpList_nil ?_
  refine then_n ?_
  refine wp_ifF ha ?_
  refine wp_skip ?_
  refine then_n ?_
  refine wp_seq ?_
  refine wp_region_lit ?_
  refine wpList_k (st_call ha rfl Ty.c12 rfl (snap_new (n := 3) hs (by decide)) ?_); clear ha hs
  rintro e w ⟨q, r, rfl, hs⟩
  refine ⟨_, rfl, ?_⟩
  intro a ha
  refine wpList_k (st_set ha rfl (ex_assign ha) rfl ?_); clear ha; (try clear a); intro a ha
  refine wpList_nil ?_
  refine then_n ?_
  refine wp_seq ?_
  refine wp_region_lit ?_
  refine wpList_k (st_set ha rfl (ex_move ha) rfl ?_); clear ha; (try clear a); intro a ha
  refine wpList_k (st_call ha rfl Ty.c14 rfl (of_spec (zs := zs) hs (fun w' h => rdv32 hz h)) ?_); clear ha hs
  rintro e w ⟨rfl, hs⟩
  refine ⟨_, rfl, ?_⟩
  intro a ha
  refine wpList_k (st_alloc ha rfl hs Ty.t29 rfl ?_); clear ha hs; (try clear a); (try clear w); intro b9 a w ha hs ho
  clear ho
  refine wpList_k (st_storeAll ha rfl hs Ty.t29 ints_one (by rfl) ?_); clear ha hs; (try clear a); (try clear w); intro a w ha hs
  refine wpList_nil ?_
  refine then_n ?_
  refine wp_seq ?_
  refine wp_region_lit ?_
  refine wpList_k (st_set ha rfl (ex_move ha) rfl ?_); clear ha; (try clear a); intro a ha
  refine wpList_k (st_set ha rfl (ex_loadN ha Try.underlying29 rfl Ty.t29 (hs.rdAll)) rfl ?_); clear ha; (try clear a); intro a ha
  refine wpList_k (st_call ha rfl Ty.c13 rfl (snap_make (hs.store q) (by decide) (by decide)) ?_); clear ha hs
  rintro e w ⟨t, rfl, ⟨ht1, ht2⟩, hs⟩
  refine ⟨_, rfl, ?_⟩
  intro a ha
  change St W w (Store q r ⟨1, 12, 1, [⟨1, 1, ofL zs, t⟩]⟩ :: _) at hs
  refine wpList_k (st_set ha rfl (ex_move ha) rfl ?_); clear ha; (try clear a); intro a ha
  refine wpList_k (st_set ha rfl (ex_extract ha rfl) rfl ?_); clear ha; (try clear a); intro a ha
  refine wpList_k (st_set ha rfl (ex_extract ha rfl) rfl ?_); clear ha; (try clear a); intro a ha
  refine wpList_k (st_set ha rfl (ex_assign ha) rfl ?_); clear ha; (try clear a); intro a ha
  refine wpList_k (st_set ha rfl (ex_assign ha) rfl ?_); clear ha; (try clear a); intro a ha
  refine wpList_nil ?_
  refine then_n ?_
  refine wp_seq ?_
  refine wp_region_lit ?_
  refine wpList_k (st_set ha rfl (ex_move ha) rfl ?_); clear ha; (try clear a); intro a ha
  refine wpList_k (st_set ha rfl (ex_move ha) rfl ?_); clear ha; (try clear a); intro a ha
  refine wpList_k (st_call ha rfl Ty.c16 rfl (snap_fork (i := 0) (x := ⟨1, 1, ofL zs, t⟩) (hs.store q) rfl (by simp)) ?_); clear ha hs
  rintro e w ⟨rfl, hs⟩
  refine ⟨_, rfl, ?_⟩
  intro a ha
  change St W w (Store q r ⟨2, 12, 2, [⟨1, 1, ofL zs, t⟩, ⟨2, 1, ofL zs, t⟩]⟩ :: _) at hs
  refine wpList_k (st_set ha rfl (ex_move ha) rfl ?_); clear ha; (try clear a); intro a ha
  refine wpList_k (st_set ha rfl (ex_extract ha rfl) rfl ?_); clear ha; (try clear a); intro a ha
  refine wpList_k (st_set ha rfl (ex_extract ha rfl) rfl ?_); clear ha; (try clear a); intro a ha
  refine wpList_k (st_set ha rfl (ex_assign ha) rfl ?_); clear ha; (try clear a); intro a ha
  refine wpList_k (st_set ha rfl (ex_assign ha) rfl ?_); clear ha; (try clear a); intro a ha
  refine wpList_nil ?_
  refine then_n ?_
  refine wp_seq ?_
  refine wp_seq ?_
  refine wp_region_lit ?_
  refine wpList_k (st_set ha rfl (ex_move ha) rfl ?_); clear ha; (try clear a); intro a ha
  refine wpList_k (st_set ha rfl (ex_not ha) rfl ?_); clear ha; (try clear a); intro a ha
  refine wpList_nil ?_
  refine then_n ?_
  refine wp_ifF ha ?_
  refine wp_skip ?_
  refine then_n ?_
  refine wp_seq ?_
  refine wp_region_lit ?_
  refine wpList_k (st_set ha rfl (ex_loadN ha Try.underlying29 rfl Ty.t29 (hs.rdAll)) rfl ?_); clear ha; (try clear a); intro a ha
  refine wpList_k (st_alloc ha rfl hs Ty.t46 rfl ?_); clear ha hs; (try clear a); (try clear w); intro b14 a w ha hs ho
  clear ho
  refine wpList_k (st_storeAll ha rfl hs Ty.t46 ints_one (by rfl) ?_); clear ha hs; (try clear a); (try clear w); intro a w ha hs
  refine wpList_nil ?_
  refine then_n ?_
  refine wp_seq ?_
  refine wp_seq ?_
  refine wp_region_lit ?_
  refine wpList_k (st_set ha rfl (ex_assign ha) rfl ?_); clear ha; (try clear a); intro a ha
  refine wpList_nil ?_
  refine then_n ?_
  refine wp_block ?_
  refine wp_loop_ghost (fun μ a w => ∃ (k : Nat) (g' : Nat → Int) (p' : Nat → Nat), (μ = 20 - k ∧ k ≤ 20 ∧ k ≤ cs.length ∧ Apart4 p') ∧ Fr a 118 [(1, .slice a1 cs.length cap1), (2, .int .i32 v), (8, .pointer (some ⟨q, 0, none⟩)), (9, .pointer (some ⟨b9, 0, none⟩)), (10, .int .i64 ((1 : Nat) : Int)), (12, .int .i64 ((2 : Nat) : Int)), (14, .pointer (some ⟨b14, 0, none⟩)), (15, .int .i64 k)] ∧ St W w [Store q r ⟨2, 12, 2, [⟨1, 1, ofL zs, t⟩, ⟨2, 1, g', p'⟩]⟩, blk b9 29 (ints .i32 32 (ofL zs)), blk b14 46 (ints .i32 32 g')]) (20) ?_ ?_
  · exact ⟨0, ofL zs, t, ⟨by simp, by simp, by simp, ht2⟩, ha.keep [1, 2, 8, 9, 10, 12, 14, 15], hs.sub⟩
  ·
    clear ha hs
    rintro μ a w ⟨k, g', p', ⟨rfl, hk, hkl, hap⟩, ha, hs⟩
    refine wp_seq ?_
    refine wp_seq ?_
    refine wp_region_lit ?_
    refine wpList_k (st_set ha rfl (ex_move ha) rfl ?_); clear ha; (try clear a); intro a ha
    refine wpList_k (st_set ha rfl (ex_move ha) rfl ?_); clear ha; (try clear a); intro a ha
    refine wpList_k (st_set ha rfl (ex_len ha Try.underlying45) rfl ?_); clear ha; (try clear a); intro a ha
    refine wpList_k (st_set ha rfl (ex_lss ha) rfl ?_); clear ha; (try clear a); intro a ha
    refine wpList_k (st_set ha rfl (ex_move ha) rfl ?_); clear ha; (try clear a); intro a ha
    refine ha.bool (s := 47) (fun hg4 ha => ?_) (fun hg4 ha => ?_)
    ·
      try simp only [decide_eq_true_eq, decide_eq_false_iff_not, Bool.not_eq_true', Bool.not_eq_false', Int.not_lt, Int.not_le, ne_eq, Decidable.not_not] at hg4
      refine wpList_k (st_set ha (wgT ha rfl (s := 47)) (ex_move ha) rfl ?_); clear ha; (try clear a); intro a ha
      refine wpList_k (st_set ha (wgT ha rfl (s := 47)) (ex_lss ha) rfl ?_); clear ha; (try clear a); intro a ha
      refine wpList_k (st_set ha rfl (ex_pickT ha) rfl ?_); clear ha; (try clear a); intro a ha
      refine wpList_nil ?_
      refine then_n ?_
      refine wp_if ha (fun hc2 => ?_) (fun hc2 => ?_)
      ·
        try simp only [decide_eq_true_eq, decide_eq_false_iff_not, Bool.not_eq_true', Bool.not_eq_false', Int.not_lt, Int.not_le, ne_eq, Decidable.not_not] at hc2
        refine wp_skip ?_
        refine then_n ?_
        refine wp_seq ?_
        refine wp_block ?_
        refine wp_seq ?_
        obtain ⟨bb, off, rfl, hbb, hrd⟩ := (hcr w _ hs).resolve_left (by omega)
        have hcell := hrd k _ (map_getD (k := .i64) (show k < cs.length by omega))
        obtain ⟨c, hc, hce, hb1, hb2⟩ := norm32 (cs.getD k 0)
        refine wp_region_lit ?_
        refine wpList_k (st_set ha rfl (ex_move ha) rfl ?_); clear ha; (try clear a); intro a ha
        refine wpList_k (st_set ha rfl (ex_move ha) rfl ?_); clear ha; (try clear a); intro a ha
        refine wpList_k (st_set ha rfl (ex_indexAddr ha Try.underlying45 Ty.t3 (by omega)) rfl ?_); clear ha; (try clear a); intro a ha
        rw [Nat.mul_one] at ha
        refine wpList_k (st_set ha rfl (ex_load1 ha Try.underlying3 rfl (hcell)) rfl ?_); clear ha; (try clear a); intro a ha
        refine wpList_k (st_set ha rfl (ex_rem ha (by decide)) rfl ?_); clear ha; (try clear a); intro a ha
        refine wpList_k (st_set ha rfl (ex_addI ha (by omega) (by omega)) rfl ?_); clear ha; (try clear a); intro a ha
        refine wpList_k (st_set ha rfl (ex_rem ha (by decide)) rfl ?_); clear ha; (try clear a); intro a ha
        rw [hce] at ha
        refine wpList_k (st_set ha rfl (ex_assign ha) rfl ?_); clear ha; (try clear a); intro a ha
        refine wpList_nil ?_
        refine then_n ?_
        refine wp_seq ?_
        refine wp_seq ?_
        refine wp_region_lit ?_
        refine wpList_k (st_set ha rfl (ex_move ha) rfl ?_); clear ha; (try clear a); intro a ha
        refine wpList_k (st_set ha rfl (ex_move ha) rfl ?_); clear ha; (try clear a); intro a ha
        refine wpList_k (st_set ha rfl (ex_move ha) rfl ?_); clear ha; (try clear a); intro a ha
        refine wpList_k (st_set ha rfl (ex_move ha) rfl ?_); clear ha; (try clear a); intro a ha
        refine wpList_k (st_call ha rfl Ty.c15 rfl (snap_set_any (i := 1) (x := ⟨2, 1, g', p'⟩) (c := c) (v := v) (hs.store q) rfl hc (by have := Store.used_le (hs.store q); simp at this ⊢; omega)) ?_); clear ha hs
        rintro e w ⟨p2, rfl, hap2, hs⟩
        refine ⟨_, rfl, ?_⟩
        intro a ha
        change St W w (Store q r ⟨2, 12, 2, [⟨1, 1, ofL zs, t⟩, ⟨2, 1, upd g' c v, p2⟩]⟩ :: _) at hs
        refine wpList_k (st_set ha rfl (ex_not ha) rfl ?_); clear ha; (try clear a); intro a ha
        refine wpList_nil ?_
        refine then_n ?_
        refine wp_ifF ha ?_
        refine wp_skip ?_
        refine then_n ?_
        refine wp_region_lit ?_
        refine wpList_k (st_set ha rfl (ex_move ha) rfl ?_); clear ha; (try clear a); intro a ha
        refine wpList_k (st_set ha rfl (ex_move ha) rfl ?_); clear ha; (try clear a); intro a ha
        refine wpList_k (st_set ha rfl (ex_indexAddrA ha Try.underlying46 Ty.t21 (by omega)) rfl ?_); clear ha; (try clear a); intro a ha
        rw [Nat.zero_add, Nat.mul_one] at ha
        refine wpList_k (st_store ha rfl hs Ty.t21 rfl (by rw [ints_len]; omega) ?_); clear ha hs; (try clear a); (try clear w); intro a w ha hs
        rw [ints_set, show (fun i => if i = c then v else g' i) = upd g' c v from rfl] at hs
        refine wpList_nil ?_
        refine blk_n <| then_n ?_
        refine wp_region_lit ?_
        refine wpList_k (st_set ha rfl (ex_move ha) rfl ?_); clear ha; (try clear a); intro a ha
        refine wpList_k (st_set ha rfl (ex_addI ha (by omega) (by omega)) rfl ?_); clear ha; (try clear a); intro a ha
        replace ha := ha.del 15
        refine wpList_k (st_set ha rfl (ex_assign ha) rfl ?_); clear ha; (try clear a); intro a ha
        refine wpList_nil ?_
        refine then_n ?_
        exact ⟨20 - (k + 1), by omega, k + 1, upd g' c v, p2, ⟨rfl, by omega, by omega, hap2 hap⟩, ha.keep [1, 2, 8, 9, 10, 12, 14, 15], hs.sub⟩
      ·
        try simp only [decide_eq_true_eq, decide_eq_false_iff_not, Bool.not_eq_true', Bool.not_eq_false', Int.not_lt, Int.not_le, ne_eq, Decidable.not_not] at hc2
        refine wp_exit ?_
        refine then_e <| then_e <| blk_e ?_
        refine then_n ?_
        refine wp_seq ?_
        refine wp_region_lit ?_
        refine wpList_k (st_set ha rfl (ex_move ha) rfl ?_); clear ha; (try clear a); intro a ha
        refine wpList_k (st_set ha rfl (ex_move ha) rfl ?_); clear ha; (try clear a); intro a ha
        refine wpList_k (st_call ha rfl Ty.c25 rfl (snap_state (i := 0) (x := ⟨1, 1, ofL zs, t⟩) (hs.store q) rfl) ?_); clear ha hs
        rintro e w ⟨rfl, hs⟩
        refine ⟨_, rfl, ?_⟩
        intro a ha
        refine wpList_k (st_set ha rfl (ex_move ha) rfl ?_); clear ha; (try clear a); intro a ha
        refine wpList_k (st_set ha rfl (ex_extract ha rfl) rfl ?_); clear ha; (try clear a); intro a ha
        refine wpList_k (st_set ha rfl (ex_extract ha rfl) rfl ?_); clear ha; (try clear a); intro a ha
        refine wpList_k (st_alloc ha rfl hs Ty.t29 rfl ?_); clear ha hs; (try clear a); (try clear w); intro b17 a w ha hs ho
        clear ho
        refine wpList_k (st_storeAll ha rfl hs Ty.t29 ints_one (by rfl) ?_); clear ha hs; (try clear a); (try clear w); intro a w ha hs
        refine wpList_k (st_set ha rfl (ex_assign ha) rfl ?_); clear ha; (try clear a); intro a ha
        refine wpList_nil ?_
        refine then_n ?_
        refine wp_seq ?_
        refine wp_region_lit ?_
        refine wpList_k (st_set ha rfl (ex_move ha) rfl ?_); clear ha; (try clear a); intro a ha
        refine wpList_k (st_set ha rfl (ex_move ha) rfl ?_); clear ha; (try clear a); intro a ha
        refine wpList_k (st_call ha rfl Ty.c25 rfl (snap_state (i := 1) (x := ⟨2, 1, g', p'⟩) (hs.store q) rfl) ?_); clear ha hs
        rintro e w ⟨rfl, hs⟩
        refine ⟨_, rfl, ?_⟩
        intro a ha
        refine wpList_k (st_set ha rfl (ex_move ha) rfl ?_); clear ha; (try clear a); intro a ha
        refine wpList_k (st_set ha rfl (ex_extract ha rfl) rfl ?_); clear ha; (try clear a); intro a ha
        refine wpList_k (st_set ha rfl (ex_extract ha rfl) rfl ?_); clear ha; (try clear a); intro a ha
        refine wpList_k (st_alloc ha rfl hs Ty.t29 rfl ?_); clear ha hs; (try clear a); (try clear w); intro b19 a w ha hs ho
        clear ho
        refine wpList_k (st_storeAll ha rfl hs Ty.t29 ints_one (by rfl) ?_); clear ha hs; (try clear a); (try clear w); intro a w ha hs
        refine wpList_k (st_set ha rfl (ex_assign ha) rfl ?_); clear ha; (try clear a); intro a ha
        refine wpList_nil ?_
        refine then_n ?_
        refine wp_seq ?_
        refine wp_region_lit ?_
        refine wpList_k (st_set ha rfl (ex_move ha) rfl ?_); clear ha; (try clear a); intro a ha
        refine wpList_k (st_set ha rfl (ex_move ha) rfl ?_); clear ha; (try clear a); intro a ha
        refine wpList_k (st_call ha rfl Ty.c18 rfl (snap_drop (i := 0) (x := ⟨1, 1, ofL zs, t⟩) (hs.store q) rfl) ?_); clear ha hs
        rintro e w ⟨rfl, hs⟩
        refine ⟨_, rfl, ?_⟩
        intro a ha
        change St W w (Store q r ⟨2, 12, 2, [⟨2, 1, g', p'⟩]⟩ :: _) at hs
        have hu : (⟨2, 12, 2, [⟨2, 1, g', p'⟩]⟩ : Sn).used = 4 := by
          rw [Store.used hs]; exact distinct4 hap
        refine wpList_nil ?_
        refine then_n ?_
        refine wp_seq ?_
        refine wp_region_lit ?_
        refine wpList_k (st_set ha rfl (ex_move ha) rfl ?_); clear ha; (try clear a); intro a ha
        refine wpList_k (st_set ha rfl (ex_move ha) rfl ?_); clear ha; (try clear a); intro a ha
        refine wpList_k (st_call ha rfl Ty.c25 rfl (snap_state (i := 0) (x := ⟨2, 1, g', p'⟩) (hs.store q) rfl) ?_); clear ha hs
        rintro e w ⟨rfl, hs⟩
        refine ⟨_, rfl, ?_⟩
        intro a ha
        refine wpList_k (st_set ha rfl (ex_move ha) rfl ?_); clear ha; (try clear a); intro a ha
        refine wpList_k (st_set ha rfl (ex_extract ha rfl) rfl ?_); clear ha; (try clear a); intro a ha
        refine wpList_k (st_set ha rfl (ex_extract ha rfl) rfl ?_); clear ha; (try clear a); intro a ha
        refine wpList_k (st_alloc ha rfl hs Ty.t29 rfl ?_); clear ha hs; (try clear a); (try clear w); intro b21 a w ha hs ho
        clear ho
        refine wpList_k (st_storeAll ha rfl hs Ty.t29 ints_one (by rfl) ?_); clear ha hs; (try clear a); (try clear w); intro a w ha hs
        refine wpList_k (st_set ha rfl (ex_assign ha) rfl ?_); clear ha; (try clear a); intro a ha
        refine wpList_nil ?_
        refine then_n ?_
        refine wp_seq ?_
        refine wp_region_lit ?_
        refine wpList_k (st_set ha rfl (ex_loadN ha Try.underlying29 rfl Ty.t29 (hs.rdAll)) rfl ?_); clear ha; (try clear a); intro a ha
        refine wpList_k (st_set ha rfl (ex_loadN ha Try.underlying29 rfl Ty.t29 (hs.rdAll)) rfl ?_); clear ha; (try clear a); intro a ha
        refine wpList_k (st_set ha rfl (ex_eqlA ha Try.underlying46 Try.underlying21 Ty.t21 (by kernel_rfl) Try.eqGuardType46) rfl ?_); clear ha; (try clear a); intro a ha
        rw [sameN_self] at ha
        refine wpList_k (st_set ha rfl (ex_move ha) rfl ?_); clear ha; (try clear a); intro a ha
        refine wpList_k (st_set ha (wgT ha rfl (s := 93)) (ex_loadN ha Try.underlying29 rfl Ty.t29 (hs.rdAll)) rfl ?_); clear ha; (try clear a); intro a ha
        refine wpList_k (st_set ha (wgT ha rfl (s := 93)) (ex_loadN ha Try.underlying46 rfl Ty.t46 (hs.rdAll)) rfl ?_); clear ha; (try clear a); intro a ha
        refine wpList_k (st_set ha (wgT ha rfl (s := 93)) (ex_eqlA ha Try.underlying46 Try.underlying21 Ty.t21 (by kernel_rfl) Try.eqGuardType46) rfl ?_); clear ha; (try clear a); intro a ha
        rw [sameN_self] at ha
        refine wpList_k (st_set ha rfl (ex_pickT ha) rfl ?_); clear ha; (try clear a); intro a ha
        refine wpList_k (st_set ha rfl (ex_move ha) rfl ?_); clear ha; (try clear a); intro a ha
        refine wpList_k (st_set ha (wgT ha rfl (s := 98)) (ex_move ha) rfl ?_); clear ha; (try clear a); intro a ha
        refine wpList_k (st_set ha rfl (ex_pickT ha) rfl ?_); clear ha; (try clear a); intro a ha
        refine wpList_k (st_set ha rfl (ex_move ha) rfl ?_); clear ha; (try clear a); intro a ha
        refine wpList_k (st_set ha (wgT ha rfl (s := 101)) (ex_loadN ha Try.underlying29 rfl Ty.t29 (hs.rdAll)) rfl ?_); clear ha; (try clear a); intro a ha
        refine wpList_k (st_set ha (wgT ha rfl (s := 101)) (ex_loadN ha Try.underlying46 rfl Ty.t46 (hs.rdAll)) rfl ?_); clear ha; (try clear a); intro a ha
        refine wpList_k (st_set ha (wgT ha rfl (s := 101)) (ex_eqlA ha Try.underlying46 Try.underlying21 Ty.t21 (by kernel_rfl) Try.eqGuardType46) rfl ?_); clear ha; (try clear a); intro a ha
        rw [sameN_self] at ha
        refine wpList_k (st_set ha rfl (ex_pickT ha) rfl ?_); clear ha; (try clear a); intro a ha
        refine wpList_k (st_set ha rfl (ex_move ha) rfl ?_); clear ha; (try clear a); intro a ha
        refine wpList_k (st_set ha (wgT ha rfl (s := 106)) (ex_move ha) rfl ?_); clear ha; (try clear a); intro a ha
        refine wpList_k (st_call ha (wgT ha rfl (s := 106)) Ty.c19 rfl (snap_room (hs.store q)) ?_); clear ha hs
        rintro e w ⟨rfl, hs⟩
        refine ⟨_, rfl, ?_⟩
        intro a ha
        refine wpList_k (st_call ha (wgT ha rfl (s := 106)) Ty.c20 rfl (snap_used (hs.store q)) ?_); clear ha hs
        rintro e w ⟨rfl, hs⟩
        refine ⟨_, rfl, ?_⟩
        intro a ha
        rw [hu] at ha
        refine wpList_k (st_set ha (wgT ha rfl (s := 106)) (ex_eql ha) rfl ?_); clear ha; (try clear a); intro a ha
        refine wpList_k (st_set ha rfl (ex_pickT ha) rfl ?_); clear ha; (try clear a); intro a ha
        refine wpList_k (st_set ha rfl (ex_move ha) rfl ?_); clear ha; (try clear a); intro a ha
        refine wpList_k (st_set ha (wgT ha rfl (s := 112)) (ex_move ha) rfl ?_); clear ha; (try clear a); intro a ha
        refine wpList_k (st_set ha (wgT ha rfl (s := 112)) (ex_move ha) rfl ?_); clear ha; (try clear a); intro a ha
        refine wpList_k (st_call ha (wgT ha rfl (s := 112)) Ty.c18 rfl (snap_drop_no (hs.store q) (by simp)) ?_); clear ha hs
        rintro e w ⟨rfl, hs⟩
        refine ⟨_, rfl, ?_⟩
        intro a ha
        refine wpList_k (st_set ha (wgT ha rfl (s := 112)) (ex_not ha) rfl ?_); clear ha; (try clear a); intro a ha
        refine wpList_k (st_set ha rfl (ex_pickT ha) rfl ?_); clear ha; (try clear a); intro a ha
        refine wpList_k (st_set ha rfl (ex_assign ha) rfl ?_); clear ha; (try clear a); intro a ha
        refine wpList_nil ?_
        refine then_n ?_
        refine wp_ret ?_
        refine ret1 ha rfl ?_
        exact ⟨rfl, hs.below⟩
    ·
      try simp only [decide_eq_true_eq, decide_eq_false_iff_not, Bool.not_eq_true', Bool.not_eq_false', Int.not_lt, Int.not_le, ne_eq, Decidable.not_not] at hg4
      refine wpList_k (st_off ha (wgF ha rfl (s := 47) rfl) rfl ?_); clear ha; (try clear a); intro a ha
      refine wpList_k (st_off ha (wgF ha rfl (s := 47) rfl) rfl ?_); clear ha; (try clear a); intro a ha
      refine wpList_k (st_set ha rfl (ex_pickF ha) rfl ?_); clear ha; (try clear a); intro a ha
      refine wpList_nil ?_
      refine then_n ?_
      refine wp_ifF ha ?_
      refine wp_exit ?_
      refine then_e <| then_e <| blk_e ?_
      refine then_n ?_
      refine wp_seq ?_
      refine wp_region_lit ?_
      refine wpList_k (st_set ha rfl (ex_move ha) rfl ?_); clear ha; (try clear a); intro a ha
      refine wpList_k (st_set ha rfl (ex_move ha) rfl ?_); clear ha; (try clear a); intro a ha
      refine wpList_k (st_call ha rfl Ty.c25 rfl (snap_state (i := 0) (x := ⟨1, 1, ofL zs, t⟩) (hs.store q) rfl) ?_); clear ha hs
      rintro e w ⟨rfl, hs⟩
      refine ⟨_, rfl, ?_⟩
      intro a ha
      refine wpList_k (st_set ha rfl (ex_move ha) rfl ?_); clear ha; (try clear a); intro a ha
      refine wpList_k (st_set ha rfl (ex_extract ha rfl) rfl ?_); clear ha; (try clear a); intro a ha
      refine wpList_k (st_set ha rfl (ex_extract ha rfl) rfl ?_); clear ha; (try clear a); intro a ha
      refine wpList_k (st_alloc ha rfl hs Ty.t29 rfl ?_); clear ha hs; (try clear a); (try clear w); intro b17 a w ha hs ho
      clear ho
      refine wpList_k (st_storeAll ha rfl hs Ty.t29 ints_one (by rfl) ?_); clear ha hs; (try clear a); (try clear w); intro a w ha hs
      refine wpList_k (st_set ha rfl (ex_assign ha) rfl ?_); clear ha; (try clear a); intro a ha
      refine wpList_nil ?_
      refine then_n ?_
      refine wp_seq ?_
      refine wp_region_lit ?_
      refine wpList_k (st_set ha rfl (ex_move ha) rfl ?_); clear ha; (try clear a); intro a ha
      refine wpList_k (st_set ha rfl (ex_move ha) rfl ?_); clear ha; (try clear a); intro a ha
      refine wpList_k (st_call ha rfl Ty.c25 rfl (snap_state (i := 1) (x := ⟨2, 1, g', p'⟩) (hs.store q) rfl) ?_); clear ha hs
      rintro e w ⟨rfl, hs⟩
      refine ⟨_, rfl, ?_⟩
      intro a ha
      refine wpList_k (st_set ha rfl (ex_move ha) rfl ?_); clear ha; (try clear a); intro a ha
      refine wpList_k (st_set ha rfl (ex_extract ha rfl) rfl ?_); clear ha; (try clear a); intro a ha
      refine wpList_k (st_set ha rfl (ex_extract ha rfl) rfl ?_); clear ha; (try clear a); intro a ha
      refine wpList_k (st_alloc ha rfl hs Ty.t29 rfl ?_); clear ha hs; (try clear a); (try clear w); intro b19 a w ha hs ho
      clear ho
      refine wpList_k (st_storeAll ha rfl hs Ty.t29 ints_one (by rfl) ?_); clear ha hs; (try clear a); (try clear w); intro a w ha hs
      refine wpList_k (st_set ha rfl (ex_assign ha) rfl ?_); clear ha; (try clear a); intro a ha
      refine wpList_nil ?_
      refine then_n ?_
      refine wp_seq ?_
      refine wp_region_lit ?_
      refine wpList_k (st_set ha rfl (ex_move ha) rfl ?_); clear ha; (try clear a); intro a ha
      refine wpList_k (st_set ha rfl (ex_move ha) rfl ?_); clear ha; (try clear a); intro a ha
      refine wpList_k (st_call ha rfl Ty.c18 rfl (snap_drop (i := 0) (x := ⟨1, 1, ofL zs, t⟩) (hs.store q) rfl) ?_); clear ha hs
      rintro e w ⟨rfl, hs⟩
      refine ⟨_, rfl, ?_⟩
      intro a ha
      change St W w (Store q r ⟨2, 12, 2, [⟨2, 1, g', p'⟩]⟩ :: _) at hs
      have hu : (⟨2, 12, 2, [⟨2, 1, g', p'⟩]⟩ : Sn).used = 4 := by
        rw [Store.used hs]; exact distinct4 hap
      refine wpList_nil ?_
      refine then_n ?_
      refine wp_seq ?_
      refine wp_region_lit ?_
      refine wpList_k (st_set ha rfl (ex_move ha) rfl ?_); clear ha; (try clear a); intro a ha
      refine wpList_k (st_set ha rfl (ex_move ha) rfl ?_); clear ha; (try clear a); intro a ha
      refine wpList_k (st_call ha rfl Ty.c25 rfl (snap_state (i := 0) (x := ⟨2, 1, g', p'⟩) (hs.store q) rfl) ?_); clear ha hs
      rintro e w ⟨rfl, hs⟩
      refine ⟨_, rfl, ?_⟩
      intro a ha
      refine wpList_k (st_set ha rfl (ex_move ha) rfl ?_); clear ha; (try clear a); intro a ha
      refine wpList_k (st_set ha rfl (ex_extract ha rfl) rfl ?_); clear ha; (try clear a); intro a ha
      refine wpList_k (st_set ha rfl (ex_extract ha rfl) rfl ?_); clear ha; (try clear a); intro a ha
      refine wpList_k (st_alloc ha rfl hs Ty.t29 rfl ?_); clear ha hs; (try clear a); (try clear w); intro b21 a w ha hs ho
      clear ho
      refine wpList_k (st_storeAll ha rfl hs Ty.t29 ints_one (by rfl) ?_); clear ha hs; (try clear a); (try clear w); intro a w ha hs
      refine wpList_k (st_set ha rfl (ex_assign ha) rfl ?_); clear ha; (try clear a); intro a ha
      refine wpList_nil ?_
      refine then_n ?_
      refine wp_seq ?_
      refine wp_region_lit ?_
      refine wpList_k (st_set ha rfl (ex_loadN ha Try.underlying29 rfl Ty.t29 (hs.rdAll)) rfl ?_); clear ha; (try clear a); intro a ha
      refine wpList_k (st_set ha rfl (ex_loadN ha Try.underlying29 rfl Ty.t29 (hs.rdAll)) rfl ?_); clear ha; (try clear a); intro a ha
      refine wpList_k (st_set ha rfl (ex_eqlA ha Try.underlying46 Try.underlying21 Ty.t21 (by kernel_rfl) Try.eqGuardType46) rfl ?_); clear ha; (try clear a); intro a ha
      rw [sameN_self] at ha
      refine wpList_k (st_set ha rfl (ex_move ha) rfl ?_); clear ha; (try clear a); intro a ha
      refine wpList_k (st_set ha (wgT ha rfl (s := 93)) (ex_loadN ha Try.underlying29 rfl Ty.t29 (hs.rdAll)) rfl ?_); clear ha; (try clear a); intro a ha
      refine wpList_k (st_set ha (wgT ha rfl (s := 93)) (ex_loadN ha Try.underlying46 rfl Ty.t46 (hs.rdAll)) rfl ?_); clear ha; (try clear a); intro a ha
      refine wpList_k (st_set ha (wgT ha rfl (s := 93)) (ex_eqlA ha Try.underlying46 Try.underlying21 Ty.t21 (by kernel_rfl) Try.eqGuardType46) rfl ?_); clear ha; (try clear a); intro a ha
      rw [sameN_self] at ha
      refine wpList_k (st_set ha rfl (ex_pickT ha) rfl ?_); clear ha; (try clear a); intro a ha
      refine wpList_k (st_set ha rfl (ex_move ha) rfl ?_); clear ha; (try clear a); intro a ha
      refine wpList_k (st_set ha (wgT ha rfl (s := 98)) (ex_move ha) rfl ?_); clear ha; (try clear a); intro a ha
      refine wpList_k (st_set ha rfl (ex_pickT ha) rfl ?_); clear ha; (try clear a); intro a ha
      refine wpList_k (st_set ha rfl (ex_move ha) rfl ?_); clear ha; (try clear a); intro a ha
      refine wpList_k (st_set ha (wgT ha rfl (s := 101)) (ex_loadN ha Try.underlying29 rfl Ty.t29 (hs.rdAll)) rfl ?_); clear ha; (try clear a); intro a ha
      refine wpList_k (st_set ha (wgT ha rfl (s := 101)) (ex_loadN ha Try.underlying46 rfl Ty.t46 (hs.rdAll)) rfl ?_); clear ha; (try clear a); intro a ha
      refine wpList_k (st_set ha (wgT ha rfl (s := 101)) (ex_eqlA ha Try.underlying46 Try.underlying21 Ty.t21 (by kernel_rfl) Try.eqGuardType46) rfl ?_); clear ha; (try clear a); intro a ha
      rw [sameN_self] at ha
      refine wpList_k (st_set ha rfl (ex_pickT ha) rfl ?_); clear ha; (try clear a); intro a ha
      refine wpList_k (st_set ha rfl (ex_move ha) rfl ?_); clear ha; (try clear a); intro a ha
      refine wpList_k (st_set ha (wgT ha rfl (s := 106)) (ex_move ha) rfl ?_); clear ha; (try clear a); intro a ha
      refine wpList_k (st_call ha (wgT ha rfl (s := 106)) Ty.c19 rfl (snap_room (hs.store q)) ?_); clear ha hs
      rintro e w ⟨rfl, hs⟩
      refine ⟨_, rfl, ?_⟩
      intro a ha
      refine wpList_k (st_call ha (wgT ha rfl (s := 106)) Ty.c20 rfl (snap_used (hs.store q)) ?_); clear ha hs
      rintro e w ⟨rfl, hs⟩
      refine ⟨_, rfl, ?_⟩
      intro a ha
      rw [hu] at ha
      refine wpList_k (st_set ha (wgT ha rfl (s := 106)) (ex_eql ha) rfl ?_); clear ha; (try clear a); intro a ha
      refine wpList_k (st_set ha rfl (ex_pickT ha) rfl ?_); clear ha; (try clear a); intro a ha
      refine wpList_k (st_set ha rfl (ex_move ha) rfl ?_); clear ha; (try clear a); intro a ha
      refine wpList_k (st_set ha (wgT ha rfl (s := 112)) (ex_move ha) rfl ?_); clear ha; (try clear a); intro a ha
      refine wpList_k (st_set ha (wgT ha rfl (s := 112)) (ex_move ha) rfl ?_); clear ha; (try clear a); intro a ha
      refine wpList_k (st_call ha (wgT ha rfl (s := 112)) Ty.c18 rfl (snap_drop_no (hs.store q) (by simp)) ?_); clear ha hs
      rintro e w ⟨rfl, hs⟩
      refine ⟨_, rfl, ?_⟩
      intro a ha
      refine wpList_k (st_set ha (wgT ha rfl (s := 112)) (ex_not ha) rfl ?_); clear ha; (try clear a); intro a ha
      refine wpList_k (st_set ha rfl (ex_pickT ha) rfl ?_); clear ha; (try clear a); intro a ha
      refine wpList_k (st_set ha rfl (ex_assign ha) rfl ?_); clear ha; (try clear a); intro a ha
      refine wpList_nil ?_
      refine then_n ?_
      refine wp_ret ?_
      refine ret1 ha rfl ?_
      exact ⟨rfl, hs.below⟩

/-- Is there such a cell? -/
def inn32 (C : Int) : Bool := decide (0 ≤ C) && decide (C < 32)
theorem snap_set_one {last n rm : Nat} {C v : Int} {x : Pic} (hs : St W w (Store q r ⟨last, rm, n, [x]⟩ :: L)) (hap : Apart4 x.p) :
    Calls Try.prog 15 #[.pointer (some ⟨q, 0, none⟩), .int .i64 x.id, .int .i64 C, .int .i32 v] w fun e w' => e = .returned (.bool (inn32 C)) ∧
      St W w' (Store q r ⟨last, rm, n, [{ x with g := if inn32 C = true then upd x.g C.toNat v else x.g }]⟩ :: L) := by
  by_cases h : 0 ≤ C ∧ C < 32
  · obtain ⟨c, rfl⟩ : ∃ c : Nat, C = c := ⟨C.toNat, by omega⟩
    have hi : inn32 c = true := by simp [inn32]; omega
    rw [hi, if_pos rfl]
    exact snap_set (i := 0) (A := ⟨last, rm, n, [x]⟩) (c := c) hs rfl (by omega) (cnt_one hap (by omega))
  · have hi : inn32 C = false := by simp [inn32]; omega
    rw [hi]
    exact snap_set_out (i := 0) (x := x) hs rfl (by omega)
theorem snap_get_one {last n rm : Nat} {C : Int} {x : Pic} (hs : St W w (Store q r ⟨last, rm, n, [x]⟩ :: L)) :
    Calls Try.prog 17 #[.pointer (some ⟨q, 0, none⟩), .int .i64 x.id, .int .i64 C] w fun e w' => e = .returned (.tuple #[.int .i32 (if inn32 C = true then x.g C.toNat else 0), .bool (inn32 C)]) ∧
      St W w' (Store q r ⟨last, rm, n, [x]⟩ :: L) := by
  by_cases h : 0 ≤ C ∧ C < 32
  · obtain ⟨c, rfl⟩ : ∃ c : Nat, C = c := ⟨C.toNat, by omega⟩
    have hi : inn32 c = true := by simp [inn32]; omega
    rw [hi, if_pos rfl]
    exact snap_get (i := 0) (c := c) hs rfl (by omega)
  · have hi : inn32 C = false := by simp [inn32]; omega
    rw [hi]
    exact snap_get_out (i := 0) (x := x) hs rfl (by omega)
theorem snapCells_walk (a0 : Option Addr) (len0 cap0 : Nat) (z0 : List Int) (a1 : Option Addr) (len1 cap1 : Nat) (z1 : List Int) (a2 : Option Addr) (len2 cap2 : Nat) (z2 : List Int) (W : World) (w0 : ArgInts .i32 W a0 len0 cap0 z0) (w1 : ArgInts .i64 W a1 len1 cap1 z1) (w2 : ArgInts .i32 W a2 len2 cap2 z2) :
    Calls Try.prog 6 #[.slice a0 len0 cap0, .slice a1 len1 cap1, .slice a2 len2 cap2] W fun e w' => e = .returned (.bool true) ∧ Below W.heap.size W w' := by
  have hs := St.start W
  obtain ⟨zs, hzl, hzw, hz⟩ := w0.vals
  have hb1 := w1.len_le
  obtain ⟨cs, hcl, hcw, hcr⟩ := w1.vals
  obtain ⟨vs, hvl, hvw, hvr⟩ := w2.vals
  subst hzl
  subst hcl
  subst hvl
  refine calls_enter Try.func6 rfl Try.ntmps6 (Nat.le_of_ble_eq_true rfl) ?_
  intro a ha
  replace ha : Fr a 134 [(0, _), (1, _), (2, _)] := ha
  refine wp_seq ?_
  refine wp_region_lit ?_
  refine wpList_k (st_set ha rfl (ex_assign ha) rfl ?_); clear ha; (try clear a); intro a ha
  refine wpList_nil ?_
  refine then_n ?_
  refine wp_seq ?_
  refine wp_region_lit ?_
  refine wpList_k (st_call ha rfl Ty.c11 rfl (begun11 hs) ?_); clear ha hs
  rintro e w ⟨rfl, hs⟩
  refine ⟨_, rfl, ?_⟩
  intro a ha
  refine wpList_k (st_set ha rfl (ex_assign ha) rfl ?_); clear ha; (try clear a); intro a ha
  refine wpList_nil ?_
  refine then_n ?_
  refine wp_seq ?_
  refine wp_seq ?_
  refine wp_region_lit ?_
  refine wpList_k (st_set ha rfl (ex_move ha) rfl ?_); clear ha; (try clear a); intro a ha
  refine wpList_k (st_set ha rfl (ex_not ha) rfl ?_); clear ha; (try clear a); intro a ha
  refine wpList_nil ?_
  refine then_n ?_
  refine wp_ifF ha ?_
  refine wp_skip ?_
  refine then_n ?_
  refine wp_seq ?_
  refine wp_region_lit ?_
  refine wpList_k (st_call ha rfl Ty.c12 rfl (snap_new (n := 2) hs (by decide)) ?_); clear ha hs
  rintro e w ⟨q, r, rfl, hs⟩
  refine ⟨_, rfl, ?_⟩
  intro a ha
  refine wpList_k (st_set ha rfl (ex_assign ha) rfl ?_); clear ha; (try clear a); intro a ha
  refine wpList_nil ?_
  refine then_n ?_
  refine wp_seq ?_
  refine wp_region_lit ?_
  refine wpList_k (st_set ha rfl (ex_move ha) rfl ?_); clear ha; (try clear a); intro a ha
  refine wpList_k (st_call ha rfl Ty.c14 rfl (of_spec (zs := zs) hs (fun w' h => rdv32 hz h)) ?_); clear ha hs
  rintro e w ⟨rfl, hs⟩
  refine ⟨_, rfl, ?_⟩
  intro a ha
  refine wpList_k (st_alloc ha rfl hs Ty.t29 rfl ?_); clear ha hs; (try clear a); (try clear w); intro b9 a w ha hs ho
  clear ho
  refine wpList_k (st_storeAll ha rfl hs Ty.t29 ints_one (by rfl) ?_); clear ha hs; (try clear a); (try clear w); intro a w ha hs
  refine wpList_nil ?_
  refine then_n ?_
  refine wp_seq ?_
  refine wp_region_lit ?_
  refine wpList_k (st_set ha rfl (ex_move ha) rfl ?_); clear ha; (try clear a); intro a ha
  refine wpList_k (st_set ha rfl (ex_loadN ha Try.underlying29 rfl Ty.t29 (hs.rdAll)) rfl ?_); clear ha; (try clear a); intro a ha
  refine wpList_k (st_call ha rfl Ty.c13 rfl (snap_make (hs.store q) (by decide) (by decide)) ?_); clear ha hs
  rintro e w ⟨t, rfl, ⟨ht1, ht2⟩, hs⟩
  refine ⟨_, rfl, ?_⟩
  intro a ha
  change St W w (Store q r ⟨1, 8, 1, [⟨1, 1, ofL zs, t⟩]⟩ :: _) at hs
  refine wpList_k (st_set ha rfl (ex_move ha) rfl ?_); clear ha; (try clear a); intro a ha
  refine wpList_k (st_set ha rfl (ex_extract ha rfl) rfl ?_); clear ha; (try clear a); intro a ha
  refine wpList_k (st_set ha rfl (ex_extract ha rfl) rfl ?_); clear ha; (try clear a); intro a ha
  refine wpList_k (st_set ha rfl (ex_assign ha) rfl ?_); clear ha; (try clear a); intro a ha
  refine wpList_k (st_set ha rfl (ex_assign ha) rfl ?_); clear ha; (try clear a); intro a ha
  refine wpList_nil ?_
  refine then_n ?_
  refine wp_seq ?_
  refine wp_seq ?_
  refine wp_region_lit ?_
  refine wpList_k (st_set ha rfl (ex_move ha) rfl ?_); clear ha; (try clear a); intro a ha
  refine wpList_k (st_set ha rfl (ex_not ha) rfl ?_); clear ha; (try clear a); intro a ha
  refine wpList_nil ?_
  refine then_n ?_
  refine wp_ifF ha ?_
  refine wp_skip ?_
  refine then_n ?_
  refine wp_seq ?_
  refine wp_region_lit ?_
  refine wpList_k (st_set ha rfl (ex_loadN ha Try.underlying29 rfl Ty.t29 (hs.rdAll)) rfl ?_); clear ha; (try clear a); intro a ha
  refine wpList_k (st_alloc ha rfl hs Ty.t46 rfl ?_); clear ha hs; (try clear a); (try clear w); intro b12 a w ha hs ho
  clear ho
  refine wpList_k (st_storeAll ha rfl hs Ty.t46 ints_one (by rfl) ?_); clear ha hs; (try clear a); (try clear w); intro a w ha hs
  refine wpList_nil ?_
  refine then_n ?_
  refine wp_seq ?_
  refine wp_seq ?_
  refine wp_region_lit ?_
  refine wpList_k (st_set ha rfl (ex_assign ha) rfl ?_); clear ha; (try clear a); intro a ha
  refine wpList_nil ?_
  refine then_n ?_
  refine wp_block ?_
  refine wp_loop_ghost (fun μ a w => ∃ (k : Nat) (g' : Nat → Int), (μ = 40 - k ∧ k ≤ 40 ∧ k ≤ cs.length) ∧ Fr a 134 [(1, .slice a1 cs.length cap1), (2, .slice a2 vs.length cap2), (8, .pointer (some ⟨q, 0, none⟩)), (10, .int .i64 ((1 : Nat) : Int)), (12, .pointer (some ⟨b12, 0, none⟩)), (13, .int .i64 k)] ∧ St W w [Store q r ⟨1, 8, 1, [⟨1, 1, g', t⟩]⟩, blk b12 46 (ints .i32 32 g')]) (40) ?_ ?_
  · exact ⟨0, ofL zs, ⟨by simp, by simp, by simp⟩, ha.keep [1, 2, 8, 10, 12, 13], hs.sub⟩
  ·
    clear ha hs
    rintro μ a w ⟨k, g', ⟨rfl, hk, hkl⟩, ha, hs⟩
    refine wp_seq ?_
    refine wp_seq ?_
    refine wp_region_lit ?_
    refine wpList_k (st_set ha rfl (ex_move ha) rfl ?_); clear ha; (try clear a); intro a ha
    refine wpList_k (st_set ha rfl (ex_move ha) rfl ?_); clear ha; (try clear a); intro a ha
    refine wpList_k (st_set ha rfl (ex_len ha Try.underlying45) rfl ?_); clear ha; (try clear a); intro a ha
    refine wpList_k (st_set ha rfl (ex_lss ha) rfl ?_); clear ha; (try clear a); intro a ha
    refine wpList_k (st_set ha rfl (ex_move ha) rfl ?_); clear ha; (try clear a); intro a ha
    refine ha.bool (s := 37) (fun hg4 ha => ?_) (fun hg4 ha => ?_)
    ·
      try simp only [decide_eq_true_eq, decide_eq_false_iff_not, Bool.not_eq_true', Bool.not_eq_false', Int.not_lt, Int.not_le, ne_eq, Decidable.not_not] at hg4
      refine wpList_k (st_set ha (wgT ha rfl (s := 37)) (ex_move ha) rfl ?_); clear ha; (try clear a); intro a ha
      refine wpList_k (st_set ha (wgT ha rfl (s := 37)) (ex_move ha) rfl ?_); clear ha; (try clear a); intro a ha
      refine wpList_k (st_set ha (wgT ha rfl (s := 37)) (ex_len ha Try.underlying31) rfl ?_); clear ha; (try clear a); intro a ha
      refine wpList_k (st_set ha (wgT ha rfl (s := 37)) (ex_lss ha) rfl ?_); clear ha; (try clear a); intro a ha
      refine wpList_k (st_set ha rfl (ex_pickT ha) rfl ?_); clear ha; (try clear a); intro a ha
      refine wpList_k (st_set ha rfl (ex_move ha) rfl ?_); clear ha; (try clear a); intro a ha
      refine ha.bool (s := 43) (fun hg10 ha => ?_) (fun hg10 ha => ?_)
      ·
        try simp only [decide_eq_true_eq, decide_eq_false_iff_not, Bool.not_eq_true', Bool.not_eq_false', Int.not_lt, Int.not_le, ne_eq, Decidable.not_not] at hg10
        refine wpList_k (st_set ha (wgT ha rfl (s := 43)) (ex_move ha) rfl ?_); clear ha; (try clear a); intro a ha
        refine wpList_k (st_set ha (wgT ha rfl (s := 43)) (ex_lss ha) rfl ?_); clear ha; (try clear a); intro a ha
        refine wpList_k (st_set ha rfl (ex_pickT ha) rfl ?_); clear ha; (try clear a); intro a ha
        refine wpList_nil ?_
        refine then_n ?_
        refine wp_if ha (fun hc2 => ?_) (fun hc2 => ?_)
        ·
          try simp only [decide_eq_true_eq, decide_eq_false_iff_not, Bool.not_eq_true', Bool.not_eq_false', Int.not_lt, Int.not_le, ne_eq, Decidable.not_not] at hc2
          refine wp_skip ?_
          refine then_n ?_
          refine wp_seq ?_
          refine wp_block ?_
          refine wp_seq ?_
          obtain ⟨bb, off, rfl, hbb, hrd⟩ := (hcr w _ hs).resolve_left (by omega)
          have hcell0 := hrd k _ (map_getD (k := .i64) (show k < cs.length by omega))
          obtain ⟨bv, offv, rfl, hbv, hrv⟩ := (hvr w _ hs).resolve_left (by omega)
          have hval0 := hrv k _ (map_getD (k := .i32) (show k < vs.length by omega))
          rw [hs.old hbb] at hcell0
          rw [hs.old hbv] at hval0
          clear hrd hrv
          obtain ⟨C, hC⟩ : ∃ C, cs.getD k 0 = C := ⟨_, rfl⟩
          obtain ⟨V, hV⟩ : ∃ V, vs.getD k 0 = V := ⟨_, rfl⟩
          rw [hC] at hcell0
          rw [hV] at hval0
          refine wp_region_lit ?_
          refine wpList_k (st_set ha rfl (ex_move ha) rfl ?_); clear ha; (try clear a); intro a ha
          refine wpList_k (st_set ha rfl (ex_move ha) rfl ?_); clear ha; (try clear a); intro a ha
          refine wpList_k (st_set ha rfl (ex_indexAddr ha Try.underlying45 Ty.t3 (by omega)) rfl ?_); clear ha; (try clear a); intro a ha
          rw [Nat.mul_one] at ha
          refine wpList_k (st_set ha rfl (ex_load1 ha Try.underlying3 rfl ((hs.old hbb).trans hcell0)) rfl ?_); clear ha; (try clear a); intro a ha
          refine wpList_k (st_set ha rfl (ex_geq ha) rfl ?_); clear ha; (try clear a); intro a ha
          refine wpList_k (st_set ha rfl (ex_move ha) rfl ?_); clear ha; (try clear a); intro a ha
          refine ha.bool (s := 54) (fun hg5 ha => ?_) (fun hg5 ha => ?_)
          ·
            try simp only [decide_eq_true_eq, decide_eq_false_iff_not, Bool.not_eq_true', Bool.not_eq_false', Int.not_lt, Int.not_le, ne_eq, Decidable.not_not] at hg5
            have hin : inn32 C = decide (C < 32) := by simp [inn32]; omega
            refine wpList_k (st_set ha (wgT ha rfl (s := 54)) (ex_move ha) rfl ?_); clear ha; (try clear a); intro a ha
            refine wpList_k (st_set ha (wgT ha rfl (s := 54)) (ex_move ha) rfl ?_); clear ha; (try clear a); intro a ha
            refine wpList_k (st_set ha (wgT ha rfl (s := 54)) (ex_indexAddr ha Try.underlying45 Ty.t3 (by omega)) rfl ?_); clear ha; (try clear a); intro a ha
            rw [Nat.mul_one] at ha
            refine wpList_k (st_set ha (wgT ha rfl (s := 54)) (ex_load1 ha Try.underlying3 rfl ((hs.old hbb).trans hcell0)) rfl ?_); clear ha; (try clear a); intro a ha
            refine wpList_k (st_set ha (wgT ha rfl (s := 54)) (ex_lss ha) rfl ?_); clear ha; (try clear a); intro a ha
            refine wpList_k (st_set ha rfl (ex_pickT ha) rfl ?_); clear ha; (try clear a); intro a ha
            refine wpList_k (st_set ha rfl (ex_assign ha) rfl ?_); clear ha; (try clear a); intro a ha
            refine wpList_nil ?_
            refine then_n ?_
            refine wp_seq ?_
            refine wp_seq ?_
            refine wp_draw (m := 13) (l0 := lb 13 0) (Old w.drew) [9] Ty.mixed (by kernel_rfl) (by kernel_rfl) (pk_then (pk_then (pk_blk (pk_then (pk_then (pk_blk (pk_then pk_body))))))) (fun hpk => ?_)
            replace hs := hs.drew
            have hC := Old.refl w.drew
            generalize w.drew = w at hs hC hpk ⊢
            refine nt_pure (i := 0) (listed' := lb 13 1) (by kernel_rfl) rfl (by kernel_rfl) (by decide) hpk ha rfl (fun w => ex_move ha) rfl ?_; clear ha; (try clear a); intro a ha
            refine nt_pure (i := 1) (listed' := lb 13 3) (by kernel_rfl) rfl (by kernel_rfl) (by decide) hpk ha rfl (fun w => ex_move ha) rfl ?_; clear ha; (try clear a); intro a ha
            refine nt_pure (i := 2) (listed' := lb 13 7) (by kernel_rfl) rfl (by kernel_rfl) (by decide) hpk ha rfl (fun w => ex_move ha) rfl ?_; clear ha; (try clear a); intro a ha
            refine nt_pure (i := 3) (listed' := lb 13 15) (by kernel_rfl) rfl (by kernel_rfl) (by decide) hpk ha rfl (fun w => ex_move ha) rfl ?_; clear ha; (try clear a); intro a ha
            refine nt_pure (i := 4) (listed' := lb 13 31) (by kernel_rfl) rfl (by kernel_rfl) (by decide) hpk ha rfl (fun w => ex_indexAddr ha Try.underlying45 Ty.t3 (by omega)) rfl ?_; clear ha; (try clear a); intro a ha
            rw [Nat.mul_one] at ha
            refine nt_pure (i := 6) (listed' := lb 13 95) (by kernel_rfl) rfl (by kernel_rfl) (by decide) hpk ha rfl (fun w => ex_move ha) rfl ?_; clear ha; (try clear a); intro a ha
            refine nt_pure (i := 7) (listed' := lb 13 223) (by kernel_rfl) rfl (by kernel_rfl) (by decide) hpk ha rfl (fun w => ex_move ha) rfl ?_; clear ha; (try clear a); intro a ha
            refine nt_pure (i := 8) (listed' := lb 13 479) (by kernel_rfl) rfl (by kernel_rfl) (by decide) hpk ha rfl (fun w => ex_indexAddr ha Try.underlying31 Ty.t21 (by omega)) rfl ?_; clear ha; (try clear a); intro a ha
            rw [Nat.mul_one] at ha
            refine nt_pure (i := 11) (listed' := lb 13 2527) (by kernel_rfl) rfl (by kernel_rfl) (by decide) hpk ha rfl (fun w => ex_move ha) rfl ?_; clear ha; (try clear a); intro a ha
            refine nt_held (i := 5) (listed' := lb 13 2559) (by kernel_rfl) rfl (by kernel_rfl) hpk ha rfl (fun w hc => ex_load1 ha Try.underlying3 rfl (hc.cell ((hs.old hbb).trans hcell0))) hC rfl ?_; clear ha; (try clear a); intro a ha
            refine nt_one (i := 9) (listed' := lb 13 3071) (by kernel_rfl) (by kernel_rfl) rfl (st_set ha rfl (ex_load1 ha Try.underlying21 rfl ((hs.old hbv).trans hval0)) rfl ?_); clear ha; (try clear a); intro a ha
            refine ⟨fun _ => hC, ?_⟩
            refine nt_one (i := 10) (listed' := lb 13 4095) (by kernel_rfl) (by kernel_rfl) rfl (st_call ha rfl Ty.c15 rfl (snap_set_one (x := ⟨1, 1, g', t⟩) (C := C) (v := V) (hs.store q) ht2) ?_); clear ha hs
            rintro e w ⟨rfl, hs⟩
            refine ⟨_, rfl, ?_⟩
            intro a ha
            refine ⟨fun h => absurd h (by decide), ?_⟩
            rw [hin] at ha hs
            refine nt_pure (i := 12) (listed' := lb 13 8191) (by kernel_rfl) rfl (by kernel_rfl) (by decide) hpk ha rfl (fun w => ex_neqB ha Try.underlying4) rfl ?_; clear ha; (try clear a); intro a ha
            rw [bne_self_eq_false] at ha
            refine nt_done (by kernel_rfl) ?_ _
            refine then_n ?_
            refine wp_ifF ha ?_
            refine wp_skip ?_
            refine then_n ?_
            refine wp_seq ?_
            refine wp_seq ?_
            refine wp_region_lit ?_
            refine wpList_k (st_set ha rfl (ex_move ha) rfl ?_); clear ha; (try clear a); intro a ha
            refine wpList_nil ?_
            refine then_n ?_
            refine wp_if ha (fun hc4 => ?_) (fun hc4 => ?_)
            ·
              try simp only [decide_eq_true_eq, decide_eq_false_iff_not, Bool.not_eq_true', Bool.not_eq_false', Int.not_lt, Int.not_le, ne_eq, Decidable.not_not] at hc4
              obtain ⟨c, rfl⟩ : ∃ c : Nat, C = c := ⟨C.toNat, by omega⟩
              rw [decide_eq_true hc4] at ha hs
              rw [if_pos rfl, Int.toNat_natCast] at hs
              have hin2 : inn32 c = true := by rw [hin]; exact decide_eq_true hc4
              refine wp_draw (m := 10) (l0 := lb 10 0) (Old w.drew) [7] Ty.mixed (by kernel_rfl) (by kernel_rfl) (pk_then (pk_blk (pk_then (pk_then (pk_blk (pk_then pk_body)))))) (fun hpk => ?_)
              replace hs := hs.drew
              have hC := Old.refl w.drew
              generalize w.drew = w at hs hC hpk ⊢
              refine nt_pure (i := 0) (listed' := lb 10 1) (by kernel_rfl) rfl (by kernel_rfl) (by decide) hpk ha rfl (fun w => ex_move ha) rfl ?_; clear ha; (try clear a); intro a ha
              refine nt_pure (i := 1) (listed' := lb 10 3) (by kernel_rfl) rfl (by kernel_rfl) (by decide) hpk ha rfl (fun w => ex_move ha) rfl ?_; clear ha; (try clear a); intro a ha
              refine nt_pure (i := 2) (listed' := lb 10 7) (by kernel_rfl) rfl (by kernel_rfl) (by decide) hpk ha rfl (fun w => ex_indexAddr ha Try.underlying45 Ty.t3 (by omega)) rfl ?_; clear ha; (try clear a); intro a ha
              rw [Nat.mul_one] at ha
              refine nt_pure (i := 4) (listed' := lb 10 23) (by kernel_rfl) rfl (by kernel_rfl) (by decide) hpk ha rfl (fun w => ex_move ha) rfl ?_; clear ha; (try clear a); intro a ha
              refine nt_pure (i := 5) (listed' := lb 10 55) (by kernel_rfl) rfl (by kernel_rfl) (by decide) hpk ha rfl (fun w => ex_move ha) rfl ?_; clear ha; (try clear a); intro a ha
              refine nt_pure (i := 6) (listed' := lb 10 119) (by kernel_rfl) rfl (by kernel_rfl) (by decide) hpk ha rfl (fun w => ex_indexAddr ha Try.underlying31 Ty.t21 (by omega)) rfl ?_; clear ha; (try clear a); intro a ha
              rw [Nat.mul_one] at ha
              refine nt_held (i := 3) (listed' := lb 10 127) (by kernel_rfl) rfl (by kernel_rfl) hpk ha rfl (fun w hc => ex_load1 ha Try.underlying3 rfl (hc.cell ((hs.old hbb).trans hcell0))) hC rfl ?_; clear ha; (try clear a); intro a ha
              refine nt_one (i := 7) (listed' := lb 10 255) (by kernel_rfl) (by kernel_rfl) rfl (st_set ha rfl (ex_load1 ha Try.underlying21 rfl ((hs.old hbv).trans hval0)) rfl ?_); clear ha; (try clear a); intro a ha
              refine ⟨fun _ => hC, ?_⟩
              refine nt_pure (i := 8) (listed' := lb 10 511) (by kernel_rfl) rfl (by kernel_rfl) (by decide) hpk ha rfl (fun w => ex_indexAddrA ha Try.underlying46 Ty.t21 (by omega)) rfl ?_; clear ha; (try clear a); intro a ha
              rw [Nat.zero_add, Nat.mul_one] at ha
              refine nt_one (i := 9) (listed' := lb 10 1023) (by kernel_rfl) (by kernel_rfl) rfl (st_store ha rfl hs Ty.t21 rfl (by rw [ints_len]; omega) ?_); clear ha hs; (try clear a); (try clear w); intro a w ha hs
              refine ⟨fun h => absurd h (by decide), ?_⟩
              rw [ints_set, show (fun i => if i = c then V else g' i) = upd g' c V from rfl] at hs
              refine nt_done (by kernel_rfl) ?_ _
              refine then_n ?_
              refine wp_seq ?_
              refine wp_region_lit ?_
              refine wpList_k (st_set ha rfl (ex_move ha) rfl ?_); clear ha; (try clear a); intro a ha
              refine wpList_k (st_set ha rfl (ex_move ha) rfl ?_); clear ha; (try clear a); intro a ha
              refine wpList_k (st_set ha rfl (ex_move ha) rfl ?_); clear ha; (try clear a); intro a ha
              refine wpList_k (st_set ha rfl (ex_move ha) rfl ?_); clear ha; (try clear a); intro a ha
              refine wpList_k (st_set ha rfl (ex_indexAddr ha Try.underlying45 Ty.t3 (by omega)) rfl ?_); clear ha; (try clear a); intro a ha
              rw [Nat.mul_one] at ha
              refine wpList_k (st_set ha rfl (ex_load1 ha Try.underlying3 rfl ((hs.old hbb).trans hcell0)) rfl ?_); clear ha; (try clear a); intro a ha
              refine wpList_k (st_call ha rfl Ty.c17 rfl (snap_get_one (x := ⟨1, 1, upd g' c V, t⟩) (C := c) (hs.store q)) ?_); clear ha hs
              rintro e w ⟨rfl, hs⟩
              refine ⟨_, rfl, ?_⟩
              intro a ha
              rw [hin2] at ha
              simp only [if_true, Int.toNat_natCast, upd_self] at ha
              refine wpList_k (st_set ha rfl (ex_move ha) rfl ?_); clear ha; (try clear a); intro a ha
              refine wpList_k (st_set ha rfl (ex_extract ha rfl) rfl ?_); clear ha; (try clear a); intro a ha
              refine wpList_k (st_set ha rfl (ex_extract ha rfl) rfl ?_); clear ha; (try clear a); intro a ha
              refine wpList_k (st_set ha rfl (ex_assign ha) rfl ?_); clear ha; (try clear a); intro a ha
              refine wpList_k (st_set ha rfl (ex_assign ha) rfl ?_); clear ha; (try clear a); intro a ha
              refine wpList_nil ?_
              refine then_n ?_
              refine wp_seq ?_
              refine wp_region_lit ?_
              refine wpList_k (st_set ha rfl (ex_move ha) rfl ?_); clear ha; (try clear a); intro a ha
              refine wpList_k (st_set ha rfl (ex_move ha) rfl ?_); clear ha; (try clear a); intro a ha
              refine wpList_k (st_set ha rfl (ex_neqB ha Try.underlying4) rfl ?_); clear ha; (try clear a); intro a ha
              rw [bne_self_eq_false] at ha
              refine wpList_k (st_set ha rfl (ex_move ha) rfl ?_); clear ha; (try clear a); intro a ha
              refine wpList_k (st_set ha (wgT ha rfl (s := 97)) (ex_move ha) rfl ?_); clear ha; (try clear a); intro a ha
              refine wpList_k (st_set ha (wgT ha rfl (s := 97)) (ex_move ha) rfl ?_); clear ha; (try clear a); intro a ha
              refine wpList_k (st_set ha (wgT ha rfl (s := 99)) (ex_move ha) rfl ?_); clear ha; (try clear a); intro a ha
              refine wpList_k (st_set ha (wgT ha rfl (s := 99)) (ex_move ha) rfl ?_); clear ha; (try clear a); intro a ha
              refine wpList_k (st_set ha (wgT ha rfl (s := 99)) (ex_move ha) rfl ?_); clear ha; (try clear a); intro a ha
              refine wpList_k (st_set ha (wgT ha rfl (s := 99)) (ex_indexAddr ha Try.underlying31 Ty.t21 (by omega)) rfl ?_); clear ha; (try clear a); intro a ha
              rw [Nat.mul_one] at ha
              refine wpList_k (st_set ha (wgT ha rfl (s := 99)) (ex_load1 ha Try.underlying21 rfl ((hs.old hbv).trans hval0)) rfl ?_); clear ha; (try clear a); intro a ha
              refine wpList_k (st_set ha (wgT ha rfl (s := 99)) (ex_neq ha) rfl ?_); clear ha; (try clear a); intro a ha
              rw [dneI] at ha
              refine wpList_k (st_set ha (wgT ha rfl (s := 97)) (ex_pickT ha) rfl ?_); clear ha; (try clear a); intro a ha
              refine wpList_k (st_set ha rfl (ex_pickF ha) rfl ?_); clear ha; (try clear a); intro a ha
              refine wpList_k (st_set ha rfl (ex_move ha) rfl ?_); clear ha; (try clear a); intro a ha
              refine wpList_k (st_set ha (wgT ha rfl (s := 108)) (ex_move ha) rfl ?_); clear ha; (try clear a); intro a ha
              refine wpList_k (st_set ha (wgT ha rfl (s := 108)) (ex_not ha) rfl ?_); clear ha; (try clear a); intro a ha
              refine wpList_k (st_set ha (wgT ha rfl (s := 108)) (ex_move ha) rfl ?_); clear ha; (try clear a); intro a ha
              refine wpList_k (st_off ha (wgF ha rfl (s := 111) rfl) rfl ?_); clear ha; (try clear a); intro a ha
              refine wpList_k (st_off ha (wgF ha rfl (s := 111) rfl) rfl ?_); clear ha; (try clear a); intro a ha
              refine wpList_k (st_set ha (wgT ha rfl (s := 108)) (ex_pickF ha) rfl ?_); clear ha; (try clear a); intro a ha
              refine wpList_k (st_set ha rfl (ex_pickF ha) rfl ?_); clear ha; (try clear a); intro a ha
              refine wpList_nil ?_
              refine then_n ?_
              refine wp_ifF ha ?_
              refine wp_skip ?_
              refine blk_n <| then_n ?_
              refine wp_region_lit ?_
              refine wpList_k (st_set ha rfl (ex_move ha) rfl ?_); clear ha; (try clear a); intro a ha
              refine wpList_k (st_set ha rfl (ex_addI ha (by omega) (by omega)) rfl ?_); clear ha; (try clear a); intro a ha
              replace ha := ha.del 13
              refine wpList_k (st_set ha rfl (ex_assign ha) rfl ?_); clear ha; (try clear a); intro a ha
              refine wpList_nil ?_
              refine then_n ?_
              exact ⟨40 - (k + 1), by omega, k + 1, upd g' c V, ⟨rfl, by omega, by omega⟩, ha.keep [1, 2, 8, 10, 12, 13], hs.sub⟩
            ·
              try simp only [decide_eq_true_eq, decide_eq_false_iff_not, Bool.not_eq_true', Bool.not_eq_false', Int.not_lt, Int.not_le, ne_eq, Decidable.not_not] at hc4
              rw [decide_eq_false (by omega)] at ha hs
              rw [if_neg (by decide)] at hs
              have hin2 : inn32 C = false := by rw [hin]; exact decide_eq_false (by omega)
              refine wp_skip ?_
              refine then_n ?_
              refine wp_seq ?_
              refine wp_region_lit ?_
              refine wpList_k (st_set ha rfl (ex_move ha) rfl ?_); clear ha; (try clear a); intro a ha
              refine wpList_k (st_set ha rfl (ex_move ha) rfl ?_); clear ha; (try clear a); intro a ha
              refine wpList_k (st_set ha rfl (ex_move ha) rfl ?_); clear ha; (try clear a); intro a ha
              refine wpList_k (st_set ha rfl (ex_move ha) rfl ?_); clear ha; (try clear a); intro a ha
              refine wpList_k (st_set ha rfl (ex_indexAddr ha Try.underlying45 Ty.t3 (by omega)) rfl ?_); clear ha; (try clear a); intro a ha
              rw [Nat.mul_one] at ha
              refine wpList_k (st_set ha rfl (ex_load1 ha Try.underlying3 rfl ((hs.old hbb).trans hcell0)) rfl ?_); clear ha; (try clear a); intro a ha
              refine wpList_k (st_call ha rfl Ty.c17 rfl (snap_get_one (x := ⟨1, 1, g', t⟩) (C := C) (hs.store q)) ?_); clear ha hs
              rintro e w ⟨rfl, hs⟩
              refine ⟨_, rfl, ?_⟩
              intro a ha
              rw [hin2, if_neg (by decide)] at ha
              refine wpList_k (st_set ha rfl (ex_move ha) rfl ?_); clear ha; (try clear a); intro a ha
              refine wpList_k (st_set ha rfl (ex_extract ha rfl) rfl ?_); clear ha; (try clear a); intro a ha
              refine wpList_k (st_set ha rfl (ex_extract ha rfl) rfl ?_); clear ha; (try clear a); intro a ha
              refine wpList_k (st_set ha rfl (ex_assign ha) rfl ?_); clear ha; (try clear a); intro a ha
              refine wpList_k (st_set ha rfl (ex_assign ha) rfl ?_); clear ha; (try clear a); intro a ha
              refine wpList_nil ?_
              refine then_n ?_
              refine wp_seq ?_
              refine wp_region_lit ?_
              refine wpList_k (st_set ha rfl (ex_move ha) rfl ?_); clear ha; (try clear a); intro a ha
              refine wpList_k (st_set ha rfl (ex_move ha) rfl ?_); clear ha; (try clear a); intro a ha
              refine wpList_k (st_set ha rfl (ex_neqB ha Try.underlying4) rfl ?_); clear ha; (try clear a); intro a ha
              rw [bne_self_eq_false] at ha
              refine wpList_k (st_set ha rfl (ex_move ha) rfl ?_); clear ha; (try clear a); intro a ha
              refine wpList_k (st_set ha (wgT ha rfl (s := 97)) (ex_move ha) rfl ?_); clear ha; (try clear a); intro a ha
              refine wpList_k (st_set ha (wgT ha rfl (s := 97)) (ex_move ha) rfl ?_); clear ha; (try clear a); intro a ha
              refine wpList_k (st_off ha (wgF ha rfl (s := 99) rfl) rfl ?_); clear ha; (try clear a); intro a ha
              refine wpList_k (st_off ha (wgF ha rfl (s := 99) rfl) rfl ?_); clear ha; (try clear a); intro a ha
              refine wpList_k (st_off ha (wgF ha rfl (s := 99) rfl) rfl ?_); clear ha; (try clear a); intro a ha
              refine wpList_k (st_off ha (wgF ha rfl (s := 99) rfl) rfl ?_); clear ha; (try clear a); intro a ha
              refine wpList_k (st_off ha (wgF ha rfl (s := 99) rfl) rfl ?_); clear ha; (try clear a); intro a ha
              refine wpList_k (st_off ha (wgF ha rfl (s := 99) rfl) rfl ?_); clear ha; (try clear a); intro a ha
              refine wpList_k (st_set ha (wgT ha rfl (s := 97)) (ex_pickF ha) rfl ?_); clear ha; (try clear a); intro a ha
              refine wpList_k (st_set ha rfl (ex_pickF ha) rfl ?_); clear ha; (try clear a); intro a ha
              refine wpList_k (st_set ha rfl (ex_move ha) rfl ?_); clear ha; (try clear a); intro a ha
              refine wpList_k (st_set ha (wgT ha rfl (s := 108)) (ex_move ha) rfl ?_); clear ha; (try clear a); intro a ha
              refine wpList_k (st_set ha (wgT ha rfl (s := 108)) (ex_not ha) rfl ?_); clear ha; (try clear a); intro a ha
              refine wpList_k (st_set ha (wgT ha rfl (s := 108)) (ex_move ha) rfl ?_); clear ha; (try clear a); intro a ha
              refine wpList_k (st_set ha (wgT ha rfl (s := 111)) (ex_move ha) rfl ?_); clear ha; (try clear a); intro a ha
              refine wpList_k (st_set ha (wgT ha rfl (s := 111)) (ex_neq ha) rfl ?_); clear ha; (try clear a); intro a ha
              rw [dneI] at ha
              refine wpList_k (st_set ha (wgT ha rfl (s := 108)) (ex_pickT ha) rfl ?_); clear ha; (try clear a); intro a ha
              refine wpList_k (st_set ha rfl (ex_pickF ha) rfl ?_); clear ha; (try clear a); intro a ha
              refine wpList_nil ?_
              refine then_n ?_
              refine wp_ifF ha ?_
              refine wp_skip ?_
              refine blk_n <| then_n ?_
              refine wp_region_lit ?_
              refine wpList_k (st_set ha rfl (ex_move ha) rfl ?_); clear ha; (try clear a); intro a ha
              refine wpList_k (st_set ha rfl (ex_addI ha (by omega) (by omega)) rfl ?_); clear ha; (try clear a); intro a ha
              replace ha := ha.del 13
              refine wpList_k (st_set ha rfl (ex_assign ha) rfl ?_); clear ha; (try clear a); intro a ha
              refine wpList_nil ?_
              refine then_n ?_
              exact ⟨40 - (k + 1), by omega, k + 1, g', ⟨rfl, by omega, by omega⟩, ha.keep [1, 2, 8, 10, 12, 13], hs.sub⟩
          ·
            try simp only [decide_eq_true_eq, decide_eq_false_iff_not, Bool.not_eq_true', Bool.not_eq_false', Int.not_lt, Int.not_le, ne_eq, Decidable.not_not] at hg5
            have hin : inn32 C = false := by simp [inn32]; omega
            refine wpList_k (st_off ha (wgF ha rfl (s := 54) rfl) rfl ?_); clear ha; (try clear a); intro a ha
            refine wpList_k (st_off ha (wgF ha rfl (s := 54) rfl) rfl ?_); clear ha; (try clear a); intro a ha
            refine wpList_k (st_off ha (wgF ha rfl (s := 54) rfl) rfl ?_); clear ha; (try clear a); intro a ha
            refine wpList_k (st_off ha (wgF ha rfl (s := 54) rfl) rfl ?_); clear ha; (try clear a); intro a ha
            refine wpList_k (st_off ha (wgF ha rfl (s := 54) rfl) rfl ?_); clear ha; (try clear a); intro a ha
            refine wpList_k (st_set ha rfl (ex_pickF ha) rfl ?_); clear ha; (try clear a); intro a ha
            refine wpList_k (st_set ha rfl (ex_assign ha) rfl ?_); clear ha; (try clear a); intro a ha
            refine wpList_nil ?_
            refine then_n ?_
            refine wp_seq ?_
            refine wp_seq ?_
            refine wp_draw (m := 13) (l0 := lb 13 0) (Old w.drew) [9] Ty.mixed (by kernel_rfl) (by kernel_rfl) (pk_then (pk_then (pk_blk (pk_then (pk_then (pk_blk (pk_then pk_body))))))) (fun hpk => ?_)
            replace hs := hs.drew
            have hC := Old.refl w.drew
            generalize w.drew = w at hs hC hpk ⊢
            refine nt_pure (i := 0) (listed' := lb 13 1) (by kernel_rfl) rfl (by kernel_rfl) (by decide) hpk ha rfl (fun w => ex_move ha) rfl ?_; clear ha; (try clear a); intro a ha
            refine nt_pure (i := 1) (listed' := lb 13 3) (by kernel_rfl) rfl (by kernel_rfl) (by decide) hpk ha rfl (fun w => ex_move ha) rfl ?_; clear ha; (try clear a); intro a ha
            refine nt_pure (i := 2) (listed' := lb 13 7) (by kernel_rfl) rfl (by kernel_rfl) (by decide) hpk ha rfl (fun w => ex_move ha) rfl ?_; clear ha; (try clear a); intro a ha
            refine nt_pure (i := 3) (listed' := lb 13 15) (by kernel_rfl) rfl (by kernel_rfl) (by decide) hpk ha rfl (fun w => ex_move ha) rfl ?_; clear ha; (try clear a); intro a ha
            refine nt_pure (i := 4) (listed' := lb 13 31) (by kernel_rfl) rfl (by kernel_rfl) (by decide) hpk ha rfl (fun w => ex_indexAddr ha Try.underlying45 Ty.t3 (by omega)) rfl ?_; clear ha; (try clear a); intro a ha
            rw [Nat.mul_one] at ha
            refine nt_pure (i := 6) (listed' := lb 13 95) (by kernel_rfl) rfl (by kernel_rfl) (by decide) hpk ha rfl (fun w => ex_move ha) rfl ?_; clear ha; (try clear a); intro a ha
            refine nt_pure (i := 7) (listed' := lb 13 223) (by kernel_rfl) rfl (by kernel_rfl) (by decide) hpk ha rfl (fun w => ex_move ha) rfl ?_; clear ha; (try clear a); intro a ha
            refine nt_pure (i := 8) (listed' := lb 13 479) (by kernel_rfl) rfl (by kernel_rfl) (by decide) hpk ha rfl (fun w => ex_indexAddr ha Try.underlying31 Ty.t21 (by omega)) rfl ?_; clear ha; (try clear a); intro a ha
            rw [Nat.mul_one] at ha
            refine nt_pure (i := 11) (listed' := lb 13 2527) (by kernel_rfl) rfl (by kernel_rfl) (by decide) hpk ha rfl (fun w => ex_move ha) rfl ?_; clear ha; (try clear a); intro a ha
            refine nt_held (i := 5) (listed' := lb 13 2559) (by kernel_rfl) rfl (by kernel_rfl) hpk ha rfl (fun w hc => ex_load1 ha Try.underlying3 rfl (hc.cell ((hs.old hbb).trans hcell0))) hC rfl ?_; clear ha; (try clear a); intro a ha
            refine nt_one (i := 9) (listed' := lb 13 3071) (by kernel_rfl) (by kernel_rfl) rfl (st_set ha rfl (ex_load1 ha Try.underlying21 rfl ((hs.old hbv).trans hval0)) rfl ?_); clear ha; (try clear a); intro a ha
            refine ⟨fun _ => hC, ?_⟩
            refine nt_one (i := 10) (listed' := lb 13 4095) (by kernel_rfl) (by kernel_rfl) rfl (st_call ha rfl Ty.c15 rfl (snap_set_one (x := ⟨1, 1, g', t⟩) (C := C) (v := V) (hs.store q) ht2) ?_); clear ha hs
            rintro e w ⟨rfl, hs⟩
            refine ⟨_, rfl, ?_⟩
            intro a ha
            refine ⟨fun h => absurd h (by decide), ?_⟩
            rw [hin] at ha hs
            refine nt_pure (i := 12) (listed' := lb 13 8191) (by kernel_rfl) rfl (by kernel_rfl) (by decide) hpk ha rfl (fun w => ex_neqB ha Try.underlying4) rfl ?_; clear ha; (try clear a); intro a ha
            rw [bne_self_eq_false] at ha
            refine nt_done (by kernel_rfl) ?_ _
            refine then_n ?_
            refine wp_ifF ha ?_
            refine wp_skip ?_
            refine then_n ?_
            refine wp_seq ?_
            refine wp_seq ?_
            refine wp_region_lit ?_
            refine wpList_k (st_set ha rfl (ex_move ha) rfl ?_); clear ha; (try clear a); intro a ha
            refine wpList_nil ?_
            rw [if_neg (by decide)] at hs
            have hin2 : inn32 C = false := hin
            refine then_n ?_
            refine wp_ifF ha ?_
            refine wp_skip ?_
            refine then_n ?_
            refine wp_seq ?_
            refine wp_region_lit ?_
            refine wpList_k (st_set ha rfl (ex_move ha) rfl ?_); clear ha; (try clear a); intro a ha
            refine wpList_k (st_set ha rfl (ex_move ha) rfl ?_); clear ha; (try clear a); intro a ha
            refine wpList_k (st_set ha rfl (ex_move ha) rfl ?_); clear ha; (try clear a); intro a ha
            refine wpList_k (st_set ha rfl (ex_move ha) rfl ?_); clear ha; (try clear a); intro a ha
            refine wpList_k (st_set ha rfl (ex_indexAddr ha Try.underlying45 Ty.t3 (by omega)) rfl ?_); clear ha; (try clear a); intro a ha
            rw [Nat.mul_one] at ha
            refine wpList_k (st_set ha rfl (ex_load1 ha Try.underlying3 rfl ((hs.old hbb).trans hcell0)) rfl ?_); clear ha; (try clear a); intro a ha
            refine wpList_k (st_call ha rfl Ty.c17 rfl (snap_get_one (x := ⟨1, 1, g', t⟩) (C := C) (hs.store q)) ?_); clear ha hs
            rintro e w ⟨rfl, hs⟩
            refine ⟨_, rfl, ?_⟩
            intro a ha
            rw [hin2, if_neg (by decide)] at ha
            refine wpList_k (st_set ha rfl (ex_move ha) rfl ?_); clear ha; (try clear a); intro a ha
            refine wpList_k (st_set ha rfl (ex_extract ha rfl) rfl ?_); clear ha; (try clear a); intro a ha
            refine wpList_k (st_set ha rfl (ex_extract ha rfl) rfl ?_); clear ha; (try clear a); intro a ha
            refine wpList_k (st_set ha rfl (ex_assign ha) rfl ?_); clear ha; (try clear a); intro a ha
            refine wpList_k (st_set ha rfl (ex_assign ha) rfl ?_); clear ha; (try clear a); intro a ha
            refine wpList_nil ?_
            refine then_n ?_
            refine wp_seq ?_
            refine wp_region_lit ?_
            refine wpList_k (st_set ha rfl (ex_move ha) rfl ?_); clear ha; (try clear a); intro a ha
            refine wpList_k (st_set ha rfl (ex_move ha) rfl ?_); clear ha; (try clear a); intro a ha
            refine wpList_k (st_set ha rfl (ex_neqB ha Try.underlying4) rfl ?_); clear ha; (try clear a); intro a ha
            rw [bne_self_eq_false] at ha
            refine wpList_k (st_set ha rfl (ex_move ha) rfl ?_); clear ha; (try clear a); intro a ha
            refine wpList_k (st_set ha (wgT ha rfl (s := 97)) (ex_move ha) rfl ?_); clear ha; (try clear a); intro a ha
            refine wpList_k (st_set ha (wgT ha rfl (s := 97)) (ex_move ha) rfl ?_); clear ha; (try clear a); intro a ha
            refine wpList_k (st_off ha (wgF ha rfl (s := 99) rfl) rfl ?_); clear ha; (try clear a); intro a ha
            refine wpList_k (st_off ha (wgF ha rfl (s := 99) rfl) rfl ?_); clear ha; (try clear a); intro a ha
            refine wpList_k (st_off ha (wgF ha rfl (s := 99) rfl) rfl ?_); clear ha; (try clear a); intro a ha
            refine wpList_k (st_off ha (wgF ha rfl (s := 99) rfl) rfl ?_); clear ha; (try clear a); intro a ha
            refine wpList_k (st_off ha (wgF ha rfl (s := 99) rfl) rfl ?_); clear ha; (try clear a); intro a ha
            refine wpList_k (st_off ha (wgF ha rfl (s := 99) rfl) rfl ?_); clear ha; (try clear a); intro a ha
            refine wpList_k (st_set ha (wgT ha rfl (s := 97)) (ex_pickF ha) rfl ?_); clear ha; (try clear a); intro a ha
            refine wpList_k (st_set ha rfl (ex_pickF ha) rfl ?_); clear ha; (try clear a); intro a ha
            refine wpList_k (st_set ha rfl (ex_move ha) rfl ?_); clear ha; (try clear a); intro a ha
            refine wpList_k (st_set ha (wgT ha rfl (s := 108)) (ex_move ha) rfl ?_); clear ha; (try clear a); intro a ha
            refine wpList_k (st_set ha (wgT ha rfl (s := 108)) (ex_not ha) rfl ?_); clear ha; (try clear a); intro a ha
            refine wpList_k (st_set ha (wgT ha rfl (s := 108)) (ex_move ha) rfl ?_); clear ha; (try clear a); intro a ha
            refine wpList_k (st_set ha (wgT ha rfl (s := 111)) (ex_move ha) rfl ?_); clear ha; (try clear a); intro a ha
            refine wpList_k (st_set ha (wgT ha rfl (s := 111)) (ex_neq ha) rfl ?_); clear ha; (try clear a); intro a ha
            rw [dneI] at ha
            refine wpList_k (st_set ha (wgT ha rfl (s := 108)) (ex_pickT ha) rfl ?_); clear ha; (try clear a); intro a ha
            refine wpList_k (st_set ha rfl (ex_pickF ha) rfl ?_); clear ha; (try clear a); intro a ha
            refine wpList_nil ?_
            refine then_n ?_
            refine wp_ifF ha ?_
            refine wp_skip ?_
            refine blk_n <| then_n ?_
            refine wp_region_lit ?_
            refine wpList_k (st_set ha rfl (ex_move ha) rfl ?_); clear ha; (try clear a); intro a ha
            refine wpList_k (st_set ha rfl (ex_addI ha (by omega) (by omega)) rfl ?_); clear ha; (try clear a); intro a ha
            replace ha := ha.del 13
            refine wpList_k (st_set ha rfl (ex_assign ha) rfl ?_); clear ha; (try clear a); intro a ha
            refine wpList_nil ?_
            refine then_n ?_
            exact ⟨40 - (k + 1), by omega, k + 1, g', ⟨rfl, by omega, by omega⟩, ha.keep [1, 2, 8, 10, 12, 13], hs.sub⟩
        ·
          try simp only [decide_eq_true_eq, decide_eq_false_iff_not, Bool.not_eq_true', Bool.not_eq_false', Int.not_lt, Int.not_le, ne_eq, Decidable.not_not] at hc2
          refine wp_exit ?_
          refine then_e <| then_e <| blk_e ?_
          refine then_n ?_
          refine wp_seq ?_
          refine wp_region_lit ?_
          refine wpList_k (st_set ha rfl (ex_move ha) rfl ?_); clear ha; (try clear a); intro a ha
          refine wpList_k (st_set ha rfl (ex_move ha) rfl ?_); clear ha; (try clear a); intro a ha
          refine wpList_k (st_call ha rfl Ty.c25 rfl (snap_state (i := 0) (x := ⟨1, 1, g', t⟩) (hs.store q) rfl) ?_); clear ha hs
          rintro e w ⟨rfl, hs⟩
          refine ⟨_, rfl, ?_⟩
          intro a ha
          have hu : (⟨1, 8, 1, [⟨1, 1, g', t⟩]⟩ : Sn).used = 4 := by
            rw [Store.used hs]; exact distinct4 ht2
          refine wpList_k (st_set ha rfl (ex_move ha) rfl ?_); clear ha; (try clear a); intro a ha
          refine wpList_k (st_set ha rfl (ex_extract ha rfl) rfl ?_); clear ha; (try clear a); intro a ha
          refine wpList_k (st_set ha rfl (ex_extract ha rfl) rfl ?_); clear ha; (try clear a); intro a ha
          refine wpList_k (st_alloc ha rfl hs Ty.t29 rfl ?_); clear ha hs; (try clear a); (try clear w); intro b17 a w ha hs ho
          clear ho
          refine wpList_k (st_storeAll ha rfl hs Ty.t29 ints_one (by rfl) ?_); clear ha hs; (try clear a); (try clear w); intro a w ha hs
          refine wpList_k (st_set ha rfl (ex_assign ha) rfl ?_); clear ha; (try clear a); intro a ha
          refine wpList_nil ?_
          refine then_n ?_
          refine wp_seq ?_
          refine wp_region_lit ?_
          refine wpList_k (st_set ha rfl (ex_move ha) rfl ?_); clear ha; (try clear a); intro a ha
          refine wpList_k (st_set ha rfl (ex_move ha) rfl ?_); clear ha; (try clear a); intro a ha
          refine wpList_k (st_set ha (wgT ha rfl (s := 123)) (ex_loadN ha Try.underlying29 rfl Ty.t29 (hs.rdAll)) rfl ?_); clear ha; (try clear a); intro a ha
          refine wpList_k (st_set ha (wgT ha rfl (s := 123)) (ex_loadN ha Try.underlying46 rfl Ty.t46 (hs.rdAll)) rfl ?_); clear ha; (try clear a); intro a ha
          refine wpList_k (st_set ha (wgT ha rfl (s := 123)) (ex_eqlA ha Try.underlying46 Try.underlying21 Ty.t21 (by kernel_rfl) Try.eqGuardType46) rfl ?_); clear ha; (try clear a); intro a ha
          rw [sameN_self] at ha
          refine wpList_k (st_set ha rfl (ex_pickT ha) rfl ?_); clear ha; (try clear a); intro a ha
          refine wpList_k (st_set ha rfl (ex_move ha) rfl ?_); clear ha; (try clear a); intro a ha
          refine wpList_k (st_set ha (wgT ha rfl (s := 128)) (ex_move ha) rfl ?_); clear ha; (try clear a); intro a ha
          refine wpList_k (st_call ha (wgT ha rfl (s := 128)) Ty.c19 rfl (snap_room (hs.store q)) ?_); clear ha hs
          rintro e w ⟨rfl, hs⟩
          refine ⟨_, rfl, ?_⟩
          intro a ha
          refine wpList_k (st_call ha (wgT ha rfl (s := 128)) Ty.c20 rfl (snap_used (hs.store q)) ?_); clear ha hs
          rintro e w ⟨rfl, hs⟩
          refine ⟨_, rfl, ?_⟩
          intro a ha
          rw [hu] at ha
          refine wpList_k (st_set ha (wgT ha rfl (s := 128)) (ex_eql ha) rfl ?_); clear ha; (try clear a); intro a ha
          refine wpList_k (st_set ha rfl (ex_pickT ha) rfl ?_); clear ha; (try clear a); intro a ha
          refine wpList_k (st_set ha rfl (ex_assign ha) rfl ?_); clear ha; (try clear a); intro a ha
          refine wpList_nil ?_
          refine then_n ?_
          refine wp_ret ?_
          refine ret1 ha rfl ?_
          exact ⟨rfl, hs.below⟩
      ·
        try simp only [decide_eq_true_eq, decide_eq_false_iff_not, Bool.not_eq_true', Bool.not_eq_false', Int.not_lt, Int.not_le, ne_eq, Decidable.not_not] at hg10
        refine wpList_k (st_off ha (wgF ha rfl (s := 43) rfl) rfl ?_); clear ha; (try clear a); intro a ha
        refine wpList_k (st_off ha (wgF ha rfl (s := 43) rfl) rfl ?_); clear ha; (try clear a); intro a ha
        refine wpList_k (st_set ha rfl (ex_pickF ha) rfl ?_); clear ha; (try clear a); intro a ha
        refine wpList_nil ?_
        refine then_n ?_
        refine wp_ifF ha ?_
        refine wp_exit ?_
        refine then_e <| then_e <| blk_e ?_
        refine then_n ?_
        refine wp_seq ?_
        refine wp_region_lit ?_
        refine wpList_k (st_set ha rfl (ex_move ha) rfl ?_); clear ha; (try clear a); intro a ha
        refine wpList_k (st_set ha rfl (ex_move ha) rfl ?_); clear ha; (try clear a); intro a ha
        refine wpList_k (st_call ha rfl Ty.c25 rfl (snap_state (i := 0) (x := ⟨1, 1, g', t⟩) (hs.store q) rfl) ?_); clear ha hs
        rintro e w ⟨rfl, hs⟩
        refine ⟨_, rfl, ?_⟩
        intro a ha
        have hu : (⟨1, 8, 1, [⟨1, 1, g', t⟩]⟩ : Sn).used = 4 := by
          rw [Store.used hs]; exact distinct4 ht2
        refine wpList_k (st_set ha rfl (ex_move ha) rfl ?_); clear ha; (try clear a); intro a ha
        refine wpList_k (st_set ha rfl (ex_extract ha rfl) rfl ?_); clear ha; (try clear a); intro a ha
        refine wpList_k (st_set ha rfl (ex_extract ha rfl) rfl ?_); clear ha; (try clear a); intro a ha
        refine wpList_k (st_alloc ha rfl hs Ty.t29 rfl ?_); clear ha hs; (try clear a); (try clear w); intro b17 a w ha hs ho
        clear ho
        refine wpList_k (st_storeAll ha rfl hs Ty.t29 ints_one (by rfl) ?_); clear ha hs; (try clear a); (try clear w); intro a w ha hs
        refine wpList_k (st_set ha rfl (ex_assign ha) rfl ?_); clear ha; (try clear a); intro a ha
        refine wpList_nil ?_
        refine then_n ?_
        refine wp_seq ?_
        refine wp_region_lit ?_
        refine wpList_k (st_set ha rfl (ex_move ha) rfl ?_); clear ha; (try clear a); intro a ha
        refine wpList_k (st_set ha rfl (ex_move ha) rfl ?_); clear ha; (try clear a); intro a ha
        refine wpList_k (st_set ha (wgT ha rfl (s := 123)) (ex_loadN ha Try.underlying29 rfl Ty.t29 (hs.rdAll)) rfl ?_); clear ha; (try clear a); intro a ha
        refine wpList_k (st_set ha (wgT ha rfl (s := 123)) (ex_loadN ha Try.underlying46 rfl Ty.t46 (hs.rdAll)) rfl ?_); clear ha; (try clear a); intro a ha
        refine wpList_k (st_set ha (wgT ha rfl (s := 123)) (ex_eqlA ha Try.underlying46 Try.underlying21 Ty.t21 (by kernel_rfl) Try.eqGuardType46) rfl ?_); clear ha; (try clear a); intro a ha
        rw [sameN_self] at ha
        refine wpList_k (st_set ha rfl (ex_pickT ha) rfl ?_); clear ha; (try clear a); intro a ha
        refine wpList_k (st_set ha rfl (ex_move ha) rfl ?_); clear ha; (try clear a); intro a ha
        refine wpList_k (st_set ha (wgT ha rfl (s := 128)) (ex_move ha) rfl ?_); clear ha; (try clear a); intro a ha
        refine wpList_k (st_call ha (wgT ha rfl (s := 128)) Ty.c19 rfl (snap_room (hs.store q)) ?_); clear ha hs
        rintro e w ⟨rfl, hs⟩
        refine ⟨_, rfl, ?_⟩
        intro a ha
        refine wpList_k (st_call ha (wgT ha rfl (s := 128)) Ty.c20 rfl (snap_used (hs.store q)) ?_); clear ha hs
        rintro e w ⟨rfl, hs⟩
        refine ⟨_, rfl, ?_⟩
        intro a ha
        rw [hu] at ha
        refine wpList_k (st_set ha (wgT ha rfl (s := 128)) (ex_eql ha) rfl ?_); clear ha; (try clear a); intro a ha
        refine wpList_k (st_set ha rfl (ex_pickT ha) rfl ?_); clear ha; (try clear a); intro a ha
        refine wpList_k (st_set ha rfl (ex_assign ha) rfl ?_); clear ha; (try clear a); intro a ha
        refine wpList_nil ?_
        refine then_n ?_
        refine wp_ret ?_
        refine ret1 ha rfl ?_
        exact ⟨rfl, hs.below⟩
    ·
      try simp only [decide_eq_true_eq, decide_eq_false_iff_not, Bool.not_eq_true', Bool.not_eq_false', Int.not_lt, Int.not_le, ne_eq, Decidable.not_not] at hg4
      refine wpList_k (st_off ha (wgF ha rfl (s := 37) rfl) rfl ?_); clear ha; (try clear a); intro a ha
      refine wpList_k (st_off ha (wgF ha rfl (s := 37) rfl) rfl ?_); clear ha; (try clear a); intro a ha
      refine wpList_k (st_off ha (wgF ha rfl (s := 37) rfl) rfl ?_); clear ha; (try clear a); intro a ha
      refine wpList_k (st_off ha (wgF ha rfl (s := 37) rfl) rfl ?_); clear ha; (try clear a); intro a ha
      refine wpList_k (st_set ha rfl (ex_pickF ha) rfl ?_); clear ha; (try clear a); intro a ha
      refine wpList_k (st_set ha rfl (ex_move ha) rfl ?_); clear ha; (try clear a); intro a ha
      refine wpList_k (st_off ha (wgF ha rfl (s := 43) rfl) rfl ?_); clear ha; (try clear a); intro a ha
      refine wpList_k (st_off ha (wgF ha rfl (s := 43) rfl) rfl ?_); clear ha; (try clear a); intro a ha
      refine wpList_k (st_set ha rfl (ex_pickF ha) rfl ?_); clear ha; (try clear a); intro a ha
      refine wpList_nil ?_
      refine then_n ?_
      refine wp_ifF ha ?_
      refine wp_exit ?_
      refine then_e <| then_e <| blk_e ?_
      refine then_n ?_
      refine wp_seq ?_
      refine wp_region_lit ?_
      refine wpList_k (st_set ha rfl (ex_move ha) rfl ?_); clear ha; (try clear a); intro a ha
      refine wpList_k (st_set ha rfl (ex_move ha) rfl ?_); clear ha; (try clear a); intro a ha
      refine wpList_k (st_call ha rfl Ty.c25 rfl (snap_state (i := 0) (x := ⟨1, 1, g', t⟩) (hs.store q) rfl) ?_); clear ha hs
      rintro e w ⟨rfl, hs⟩
      refine ⟨_, rfl, ?_⟩
      intro a ha
      have hu : (⟨1, 8, 1, [⟨1, 1, g', t⟩]⟩ : Sn).used = 4 := by
        rw [Store.used hs]; exact distinct4 ht2
      refine wpList_k (st_set ha rfl (ex_move ha) rfl ?_); clear ha; (try clear a); intro a ha
      refine wpList_k (st_set ha rfl (ex_extract ha rfl) rfl ?_); clear ha; (try clear a); intro a ha
      refine wpList_k (st_set ha rfl (ex_extract ha rfl) rfl ?_); clear ha; (try clear a); intro a ha
      refine wpList_k (st_alloc ha rfl hs Ty.t29 rfl ?_); clear ha hs; (try clear a); (try clear w); intro b17 a w ha hs ho
      clear ho
      refine wpList_k (st_storeAll ha rfl hs Ty.t29 ints_one (by rfl) ?_); clear ha hs; (try clear a); (try clear w); intro a w ha hs
      refine wpList_k (st_set ha rfl (ex_assign ha) rfl ?_); clear ha; (try clear a); intro a ha
      refine wpList_nil ?_
      refine then_n ?_
      refine wp_seq ?_
      refine wp_region_lit ?_
      refine wpList_k (st_set ha rfl (ex_move ha) rfl ?_); clear ha; (try clear a); intro a ha
      refine wpList_k (st_set ha rfl (ex_move ha) rfl ?_); clear ha; (try clear a); intro a ha
      refine wpList_k (st_set ha (wgT ha rfl (s := 123)) (ex_loadN ha Try.underlying29 rfl Ty.t29 (hs.rdAll)) rfl ?_); clear ha; (try clear a); intro a ha
      refine wpList_k (st_set ha (wgT ha rfl (s := 123)) (ex_loadN ha Try.underlying46 rfl Ty.t46 (hs.rdAll)) rfl ?_); clear ha; (try clear a); intro a ha
      refine wpList_k (st_set ha (wgT ha rfl (s := 123)) (ex_eqlA ha Try.underlying46 Try.underlying21 Ty.t21 (by kernel_rfl) Try.eqGuardType46) rfl ?_); clear ha; (try clear a); intro a ha
      rw [sameN_self] at ha
      refine wpList_k (st_set ha rfl (ex_pickT ha) rfl ?_); clear ha; (try clear a); intro a ha
      refine wpList_k (st_set ha rfl (ex_move ha) rfl ?_); clear ha; (try clear a); intro a ha
      refine wpList_k (st_set ha (wgT ha rfl (s := 128)) (ex_move ha) rfl ?_); clear ha; (try clear a); intro a ha
      refine wpList_k (st_call ha (wgT ha rfl (s := 128)) Ty.c19 rfl (snap_room (hs.store q)) ?_); clear ha hs
      rintro e w ⟨rfl, hs⟩
      refine ⟨_, rfl, ?_⟩
      intro a ha
      refine wpList_k (st_call ha (wgT ha rfl (s := 128)) Ty.c20 rfl (snap_used (hs.store q)) ?_); clear ha hs
      rintro e w ⟨rfl, hs⟩
      refine ⟨_, rfl, ?_⟩
      intro a ha
      rw [hu] at ha
      refine wpList_k (st_set ha (wgT ha rfl (s := 128)) (ex_eql ha) rfl ?_); clear ha; (try clear a); intro a ha
      refine wpList_k (st_set ha rfl (ex_pickT ha) rfl ?_); clear ha; (try clear a); intro a ha
      refine wpList_k (st_set ha rfl (ex_assign ha) rfl ?_); clear ha; (try clear a); intro a ha
      refine wpList_nil ?_
      refine then_n ?_
      refine wp_ret ?_
      refine ret1 ha rfl ?_
      exact ⟨rfl, hs.below⟩
end
end Go.Proofs.Ytpfblmpgljodmaa

