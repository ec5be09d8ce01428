/- The laws of snap that follow one store by hand. -/
import Derived.Test.YtpfblmpgljodmaaSnapL
import Derived.Test.YtpfblmpgljodmaaEq
import Derived.Test.YtpfblmpgljodmaaArg
namespace Go.Proofs.Ytpfblmpgljodmaa
open Go.RowKit
set_option linter.unusedVariables false
set_option linter.unusedSimpArgs false
set_option maxRecDepth 10000
set_option synthInstance.maxSize 4000
set_option synthInstance.maxHeartbeats 400000

theorem norm32 (x : Int) : ∃ c : Nat, c < 32 ∧ (x.tmod 32 + 32).tmod 32 = c ∧ -32 < x.tmod 32 ∧ x.tmod 32 < 32 := by
  have h1 := Int.tmod_lt_of_pos x (b := 32) (by decide)
  have h2 := Int.lt_tmod_of_pos x (b := 32) (by decide)
  have h3 : (0 : Int) ≤ x.tmod 32 + 32 := by omega
  have h4 := Int.tmod_nonneg (32 : Int) h3
  have h5 := Int.tmod_lt_of_pos (x.tmod 32 + 32) (b := 32) (by decide)
  exact ⟨((x.tmod 32 + 32).tmod 32).toNat, by omega, by omega, by omega, by omega⟩
theorem cnt_one {x : Pic} (h : Apart4 x.p) {k : Nat} (hk : k < 4) : cnt [x] (x.p k) = 1 := by rw [cnt_cons, cnt_nil, cntP_one h hk]
theorem cnt_two {x y : Pic} (h : Apart4 x.p) (he : y.p = x.p) {k : Nat} (hk : k < 4) : cnt [x, y] (x.p k) = 2 := by
  rw [cnt_cons, cnt_cons, cnt_nil, cntP_one h hk, cntP_congr (y := x) (fun k _ => by rw [he]), cntP_one h hk]
theorem upd_self (g : Nat → Int) (c : Nat) (v : Int) : upd g c v c = v := by simp [upd]

section
variable {W w : World} {L R : List SP} {q r : Nat} {A : Sn}
theorem snapFull_walk (v cell : Int) (W : World) (w0 : (Lit.int .i32 v).wf = true) (w1 : (Lit.int .i64 cell).wf = true) :
    Calls Try.prog 3 #[.int .i32 v, .int .i64 cell] W fun e w' => e = .returned (.bool true) ∧ Below W.heap.size W w' := by
  have hs := St.start W
  obtain ⟨c, hc, hce, hb1, hb2⟩ := norm32 cell
  refine calls_enter Try.func3 rfl Try.ntmps3 (Nat.le_of_ble_eq_true rfl) ?_
  intro a ha
  replace ha : Fr a 130 [(0, _), (1, _)] := ha
  refine wp_seq ?_
  refine wp_region_lit ?_
  refine wpList_k (st_set ha rfl (ex_assign ha) rfl ?_); clear ha; (try clear a); intro a ha
  refine wpList_nil ?_
  refine then_n ?_
  refine wp_seq ?_
  refine wp_region_lit ?_
  refine wpList_k (st_call ha rfl Ty.c11 rfl (begun11 hs) ?_); clear ha hs
  rintro e w ⟨rfl, hs⟩
  refine ⟨_, rfl, ?_⟩
  intro a ha
  refine wpList_k (st_set ha rfl (ex_assign ha) rfl ?_); clear ha; (try clear a); intro a ha
  refine wpList_nil ?_
  refine then_n ?_
  refine wp_seq ?_
  refine wp_seq ?_
  refine wp_region_lit ?_
  refine wpList_k (st_set ha rfl (ex_move ha) rfl ?_); clear ha; (try clear a); intro a ha
  refine wpList_k (st_set ha rfl (ex_not ha) rfl ?_); clear ha; (try clear a); intro a ha
  refine wpList_nil ?_
  refine then_n ?_
  refine wp_ifF ha ?_
  refine wp_skip ?_
  refine then_n ?_
  refine wp_seq ?_
  refine wp_region_lit ?_
  refine wpList_k (st_set ha rfl (ex_move ha) rfl ?_); clear ha; (try clear a); intro a ha
  refine wpList_k (st_set ha rfl (ex_rem ha (by decide)) rfl ?_); clear ha; (try clear a); intro a ha
  refine wpList_k (st_set ha rfl (ex_addI ha (by omega) (by omega)) rfl ?_); clear ha; (try clear a); intro a ha
  refine wpList_k (st_set ha rfl (ex_rem ha (by decide)) rfl ?_); clear ha; (try clear a); intro a ha
  rw [hce] at ha
  replace ha := ha.del 1
  refine wpList_k (st_set ha rfl (ex_assign ha) rfl ?_); clear ha; (try clear a); intro a ha
  refine wpList_nil ?_
  refine then_n ?_
  refine wp_seq ?_
  refine wp_region_lit ?_
  refine wpList_k (st_call ha rfl Ty.c12 rfl (snap_new (n := 1) hs (by decide)) ?_); clear ha hs
  rintro e w ⟨q, r, rfl, hs⟩
  refine ⟨_, rfl, ?_⟩
  intro a ha
  refine wpList_k (st_set ha rfl (ex_assign ha) rfl ?_); clear ha; (try clear a); intro a ha
  refine wpList_nil ?_
  refine then_n ?_
  refine wp_seq ?_
  refine wp_region_lit ?_
  refine wpList_k (st_set ha rfl (ex_move ha) rfl ?_); clear ha; (try clear a); intro a ha
  refine wpList_k (st_buildSlice ha rfl hs Try.underlying31 Ty.t21 rfl rfl rfl rfl (by decide) (by decide) ?_); clear ha hs; (try clear a); (try clear w); intro b32 a w ha hs ho
  clear ho
  refine wpList_k (st_call ha rfl Ty.c14 rfl (of_spec (zs := [1]) hs (fun w' h => ⟨rfl, fun _ => ⟨b32, 0, rfl, h.rdAll⟩⟩)) ?_); clear ha hs
  rintro e w ⟨rfl, hs⟩
  refine ⟨_, rfl, ?_⟩
  intro a ha
  refine wpList_k (st_call ha rfl Ty.c13 rfl (snap_make (hs.store q) (by decide) (by decide)) ?_); clear ha hs
  rintro e w ⟨t, rfl, ⟨ht1, ht2⟩, hs⟩
  refine ⟨_, rfl, ?_⟩
  intro a ha
  change St W w (Store q r ⟨1, 4, 1, [⟨1, 1, ofL [1], t⟩]⟩ :: _) at hs
  have hk4 : c / 8 < 4 := by omega
  have hu1 : ∀ n g, (⟨n, 4, n, [⟨1, 1, g, t⟩]⟩ : Sn).used = 4 := fun n g => by
    rw [used_eq (by intro x hx k hk; simp at hx; subst hx; exact (ht1 k hk).1)]
    exact distinct4 ht2
  have hu2 : ∀ n g, (⟨n, 4, n, [⟨2, 1, g, t⟩]⟩ : Sn).used = 4 := fun n g => by
    rw [used_eq (by intro x hx k hk; simp at hx; subst hx; exact (ht1 k hk).1)]
    exact distinct4 ht2
  have hu3 : ∀ n g g', (⟨n, 4, n, [⟨1, 1, g, t⟩, ⟨2, 1, g', t⟩]⟩ : Sn).used = 4 := fun n g g' => by
    rw [used_eq (by intro x hx k hk; simp at hx; rcases hx with rfl | rfl <;> exact (ht1 k hk).1)]
    show distinct ([t 0, t 1, t 2, t 3] ++ [t 0, t 1, t 2, t 3]) = 4
    rw [distinct_mem (fun p hp => hp), distinct4 ht2]
  refine wpList_k (st_set ha rfl (ex_move ha) rfl ?_); clear ha; (try clear a); intro a ha
  refine wpList_k (st_set ha rfl (ex_extract ha rfl) rfl ?_); clear ha; (try clear a); intro a ha
  refine wpList_k (st_set ha rfl (ex_extract ha rfl) rfl ?_); clear ha; (try clear a); intro a ha
  refine wpList_k (st_set ha rfl (ex_assign ha) rfl ?_); clear ha; (try clear a); intro a ha
  refine wpList_k (st_set ha rfl (ex_assign ha) rfl ?_); clear ha; (try clear a); intro a ha
  refine wpList_nil ?_
  refine then_n ?_
  refine wp_seq ?_
  refine wp_region_lit ?_
  refine wpList_k (st_set ha rfl (ex_move ha) rfl ?_); clear ha; (try clear a); intro a ha
  refine wpList_k (st_call ha rfl Ty.c14 rfl (of_spec (zs := []) (ad := none) hs (fun w' h => ⟨rfl, fun h => absurd h (by decide)⟩)) ?_); clear ha hs
  rintro e w ⟨rfl, hs⟩
  refine ⟨_, rfl, ?_⟩
  intro a ha
  refine wpList_k (st_call ha rfl Ty.c13 rfl (snap_make_no (hs.store q) (by rw [hu1]; simp)) ?_); clear ha hs
  rintro e w ⟨rfl, hs⟩
  refine ⟨_, rfl, ?_⟩
  intro a ha
  refine wpList_k (st_set ha rfl (ex_move ha) rfl ?_); clear ha; (try clear a); intro a ha
  refine wpList_k (st_set ha rfl (ex_extract ha rfl) rfl ?_); clear ha; (try clear a); intro a ha
  refine wpList_k (st_set ha rfl (ex_extract ha rfl) rfl ?_); clear ha; (try clear a); intro a ha
  refine wpList_k (st_set ha rfl (ex_assign ha) rfl ?_); clear ha; (try clear a); intro a ha
  refine wpList_k (st_set ha rfl (ex_assign ha) rfl ?_); clear ha; (try clear a); intro a ha
  refine wpList_nil ?_
  refine then_n ?_
  refine wp_seq ?_
  refine wp_region_lit ?_
  refine wpList_k (st_set ha rfl (ex_move ha) rfl ?_); clear ha; (try clear a); intro a ha
  refine wpList_k (st_set ha rfl (ex_move ha) rfl ?_); clear ha; (try clear a); intro a ha
  refine wpList_k (st_set ha rfl (ex_move ha) rfl ?_); clear ha; (try clear a); intro a ha
  refine wpList_k (st_set ha rfl (ex_move ha) rfl ?_); clear ha; (try clear a); intro a ha
  refine wpList_k (st_call ha rfl Ty.c15 rfl (snap_set (i := 0) (x := ⟨1, 1, ofL [1], t⟩) (c := c) (v := v) (hs.store q) rfl hc (cnt_one (x := ⟨1, 1, ofL [1], t⟩) ht2 hk4)) ?_); clear ha hs
  rintro e w ⟨rfl, hs⟩
  refine ⟨_, rfl, ?_⟩
  intro a ha
  change St W w (Store q r ⟨1, 4, 1, [⟨1, 1, upd (ofL [1]) c v, t⟩]⟩ :: _) at hs
  refine wpList_k (st_set ha rfl (ex_assign ha) rfl ?_); clear ha; (try clear a); intro a ha
  refine wpList_nil ?_
  refine then_n ?_
  refine wp_seq ?_
  refine wp_region_lit ?_
  refine wpList_k (st_set ha rfl (ex_move ha) rfl ?_); clear ha; (try clear a); intro a ha
  refine wpList_k (st_set ha rfl (ex_move ha) rfl ?_); clear ha; (try clear a); intro a ha
  refine wpList_k (st_call ha rfl Ty.c16 rfl (snap_fork (i := 0) (x := ⟨1, 1, upd (ofL [1]) c v, t⟩) (hs.store q) rfl (by simp)) ?_); clear ha hs
  rintro e w ⟨rfl, hs⟩
  refine ⟨_, rfl, ?_⟩
  intro a ha
  change St W w (Store q r ⟨2, 4, 2, [⟨1, 1, upd (ofL [1]) c v, t⟩, ⟨2, 1, upd (ofL [1]) c v, t⟩]⟩ :: _) at hs
  refine wpList_k (st_set ha rfl (ex_move ha) rfl ?_); clear ha; (try clear a); intro a ha
  refine wpList_k (st_set ha rfl (ex_extract ha rfl) rfl ?_); clear ha; (try clear a); intro a ha
  refine wpList_k (st_set ha rfl (ex_extract ha rfl) rfl ?_); clear ha; (try clear a); intro a ha
  refine wpList_k (st_set ha rfl (ex_assign ha) rfl ?_); clear ha; (try clear a); intro a ha
  refine wpList_k (st_set ha rfl (ex_assign ha) rfl ?_); clear ha; (try clear a); intro a ha
  refine wpList_nil ?_
  refine then_n ?_
  refine wp_seq ?_
  refine wp_region_lit ?_
  refine wpList_k (st_set ha rfl (ex_move ha) rfl ?_); clear ha; (try clear a); intro a ha
  refine wpList_k (st_set ha rfl (ex_move ha) rfl ?_); clear ha; (try clear a); intro a ha
  refine wpList_k (st_set ha rfl (ex_move ha) rfl ?_); clear ha; (try clear a); intro a ha
  refine wpList_k (st_call ha rfl Ty.c15 rfl (snap_set_full (i := 1) (x := ⟨2, 1, upd (ofL [1]) c v, t⟩) (c := c) (v := 5) (hs.store q) rfl hc (by have := cnt_two (x := ⟨1, 1, upd (ofL [1]) c v, t⟩) (y := ⟨2, 1, upd (ofL [1]) c v, t⟩) ht2 rfl hk4; simp only at this ⊢; omega) (by rw [hu3]; simp)) ?_); clear ha hs
  rintro e w ⟨rfl, hs⟩
  refine ⟨_, rfl, ?_⟩
  intro a ha
  refine wpList_k (st_set ha rfl (ex_move ha) rfl ?_); clear ha; (try clear a); intro a ha
  refine wpList_k (st_set ha (wgT ha rfl (s := 58)) (ex_move ha) rfl ?_); clear ha; (try clear a); intro a ha
  refine wpList_k (st_set ha (wgT ha rfl (s := 58)) (ex_move ha) rfl ?_); clear ha; (try clear a); intro a ha
  refine wpList_k (st_set ha (wgT ha rfl (s := 58)) (ex_move ha) rfl ?_); clear ha; (try clear a); intro a ha
  refine wpList_k (st_call ha (wgT ha rfl (s := 58)) Ty.c15 rfl (snap_set_full (i := 0) (x := ⟨1, 1, upd (ofL [1]) c v, t⟩) (c := c) (v := 6) (hs.store q) rfl hc (by have := cnt_two (x := ⟨1, 1, upd (ofL [1]) c v, t⟩) (y := ⟨2, 1, upd (ofL [1]) c v, t⟩) ht2 rfl hk4; simp only at this ⊢; omega) (by rw [hu3]; simp)) ?_); clear ha hs
  rintro e w ⟨rfl, hs⟩
  refine ⟨_, rfl, ?_⟩
  intro a ha
  refine wpList_k (st_set ha rfl (ex_pickF ha) rfl ?_); clear ha; (try clear a); intro a ha
  refine wpList_k (st_set ha rfl (ex_assign ha) rfl ?_); clear ha; (try clear a); intro a ha
  refine wpList_nil ?_
  refine then_n ?_
  refine wp_seq ?_
  refine wp_region_lit ?_
  refine wpList_k (st_set ha rfl (ex_move ha) rfl ?_); clear ha; (try clear a); intro a ha
  refine wpList_k (st_set ha rfl (ex_move ha) rfl ?_); clear ha; (try clear a); intro a ha
  refine wpList_k (st_set ha rfl (ex_move ha) rfl ?_); clear ha; (try clear a); intro a ha
  refine wpList_k (st_call ha rfl Ty.c17 rfl (snap_get (i := 0) (x := ⟨1, 1, upd (ofL [1]) c v, t⟩) (c := c) (hs.store q) rfl hc) ?_); clear ha hs
  rintro e w ⟨rfl, hs⟩
  refine ⟨_, rfl, ?_⟩
  intro a ha
  simp only [upd_self] at ha
  refine wpList_k (st_set ha rfl (ex_move ha) rfl ?_); clear ha; (try clear a); intro a ha
  refine wpList_k (st_set ha rfl (ex_extract ha rfl) rfl ?_); clear ha; (try clear a); intro a ha
  refine wpList_k (st_set ha rfl (ex_extract ha rfl) rfl ?_); clear ha; (try clear a); intro a ha
  refine wpList_k (st_set ha rfl (ex_assign ha) rfl ?_); clear ha; (try clear a); intro a ha
  refine wpList_k (st_set ha rfl (ex_assign ha) rfl ?_); clear ha; (try clear a); intro a ha
  refine wpList_nil ?_
  refine then_n ?_
  refine wp_seq ?_
  refine wp_region_lit ?_
  refine wpList_k (st_set ha rfl (ex_move ha) rfl ?_); clear ha; (try clear a); intro a ha
  refine wpList_k (st_set ha rfl (ex_move ha) rfl ?_); clear ha; (try clear a); intro a ha
  refine wpList_k (st_set ha rfl (ex_move ha) rfl ?_); clear ha; (try clear a); intro a ha
  refine wpList_k (st_call ha rfl Ty.c17 rfl (snap_get (i := 1) (x := ⟨2, 1, upd (ofL [1]) c v, t⟩) (c := c) (hs.store q) rfl hc) ?_); clear ha hs
  rintro e w ⟨rfl, hs⟩
  refine ⟨_, rfl, ?_⟩
  intro a ha
  simp only [upd_self] at ha
  refine wpList_k (st_set ha rfl (ex_move ha) rfl ?_); clear ha; (try clear a); intro a ha
  refine wpList_k (st_set ha rfl (ex_extract ha rfl) rfl ?_); clear ha; (try clear a); intro a ha
  refine wpList_k (st_set ha rfl (ex_extract ha rfl) rfl ?_); clear ha; (try clear a); intro a ha
  refine wpList_k (st_set ha rfl (ex_assign ha) rfl ?_); clear ha; (try clear a); intro a ha
  refine wpList_k (st_set ha rfl (ex_assign ha) rfl ?_); clear ha; (try clear a); intro a ha
  refine wpList_nil ?_
  refine then_n ?_
  refine wp_seq ?_
  refine wp_region_lit ?_
  refine wpList_k (st_set ha rfl (ex_move ha) rfl ?_); clear ha; (try clear a); intro a ha
  refine wpList_k (st_set ha rfl (ex_move ha) rfl ?_); clear ha; (try clear a); intro a ha
  refine wpList_k (st_call ha rfl Ty.c18 rfl (snap_drop (i := 0) (x := ⟨1, 1, upd (ofL [1]) c v, t⟩) (hs.store q) rfl) ?_); clear ha hs
  rintro e w ⟨rfl, hs⟩
  refine ⟨_, rfl, ?_⟩
  intro a ha
  change St W w (Store q r ⟨2, 4, 2, [⟨2, 1, upd (ofL [1]) c v, t⟩]⟩ :: _) at hs
  refine wpList_nil ?_
  refine then_n ?_
  refine wp_seq ?_
  refine wp_region_lit ?_
  refine wpList_k (st_set ha rfl (ex_move ha) rfl ?_); clear ha; (try clear a); intro a ha
  refine wpList_k (st_set ha rfl (ex_move ha) rfl ?_); clear ha; (try clear a); intro a ha
  refine wpList_k (st_set ha rfl (ex_move ha) rfl ?_); clear ha; (try clear a); intro a ha
  refine wpList_k (st_call ha rfl Ty.c15 rfl (snap_set (i := 0) (x := ⟨2, 1, upd (ofL [1]) c v, t⟩) (c := c) (v := 9) (hs.store q) rfl hc (cnt_one (x := ⟨2, 1, upd (ofL [1]) c v, t⟩) ht2 hk4)) ?_); clear ha hs
  rintro e w ⟨rfl, hs⟩
  refine ⟨_, rfl, ?_⟩
  intro a ha
  change St W w (Store q r ⟨2, 4, 2, [⟨2, 1, upd (upd (ofL [1]) c v) c 9, t⟩]⟩ :: _) at hs
  refine wpList_k (st_set ha rfl (ex_assign ha) rfl ?_); clear ha; (try clear a); intro a ha
  refine wpList_nil ?_
  refine then_n ?_
  refine wp_seq ?_
  refine wp_region_lit ?_
  refine wpList_k (st_set ha rfl (ex_move ha) rfl ?_); clear ha; (try clear a); intro a ha
  refine wpList_k (st_set ha rfl (ex_move ha) rfl ?_); clear ha; (try clear a); intro a ha
  refine wpList_k (st_set ha rfl (ex_move ha) rfl ?_); clear ha; (try clear a); intro a ha
  refine wpList_k (st_call ha rfl Ty.c17 rfl (snap_get (i := 0) (x := ⟨2, 1, upd (upd (ofL [1]) c v) c 9, t⟩) (c := c) (hs.store q) rfl hc) ?_); clear ha hs
  rintro e w ⟨rfl, hs⟩
  refine ⟨_, rfl, ?_⟩
  intro a ha
  simp only [upd_self] at ha
  refine wpList_k (st_set ha rfl (ex_move ha) rfl ?_); clear ha; (try clear a); intro a ha
  refine wpList_k (st_set ha rfl (ex_extract ha rfl) rfl ?_); clear ha; (try clear a); intro a ha
  refine wpList_k (st_set ha rfl (ex_extract ha rfl) rfl ?_); clear ha; (try clear a); intro a ha
  refine wpList_k (st_set ha rfl (ex_assign ha) rfl ?_); clear ha; (try clear a); intro a ha
  refine wpList_k (st_set ha rfl (ex_assign ha) rfl ?_); clear ha; (try clear a); intro a ha
  refine wpList_nil ?_
  refine then_n ?_
  refine wp_seq ?_
  refine wp_region_lit ?_
  refine wpList_k (st_set ha rfl (ex_move ha) rfl ?_); clear ha; (try clear a); intro a ha
  refine wpList_k (st_set ha rfl (ex_move ha) rfl ?_); clear ha; (try clear a); intro a ha
  refine wpList_k (st_set ha (wgT ha rfl (s := 93)) (ex_move ha) rfl ?_); clear ha; (try clear a); intro a ha
  refine wpList_k (st_set ha (wgT ha rfl (s := 93)) (ex_not ha) rfl ?_); clear ha; (try clear a); intro a ha
  refine wpList_k (st_set ha rfl (ex_pickT ha) rfl ?_); clear ha; (try clear a); intro a ha
  refine wpList_k (st_set ha rfl (ex_move ha) rfl ?_); clear ha; (try clear a); intro a ha
  refine wpList_k (st_set ha (wgT ha rfl (s := 97)) (ex_move ha) rfl ?_); clear ha; (try clear a); intro a ha
  refine wpList_k (st_set ha rfl (ex_pickT ha) rfl ?_); clear ha; (try clear a); intro a ha
  refine wpList_k (st_set ha rfl (ex_move ha) rfl ?_); clear ha; (try clear a); intro a ha
  refine wpList_k (st_set ha (wgT ha rfl (s := 100)) (ex_move ha) rfl ?_); clear ha; (try clear a); intro a ha
  refine wpList_k (st_set ha rfl (ex_pickT ha) rfl ?_); clear ha; (try clear a); intro a ha
  refine wpList_k (st_set ha rfl (ex_move ha) rfl ?_); clear ha; (try clear a); intro a ha
  refine wpList_k (st_set ha (wgT ha rfl (s := 103)) (ex_move ha) rfl ?_); clear ha; (try clear a); intro a ha
  refine wpList_k (st_set ha (wgT ha rfl (s := 103)) (ex_not ha) rfl ?_); clear ha; (try clear a); intro a ha
  refine wpList_k (st_set ha rfl (ex_pickT ha) rfl ?_); clear ha; (try clear a); intro a ha
  refine wpList_k (st_set ha rfl (ex_move ha) rfl ?_); clear ha; (try clear a); intro a ha
  refine wpList_k (st_set ha (wgT ha rfl (s := 107)) (ex_move ha) rfl ?_); clear ha; (try clear a); intro a ha
  refine wpList_k (st_set ha (wgT ha rfl (s := 107)) (ex_move ha) rfl ?_); clear ha; (try clear a); intro a ha
  refine wpList_k (st_set ha (wgT ha rfl (s := 107)) (ex_eql ha) rfl ?_); clear ha; (try clear a); intro a ha
  rw [deq] at ha
  refine wpList_k (st_set ha rfl (ex_pickT ha) rfl ?_); clear ha; (try clear a); intro a ha
  refine wpList_k (st_set ha rfl (ex_move ha) rfl ?_); clear ha; (try clear a); intro a ha
  refine wpList_k (st_set ha (wgT ha rfl (s := 112)) (ex_move ha) rfl ?_); clear ha; (try clear a); intro a ha
  refine wpList_k (st_set ha (wgT ha rfl (s := 112)) (ex_move ha) rfl ?_); clear ha; (try clear a); intro a ha
  refine wpList_k (st_set ha (wgT ha rfl (s := 112)) (ex_eql ha) rfl ?_); clear ha; (try clear a); intro a ha
  rw [deq] at ha
  refine wpList_k (st_set ha rfl (ex_pickT ha) rfl ?_); clear ha; (try clear a); intro a ha
  refine wpList_k (st_set ha rfl (ex_move ha) rfl ?_); clear ha; (try clear a); intro a ha
  refine wpList_k (st_set ha (wgT ha rfl (s := 117)) (ex_move ha) rfl ?_); clear ha; (try clear a); intro a ha
  refine wpList_k (st_set ha rfl (ex_pickT ha) rfl ?_); clear ha; (try clear a); intro a ha
  refine wpList_k (st_set ha rfl (ex_move ha) rfl ?_); clear ha; (try clear a); intro a ha
  refine wpList_k (st_set ha (wgT ha rfl (s := 120)) (ex_move ha) rfl ?_); clear ha; (try clear a); intro a ha
  refine wpList_k (st_set ha (wgT ha rfl (s := 120)) (ex_eql ha) rfl ?_); clear ha; (try clear a); intro a ha
  refine wpList_k (st_set ha rfl (ex_pickT ha) rfl ?_); clear ha; (try clear a); intro a ha
  refine wpList_k (st_set ha rfl (ex_move ha) rfl ?_); clear ha; (try clear a); intro a ha
  refine wpList_k (st_set ha (wgT ha rfl (s := 124)) (ex_move ha) rfl ?_); clear ha; (try clear a); intro a ha
  refine wpList_k (st_call ha (wgT ha rfl (s := 124)) Ty.c19 rfl (snap_room (hs.store q)) ?_); clear ha hs
  rintro e w ⟨rfl, hs⟩
  refine ⟨_, rfl, ?_⟩
  intro a ha
  refine wpList_k (st_call ha (wgT ha rfl (s := 124)) Ty.c20 rfl (snap_used (hs.store q)) ?_); clear ha hs
  rintro e w ⟨rfl, hs⟩
  refine ⟨_, rfl, ?_⟩
  intro a ha
  rw [hu2] at ha
  refine wpList_k (st_set ha (wgT ha rfl (s := 124)) (ex_eql ha) rfl ?_); clear ha; (try clear a); intro a ha
  refine wpList_k (st_set ha rfl (ex_pickT ha) rfl ?_); clear ha; (try clear a); intro a ha
  replace ha := ha.del 4
  refine wpList_k (st_set ha rfl (ex_assign ha) rfl ?_); clear ha; (try clear a); intro a ha
  refine wpList_nil ?_
  refine then_n ?_
  refine wp_ret ?_
  refine ret1 ha rfl ?_
  exact ⟨rfl, hs.below⟩
theorem snapNone_walk (W : World) : Calls Try.prog 10 #[] W fun e w' => e = .returned (.bool true) ∧ Below W.heap.size W w' := by
  have hs := St.start W
  refine calls_enter Try.func10 rfl Try.ntmps10 (Nat.le_of_ble_eq_true rfl) ?_
  intro a ha
  replace ha : Fr a 93 [] := ha
  refine wp_seq ?_
  refine wp_region_lit ?_
  refine wpList_k (st_set ha rfl (ex_assign ha) rfl ?_); clear ha; (try clear a); intro a ha
  refine wpList_nil ?_
  refine then_n ?_
  refine wp_seq ?_
  refine wp_region_lit ?_
  refine wpList_k (st_set ha rfl (ex_assign ha) rfl ?_); clear ha; (try clear a); intro a ha
  refine wpList_nil ?_
  refine then_n ?_
  refine wp_seq ?_
  refine wp_region_lit ?_
  refine wpList_k (st_set ha rfl (ex_move ha) rfl ?_); clear ha; (try clear a); intro a ha
  refine wpList_k (st_set ha rfl (ex_buildA0 ha Try.underlying29 Ty.t29 Ty.t21) rfl ?_); clear ha; (try clear a); intro a ha
  change Fr a 93 ((12, .agg (ints .i32 32 (fun _ => 0)).toArray) :: _) at ha
  refine wpList_k (st_call ha rfl Ty.c13 rfl (snap_make_nil hs) ?_); clear ha hs
  rintro e w ⟨rfl, hs⟩
  refine ⟨_, rfl, ?_⟩
  intro a ha
  refine wpList_k (st_set ha rfl (ex_move ha) rfl ?_); clear ha; (try clear a); intro a ha
  refine wpList_k (st_set ha rfl (ex_extract ha rfl) rfl ?_); clear ha; (try clear a); intro a ha
  refine wpList_k (st_set ha rfl (ex_extract ha rfl) rfl ?_); clear ha; (try clear a); intro a ha
  refine wpList_k (st_set ha rfl (ex_assign ha) rfl ?_); clear ha; (try clear a); intro a ha
  refine wpList_k (st_set ha rfl (ex_assign ha) rfl ?_); clear ha; (try clear a); intro a ha
  refine wpList_nil ?_
  refine then_n ?_
  refine wp_seq ?_
  refine wp_region_lit ?_
  refine wpList_k (st_set ha rfl (ex_move ha) rfl ?_); clear ha; (try clear a); intro a ha
  refine wpList_k (st_call ha rfl Ty.c16 rfl (snap_fork_nil hs) ?_); clear ha hs
  rintro e w ⟨rfl, hs⟩
  refine ⟨_, rfl, ?_⟩
  intro a ha
  refine wpList_k (st_set ha rfl (ex_move ha) rfl ?_); clear ha; (try clear a); intro a ha
  refine wpList_k (st_set ha rfl (ex_extract ha rfl) rfl ?_); clear ha; (try clear a); intro a ha
  refine wpList_k (st_set ha rfl (ex_extract ha rfl) rfl ?_); clear ha; (try clear a); intro a ha
  refine wpList_k (st_set ha rfl (ex_assign ha) rfl ?_); clear ha; (try clear a); intro a ha
  refine wpList_k (st_set ha rfl (ex_assign ha) rfl ?_); clear ha; (try clear a); intro a ha
  refine wpList_nil ?_
  refine then_n ?_
  refine wp_seq ?_
  refine wp_region_lit ?_
  refine wpList_k (st_set ha rfl (ex_move ha) rfl ?_); clear ha; (try clear a); intro a ha
  refine wpList_k (st_call ha rfl Ty.c17 rfl (snap_get_nil hs) ?_); clear ha hs
  rintro e w ⟨rfl, hs⟩
  refine ⟨_, rfl, ?_⟩
  intro a ha
  refine wpList_k (st_set ha rfl (ex_move ha) rfl ?_); clear ha; (try clear a); intro a ha
  refine wpList_k (st_set ha rfl (ex_extract ha rfl) rfl ?_); clear ha; (try clear a); intro a ha
  refine wpList_k (st_set ha rfl (ex_extract ha rfl) rfl ?_); clear ha; (try clear a); intro a ha
  refine wpList_k (st_set ha rfl (ex_assign ha) rfl ?_); clear ha; (try clear a); intro a ha
  refine wpList_k (st_set ha rfl (ex_assign ha) rfl ?_); clear ha; (try clear a); intro a ha
  refine wpList_nil ?_
  refine then_n ?_
  refine wp_seq ?_
  refine wp_region_lit ?_
  refine wpList_k (st_set ha rfl (ex_move ha) rfl ?_); clear ha; (try clear a); intro a ha
  refine wpList_k (st_call ha rfl Ty.c25 rfl (snap_state_nil hs) ?_); clear ha hs
  rintro e w ⟨rfl, hs⟩
  refine ⟨_, rfl, ?_⟩
  intro a ha
  refine wpList_k (st_set ha rfl (ex_move ha) rfl ?_); clear ha; (try clear a); intro a ha
  refine wpList_k (st_set ha rfl (ex_extract ha rfl) rfl ?_); clear ha; (try clear a); intro a ha
  refine wpList_k (st_set ha rfl (ex_extract ha rfl) rfl ?_); clear ha; (try clear a); intro a ha
  refine wpList_k (st_alloc ha rfl hs Ty.t29 rfl ?_); clear ha hs; (try clear a); (try clear w); intro b8 a w ha hs ho
  clear ho
  refine wpList_k (st_storeAll ha rfl hs Ty.t29 ints_one (by rfl) ?_); clear ha hs; (try clear a); (try clear w); intro a w ha hs
  refine wpList_k (st_set ha rfl (ex_assign ha) rfl ?_); clear ha; (try clear a); intro a ha
  refine wpList_nil ?_
  refine then_n ?_
  refine wp_seq ?_
  refine wp_region_lit ?_
  refine wpList_k (st_call ha rfl Ty.c11 rfl (begun11 hs) ?_); clear ha hs
  rintro e w ⟨rfl, hs⟩
  refine ⟨_, rfl, ?_⟩
  intro a ha
  refine wpList_k (st_set ha rfl (ex_move ha) rfl ?_); clear ha; (try clear a); intro a ha
  refine wpList_k (st_set ha (wgT ha rfl (s := 32)) (ex_move ha) rfl ?_); clear ha; (try clear a); intro a ha
  refine wpList_k (st_set ha (wgT ha rfl (s := 32)) (ex_eql ha) rfl ?_); clear ha; (try clear a); intro a ha
  refine wpList_k (st_set ha rfl (ex_pickT ha) rfl ?_); clear ha; (try clear a); intro a ha
  refine wpList_k (st_set ha rfl (ex_move ha) rfl ?_); clear ha; (try clear a); intro a ha
  refine wpList_k (st_set ha (wgT ha rfl (s := 36)) (ex_move ha) rfl ?_); clear ha; (try clear a); intro a ha
  refine wpList_k (st_set ha (wgT ha rfl (s := 36)) (ex_not ha) rfl ?_); clear ha; (try clear a); intro a ha
  refine wpList_k (st_set ha rfl (ex_pickT ha) rfl ?_); clear ha; (try clear a); intro a ha
  refine wpList_k (st_set ha rfl (ex_move ha) rfl ?_); clear ha; (try clear a); intro a ha
  refine wpList_k (st_set ha (wgT ha rfl (s := 40)) (ex_move ha) rfl ?_); clear ha; (try clear a); intro a ha
  refine wpList_k (st_set ha (wgT ha rfl (s := 40)) (ex_eql ha) rfl ?_); clear ha; (try clear a); intro a ha
  refine wpList_k (st_set ha rfl (ex_pickT ha) rfl ?_); clear ha; (try clear a); intro a ha
  refine wpList_k (st_set ha rfl (ex_move ha) rfl ?_); clear ha; (try clear a); intro a ha
  refine wpList_k (st_set ha (wgT ha rfl (s := 44)) (ex_move ha) rfl ?_); clear ha; (try clear a); intro a ha
  refine wpList_k (st_set ha (wgT ha rfl (s := 44)) (ex_not ha) rfl ?_); clear ha; (try clear a); intro a ha
  refine wpList_k (st_set ha rfl (ex_pickT ha) rfl ?_); clear ha; (try clear a); intro a ha
  refine wpList_k (st_set ha rfl (ex_move ha) rfl ?_); clear ha; (try clear a); intro a ha
  refine wpList_k (st_set ha (wgT ha rfl (s := 48)) (ex_move ha) rfl ?_); clear ha; (try clear a); intro a ha
  refine wpList_k (st_set ha (wgT ha rfl (s := 48)) (ex_not ha) rfl ?_); clear ha; (try clear a); intro a ha
  refine wpList_k (st_set ha rfl (ex_pickT ha) rfl ?_); clear ha; (try clear a); intro a ha
  refine wpList_k (st_set ha rfl (ex_move ha) rfl ?_); clear ha; (try clear a); intro a ha
  refine wpList_k (st_set ha (wgT ha rfl (s := 52)) (ex_move ha) rfl ?_); clear ha; (try clear a); intro a ha
  refine wpList_k (st_set ha (wgT ha rfl (s := 52)) (ex_not ha) rfl ?_); clear ha; (try clear a); intro a ha
  refine wpList_k (st_set ha rfl (ex_pickT ha) rfl ?_); clear ha; (try clear a); intro a ha
  refine wpList_k (st_set ha rfl (ex_move ha) rfl ?_); clear ha; (try clear a); intro a ha
  refine wpList_k (st_set ha (wgT ha rfl (s := 56)) (ex_move ha) rfl ?_); clear ha; (try clear a); intro a ha
  refine wpList_k (st_call ha (wgT ha rfl (s := 56)) Ty.c21 rfl (snap_hold_nil hs) ?_); clear ha hs
  rintro e w ⟨rfl, hs⟩
  refine ⟨_, rfl, ?_⟩
  intro a ha
  refine wpList_k (st_set ha (wgT ha rfl (s := 56)) (ex_not ha) rfl ?_); clear ha; (try clear a); intro a ha
  refine wpList_k (st_set ha rfl (ex_pickT ha) rfl ?_); clear ha; (try clear a); intro a ha
  refine wpList_k (st_set ha rfl (ex_move ha) rfl ?_); clear ha; (try clear a); intro a ha
  refine wpList_k (st_set ha (wgT ha rfl (s := 61)) (ex_move ha) rfl ?_); clear ha; (try clear a); intro a ha
  refine wpList_k (st_call ha (wgT ha rfl (s := 61)) Ty.c18 rfl (snap_drop_nil hs) ?_); clear ha hs
  rintro e w ⟨rfl, hs⟩
  refine ⟨_, rfl, ?_⟩
  intro a ha
  refine wpList_k (st_set ha (wgT ha rfl (s := 61)) (ex_not ha) rfl ?_); clear ha; (try clear a); intro a ha
  refine wpList_k (st_set ha rfl (ex_pickT ha) rfl ?_); clear ha; (try clear a); intro a ha
  refine wpList_k (st_set ha rfl (ex_move ha) rfl ?_); clear ha; (try clear a); intro a ha
  refine wpList_k (st_set ha (wgT ha rfl (s := 66)) (ex_move ha) rfl ?_); clear ha; (try clear a); intro a ha
  refine wpList_k (st_call ha (wgT ha rfl (s := 66)) Ty.c15 rfl (snap_set_nil hs) ?_); clear ha hs
  rintro e w ⟨rfl, hs⟩
  refine ⟨_, rfl, ?_⟩
  intro a ha
  refine wpList_k (st_set ha (wgT ha rfl (s := 66)) (ex_not ha) rfl ?_); clear ha; (try clear a); intro a ha
  refine wpList_k (st_set ha rfl (ex_pickT ha) rfl ?_); clear ha; (try clear a); intro a ha
  refine wpList_k (st_set ha rfl (ex_move ha) rfl ?_); clear ha; (try clear a); intro a ha
  refine wpList_k (st_set ha (wgT ha rfl (s := 71)) (ex_move ha) rfl ?_); clear ha; (try clear a); intro a ha
  refine wpList_k (st_call ha (wgT ha rfl (s := 71)) Ty.c23 rfl (snap_live_nil hs) ?_); clear ha hs
  rintro e w ⟨rfl, hs⟩
  refine ⟨_, rfl, ?_⟩
  intro a ha
  refine wpList_k (st_set ha (wgT ha rfl (s := 71)) (ex_len ha Try.underlying42) rfl ?_); clear ha; (try clear a); intro a ha
  refine wpList_k (st_set ha (wgT ha rfl (s := 71)) (ex_eql ha) rfl ?_); clear ha; (try clear a); intro a ha
  refine wpList_k (st_set ha rfl (ex_pickT ha) rfl ?_); clear ha; (try clear a); intro a ha
  refine wpList_k (st_set ha rfl (ex_move ha) rfl ?_); clear ha; (try clear a); intro a ha
  refine wpList_k (st_set ha (wgT ha rfl (s := 77)) (ex_move ha) rfl ?_); clear ha; (try clear a); intro a ha
  refine wpList_k (st_call ha (wgT ha rfl (s := 77)) Ty.c22 rfl (snap_refs_nil hs) ?_); clear ha hs
  rintro e w ⟨rfl, hs⟩
  refine ⟨_, rfl, ?_⟩
  intro a ha
  refine wpList_k (st_set ha (wgT ha rfl (s := 77)) (ex_eql ha) rfl ?_); clear ha; (try clear a); intro a ha
  refine wpList_k (st_set ha rfl (ex_pickT ha) rfl ?_); clear ha; (try clear a); intro a ha
  refine wpList_k (st_set ha rfl (ex_move ha) rfl ?_); clear ha; (try clear a); intro a ha
  refine wpList_k (st_set ha (wgT ha rfl (s := 82)) (ex_move ha) rfl ?_); clear ha; (try clear a); intro a ha
  refine wpList_k (st_call ha (wgT ha rfl (s := 82)) Ty.c28 rfl (snap_pages_nil hs) ?_); clear ha hs
  rintro e w ⟨rfl, hs⟩
  refine ⟨_, rfl, ?_⟩
  intro a ha
  refine wpList_k (st_set ha (wgT ha rfl (s := 82)) (ex_len ha Try.underlying45) rfl ?_); clear ha; (try clear a); intro a ha
  refine wpList_k (st_set ha (wgT ha rfl (s := 82)) (ex_eql ha) rfl ?_); clear ha; (try clear a); intro a ha
  refine wpList_k (st_set ha rfl (ex_pickT ha) rfl ?_); clear ha; (try clear a); intro a ha
  refine wpList_k (st_set ha rfl (ex_move ha) rfl ?_); clear ha; (try clear a); intro a ha
  refine wpList_k (st_set ha (wgT ha rfl (s := 88)) (ex_move ha) rfl ?_); clear ha; (try clear a); intro a ha
  refine wpList_k (st_call ha (wgT ha rfl (s := 88)) Ty.c24 rfl (snap_has_nil hs) ?_); clear ha hs
  rintro e w ⟨rfl, hs⟩
  refine ⟨_, rfl, ?_⟩
  intro a ha
  refine wpList_k (st_set ha (wgT ha rfl (s := 88)) (ex_not ha) rfl ?_); clear ha; (try clear a); intro a ha
  refine wpList_k (st_set ha rfl (ex_pickT ha) rfl ?_); clear ha; (try clear a); intro a ha
  replace ha := ha.del 0
  refine wpList_k (st_set ha rfl (ex_assign ha) rfl ?_); clear ha; (try clear a); intro a ha
  refine wpList_nil ?_
  refine then_n ?_
  refine wp_ret ?_
  refine ret1 ha rfl ?_
  exact ⟨rfl, hs.below⟩

theorem used_nil {n l rm : Nat} : (⟨l, rm, n, []⟩ : Sn).used = 0 := by rw [used_eq (by simp)]; rfl
theorem distinct_le (l : List Nat) : distinct l ≤ l.length := by
  induction l with
  | nil => exact Nat.le_refl _
  | cons x l ih => rw [distinct, List.length_cons]; split <;> omega
theorem pages_len (l : List Pic) : (pagesOf l).length = 4 * l.length := by
  induction l with
  | nil => rfl
  | cons x l ih => show (_ ++ pagesOf l).length = _; rw [List.length_append, ih, List.length_cons]; simp; omega
theorem Store.used_le (hs : St W w (Store q r A :: L)) : A.used ≤ 4 * A.pics.length := by
  rw [Store.used hs]; have := distinct_le (pagesOf A.pics); rw [pages_len] at this; exact this
/-- A cell is set, with room for one page more. -/
theorem snap_set_any {i c : Nat} {v : Int} {x : Pic} (hs : St W w (Store q r A :: L)) (hx : A.pics[i]? = some x) (hc : c < 32) (hu : A.used < A.room) :
    Calls Try.prog 15 #[.pointer (some ⟨q, 0, none⟩), .int .i64 x.id, .int .i64 c, .int .i32 v] w fun e w' => ∃ p' : Nat → Nat, e = .returned (.bool true) ∧ (Apart4 x.p → Apart4 p') ∧
      St W w' (Store q r { A with pics := A.pics.set i { x with g := upd x.g c v, p := p' } } :: L) := by
  have hxm := List.mem_of_getElem? hx
  have h1 := cnt_mem hxm (x.p (c / 8))
  have h2 := cntP_pos (x := x) (k := c / 8) (by omega)
  rcases (by omega : cnt A.pics (x.p (c / 8)) = 1 ∨ 1 < cnt A.pics (x.p (c / 8))) with h | h
  · exact (snap_set hs hx hc h).mono fun e w' ⟨h3, h4⟩ => ⟨x.p, h3, id, h4⟩
  · refine (snap_set_own hs hx hc h hu).mono fun e w' ⟨f, h3, ⟨h4, h5⟩, h6⟩ => ⟨_, h3, fun ha j l hj hl e => ?_, h6⟩
    have hn : ∀ k, k < 4 → x.p k ≠ f := fun k hk e => by
      have h7 := cnt_mem hxm f
      rw [← e] at h7 h5
      have := cntP_pos (x := x) hk
      omega
    by_cases h8 : j = c / 8 <;> by_cases h9 : l = c / 8
    · omega
    · rw [if_pos h8, if_neg h9] at e; exact absurd e.symm (hn l hl)
    · rw [if_neg h8, if_pos h9] at e; exact absurd e (hn j hj)
    · rw [if_neg h8, if_neg h9] at e; exact ha j l hj hl e

theorem snapHolds_walk (n : Int) (W : World) (w0 : (Lit.int .i64 n).wf = true) :
    Calls Try.prog 4 #[.int .i64 n] W fun e w' => e = .returned (.bool true) ∧ Below W.heap.size W w' := by
  have hs := St.start W
  refine calls_enter Try.func4 rfl Try.ntmps4 (Nat.le_of_ble_eq_true rfl) ?_
  intro a ha
  replace ha : Fr a 97 [(0, _)] := ha
  refine wp_seq ?_
  refine wp_region_lit ?_
  refine wpList_k (st_set ha rfl (ex_assign ha) rfl ?_); clear ha; (try clear a); intro a ha
  refine wpList_nil ?_
  refine then_n ?_
  refine wp_seq ?_
  refine wp_region_lit ?_
  refine wpList_k (st_call ha rfl Ty.c11 rfl (begun11 hs) ?_); clear ha hs
  rintro e w ⟨rfl, hs⟩
  refine ⟨_, rfl, ?_⟩
  intro a ha
  refine wpList_k (st_set ha rfl (ex_assign ha) rfl ?_); clear ha; (try clear a); intro a ha
  refine wpList_nil ?_
  refine then_n ?_
  refine wp_seq ?_
  refine wp_seq ?_
  refine wp_region_lit ?_
  refine wpList_k (st_set ha rfl (ex_move ha) rfl ?_); clear ha; (try clear a); intro a ha
  refine wpList_k (st_set ha rfl (ex_not ha) rfl ?_); clear ha; (try clear a); intro a ha
  refine wpList_nil ?_
  refine then_n ?_
  refine wp_ifF ha ?_
  refine wp_skip ?_
  refine then_n ?_
  refine wp_seq ?_
  refine wp_seq ?_
  refine wp_region_lit ?_
  refine wpList_k (st_set ha rfl (ex_move ha) rfl ?_); clear ha; (try clear a); intro a ha
  refine wpList_k (st_set ha rfl (ex_lss ha) rfl ?_); clear ha; (try clear a); intro a ha
  refine wpList_k (st_set ha rfl (ex_move ha) rfl ?_); clear ha; (try clear a); intro a ha
  refine ha.bool (s := 16) (fun hg2 ha => ?_) (fun hg2 ha => ?_)
  ·
    try simp only [decide_eq_true_eq, decide_eq_false_iff_not, Bool.not_eq_true', Bool.not_eq_false', Int.not_lt, Int.not_le, ne_eq, Decidable.not_not] at hg2
    refine wpList_k (st_off ha (wgF ha rfl (s := 16) rfl) rfl ?_); clear ha; (try clear a); intro a ha
    refine wpList_k (st_off ha (wgF ha rfl (s := 16) rfl) rfl ?_); clear ha; (try clear a); intro a ha
    refine wpList_k (st_set ha rfl (ex_pickT ha) rfl ?_); clear ha; (try clear a); intro a ha
    refine wpList_nil ?_
    refine then_n ?_
    refine wp_ifT ha ?_
    refine wp_seq ?_
    refine wp_region_lit ?_
    replace ha := ha.del 2
    refine wpList_k (st_set ha rfl (ex_assign ha) rfl ?_); clear ha; (try clear a); intro a ha
    refine wpList_nil ?_
    refine then_n ?_
    refine wp_ret <| then_r ?_
    refine ret1 ha rfl ?_
    exact ⟨rfl, hs.below⟩
  ·
    try simp only [decide_eq_true_eq, decide_eq_false_iff_not, Bool.not_eq_true', Bool.not_eq_false', Int.not_lt, Int.not_le, ne_eq, Decidable.not_not] at hg2
    refine wpList_k (st_set ha (wgT ha rfl (s := 16)) (ex_move ha) rfl ?_); clear ha; (try clear a); intro a ha
    refine wpList_k (st_set ha (wgT ha rfl (s := 16)) (ex_gtr ha) rfl ?_); clear ha; (try clear a); intro a ha
    refine wpList_k (st_set ha rfl (ex_pickF ha) rfl ?_); clear ha; (try clear a); intro a ha
    refine wpList_nil ?_
    refine then_n ?_
    refine wp_if ha (fun hc1 => ?_) (fun hc1 => ?_)
    ·
      try simp only [decide_eq_true_eq, decide_eq_false_iff_not, Bool.not_eq_true', Bool.not_eq_false', Int.not_lt, Int.not_le, ne_eq, Decidable.not_not] at hc1
      refine wp_seq ?_
      refine wp_region_lit ?_
      replace ha := ha.del 2
      refine wpList_k (st_set ha rfl (ex_assign ha) rfl ?_); clear ha; (try clear a); intro a ha
      refine wpList_nil ?_
      refine then_n ?_
      refine wp_ret <| then_r ?_
      refine ret1 ha rfl ?_
      exact ⟨rfl, hs.below⟩
    ·
      try simp only [decide_eq_true_eq, decide_eq_false_iff_not, Bool.not_eq_true', Bool.not_eq_false', Int.not_lt, Int.not_le, ne_eq, Decidable.not_not] at hc1
      obtain ⟨N, rfl⟩ : ∃ N : Nat, n = N := ⟨n.toNat, by omega⟩
      refine wp_skip ?_
      refine then_n ?_
      refine wp_seq ?_
      refine wp_region_lit ?_
      refine wpList_k (st_call ha rfl Ty.c12 rfl (snap_new (n := 2) hs (by decide)) ?_); clear ha hs
      rintro e w ⟨q, r, rfl, hs⟩
      refine ⟨_, rfl, ?_⟩
      intro a ha
      refine wpList_k (st_set ha rfl (ex_assign ha) rfl ?_); clear ha; (try clear a); intro a ha
      refine wpList_nil ?_
      refine then_n ?_
      refine wp_seq ?_
      refine wp_region_lit ?_
      refine wpList_k (st_set ha rfl (ex_move ha) rfl ?_); clear ha; (try clear a); intro a ha
      refine wpList_k (st_call ha rfl Ty.c14 rfl (of_spec (zs := []) (ad := none) hs (fun w' h => ⟨rfl, fun h => absurd h (by decide)⟩)) ?_); clear ha hs
      rintro e w ⟨rfl, hs⟩
      refine ⟨_, rfl, ?_⟩
      intro a ha
      refine wpList_k (st_call ha rfl Ty.c13 rfl (snap_make (hs.store q) (by decide) (by decide)) ?_); clear ha hs
      rintro e w ⟨t, rfl, ⟨ht1, ht2⟩, hs⟩
      refine ⟨_, rfl, ?_⟩
      intro a ha
      change St W w (Store q r ⟨1, 8, 1 + 0, [⟨1, 1 + 0, ofL [], t⟩]⟩ :: _) at hs
      refine wpList_k (st_set ha rfl (ex_move ha) rfl ?_); clear ha; (try clear a); intro a ha
      refine wpList_k (st_set ha rfl (ex_extract ha rfl) rfl ?_); clear ha; (try clear a); intro a ha
      refine wpList_k (st_set ha rfl (ex_extract ha rfl) rfl ?_); clear ha; (try clear a); intro a ha
      refine wpList_k (st_set ha rfl (ex_assign ha) rfl ?_); clear ha; (try clear a); intro a ha
      refine wpList_k (st_set ha rfl (ex_assign ha) rfl ?_); clear ha; (try clear a); intro a ha
      refine wpList_nil ?_
      refine then_n ?_
      refine wp_seq ?_
      refine wp_seq ?_
      refine wp_region_lit ?_
      refine wpList_k (st_set ha rfl (ex_assign ha) rfl ?_); clear ha; (try clear a); intro a ha
      refine wpList_nil ?_
      refine then_n ?_
      refine wp_block ?_
      refine wp_loop_ghost (fun μ a w => ∃ k : Nat, (μ = N - k ∧ k ≤ N) ∧ Fr a 97 [(0, .int .i64 N), (4, .pointer (some ⟨q, 0, none⟩)), (5, .int .i64 ((1 : Nat) : Int)), (7, .int .i64 k)] ∧ St W w [Store q r ⟨1, 8, 1 + k, [⟨1, 1 + k, ofL [], t⟩]⟩]) (N) ?_ ?_
      · exact ⟨0, ⟨by simp, by simp⟩, ha.keep [0, 4, 5, 7], hs.sub⟩
      ·
        clear ha hs
        rintro μ a w ⟨k, ⟨rfl, hk⟩, ha, hs⟩
        refine wp_seq ?_
        refine wp_seq ?_
        refine wp_region_lit ?_
        refine wpList_k (st_set ha rfl (ex_move ha) rfl ?_); clear ha; (try clear a); intro a ha
        refine wpList_k (st_set ha rfl (ex_move ha) rfl ?_); clear ha; (try clear a); intro a ha
        refine wpList_k (st_set ha rfl (ex_lss ha) rfl ?_); clear ha; (try clear a); intro a ha
        refine wpList_nil ?_
        refine then_n ?_
        refine wp_if ha (fun hc2 => ?_) (fun hc2 => ?_)
        ·
          try simp only [decide_eq_true_eq, decide_eq_false_iff_not, Bool.not_eq_true', Bool.not_eq_false', Int.not_lt, Int.not_le, ne_eq, Decidable.not_not] at hc2
          refine wp_skip ?_
          refine then_n ?_
          refine wp_seq ?_
          refine wp_block ?_
          refine wp_seq ?_
          refine wp_region_lit ?_
          refine wpList_k (st_set ha rfl (ex_move ha) rfl ?_); clear ha; (try clear a); intro a ha
          refine wpList_k (st_set ha rfl (ex_move ha) rfl ?_); clear ha; (try clear a); intro a ha
          refine wpList_k (st_call ha rfl Ty.c21 rfl (snap_hold (i := 0) (x := ⟨1, 1 + k, ofL [], t⟩) (hs.store q) rfl (by simp only; omega)) ?_); clear ha hs
          rintro e w ⟨rfl, hs⟩
          refine ⟨_, rfl, ?_⟩
          intro a ha
          change St W w (Store q r ⟨1, 8, 1 + (k + 1), [⟨1, 1 + (k + 1), ofL [], t⟩]⟩ :: _) at hs
          refine wpList_k (st_set ha rfl (ex_not ha) rfl ?_); clear ha; (try clear a); intro a ha
          refine wpList_nil ?_
          refine then_n ?_
          refine wp_ifF ha ?_
          refine wp_skip ?_
          refine blk_n <| then_n ?_
          refine wp_region_lit ?_
          refine wpList_k (st_set ha rfl (ex_move ha) rfl ?_); clear ha; (try clear a); intro a ha
          refine wpList_k (st_set ha rfl (ex_addI ha (by omega) (by omega)) rfl ?_); clear ha; (try clear a); intro a ha
          replace ha := ha.del 7
          refine wpList_k (st_set ha rfl (ex_assign ha) rfl ?_); clear ha; (try clear a); intro a ha
          refine wpList_nil ?_
          refine then_n ?_
          exact ⟨N - (k + 1), by omega, k + 1, ⟨rfl, by omega⟩, ha.keep [0, 4, 5, 7], hs.sub⟩
        ·
          try simp only [decide_eq_true_eq, decide_eq_false_iff_not, Bool.not_eq_true', Bool.not_eq_false', Int.not_lt, Int.not_le, ne_eq, Decidable.not_not] at hc2
          obtain rfl : k = N := by omega
          refine wp_exit ?_
          refine then_e <| then_e <| blk_e ?_
          refine then_n ?_
          refine wp_seq ?_
          refine wp_seq ?_
          refine wp_region_lit ?_
          refine wpList_k (st_set ha rfl (ex_assign ha) rfl ?_); clear ha; (try clear a); intro a ha
          refine wpList_nil ?_
          refine then_n ?_
          refine wp_block ?_
          refine wp_loop_ghost (fun μ a w => ∃ j : Nat, (μ = k + 1 - j ∧ j ≤ k + 1) ∧ Fr a 97 [(0, .int .i64 k), (4, .pointer (some ⟨q, 0, none⟩)), (5, .int .i64 ((1 : Nat) : Int)), (8, .int .i64 j)] ∧ St W w [Store q r ⟨1, 8, 1 + k, if j ≤ k then [⟨1, k + 1 - j, ofL [], t⟩] else []⟩]) (k + 1) ?_ ?_
          · exact ⟨0, ⟨by simp, by simp⟩, ha.keep [0, 4, 5, 8], by rw [if_pos (Nat.zero_le _), Nat.sub_zero, Nat.add_comm k 1]; exact hs.sub⟩
          ·
            clear ha hs
            rintro μ a w ⟨j, ⟨rfl, hj⟩, ha, hs⟩
            refine wp_seq ?_
            refine wp_seq ?_
            refine wp_region_lit ?_
            refine wpList_k (st_set ha rfl (ex_move ha) rfl ?_); clear ha; (try clear a); intro a ha
            refine wpList_k (st_set ha rfl (ex_move ha) rfl ?_); clear ha; (try clear a); intro a ha
            refine wpList_k (st_set ha rfl (ex_leq ha) rfl ?_); clear ha; (try clear a); intro a ha
            refine wpList_nil ?_
            refine then_n ?_
            refine wp_if ha (fun hc4 => ?_) (fun hc4 => ?_)
            ·
              try simp only [decide_eq_true_eq, decide_eq_false_iff_not, Bool.not_eq_true', Bool.not_eq_false', Int.not_lt, Int.not_le, ne_eq, Decidable.not_not] at hc4
              rw [if_pos (by omega)] at hs
              have hnx : (⟨1, 8, 1 + k, [⟨1, k + 1 - j, ofL [], t⟩]⟩ : Sn).drop 0 ⟨1, k + 1 - j, ofL [], t⟩ = ⟨1, 8, 1 + k, if j + 1 ≤ k then [⟨1, k + 1 - (j + 1), ofL [], t⟩] else []⟩ := by
                rw [Sn.drop]
                by_cases h : j = k
                · rw [if_pos (by simp only; omega), if_neg (by omega)]; rfl
                · rw [if_neg (by simp only; omega), if_pos (by omega)]
                  simp only [List.set_cons_zero]
                  rw [show k + 1 - j - 1 = k + 1 - (j + 1) from by omega]
              refine wp_skip ?_
              refine then_n ?_
              refine wp_seq ?_
              refine wp_block ?_
              refine wp_seq ?_
              refine wp_region_lit ?_
              refine wpList_k (st_set ha rfl (ex_move ha) rfl ?_); clear ha; (try clear a); intro a ha
              refine wpList_k (st_set ha rfl (ex_move ha) rfl ?_); clear ha; (try clear a); intro a ha
              refine wpList_k (st_call ha rfl Ty.c22 rfl (snap_refs (i := 0) (x := ⟨1, k + 1 - j, ofL [], t⟩) (hs.store q) rfl) ?_); clear ha hs
              rintro e w ⟨rfl, hs⟩
              refine ⟨_, rfl, ?_⟩
              intro a ha
              refine wpList_k (st_set ha rfl (ex_move ha) rfl ?_); clear ha; (try clear a); intro a ha
              refine wpList_k (st_set ha rfl (ex_addI ha (by omega) (by omega)) rfl ?_); clear ha; (try clear a); intro a ha
              refine wpList_k (st_set ha rfl (ex_move ha) rfl ?_); clear ha; (try clear a); intro a ha
              refine wpList_k (st_set ha rfl (ex_subI ha (by omega) (by omega)) rfl ?_); clear ha; (try clear a); intro a ha
              refine wpList_k (st_set ha rfl (ex_neq ha) rfl ?_); clear ha; (try clear a); intro a ha
              refine wpList_k (st_set ha rfl (ex_move ha) rfl ?_); clear ha; (try clear a); intro a ha
              rw [decide_eq_false (by simp only; omega)] at ha
              refine wpList_k (st_set ha (wgT ha rfl (s := 49)) (ex_move ha) rfl ?_); clear ha; (try clear a); intro a ha
              refine wpList_k (st_set ha (wgT ha rfl (s := 49)) (ex_move ha) rfl ?_); clear ha; (try clear a); intro a ha
              refine wpList_k (st_call ha (wgT ha rfl (s := 49)) Ty.c18 rfl (snap_drop (i := 0) (x := ⟨1, k + 1 - j, ofL [], t⟩) (hs.store q) rfl) ?_); clear ha hs
              rintro e w ⟨rfl, hs⟩
              refine ⟨_, rfl, ?_⟩
              intro a ha
              rw [hnx] at hs
              refine wpList_k (st_set ha (wgT ha rfl (s := 49)) (ex_not ha) rfl ?_); clear ha; (try clear a); intro a ha
              refine wpList_k (st_set ha rfl (ex_pickF ha) rfl ?_); clear ha; (try clear a); intro a ha
              refine wpList_nil ?_
              refine then_n ?_
              refine wp_ifF ha ?_
              refine wp_skip ?_
              refine blk_n <| then_n ?_
              refine wp_region_lit ?_
              refine wpList_k (st_set ha rfl (ex_move ha) rfl ?_); clear ha; (try clear a); intro a ha
              refine wpList_k (st_set ha rfl (ex_addI ha (by omega) (by omega)) rfl ?_); clear ha; (try clear a); intro a ha
              replace ha := ha.del 8
              refine wpList_k (st_set ha rfl (ex_assign ha) rfl ?_); clear ha; (try clear a); intro a ha
              refine wpList_nil ?_
              refine then_n ?_
              exact ⟨k + 1 - (j + 1), by omega, j + 1, ⟨rfl, by omega⟩, ha.keep [0, 4, 5, 8], hs.sub⟩
            ·
              try simp only [decide_eq_true_eq, decide_eq_false_iff_not, Bool.not_eq_true', Bool.not_eq_false', Int.not_lt, Int.not_le, ne_eq, Decidable.not_not] at hc4
              rw [if_neg (by omega)] at hs
              refine wp_exit ?_
              refine then_e <| then_e <| blk_e ?_
              refine then_n ?_
              refine wp_seq ?_
              refine wp_region_lit ?_
              refine wpList_k (st_set ha rfl (ex_move ha) rfl ?_); clear ha; (try clear a); intro a ha
              refine wpList_k (st_set ha rfl (ex_move ha) rfl ?_); clear ha; (try clear a); intro a ha
              refine wpList_k (st_call ha rfl Ty.c17 rfl (snap_get_no (hs.store q) (by simp)) ?_); clear ha hs
              rintro e w ⟨rfl, hs⟩
              refine ⟨_, rfl, ?_⟩
              intro a ha
              refine wpList_k (st_set ha rfl (ex_move ha) rfl ?_); clear ha; (try clear a); intro a ha
              refine wpList_k (st_set ha rfl (ex_extract ha rfl) rfl ?_); clear ha; (try clear a); intro a ha
              refine wpList_k (st_set ha rfl (ex_extract ha rfl) rfl ?_); clear ha; (try clear a); intro a ha
              refine wpList_k (st_set ha rfl (ex_assign ha) rfl ?_); clear ha; (try clear a); intro a ha
              refine wpList_k (st_set ha rfl (ex_assign ha) rfl ?_); clear ha; (try clear a); intro a ha
              refine wpList_nil ?_
              refine then_n ?_
              refine wp_seq ?_
              refine wp_region_lit ?_
              refine wpList_k (st_set ha rfl (ex_move ha) rfl ?_); clear ha; (try clear a); intro a ha
              refine wpList_k (st_set ha rfl (ex_not ha) rfl ?_); clear ha; (try clear a); intro a ha
              refine wpList_k (st_set ha rfl (ex_move ha) rfl ?_); clear ha; (try clear a); intro a ha
              refine wpList_k (st_set ha (wgT ha rfl (s := 63)) (ex_move ha) rfl ?_); clear ha; (try clear a); intro a ha
              refine wpList_k (st_set ha (wgT ha rfl (s := 63)) (ex_move ha) rfl ?_); clear ha; (try clear a); intro a ha
              refine wpList_k (st_call ha (wgT ha rfl (s := 63)) Ty.c18 rfl (snap_drop_no (hs.store q) (by simp)) ?_); clear ha hs
              rintro e w ⟨rfl, hs⟩
              refine ⟨_, rfl, ?_⟩
              intro a ha
              refine wpList_k (st_set ha (wgT ha rfl (s := 63)) (ex_not ha) rfl ?_); clear ha; (try clear a); intro a ha
              refine wpList_k (st_set ha rfl (ex_pickT ha) rfl ?_); clear ha; (try clear a); intro a ha
              refine wpList_k (st_set ha rfl (ex_move ha) rfl ?_); clear ha; (try clear a); intro a ha
              refine wpList_k (st_set ha (wgT ha rfl (s := 69)) (ex_move ha) rfl ?_); clear ha; (try clear a); intro a ha
              refine wpList_k (st_set ha (wgT ha rfl (s := 69)) (ex_move ha) rfl ?_); clear ha; (try clear a); intro a ha
              refine wpList_k (st_call ha (wgT ha rfl (s := 69)) Ty.c21 rfl (snap_hold_no (hs.store q) (by simp)) ?_); clear ha hs
              rintro e w ⟨rfl, hs⟩
              refine ⟨_, rfl, ?_⟩
              intro a ha
              refine wpList_k (st_set ha (wgT ha rfl (s := 69)) (ex_not ha) rfl ?_); clear ha; (try clear a); intro a ha
              refine wpList_k (st_set ha rfl (ex_pickT ha) rfl ?_); clear ha; (try clear a); intro a ha
              refine wpList_k (st_set ha rfl (ex_move ha) rfl ?_); clear ha; (try clear a); intro a ha
              refine wpList_k (st_set ha (wgT ha rfl (s := 75)) (ex_move ha) rfl ?_); clear ha; (try clear a); intro a ha
              refine wpList_k (st_set ha (wgT ha rfl (s := 75)) (ex_move ha) rfl ?_); clear ha; (try clear a); intro a ha
              refine wpList_k (st_call ha (wgT ha rfl (s := 75)) Ty.c22 rfl (snap_refs_no (hs.store q) (by simp)) ?_); clear ha hs
              rintro e w ⟨rfl, hs⟩
              refine ⟨_, rfl, ?_⟩
              intro a ha
              refine wpList_k (st_set ha (wgT ha rfl (s := 75)) (ex_eql ha) rfl ?_); clear ha; (try clear a); intro a ha
              refine wpList_k (st_set ha rfl (ex_pickT ha) rfl ?_); clear ha; (try clear a); intro a ha
              refine wpList_k (st_set ha rfl (ex_move ha) rfl ?_); clear ha; (try clear a); intro a ha
              refine wpList_k (st_set ha (wgT ha rfl (s := 81)) (ex_move ha) rfl ?_); clear ha; (try clear a); intro a ha
              refine wpList_k (st_call ha (wgT ha rfl (s := 81)) Ty.c23 rfl (snap_live (hs.store q)) ?_); clear ha hs
              rintro e w ⟨ad1, c1, rfl, hs⟩
              refine ⟨_, rfl, ?_⟩
              intro a ha
              refine wpList_k (st_set ha (wgT ha rfl (s := 81)) (ex_len ha Try.underlying42) rfl ?_); clear ha; (try clear a); intro a ha
              refine wpList_k (st_set ha (wgT ha rfl (s := 81)) (ex_eql ha) rfl ?_); clear ha; (try clear a); intro a ha
              refine wpList_k (st_set ha rfl (ex_pickT ha) rfl ?_); clear ha; (try clear a); intro a ha
              refine wpList_k (st_set ha rfl (ex_move ha) rfl ?_); clear ha; (try clear a); intro a ha
              refine wpList_k (st_set ha (wgT ha rfl (s := 87)) (ex_move ha) rfl ?_); clear ha; (try clear a); intro a ha
              refine wpList_k (st_call ha (wgT ha rfl (s := 87)) Ty.c19 rfl (snap_room (hs.store q)) ?_); clear ha hs
              rintro e w ⟨rfl, hs⟩
              refine ⟨_, rfl, ?_⟩
              intro a ha
              refine wpList_k (st_call ha (wgT ha rfl (s := 87)) Ty.c20 rfl (snap_used (hs.store q)) ?_); clear ha hs
              rintro e w ⟨rfl, hs⟩
              refine ⟨_, rfl, ?_⟩
              intro a ha
              rw [used_nil] at ha
              refine wpList_k (st_set ha (wgT ha rfl (s := 87)) (ex_eql ha) rfl ?_); clear ha; (try clear a); intro a ha
              refine wpList_k (st_set ha rfl (ex_pickT ha) rfl ?_); clear ha; (try clear a); intro a ha
              refine wpList_k (st_set ha rfl (ex_move ha) rfl ?_); clear ha; (try clear a); intro a ha
              refine wpList_k (st_set ha (wgT ha rfl (s := 93)) (ex_move ha) rfl ?_); clear ha; (try clear a); intro a ha
              refine wpList_k (st_call ha (wgT ha rfl (s := 93)) Ty.c24 rfl (snap_has (hs.store q)) ?_); clear ha hs
              rintro e w ⟨rfl, hs⟩
              refine ⟨_, rfl, ?_⟩
              intro a ha
              rw [used_nil] at ha
              refine wpList_k (st_set ha rfl (ex_pickT ha) rfl ?_); clear ha; (try clear a); intro a ha
              refine wpList_k (st_set ha rfl (ex_assign ha) rfl ?_); clear ha; (try clear a); intro a ha
              refine wpList_nil ?_
              refine then_n ?_
              refine wp_ret ?_
              refine ret1 ha rfl ?_
              exact ⟨rfl, hs.below⟩

theorem snapAgain_walk (n : Int) (W : World) (w0 : (Lit.int .i64 n).wf = true) :
    Calls Try.prog 7 #[.int .i64 n] W fun e w' => e = .returned (.bool true) ∧ Below W.heap.size W w' := by
  have hs := St.start W
  refine calls_enter Try.func7 rfl Try.ntmps7 (Nat.le_of_ble_eq_true rfl) ?_
  intro a ha
  replace ha : Fr a 67 [(0, _)] := ha
  refine wp_seq ?_
  refine wp_region_lit ?_
  refine wpList_k (st_set ha rfl (ex_assign ha) rfl ?_); clear ha; (try clear a); intro a ha
  refine wpList_nil ?_
  refine then_n ?_
  refine wp_seq ?_
  refine wp_region_lit ?_
  refine wpList_k (st_call ha rfl Ty.c11 rfl (begun11 hs) ?_); clear ha hs
  rintro e w ⟨rfl, hs⟩
  refine ⟨_, rfl, ?_⟩
  intro a ha
  refine wpList_k (st_set ha rfl (ex_assign ha) rfl ?_); clear ha; (try clear a); intro a ha
  refine wpList_nil ?_
  refine then_n ?_
  refine wp_seq ?_
  refine wp_seq ?_
  refine wp_region_lit ?_
  refine wpList_k (st_set ha rfl (ex_move ha) rfl ?_); clear ha; (try clear a); intro a ha
  refine wpList_k (st_set ha rfl (ex_not ha) rfl ?_); clear ha; (try clear a); intro a ha
  refine wpList_nil ?_
  refine then_n ?_
  refine wp_ifF ha ?_
  refine wp_skip ?_
  refine then_n ?_
  refine wp_seq ?_
  refine wp_seq ?_
  refine wp_region_lit ?_
  refine wpList_k (st_set ha rfl (ex_move ha) rfl ?_); clear ha; (try clear a); intro a ha
  refine wpList_k (st_set ha rfl (ex_lss ha) rfl ?_); clear ha; (try clear a); intro a ha
  refine wpList_k (st_set ha rfl (ex_move ha) rfl ?_); clear ha; (try clear a); intro a ha
  refine ha.bool (s := 16) (fun hg2 ha => ?_) (fun hg2 ha => ?_)
  ·
    try simp only [decide_eq_true_eq, decide_eq_false_iff_not, Bool.not_eq_true', Bool.not_eq_false', Int.not_lt, Int.not_le, ne_eq, Decidable.not_not] at hg2
    refine wpList_k (st_off ha (wgF ha rfl (s := 16) rfl) rfl ?_); clear ha; (try clear a); intro a ha
    refine wpList_k (st_off ha (wgF ha rfl (s := 16) rfl) rfl ?_); clear ha; (try clear a); intro a ha
    refine wpList_k (st_set ha rfl (ex_pickT ha) rfl ?_); clear ha; (try clear a); intro a ha
    refine wpList_nil ?_
    refine then_n ?_
    refine wp_ifT ha ?_
    refine wp_seq ?_
    refine wp_region_lit ?_
    replace ha := ha.del 2
    refine wpList_k (st_set ha rfl (ex_assign ha) rfl ?_); clear ha; (try clear a); intro a ha
    refine wpList_nil ?_
    refine then_n ?_
    refine wp_ret <| then_r ?_
    refine ret1 ha rfl ?_
    exact ⟨rfl, hs.below⟩
  ·
    try simp only [decide_eq_true_eq, decide_eq_false_iff_not, Bool.not_eq_true', Bool.not_eq_false', Int.not_lt, Int.not_le, ne_eq, Decidable.not_not] at hg2
    refine wpList_k (st_set ha (wgT ha rfl (s := 16)) (ex_move ha) rfl ?_); clear ha; (try clear a); intro a ha
    refine wpList_k (st_set ha (wgT ha rfl (s := 16)) (ex_gtr ha) rfl ?_); clear ha; (try clear a); intro a ha
    refine wpList_k (st_set ha rfl (ex_pickF ha) rfl ?_); clear ha; (try clear a); intro a ha
    refine wpList_nil ?_
    refine then_n ?_
    refine wp_if ha (fun hc1 => ?_) (fun hc1 => ?_)
    ·
      try simp only [decide_eq_true_eq, decide_eq_false_iff_not, Bool.not_eq_true', Bool.not_eq_false', Int.not_lt, Int.not_le, ne_eq, Decidable.not_not] at hc1
      refine wp_seq ?_
      refine wp_region_lit ?_
      replace ha := ha.del 2
      refine wpList_k (st_set ha rfl (ex_assign ha) rfl ?_); clear ha; (try clear a); intro a ha
      refine wpList_nil ?_
      refine then_n ?_
      refine wp_ret <| then_r ?_
      refine ret1 ha rfl ?_
      exact ⟨rfl, hs.below⟩
    ·
      try simp only [decide_eq_true_eq, decide_eq_false_iff_not, Bool.not_eq_true', Bool.not_eq_false', Int.not_lt, Int.not_le, ne_eq, Decidable.not_not] at hc1
      obtain ⟨N, rfl⟩ : ∃ N : Nat, n = N := ⟨n.toNat, by omega⟩
      refine wp_skip ?_
      refine then_n ?_
      refine wp_seq ?_
      refine wp_region_lit ?_
      refine wpList_k (st_call ha rfl Ty.c12 rfl (snap_new (n := 1) hs (by decide)) ?_); clear ha hs
      rintro e w ⟨q, r, rfl, hs⟩
      refine ⟨_, rfl, ?_⟩
      intro a ha
      refine wpList_k (st_set ha rfl (ex_assign ha) rfl ?_); clear ha; (try clear a); intro a ha
      refine wpList_nil ?_
      refine then_n ?_
      refine wp_seq ?_
      refine wp_region_lit ?_
      refine wpList_k (st_set ha rfl (ex_assign ha) rfl ?_); clear ha; (try clear a); intro a ha
      refine wpList_nil ?_
      refine then_n ?_
      refine wp_seq ?_
      refine wp_seq ?_
      refine wp_region_lit ?_
      refine wpList_k (st_set ha rfl (ex_assign ha) rfl ?_); clear ha; (try clear a); intro a ha
      refine wpList_nil ?_
      refine then_n ?_
      refine wp_block ?_
      refine wp_loop_ghost (fun μ a w => ∃ k : Nat, (μ = N - k ∧ k ≤ N) ∧ Fr a 67 [(0, .int .i64 N), (4, .pointer (some ⟨q, 0, none⟩)), (5, .int .i64 k), (6, .int .i64 k)] ∧ St W w [Store q r ⟨k, 4, k, []⟩]) (N) ?_ ?_
      · exact ⟨0, ⟨by simp, by simp⟩, ha.keep [0, 4, 5, 6], hs.sub⟩
      ·
        clear ha hs
        rintro μ a w ⟨k, ⟨rfl, hk⟩, ha, hs⟩
        refine wp_seq ?_
        refine wp_seq ?_
        refine wp_region_lit ?_
        refine wpList_k (st_set ha rfl (ex_move ha) rfl ?_); clear ha; (try clear a); intro a ha
        refine wpList_k (st_set ha rfl (ex_move ha) rfl ?_); clear ha; (try clear a); intro a ha
        refine wpList_k (st_set ha rfl (ex_lss ha) rfl ?_); clear ha; (try clear a); intro a ha
        refine wpList_nil ?_
        refine then_n ?_
        refine wp_if ha (fun hc2 => ?_) (fun hc2 => ?_)
        ·
          try simp only [decide_eq_true_eq, decide_eq_false_iff_not, Bool.not_eq_true', Bool.not_eq_false', Int.not_lt, Int.not_le, ne_eq, Decidable.not_not] at hc2
          refine wp_skip ?_
          refine then_n ?_
          refine wp_seq ?_
          refine wp_block ?_
          refine wp_seq ?_
          refine wp_region_lit ?_
          refine wpList_k (st_set ha rfl (ex_move ha) rfl ?_); clear ha; (try clear a); intro a ha
          refine wpList_k (st_set ha rfl (ex_buildA0 ha Try.underlying29 Ty.t29 Ty.t21) rfl ?_); clear ha; (try clear a); intro a ha
          change Fr a 67 ((28, .agg (ints .i32 32 (fun _ => 0)).toArray) :: _) at ha
          refine wpList_k (st_call ha rfl Ty.c13 rfl (snap_make (hs.store q) (by rw [used_nil]; simp) (by simp only; omega)) ?_); clear ha hs
          rintro e w ⟨t, rfl, ⟨ht1, ht2⟩, hs⟩
          refine ⟨_, rfl, ?_⟩
          intro a ha
          change St W w (Store q r ⟨k + 1, 4, k + 1, [⟨k + 1, 1, fun _ => 0, t⟩]⟩ :: _) at hs
          refine wpList_k (st_set ha rfl (ex_move ha) rfl ?_); clear ha; (try clear a); intro a ha
          refine wpList_k (st_set ha rfl (ex_extract ha rfl) rfl ?_); clear ha; (try clear a); intro a ha
          refine wpList_k (st_set ha rfl (ex_extract ha rfl) rfl ?_); clear ha; (try clear a); intro a ha
          refine wpList_k (st_set ha rfl (ex_assign ha) rfl ?_); clear ha; (try clear a); intro a ha
          refine wpList_k (st_set ha rfl (ex_assign ha) rfl ?_); clear ha; (try clear a); intro a ha
          refine wpList_nil ?_
          refine then_n ?_
          refine wp_seq ?_
          refine wp_seq ?_
          refine wp_region_lit ?_
          refine wpList_k (st_set ha rfl (ex_move ha) rfl ?_); clear ha; (try clear a); intro a ha
          refine wpList_k (st_set ha rfl (ex_not ha) rfl ?_); clear ha; (try clear a); intro a ha
          refine wpList_k (st_set ha rfl (ex_move ha) rfl ?_); clear ha; (try clear a); intro a ha
          refine wpList_k (st_set ha (wgT ha rfl (s := 34)) (ex_move ha) rfl ?_); clear ha; (try clear a); intro a ha
          refine wpList_k (st_set ha (wgT ha rfl (s := 34)) (ex_leq ha) rfl ?_); clear ha; (try clear a); intro a ha
          refine wpList_k (st_set ha rfl (ex_pickF ha) rfl ?_); clear ha; (try clear a); intro a ha
          refine wpList_k (st_set ha rfl (ex_move ha) rfl ?_); clear ha; (try clear a); intro a ha
          rw [decide_eq_false (by simp only; omega)] at ha
          refine wpList_k (st_set ha (wgT ha rfl (s := 38)) (ex_move ha) rfl ?_); clear ha; (try clear a); intro a ha
          refine wpList_k (st_set ha (wgT ha rfl (s := 38)) (ex_move ha) rfl ?_); clear ha; (try clear a); intro a ha
          refine wpList_k (st_set ha (wgT ha rfl (s := 38)) (ex_eql ha) rfl ?_); clear ha; (try clear a); intro a ha
          refine wpList_k (st_set ha rfl (ex_pickF ha) rfl ?_); clear ha; (try clear a); intro a ha
          refine wpList_k (st_set ha rfl (ex_move ha) rfl ?_); clear ha; (try clear a); intro a ha
          rw [decide_eq_false (by simp only; omega)] at ha
          refine wpList_k (st_set ha (wgT ha rfl (s := 43)) (ex_move ha) rfl ?_); clear ha; (try clear a); intro a ha
          refine wpList_k (st_set ha (wgT ha rfl (s := 43)) (ex_move ha) rfl ?_); clear ha; (try clear a); intro a ha
          refine wpList_k (st_call ha (wgT ha rfl (s := 43)) Ty.c18 rfl (snap_drop (i := 0) (x := ⟨k + 1, 1, fun _ => 0, t⟩) (hs.store q) rfl) ?_); clear ha hs
          rintro e w ⟨rfl, hs⟩
          refine ⟨_, rfl, ?_⟩
          intro a ha
          change St W w (Store q r ⟨k + 1, 4, k + 1, []⟩ :: _) at hs
          refine wpList_k (st_set ha (wgT ha rfl (s := 43)) (ex_not ha) rfl ?_); clear ha; (try clear a); intro a ha
          refine wpList_k (st_set ha rfl (ex_pickF ha) rfl ?_); clear ha; (try clear a); intro a ha
          refine wpList_k (st_set ha rfl (ex_move ha) rfl ?_); clear ha; (try clear a); intro a ha
          refine wpList_k (st_set ha (wgT ha rfl (s := 49)) (ex_move ha) rfl ?_); clear ha; (try clear a); intro a ha
          refine wpList_k (st_call ha (wgT ha rfl (s := 49)) Ty.c19 rfl (snap_room (hs.store q)) ?_); clear ha hs
          rintro e w ⟨rfl, hs⟩
          refine ⟨_, rfl, ?_⟩
          intro a ha
          refine wpList_k (st_call ha (wgT ha rfl (s := 49)) Ty.c20 rfl (snap_used (hs.store q)) ?_); clear ha hs
          rintro e w ⟨rfl, hs⟩
          refine ⟨_, rfl, ?_⟩
          intro a ha
          rw [used_nil] at ha
          refine wpList_k (st_set ha (wgT ha rfl (s := 49)) (ex_neq ha) rfl ?_); clear ha; (try clear a); intro a ha
          refine wpList_k (st_set ha rfl (ex_pickF ha) rfl ?_); clear ha; (try clear a); intro a ha
          refine wpList_nil ?_
          refine then_n ?_
          refine wp_ifF ha ?_
          refine wp_skip ?_
          refine then_n ?_
          refine wp_seq ?_
          refine wp_region_lit ?_
          refine wpList_k (st_set ha rfl (ex_move ha) rfl ?_); clear ha; (try clear a); intro a ha
          refine wpList_k (st_set ha rfl (ex_move ha) rfl ?_); clear ha; (try clear a); intro a ha
          refine wpList_k (st_call ha rfl Ty.c25 rfl (snap_state_no (hs.store q) (by simp)) ?_); clear ha hs
          rintro e w ⟨rfl, hs⟩
          refine ⟨_, rfl, ?_⟩
          intro a ha
          refine wpList_k (st_set ha rfl (ex_move ha) rfl ?_); clear ha; (try clear a); intro a ha
          refine wpList_k (st_set ha rfl (ex_extract ha rfl) rfl ?_); clear ha; (try clear a); intro a ha
          refine wpList_k (st_set ha rfl (ex_extract ha rfl) rfl ?_); clear ha; (try clear a); intro a ha
          refine wpList_k (st_alloc ha rfl hs Ty.t29 rfl ?_); clear ha hs; (try clear a); (try clear w); intro b9 a w ha hs ho
          clear ho
          refine wpList_k (st_storeAll ha rfl hs Ty.t29 ints_one (by rfl) ?_); clear ha hs; (try clear a); (try clear w); intro a w ha hs
          refine wpList_k (st_set ha rfl (ex_assign ha) rfl ?_); clear ha; (try clear a); intro a ha
          refine wpList_nil ?_
          refine then_n ?_
          refine wp_seq ?_
          refine wp_seq ?_
          refine wp_region_lit ?_
          refine wpList_k (st_set ha rfl (ex_move ha) rfl ?_); clear ha; (try clear a); intro a ha
          refine wpList_nil ?_
          refine then_n ?_
          refine wp_ifF ha ?_
          refine wp_skip ?_
          refine then_n ?_
          refine wp_region_lit ?_
          refine wpList_k (st_set ha rfl (ex_move ha) rfl ?_); clear ha; (try clear a); intro a ha
          replace ha := ha.del 5
          refine wpList_k (st_set ha rfl (ex_assign ha) rfl ?_); clear ha; (try clear a); intro a ha
          refine wpList_nil ?_
          refine blk_n <| then_n ?_
          refine wp_region_lit ?_
          refine wpList_k (st_set ha rfl (ex_move ha) rfl ?_); clear ha; (try clear a); intro a ha
          refine wpList_k (st_set ha rfl (ex_addI ha (by omega) (by omega)) rfl ?_); clear ha; (try clear a); intro a ha
          replace ha := ha.del 6
          refine wpList_k (st_set ha rfl (ex_assign ha) rfl ?_); clear ha; (try clear a); intro a ha
          refine wpList_nil ?_
          refine then_n ?_
          exact ⟨N - (k + 1), by omega, k + 1, ⟨rfl, by omega⟩, ha.keep [0, 4, 5, 6], hs.sub⟩
        ·
          try simp only [decide_eq_true_eq, decide_eq_false_iff_not, Bool.not_eq_true', Bool.not_eq_false', Int.not_lt, Int.not_le, ne_eq, Decidable.not_not] at hc2
          refine wp_exit ?_
          refine then_e <| then_e <| blk_e ?_
          refine then_n ?_
          refine wp_seq ?_
          refine wp_region_lit ?_
          refine wpList_k (st_set ha rfl (ex_move ha) rfl ?_); clear ha; (try clear a); intro a ha
          refine wpList_k (st_call ha rfl Ty.c23 rfl (snap_live (hs.store q)) ?_); clear ha hs
          rintro e w ⟨ad1, c1, rfl, hs⟩
          refine ⟨_, rfl, ?_⟩
          intro a ha
          refine wpList_k (st_set ha rfl (ex_len ha Try.underlying42) rfl ?_); clear ha; (try clear a); intro a ha
          refine wpList_k (st_set ha rfl (ex_eql ha) rfl ?_); clear ha; (try clear a); intro a ha
          refine wpList_k (st_set ha rfl (ex_assign ha) rfl ?_); clear ha; (try clear a); intro a ha
          refine wpList_nil ?_
          refine then_n ?_
          refine wp_ret ?_
          refine ret1 ha rfl ?_
          exact ⟨rfl, hs.below⟩
end
end Go.Proofs.Ytpfblmpgljodmaa

