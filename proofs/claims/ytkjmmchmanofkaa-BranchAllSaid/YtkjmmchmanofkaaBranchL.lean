/- What the laws of branch begin with; no tree; how many there may be. -/
import Derived.Test.YtkjmmchmanofkaaBranch2
import Derived.Test.YtkjmmchmanofkaaSnapL
import Derived.Test.YtkjmmchmanofkaaEq
import Derived.Test.YtkjmmchmanofkaaArg
namespace Go.Proofs.Ytkjmmchmanofkaa
open Go.RowKit
set_option linter.unusedVariables false
set_option linter.unusedSimpArgs false
set_option maxRecDepth 10000
set_option synthInstance.maxSize 4000
set_option synthInstance.maxHeartbeats 400000

section
variable {W w : World} {L L' R : List SP} {tq sq q r n c k : Nat} {ad : Option Addr} {A : Sn} {T : Tr} {x y : Br} {xs : List Bx} {p : List (List UInt8)}
theorem rdb_blk {e : Nat} {cs : List Value} {bs : List UInt8} (hs : St W w L) (b : Nat) [kk : Blk L b e cs R] (h : cs = bc bs) (hn : bs.length = n) : RdB w (some ⟨b, 0, none⟩) n bs := by
  subst h
  exact ⟨hn, fun e => (by cases e), fun x hx _ => ⟨b, 0, by cases hx; rfl, hs.rdAll⟩⟩
theorem rdx1 {b1 b e1 e : Nat} {cs : List Value} {bs : List UInt8} {m : Nat} {R' : List SP} (hs : St W w L) [k1 : Blk L b1 e1 cs R] (h1 : cs = bc bs) [kk : Blk L b e [.slice (some ⟨b1, 0, none⟩) m c] R'] (hm : bs.length = m) : RdX w (some ⟨b, 0, none⟩) [(some ⟨b1, 0, none⟩, c, bs)] := by
  subst hm
  refine ⟨fun _ => ⟨b, 0, rfl, hs.rdAll⟩, fun x hx => ?_⟩
  simp at hx; subst hx
  exact rdb_blk hs b1 h1 rfl
theorem rdx2 {b1 b2 b e1 e2 e c2 : Nat} {cs cs2 : List Value} {bs bs2 : List UInt8} {m m2 : Nat} {R' R2 : List SP} (hs : St W w L) [k1 : Blk L b1 e1 cs R] (h1 : cs = bc bs) [k2 : Blk L b2 e2 cs2 R2] (h2 : cs2 = bc bs2) [kk : Blk L b e [.slice (some ⟨b1, 0, none⟩) m c, .slice (some ⟨b2, 0, none⟩) m2 c2] R'] (hm : bs.length = m) (hm2 : bs2.length = m2) :
    RdX w (some ⟨b, 0, none⟩) [(some ⟨b1, 0, none⟩, c, bs), (some ⟨b2, 0, none⟩, c2, bs2)] := by
  subst hm hm2
  refine ⟨fun _ => ⟨b, 0, rfl, hs.rdAll⟩, fun x hx => ?_⟩
  simp at hx
  rcases hx with rfl | rfl
  · exact rdb_blk hs b1 h1 rfl
  · exact rdb_blk hs b2 h2 rfl
theorem best_nil {frm : Int} {ad2 : Option Addr} {m c2 : Nat} (hs : St W w L) : Calls Try.prog 22 #[.pointer none, .int .i64 frm, .slice ad2 m c2] w fun e w' => e = .returned (.tuple #[.agg (brC br0 none 0).toArray, .bool false]) ∧ St W w' L := by
  refine calls_enter Try.func22 rfl Try.ntmps22 (Nat.le_of_ble_eq_true rfl) ?_
  intro a ha
  replace ha : Fr a 52 [(0, _), (1, _), (2, _)] := ha
  refine wp_seq ?_
  refine wp_region_lit ?_
  refine wpList_k (st_alloc ha rfl hs Ty.t42 rfl ?_); clear ha hs; (try clear a); (try clear w); intro b6 a w ha hs ho
  clear ho
  change St W w (blk b6 42 (brC br0 none 0) :: _) at hs
  refine wpList_k (st_set ha rfl (ex_assign ha) rfl ?_); clear ha; (try clear a); intro a ha
  refine wpList_nil ?_
  refine then_n ?_
  refine wp_seq ?_
  refine wp_region_lit ?_
  refine wpList_k (st_set ha rfl (ex_build ha Ty.b42 Ty.t42 rfl) rfl ?_); clear ha; (try clear a); intro a ha
  refine wpList_k (st_alloc ha rfl hs Ty.t42 rfl ?_); clear ha hs; (try clear a); (try clear w); intro b8 a w ha hs ho
  clear ho
  refine wpList_k (st_storeAll ha rfl hs Ty.t42 (brC_one br0 none 0) (by rfl) ?_); clear ha hs; (try clear a); (try clear w); intro a w ha hs
  refine wpList_nil ?_
  refine then_n ?_
  refine wp_seq ?_
  refine wp_seq ?_
  refine wp_region_lit ?_
  refine wpList_k (st_set ha rfl (ex_move ha) rfl ?_); clear ha; (try clear a); intro a ha
  refine wpList_k (st_call ha rfl Ty.c15 rfl (all_nil hs) ?_); clear ha hs
  rintro e w ⟨rfl, hs⟩
  refine ⟨_, rfl, ?_⟩
  intro a ha
  refine wpList_k (st_set ha rfl (ex_len ha Try.underlying37) rfl ?_); clear ha; (try clear a); intro a ha
  refine wpList_k (st_set ha rfl (ex_move ha) rfl ?_); clear ha; (try clear a); intro a ha
  refine wpList_nil ?_
  refine then_n ?_
  refine wp_block ?_
  refine wp_loop_ghost (fun μ a w => (μ = 0) ∧ Fr a 52 [(6, .pointer (some ⟨b6, 0, none⟩)), (8, .pointer (some ⟨b8, 0, none⟩)), (13, .slice none 0 0), (14, .int .i64 ((0 : Nat) : Int)), (15, .int .i64 0)] ∧ St W w (blk b8 42 (brC br0 none 0) :: blk b6 42 (brC br0 none 0) :: L)) (0) ?_ ?_
  · exact ⟨rfl, ha.keep [6, 8, 13, 14, 15], hs.sub⟩
  ·
    clear ha hs
    rintro μ a w ⟨rfl, ha, hs⟩
    refine wp_seq ?_
    refine wp_region_lit ?_
    refine wpList_k (st_set ha rfl (ex_lss ha) rfl ?_); clear ha; (try clear a); intro a ha
    refine wpList_nil ?_
    refine then_n ?_
    refine wp_seq ?_
    refine wp_ifF ha ?_
    refine wp_exit ?_
    refine then_e <| then_e <| blk_e ?_
    refine then_n ?_
    refine wp_seq ?_
    refine wp_draw (m := 6) (l0 := lb 6 0) (fun w' => Rd w' b8 0 (brC br0 none 0)) [2, 3, 4] Ty.mixed (by kernel_rfl) (by kernel_rfl) (pk_then pk_body) (fun hpk => ?_)
    replace hs := hs.drew
    generalize w.drew = w at hs hpk ⊢
    have hC : Rd w b8 0 (brC br0 none 0) := hs.rdAll
    refine nt_pure (i := 1) (listed' := lb 6 2) (by kernel_rfl) rfl (by kernel_rfl) (by decide) hpk ha rfl (fun w => ex_fieldAddr (k := 3) ha Try.underlying42 rfl Ty.t3 rfl) rfl ?_; clear ha; (try clear a); intro a ha
    refine nt_held (i := 0) (listed' := lb 6 3) (by kernel_rfl) rfl (by kernel_rfl) hpk ha rfl (fun w hc => ex_loadN ha Try.underlying42 rfl Ty.t42 (hc)) hC rfl ?_; clear ha; (try clear a); intro a ha
    refine nt_held (i := 2) (listed' := lb 6 7) (by kernel_rfl) rfl (by kernel_rfl) hpk ha rfl (fun w hc => ex_load1 ha Try.underlying3 rfl (hc 3 _ rfl)) hC rfl ?_; clear ha; (try clear a); intro a ha
    refine nt_held (i := 3) (listed' := lb 6 15) (by kernel_rfl) rfl (by kernel_rfl) hpk ha rfl (fun w hc => ex_gtr ha) hC rfl ?_; clear ha; (try clear a); intro a ha
    refine nt_one (i := 4) (listed' := lb 6 31) (by kernel_rfl) (by kernel_rfl) rfl (st_storeAll ha rfl hs Ty.t42 (brC_one br0 none 0) (by rfl) ?_); clear ha hs; (try clear a); (try clear w); intro a w ha hs
    replace hC : (fun w' => Rd w' b8 0 (brC br0 none 0)) w := hs.rdAll
    refine ⟨fun _ => hC, ?_⟩
    refine nt_pure (i := 5) (listed' := lb 6 63) (by kernel_rfl) rfl (by kernel_rfl) (by decide) hpk ha rfl (fun w => ex_assign ha) rfl ?_; clear ha; (try clear a); intro a ha
    refine nt_done (by kernel_rfl) ?_ _
    refine then_n ?_
    refine wp_ret ?_
    refine retC2 ha rfl (run_loadN Try.underlying42 rfl Ty.t42 (hs.rdAll (b := b6))) ?_
    exact ⟨rfl, hs.sub⟩
theorem prune_nil {frm : Int} {ad2 : Option Addr} {m c2 : Nat} (hs : St W w L) : Calls Try.prog 16 #[.pointer none, .int .i64 frm, .slice ad2 m c2] w fun e w' => e = .returned (.int .i64 0) ∧ St W w' L := by
  refine calls_enter Try.func16 rfl Try.ntmps16 (Nat.le_of_ble_eq_true rfl) ?_
  intro a ha
  replace ha : Fr a 10 [(0, _), (1, _), (2, _)] := ha
  refine wp_seq ?_
  refine wp_region_lit ?_
  refine wpList_k (st_box ha rfl hs rfl ?_); clear ha hs; (try clear a); (try clear w); intro b4 a w ha hs ho
  clear ho
  refine wpList_k (st_box ha rfl hs rfl ?_); clear ha hs; (try clear a); (try clear w); intro b5 a w ha hs ho
  clear ho
  refine wpList_k (st_set ha rfl (ex_assign ha) rfl ?_); clear ha; (try clear a); intro a ha
  refine wpList_nil ?_
  refine then_n ?_
  refine wp_seq ?_
  refine wp_region_lit ?_
  refine wpList_k (st_set ha rfl (ex_move ha) rfl ?_); clear ha; (try clear a); intro a ha
  refine wpList_k (st_set ha rfl (ex_makeFunc ha) rfl ?_); clear ha; (try clear a); intro a ha
  refine wpList_k (st_call ha rfl Ty.c42 rfl (drop_nil hs) ?_); clear ha hs
  rintro e w ⟨rfl, hs⟩
  refine ⟨_, rfl, ?_⟩
  intro a ha
  replace ha := ha.del 6
  refine wpList_k (st_set ha rfl (ex_assign ha) rfl ?_); clear ha; (try clear a); intro a ha
  refine wpList_nil ?_
  refine then_n ?_
  refine wp_ret ?_
  refine ret1 ha rfl ?_
  exact ⟨rfl, hs.sub⟩

theorem begun23 (hs : St W w L) : Calls Try.prog 9 #[] w fun e w' => e = .returned (.bool true) ∧ St W w' L := by
  refine calls_enter Try.func9 rfl Try.ntmps9 (Nat.le_of_ble_eq_true rfl) ?_
  intro a ha
  replace ha : Fr a 130 [] := ha
  refine wp_seq ?_
  refine wp_region_lit ?_
  refine wpList_k (st_set ha rfl (ex_assign ha) rfl ?_); clear ha; (try clear a); intro a ha
  refine wpList_nil ?_
  refine then_n ?_
  refine wp_seq ?_
  refine wp_region_lit ?_
  refine wpList_k (st_call ha rfl Ty.c11 rfl (snap_new (n := 5) hs (by decide)) ?_); clear ha hs
  rintro e w ⟨q, r, rfl, hs⟩
  refine ⟨_, rfl, ?_⟩
  intro a ha
  refine wpList_k (st_set ha rfl (ex_assign ha) rfl ?_); clear ha; (try clear a); intro a ha
  refine wpList_nil ?_
  refine then_n ?_
  refine wp_seq ?_
  refine wp_region_lit ?_
  refine wpList_k (st_set ha rfl (ex_move ha) rfl ?_); clear ha; (try clear a); intro a ha
  refine wpList_k (st_call ha rfl Ty.c12 rfl (tree_new (m := 2) hs) ?_); clear ha hs
  rintro e w ⟨tq, rfl, hs⟩
  refine ⟨_, rfl, ?_⟩
  intro a ha
  change St W w (Tree tq q ⟨2, [], 0, 0⟩ :: _) at hs
  refine wpList_k (st_set ha rfl (ex_assign ha) rfl ?_); clear ha; (try clear a); intro a ha
  refine wpList_nil ?_
  refine then_n ?_
  refine wp_seq ?_
  refine wp_seq ?_
  refine wp_region_lit ?_
  refine wpList_k (st_set ha rfl (ex_move ha) rfl ?_); clear ha; (try clear a); intro a ha
  refine wpList_k (st_set ha rfl (ex_eqnil ha Try.underlying26) rfl ?_); clear ha; (try clear a); intro a ha
  refine wpList_k (st_set ha rfl (ex_move ha) rfl ?_); clear ha; (try clear a); intro a ha
  refine wpList_k (st_set ha (wgT ha rfl (s := 22)) (ex_move ha) rfl ?_); clear ha; (try clear a); intro a ha
  refine wpList_k (st_set ha (wgT ha rfl (s := 22)) (ex_eqnil ha Try.underlying28) rfl ?_); clear ha; (try clear a); intro a ha
  refine wpList_k (st_set ha rfl (ex_pickF ha) rfl ?_); clear ha; (try clear a); intro a ha
  refine wpList_nil ?_
  refine then_n ?_
  refine wp_ifF ha ?_
  refine wp_skip ?_
  refine then_n ?_
  refine wp_seq ?_
  refine wp_region_lit ?_
  refine wpList_k (st_set ha rfl (ex_move ha) rfl ?_); clear ha; (try clear a); intro a ha
  refine wpList_k (st_set ha rfl (ex_buildA0 ha Try.underlying34 Ty.t34 Ty.t21) rfl ?_); clear ha; (try clear a); intro a ha
  change Fr a 130 ((28, .agg (ints .i32 32 (fun _ => 0)).toArray) :: _) at ha
  refine wpList_k (st_call ha rfl Ty.c13 rfl (snap_make (hs.store q) (by decide) (by decide)) ?_); clear ha hs
  rintro e w ⟨t, rfl, ⟨ht1, ht2⟩, hs⟩
  refine ⟨_, rfl, ?_⟩
  intro a ha
  change St W w (Store q r ⟨1, 20, 1, [⟨1, 1, fun _ => 0, t⟩]⟩ :: _) at hs
  refine wpList_k (st_set ha rfl (ex_move ha) rfl ?_); clear ha; (try clear a); intro a ha
  refine wpList_k (st_set ha rfl (ex_extract ha rfl) rfl ?_); clear ha; (try clear a); intro a ha
  refine wpList_k (st_set ha rfl (ex_extract ha rfl) rfl ?_); clear ha; (try clear a); intro a ha
  refine wpList_k (st_set ha rfl (ex_assign ha) rfl ?_); clear ha; (try clear a); intro a ha
  refine wpList_k (st_set ha rfl (ex_assign ha) rfl ?_); clear ha; (try clear a); intro a ha
  refine wpList_nil ?_
  refine then_n ?_
  refine wp_seq ?_
  refine wp_region_lit ?_
  refine wpList_k (st_set ha rfl (ex_move ha) rfl ?_); clear ha; (try clear a); intro a ha
  refine wpList_k (st_set ha rfl (ex_move ha) rfl ?_); clear ha; (try clear a); intro a ha
  refine wpList_k (st_buildSlice ha rfl hs Try.underlying48 Ty.t5 rfl rfl rfl rfl (by decide) (by decide) ?_); clear ha hs; (try clear a); (try clear w); intro b35 a w ha hs ho
  clear ho
  refine wpList_k (st_buildSlice ha rfl hs Try.underlying48 Ty.t5 rfl rfl rfl rfl (by decide) (by decide) ?_); clear ha hs; (try clear a); (try clear w); intro b36 a w ha hs ho
  clear ho
  refine wpList_k (st_buildSlice ha rfl hs Try.underlying23 Ty.t48 rfl rfl rfl rfl (by decide) (by decide) ?_); clear ha hs; (try clear a); (try clear w); intro b37 a w ha hs ho
  clear ho
  refine wpList_k (st_call ha rfl Ty.c14 rfl (add_ok (T := ⟨2, [], 0, 0⟩) (A := ⟨1, 20, 1, [⟨1, 1, fun _ => 0, t⟩]⟩) (px := ⟨1, 1, fun _ => 0, t⟩) (i := 0) (zs := [(some ⟨b35, 0, none⟩, 2, [1, 2]), (some ⟨b36, 0, none⟩, 2, [3, 4])]) (p := [[1, 2], [3, 4]]) ((hs.store q).tree tq) (fun w' h => rdx2 h rfl rfl rfl rfl) rfl (by decide) ⟨by decide, by decide⟩ rfl (by simp) (by simp) (by simp) (by decide) (by decide)) ?_); clear ha hs
  rintro e w ⟨rfl, hs⟩
  refine ⟨_, rfl, ?_⟩
  intro a ha
  change St W w (Tree tq q ⟨2, [⟨1, 3, [[1, 2], [3, 4]], 0, 2⟩], 1, 0⟩ :: Store q r ⟨2, 20, 2, [⟨1, 1, fun _ => 0, t⟩, ⟨2, 1, fun _ => 0, t⟩]⟩ :: _) at hs
  refine wpList_k (st_set ha rfl (ex_move ha) rfl ?_); clear ha; (try clear a); intro a ha
  refine wpList_k (st_set ha rfl (ex_extract ha rfl) rfl ?_); clear ha; (try clear a); intro a ha
  refine wpList_k (st_set ha rfl (ex_extract ha rfl) rfl ?_); clear ha; (try clear a); intro a ha
  refine wpList_k (st_set ha rfl (ex_assign ha) rfl ?_); clear ha; (try clear a); intro a ha
  refine wpList_k (st_set ha rfl (ex_assign ha) rfl ?_); clear ha; (try clear a); intro a ha
  refine wpList_nil ?_
  refine then_n ?_
  refine wp_seq ?_
  refine wp_region_lit ?_
  refine wpList_k (st_set ha rfl (ex_move ha) rfl ?_); clear ha; (try clear a); intro a ha
  refine wpList_k (st_set ha rfl (ex_move ha) rfl ?_); clear ha; (try clear a); intro a ha
  refine wpList_k (st_buildSlice ha rfl hs Try.underlying48 Ty.t5 rfl rfl rfl rfl (by decide) (by decide) ?_); clear ha hs; (try clear a); (try clear w); intro b44 a w ha hs ho
  clear ho
  refine wpList_k (st_buildSlice ha rfl hs Try.underlying48 Ty.t5 rfl rfl rfl rfl (by decide) (by decide) ?_); clear ha hs; (try clear a); (try clear w); intro b45 a w ha hs ho
  clear ho
  refine wpList_k (st_buildSlice ha rfl hs Try.underlying23 Ty.t48 rfl rfl rfl rfl (by decide) (by decide) ?_); clear ha hs; (try clear a); (try clear w); intro b46 a w ha hs ho
  clear ho
  refine wpList_k (st_call ha rfl Ty.c14 rfl (add_dup (T := ⟨2, [⟨1, 3, [[1, 2], [3, 4]], 0, 2⟩], 1, 0⟩) (j := 0) (y := ⟨1, 3, [[1, 2], [3, 4]], 0, 2⟩) (p := [[1, 2], [3, 4]]) (hs.tree tq) (fun w' h => (rdx2 (bs := [1, 2]) (bs2 := [3, 4]) (b1 := b44) (b2 := b45) (c := 2) (c2 := 2) h rfl rfl rfl rfl).bb) (by decide) ⟨by decide, by decide⟩ rfl ⟨rfl, rfl⟩) ?_); clear ha hs
  rintro e w ⟨rfl, hs⟩
  refine ⟨_, rfl, ?_⟩
  intro a ha
  refine wpList_k (st_set ha rfl (ex_move ha) rfl ?_); clear ha; (try clear a); intro a ha
  refine wpList_k (st_set ha rfl (ex_extract ha rfl) rfl ?_); clear ha; (try clear a); intro a ha
  refine wpList_k (st_set ha rfl (ex_extract ha rfl) rfl ?_); clear ha; (try clear a); intro a ha
  refine wpList_k (st_set ha rfl (ex_assign ha) rfl ?_); clear ha; (try clear a); intro a ha
  refine wpList_k (st_set ha rfl (ex_assign ha) rfl ?_); clear ha; (try clear a); intro a ha
  refine wpList_nil ?_
  refine then_n ?_
  refine wp_seq ?_
  refine wp_region_lit ?_
  refine wpList_k (st_set ha rfl (ex_move ha) rfl ?_); clear ha; (try clear a); intro a ha
  refine wpList_k (st_set ha rfl (ex_move ha) rfl ?_); clear ha; (try clear a); intro a ha
  refine wpList_k (st_call ha rfl Ty.c20 rfl (snap_fork (i := 0) (x := ⟨1, 1, fun _ => 0, t⟩) (hs.store q) rfl (by simp)) ?_); clear ha hs
  rintro e w ⟨rfl, hs⟩
  refine ⟨_, rfl, ?_⟩
  intro a ha
  change St W w (Store q r ⟨3, 20, 3, [⟨1, 1, fun _ => 0, t⟩, ⟨2, 1, fun _ => 0, t⟩, ⟨3, 1, fun _ => 0, t⟩]⟩ :: _) at hs
  refine wpList_k (st_set ha rfl (ex_move ha) rfl ?_); clear ha; (try clear a); intro a ha
  refine wpList_k (st_set ha rfl (ex_extract ha rfl) rfl ?_); clear ha; (try clear a); intro a ha
  refine wpList_k (st_set ha rfl (ex_extract ha rfl) rfl ?_); clear ha; (try clear a); intro a ha
  refine wpList_k (st_set ha rfl (ex_assign ha) rfl ?_); clear ha; (try clear a); intro a ha
  refine wpList_k (st_set ha rfl (ex_assign ha) rfl ?_); clear ha; (try clear a); intro a ha
  refine wpList_nil ?_
  refine then_n ?_
  refine wp_seq ?_
  refine wp_region_lit ?_
  refine wpList_k (st_set ha rfl (ex_move ha) rfl ?_); clear ha; (try clear a); intro a ha
  refine wpList_k (st_set ha rfl (ex_move ha) rfl ?_); clear ha; (try clear a); intro a ha
  refine wpList_k (st_set ha rfl (ex_move ha) rfl ?_); clear ha; (try clear a); intro a ha
  refine wpList_k (st_call ha rfl Ty.c21 rfl (publish_ok (k := 0) (x := ⟨1, 3, [[1, 2], [3, 4]], 0, 2⟩) (i := 2) (px := ⟨3, 1, fun _ => 0, t⟩) (d := 1) ((hs.store q).tree tq) rfl (by decide) (by decide) rfl) ?_); clear ha hs
  rintro e w ⟨rfl, hs⟩
  refine ⟨_, rfl, ?_⟩
  intro a ha
  change St W w (Tree tq q ⟨2, [⟨1, 3, [[1, 2], [3, 4]], 1, 3⟩], 1, 0⟩ :: Store q r ⟨3, 20, 3, [⟨1, 1, fun _ => 0, t⟩, ⟨3, 1, fun _ => 0, t⟩]⟩ :: _) at hs
  refine wpList_k (st_set ha rfl (ex_assign ha) rfl ?_); clear ha; (try clear a); intro a ha
  refine wpList_nil ?_
  refine then_n ?_
  refine wp_seq ?_
  refine wp_region_lit ?_
  refine wpList_k (st_set ha rfl (ex_move ha) rfl ?_); clear ha; (try clear a); intro a ha
  refine wpList_k (st_buildSlice ha rfl hs Try.underlying48 Ty.t5 rfl rfl rfl rfl (by decide) (by decide) ?_); clear ha hs; (try clear a); (try clear w); intro b62 a w ha hs ho
  clear ho
  refine wpList_k (st_buildSlice ha rfl hs Try.underlying48 Ty.t5 rfl rfl rfl rfl (by decide) (by decide) ?_); clear ha hs; (try clear a); (try clear w); intro b63 a w ha hs ho
  clear ho
  refine wpList_k (st_buildSlice ha rfl hs Try.underlying23 Ty.t48 rfl rfl rfl rfl (by decide) (by decide) ?_); clear ha hs; (try clear a); (try clear w); intro b64 a w ha hs ho
  clear ho
  refine wpList_k (st_call ha rfl Ty.c22 rfl (tree_best (frm := 3) (p := [[1, 2], [9, 9]]) (hs.tree tq) (fun w' h => (rdx2 (bs := [1, 2]) (bs2 := [9, 9]) (b1 := b62) (b2 := b63) (c := 2) (c2 := 2) h rfl rfl rfl rfl).bb) (by decide) ⟨by decide, by decide⟩) ?_); clear ha hs
  rintro e w ⟨adb, cb, rfl, hs⟩
  refine ⟨_, rfl, ?_⟩
  intro a ha
  rw [show Tr.best ⟨2, [⟨1, 3, [[1, 2], [3, 4]], 1, 3⟩], 1, 0⟩ 3 [[1, 2], [9, 9]] = ⟨1, 3, [[1, 2], [3, 4]], 1, 3⟩ from rfl] at ha
  refine wpList_k (st_set ha rfl (ex_move ha) rfl ?_); clear ha; (try clear a); intro a ha
  refine wpList_k (st_set ha rfl (ex_extract ha rfl) rfl ?_); clear ha; (try clear a); intro a ha
  refine wpList_k (st_set ha rfl (ex_extract ha rfl) rfl ?_); clear ha; (try clear a); intro a ha
  refine wpList_k (st_alloc ha rfl hs Ty.t42 rfl ?_); clear ha hs; (try clear a); (try clear w); intro b12 a w ha hs ho
  clear ho
  refine wpList_k (st_storeAll ha rfl hs Ty.t42 (brC_one ⟨1, 3, [[1, 2], [3, 4]], 1, 3⟩ adb cb) (by rfl) ?_); clear ha hs; (try clear a); (try clear w); intro a w ha hs
  refine wpList_k (st_set ha rfl (ex_assign ha) rfl ?_); clear ha; (try clear a); intro a ha
  refine wpList_nil ?_
  refine then_n ?_
  refine wp_seq ?_
  refine wp_region_lit ?_
  refine wpList_k (st_set ha rfl (ex_move ha) rfl ?_); clear ha; (try clear a); intro a ha
  refine wpList_k (st_buildSlice ha rfl hs Try.underlying48 Ty.t5 rfl rfl rfl rfl (by decide) (by decide) ?_); clear ha hs; (try clear a); (try clear w); intro b70 a w ha hs ho
  clear ho
  refine wpList_k (st_buildSlice ha rfl hs Try.underlying23 Ty.t48 rfl rfl rfl rfl (by decide) (by decide) ?_); clear ha hs; (try clear a); (try clear w); intro b71 a w ha hs ho
  clear ho
  refine wpList_k (st_call ha rfl Ty.c22 rfl (tree_best (frm := 3) (p := [[1, 3]]) (hs.tree tq) (fun w' h => (rdx1 (bs := [1, 3]) (b1 := b70) (c := 2) h rfl rfl).bb) (by decide) ⟨by decide, by decide⟩) ?_); clear ha hs
  rintro e w ⟨adb2, cb2, rfl, hs⟩
  refine ⟨_, rfl, ?_⟩
  intro a ha
  rw [show Tr.best ⟨2, [⟨1, 3, [[1, 2], [3, 4]], 1, 3⟩], 1, 0⟩ 3 [[1, 3]] = br0 from rfl] at ha
  refine wpList_k (st_set ha rfl (ex_move ha) rfl ?_); clear ha; (try clear a); intro a ha
  refine wpList_k (st_set ha rfl (ex_extract ha rfl) rfl ?_); clear ha; (try clear a); intro a ha
  refine wpList_k (st_set ha rfl (ex_extract ha rfl) rfl ?_); clear ha; (try clear a); intro a ha
  refine wpList_k (st_alloc ha rfl hs Ty.t42 rfl ?_); clear ha hs; (try clear a); (try clear w); intro b14 a w ha hs ho
  clear ho
  refine wpList_k (st_storeAll ha rfl hs Ty.t42 (brC_one br0 adb2 cb2) (by rfl) ?_); clear ha hs; (try clear a); (try clear w); intro a w ha hs
  refine wpList_k (st_set ha rfl (ex_assign ha) rfl ?_); clear ha; (try clear a); intro a ha
  refine wpList_nil ?_
  refine then_n ?_
  refine wp_seq ?_
  refine wp_region_lit ?_
  refine wpList_k (st_set ha rfl (ex_move ha) rfl ?_); clear ha; (try clear a); intro a ha
  refine wpList_k (st_buildSlice ha rfl hs Try.underlying48 Ty.t5 rfl rfl rfl rfl (by decide) (by decide) ?_); clear ha hs; (try clear a); (try clear w); intro b76 a w ha hs ho
  clear ho
  refine wpList_k (st_buildSlice ha rfl hs Try.underlying23 Ty.t48 rfl rfl rfl rfl (by decide) (by decide) ?_); clear ha hs; (try clear a); (try clear w); intro b77 a w ha hs ho
  clear ho
  refine wpList_k (st_call ha rfl Ty.c16 rfl (tree_prune (frm := 3) (p := [[5]]) ((hs.store q).tree tq) (by simp) (fun w' h => (rdx1 (bs := [5]) (b1 := b76) (c := 1) h rfl rfl).bb) (by decide) ⟨by decide, by decide⟩) ?_); clear ha hs
  rintro e w ⟨rfl, hs⟩
  refine ⟨_, rfl, ?_⟩
  intro a ha
  change St W w (Tree tq q ⟨2, [], 1, 1⟩ :: Store q r ⟨3, 20, 3, [⟨1, 1, fun _ => 0, t⟩]⟩ :: _) at hs
  refine wpList_k (st_set ha rfl (ex_assign ha) rfl ?_); clear ha; (try clear a); intro a ha
  refine wpList_nil ?_
  refine then_n ?_
  refine wp_seq ?_
  refine wp_region_lit ?_
  refine wpList_k (st_set ha rfl (ex_move ha) rfl ?_); clear ha; (try clear a); intro a ha
  refine wpList_k (st_set ha rfl (ex_eql ha) rfl ?_); clear ha; (try clear a); intro a ha
  refine wpList_k (st_set ha rfl (ex_move ha) rfl ?_); clear ha; (try clear a); intro a ha
  refine wpList_k (st_set ha (wgT ha rfl (s := 81)) (ex_move ha) rfl ?_); clear ha; (try clear a); intro a ha
  refine wpList_k (st_set ha rfl (ex_pickT ha) rfl ?_); clear ha; (try clear a); intro a ha
  refine wpList_k (st_set ha rfl (ex_move ha) rfl ?_); clear ha; (try clear a); intro a ha
  refine wpList_k (st_set ha (wgT ha rfl (s := 84)) (ex_move ha) rfl ?_); clear ha; (try clear a); intro a ha
  refine wpList_k (st_set ha (wgT ha rfl (s := 84)) (ex_not ha) rfl ?_); clear ha; (try clear a); intro a ha
  refine wpList_k (st_set ha rfl (ex_pickT ha) rfl ?_); clear ha; (try clear a); intro a ha
  refine wpList_k (st_set ha rfl (ex_move ha) rfl ?_); clear ha; (try clear a); intro a ha
  refine wpList_k (st_set ha (wgT ha rfl (s := 88)) (ex_move ha) rfl ?_); clear ha; (try clear a); intro a ha
  refine wpList_k (st_set ha rfl (ex_pickT ha) rfl ?_); clear ha; (try clear a); intro a ha
  refine wpList_k (st_set ha rfl (ex_move ha) rfl ?_); clear ha; (try clear a); intro a ha
  refine wpList_k (st_set ha (wgT ha rfl (s := 91)) (ex_move ha) rfl ?_); clear ha; (try clear a); intro a ha
  refine wpList_k (st_set ha rfl (ex_pickT ha) rfl ?_); clear ha; (try clear a); intro a ha
  refine wpList_k (st_set ha rfl (ex_move ha) rfl ?_); clear ha; (try clear a); intro a ha
  refine wpList_k (st_set ha (wgT ha rfl (s := 94)) (ex_fieldAddr (k := 3) ha Try.underlying42 rfl Ty.t3 rfl) rfl ?_); clear ha; (try clear a); intro a ha
  refine wpList_k (st_set ha (wgT ha rfl (s := 94)) (ex_load1 ha Try.underlying3 rfl (hs.rd1 rfl)) rfl ?_); clear ha; (try clear a); intro a ha
  refine wpList_k (st_set ha (wgT ha rfl (s := 94)) (ex_eql ha) rfl ?_); clear ha; (try clear a); intro a ha
  refine wpList_k (st_set ha rfl (ex_pickT ha) rfl ?_); clear ha; (try clear a); intro a ha
  refine wpList_k (st_set ha rfl (ex_move ha) rfl ?_); clear ha; (try clear a); intro a ha
  refine wpList_k (st_set ha (wgT ha rfl (s := 99)) (ex_fieldAddr (k := 4) ha Try.underlying42 rfl Ty.t30 rfl) rfl ?_); clear ha; (try clear a); intro a ha
  refine wpList_k (st_set ha (wgT ha rfl (s := 99)) (ex_load1 ha Try.underlying30 rfl (hs.rd1 rfl)) rfl ?_); clear ha; (try clear a); intro a ha
  refine wpList_k (st_set ha (wgT ha rfl (s := 99)) (ex_move ha) rfl ?_); clear ha; (try clear a); intro a ha
  refine wpList_k (st_set ha (wgT ha rfl (s := 99)) (ex_eql ha) rfl ?_); clear ha; (try clear a); intro a ha
  refine wpList_k (st_set ha rfl (ex_pickT ha) rfl ?_); clear ha; (try clear a); intro a ha
  refine wpList_k (st_set ha rfl (ex_move ha) rfl ?_); clear ha; (try clear a); intro a ha
  refine wpList_k (st_set ha (wgT ha rfl (s := 105)) (ex_move ha) rfl ?_); clear ha; (try clear a); intro a ha
  refine wpList_k (st_set ha (wgT ha rfl (s := 105)) (ex_not ha) rfl ?_); clear ha; (try clear a); intro a ha
  refine wpList_k (st_set ha rfl (ex_pickT ha) rfl ?_); clear ha; (try clear a); intro a ha
  refine wpList_k (st_set ha rfl (ex_move ha) rfl ?_); clear ha; (try clear a); intro a ha
  refine wpList_k (st_set ha (wgT ha rfl (s := 109)) (ex_move ha) rfl ?_); clear ha; (try clear a); intro a ha
  refine wpList_k (st_set ha (wgT ha rfl (s := 109)) (ex_eql ha) rfl ?_); clear ha; (try clear a); intro a ha
  refine wpList_k (st_set ha rfl (ex_pickT ha) rfl ?_); clear ha; (try clear a); intro a ha
  refine wpList_k (st_set ha rfl (ex_move ha) rfl ?_); clear ha; (try clear a); intro a ha
  refine wpList_k (st_set ha (wgT ha rfl (s := 113)) (ex_move ha) rfl ?_); clear ha; (try clear a); intro a ha
  refine wpList_k (st_call ha (wgT ha rfl (s := 113)) Ty.c19 rfl (tree_epoch (hs.tree tq)) ?_); clear ha hs
  rintro e w ⟨rfl, hs⟩
  refine ⟨_, rfl, ?_⟩
  intro a ha
  refine wpList_k (st_set ha (wgT ha rfl (s := 113)) (ex_eql ha) rfl ?_); clear ha; (try clear a); intro a ha
  refine wpList_k (st_set ha rfl (ex_pickT ha) rfl ?_); clear ha; (try clear a); intro a ha
  refine wpList_k (st_set ha rfl (ex_move ha) rfl ?_); clear ha; (try clear a); intro a ha
  refine wpList_k (st_set ha (wgT ha rfl (s := 118)) (ex_move ha) rfl ?_); clear ha; (try clear a); intro a ha
  refine wpList_k (st_call ha (wgT ha rfl (s := 118)) Ty.c15 rfl (tree_all (hs.tree tq)) ?_); clear ha hs
  rintro e w ⟨ad1, c1, rfl, hs⟩
  refine ⟨_, rfl, ?_⟩
  intro a ha
  refine wpList_k (st_set ha (wgT ha rfl (s := 118)) (ex_len ha Try.underlying37) rfl ?_); clear ha; (try clear a); intro a ha
  refine wpList_k (st_set ha (wgT ha rfl (s := 118)) (ex_eql ha) rfl ?_); clear ha; (try clear a); intro a ha
  refine wpList_k (st_set ha rfl (ex_pickT ha) rfl ?_); clear ha; (try clear a); intro a ha
  refine wpList_k (st_set ha rfl (ex_move ha) rfl ?_); clear ha; (try clear a); intro a ha
  refine wpList_k (st_set ha (wgT ha rfl (s := 124)) (ex_move ha) rfl ?_); clear ha; (try clear a); intro a ha
  refine wpList_k (st_call ha (wgT ha rfl (s := 124)) Ty.c18 rfl (snap_live (hs.store q)) ?_); clear ha hs
  rintro e w ⟨ad2, c2, rfl, hs⟩
  refine ⟨_, rfl, ?_⟩
  intro a ha
  refine wpList_k (st_set ha (wgT ha rfl (s := 124)) (ex_len ha Try.underlying43) rfl ?_); clear ha; (try clear a); intro a ha
  refine wpList_k (st_set ha (wgT ha rfl (s := 124)) (ex_eql ha) rfl ?_); clear ha; (try clear a); intro a ha
  refine wpList_k (st_set ha rfl (ex_pickT ha) rfl ?_); clear ha; (try clear a); intro a ha
  replace ha := ha.del 0
  refine wpList_k (st_set ha rfl (ex_assign ha) rfl ?_); clear ha; (try clear a); intro a ha
  refine wpList_nil ?_
  refine then_n ?_
  refine wp_ret ?_
  refine ret1 ha rfl ?_
  exact ⟨rfl, hs.sub⟩
theorem branchNone_walk (W : World) : Calls Try.prog 6 #[] W fun e w' => e = .returned (.bool true) ∧ Below W.heap.size W w' := by
  have hs := St.start W
  refine calls_enter Try.func6 rfl Try.ntmps6 (Nat.le_of_ble_eq_true rfl) ?_
  intro a ha
  replace ha : Fr a 66 [] := ha
  refine wp_seq ?_
  refine wp_region_lit ?_
  refine wpList_k (st_set ha rfl (ex_assign ha) rfl ?_); clear ha; (try clear a); intro a ha
  refine wpList_nil ?_
  refine then_n ?_
  refine wp_seq ?_
  refine wp_region_lit ?_
  refine wpList_k (st_set ha rfl (ex_assign ha) rfl ?_); clear ha; (try clear a); intro a ha
  refine wpList_nil ?_
  refine then_n ?_
  refine wp_seq ?_
  refine wp_region_lit ?_
  refine wpList_k (st_set ha rfl (ex_move ha) rfl ?_); clear ha; (try clear a); intro a ha
  refine wpList_k (st_buildSlice ha rfl hs Try.underlying48 Ty.t5 rfl rfl rfl rfl (by decide) (by decide) ?_); clear ha hs; (try clear a); (try clear w); intro b10 a w ha hs ho
  clear ho
  refine wpList_k (st_buildSlice ha rfl hs Try.underlying23 Ty.t48 rfl rfl rfl rfl (by decide) (by decide) ?_); clear ha hs; (try clear a); (try clear w); intro b11 a w ha hs ho
  clear ho
  refine wpList_k (st_call ha rfl Ty.c14 rfl (add_nil hs) ?_); clear ha hs
  rintro e w ⟨rfl, hs⟩
  refine ⟨_, rfl, ?_⟩
  intro a ha
  refine wpList_k (st_set ha rfl (ex_move ha) rfl ?_); clear ha; (try clear a); intro a ha
  refine wpList_k (st_set ha rfl (ex_extract ha rfl) rfl ?_); clear ha; (try clear a); intro a ha
  refine wpList_k (st_set ha rfl (ex_extract ha rfl) rfl ?_); clear ha; (try clear a); intro a ha
  refine wpList_k (st_set ha rfl (ex_assign ha) rfl ?_); clear ha; (try clear a); intro a ha
  refine wpList_k (st_set ha rfl (ex_assign ha) rfl ?_); clear ha; (try clear a); intro a ha
  refine wpList_nil ?_
  refine then_n ?_
  refine wp_seq ?_
  refine wp_region_lit ?_
  refine wpList_k (st_set ha rfl (ex_move ha) rfl ?_); clear ha; (try clear a); intro a ha
  refine wpList_k (st_call ha rfl Ty.c26 rfl (tree_get_nil hs) ?_); clear ha hs
  rintro e w ⟨rfl, hs⟩
  refine ⟨_, rfl, ?_⟩
  intro a ha
  refine wpList_k (st_set ha rfl (ex_move ha) rfl ?_); clear ha; (try clear a); intro a ha
  refine wpList_k (st_set ha rfl (ex_extract ha rfl) rfl ?_); clear ha; (try clear a); intro a ha
  refine wpList_k (st_set ha rfl (ex_extract ha rfl) rfl ?_); clear ha; (try clear a); intro a ha
  refine wpList_k (st_alloc ha rfl hs Ty.t42 rfl ?_); clear ha hs; (try clear a); (try clear w); intro b4 a w ha hs ho
  clear ho
  refine wpList_k (st_storeAll ha rfl hs Ty.t42 (brC_one ⟨0, 0, [], 0, 0⟩ none 0) (by rfl) ?_); clear ha hs; (try clear a); (try clear w); intro a w ha hs
  refine wpList_k (st_set ha rfl (ex_assign ha) rfl ?_); clear ha; (try clear a); intro a ha
  refine wpList_nil ?_
  refine then_n ?_
  refine wp_seq ?_
  refine wp_region_lit ?_
  refine wpList_k (st_set ha rfl (ex_move ha) rfl ?_); clear ha; (try clear a); intro a ha
  refine wpList_k (st_buildSlice ha rfl hs Try.underlying48 Ty.t5 rfl rfl rfl rfl (by decide) (by decide) ?_); clear ha hs; (try clear a); (try clear w); intro b22 a w ha hs ho
  clear ho
  refine wpList_k (st_buildSlice ha rfl hs Try.underlying23 Ty.t48 rfl rfl rfl rfl (by decide) (by decide) ?_); clear ha hs; (try clear a); (try clear w); intro b23 a w ha hs ho
  clear ho
  refine wpList_k (st_call ha rfl Ty.c22 rfl (best_nil hs) ?_); clear ha hs
  rintro e w ⟨rfl, hs⟩
  refine ⟨_, rfl, ?_⟩
  intro a ha
  refine wpList_k (st_set ha rfl (ex_move ha) rfl ?_); clear ha; (try clear a); intro a ha
  refine wpList_k (st_set ha rfl (ex_extract ha rfl) rfl ?_); clear ha; (try clear a); intro a ha
  refine wpList_k (st_set ha rfl (ex_extract ha rfl) rfl ?_); clear ha; (try clear a); intro a ha
  refine wpList_k (st_alloc ha rfl hs Ty.t42 rfl ?_); clear ha hs; (try clear a); (try clear w); intro b6 a w ha hs ho
  clear ho
  refine wpList_k (st_storeAll ha rfl hs Ty.t42 (brC_one br0 none 0) (by rfl) ?_); clear ha hs; (try clear a); (try clear w); intro a w ha hs
  refine wpList_k (st_set ha rfl (ex_assign ha) rfl ?_); clear ha; (try clear a); intro a ha
  refine wpList_nil ?_
  refine then_n ?_
  refine wp_seq ?_
  refine wp_region_lit ?_
  refine wpList_k (st_call ha rfl Ty.c9 rfl (begun23 hs) ?_); clear ha hs
  rintro e w ⟨rfl, hs⟩
  refine ⟨_, rfl, ?_⟩
  intro a ha
  refine wpList_k (st_set ha rfl (ex_move ha) rfl ?_); clear ha; (try clear a); intro a ha
  refine wpList_k (st_set ha (wgT ha rfl (s := 28)) (ex_move ha) rfl ?_); clear ha; (try clear a); intro a ha
  refine wpList_k (st_set ha (wgT ha rfl (s := 28)) (ex_not ha) rfl ?_); clear ha; (try clear a); intro a ha
  refine wpList_k (st_set ha rfl (ex_pickT ha) rfl ?_); clear ha; (try clear a); intro a ha
  refine wpList_k (st_set ha rfl (ex_move ha) rfl ?_); clear ha; (try clear a); intro a ha
  refine wpList_k (st_set ha (wgT ha rfl (s := 32)) (ex_move ha) rfl ?_); clear ha; (try clear a); intro a ha
  refine wpList_k (st_set ha (wgT ha rfl (s := 32)) (ex_not ha) rfl ?_); clear ha; (try clear a); intro a ha
  refine wpList_k (st_set ha rfl (ex_pickT ha) rfl ?_); clear ha; (try clear a); intro a ha
  refine wpList_k (st_set ha rfl (ex_move ha) rfl ?_); clear ha; (try clear a); intro a ha
  refine wpList_k (st_set ha (wgT ha rfl (s := 36)) (ex_move ha) rfl ?_); clear ha; (try clear a); intro a ha
  refine wpList_k (st_set ha (wgT ha rfl (s := 36)) (ex_not ha) rfl ?_); clear ha; (try clear a); intro a ha
  refine wpList_k (st_set ha rfl (ex_pickT ha) rfl ?_); clear ha; (try clear a); intro a ha
  refine wpList_k (st_set ha rfl (ex_move ha) rfl ?_); clear ha; (try clear a); intro a ha
  refine wpList_k (st_set ha (wgT ha rfl (s := 40)) (ex_move ha) rfl ?_); clear ha; (try clear a); intro a ha
  refine wpList_k (st_call ha (wgT ha rfl (s := 40)) Ty.c21 rfl (publish_nil hs) ?_); clear ha hs
  rintro e w ⟨rfl, hs⟩
  refine ⟨_, rfl, ?_⟩
  intro a ha
  refine wpList_k (st_set ha (wgT ha rfl (s := 40)) (ex_not ha) rfl ?_); clear ha; (try clear a); intro a ha
  refine wpList_k (st_set ha rfl (ex_pickT ha) rfl ?_); clear ha; (try clear a); intro a ha
  refine wpList_k (st_set ha rfl (ex_move ha) rfl ?_); clear ha; (try clear a); intro a ha
  refine wpList_k (st_set ha (wgT ha rfl (s := 45)) (ex_move ha) rfl ?_); clear ha; (try clear a); intro a ha
  refine wpList_k (st_call ha (wgT ha rfl (s := 45)) Ty.c16 rfl (prune_nil hs) ?_); clear ha hs
  rintro e w ⟨rfl, hs⟩
  refine ⟨_, rfl, ?_⟩
  intro a ha
  refine wpList_k (st_set ha (wgT ha rfl (s := 45)) (ex_eql ha) rfl ?_); clear ha; (try clear a); intro a ha
  refine wpList_k (st_set ha rfl (ex_pickT ha) rfl ?_); clear ha; (try clear a); intro a ha
  refine wpList_k (st_set ha rfl (ex_move ha) rfl ?_); clear ha; (try clear a); intro a ha
  refine wpList_k (st_set ha (wgT ha rfl (s := 50)) (ex_move ha) rfl ?_); clear ha; (try clear a); intro a ha
  refine wpList_k (st_call ha (wgT ha rfl (s := 50)) Ty.c25 rfl (clear_nil hs) ?_); clear ha hs
  rintro e w ⟨rfl, hs⟩
  refine ⟨_, rfl, ?_⟩
  intro a ha
  refine wpList_k (st_set ha (wgT ha rfl (s := 50)) (ex_eql ha) rfl ?_); clear ha; (try clear a); intro a ha
  refine wpList_k (st_set ha rfl (ex_pickT ha) rfl ?_); clear ha; (try clear a); intro a ha
  refine wpList_k (st_set ha rfl (ex_move ha) rfl ?_); clear ha; (try clear a); intro a ha
  refine wpList_k (st_set ha (wgT ha rfl (s := 55)) (ex_move ha) rfl ?_); clear ha; (try clear a); intro a ha
  refine wpList_k (st_call ha (wgT ha rfl (s := 55)) Ty.c15 rfl (all_nil hs) ?_); clear ha hs
  rintro e w ⟨rfl, hs⟩
  refine ⟨_, rfl, ?_⟩
  intro a ha
  refine wpList_k (st_set ha (wgT ha rfl (s := 55)) (ex_len ha Try.underlying37) rfl ?_); clear ha; (try clear a); intro a ha
  refine wpList_k (st_set ha (wgT ha rfl (s := 55)) (ex_eql ha) rfl ?_); clear ha; (try clear a); intro a ha
  refine wpList_k (st_set ha rfl (ex_pickT ha) rfl ?_); clear ha; (try clear a); intro a ha
  refine wpList_k (st_set ha rfl (ex_move ha) rfl ?_); clear ha; (try clear a); intro a ha
  refine wpList_k (st_set ha (wgT ha rfl (s := 61)) (ex_move ha) rfl ?_); clear ha; (try clear a); intro a ha
  refine wpList_k (st_call ha (wgT ha rfl (s := 61)) Ty.c19 rfl (epoch_nil hs) ?_); clear ha hs
  rintro e w ⟨rfl, hs⟩
  refine ⟨_, rfl, ?_⟩
  intro a ha
  refine wpList_k (st_set ha (wgT ha rfl (s := 61)) (ex_eql ha) rfl ?_); clear ha; (try clear a); intro a ha
  refine wpList_k (st_set ha rfl (ex_pickT ha) rfl ?_); clear ha; (try clear a); intro a ha
  replace ha := ha.del 0
  refine wpList_k (st_set ha rfl (ex_assign ha) rfl ?_); clear ha; (try clear a); intro a ha
  refine wpList_nil ?_
  refine then_n ?_
  refine wp_ret ?_
  refine ret1 ha rfl ?_
  exact ⟨rfl, hs.below⟩
end
end Go.Proofs.Ytkjmmchmanofkaa

