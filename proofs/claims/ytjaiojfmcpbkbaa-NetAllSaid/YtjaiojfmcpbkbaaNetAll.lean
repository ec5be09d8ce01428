/- NetAll. -/
import Derived.Test.YtjaiojfmcpbkbaaNetMid
namespace Go.Proofs.Ytjaiojfmcpbkbaa
open Go.RowKit
set_option linter.unusedVariables false
set_option linter.unusedSimpArgs false
set_option maxRecDepth 10000
set_option synthInstance.maxSize 4000
set_option synthInstance.maxHeartbeats 400000

section
variable {P : Program} {ops : Array Oper} {Q : Exit → Act → World → Prop} {C : World → Prop} {need : List Nat} {a : Act} {w : World}
/-- Two operations that act may come, each first. -/
theorem nt_two {i j fuel : Nat} {listed li lj : Array Bool} (hli : listed.setIfInBounds i true = li) (hlj : listed.setIfInBounds j true = lj) {o o' : Oper} (hr : Region.ready .any ops listed = [i, j]) (hi : ops[i]? = some o) (hj : ops[j]? = some o')
    (h1 : StepK P ops Q o (fun a' w' => (need.contains i = true → C w') ∧ wpN P ops Q C need fuel li a' w') a w) (h2 : StepK P ops Q o' (fun a' w' => (need.contains j = true → C w') ∧ wpN P ops Q C need fuel lj a' w') a w) : wpN P ops Q C need (fuel + 1) listed a w := by
  subst hli; subst hlj
  refine ⟨fun h0 => (by rw [hr] at h0; cases h0), fun k hk => ?_⟩
  rw [hr] at hk
  rcases List.mem_cons.1 hk with rfl | hk
  · simp only [wpOp, hi]; exact h1
  · obtain rfl := List.mem_singleton.1 hk
    simp only [wpOp, hj]; exact h2
end
theorem St.oldRd {W w : World} {L : List SP} (hs : St W w L) {b off : Nat} {vs : List Value} (hb : b < W.heap.size) (h : Rd W b off vs) : Rd w b off vs :=
  fun j v hj => (hs.old hb).trans (h j v hj)
theorem own_del {W w : World} {q K c : Nat} {ad : Option Addr} {xs : List Ml} (hK : K < xs.length)
    (hs : St W w [Bys xs, Sl 29 3 ad (K + (xs.length - (K + 1))) c (mlc (xs.take K) ++ mlc (xs.drop (K + 1))), Net q ((xs.map Ml.m).eraseIdx K)]) :
    St W w [Net q ((xs.eraseIdx K).map Ml.m), Sl 29 3 ad (xs.eraseIdx K).length c (mlc (xs.eraseIdx K)), Bys (xs.eraseIdx K)] := by
  have h0 : xs = xs.take K ++ xs[K] :: xs.drop (K + 1) := by rw [← List.drop_eq_getElem_cons hK, List.take_append_drop]
  have h1 := hs
  rw [show Bys xs = Bys (xs.take K ++ xs[K] :: xs.drop (K + 1)) from by rw [← h0]] at h1
  have h2 := (Bys.out h1).tail
  rw [← mlc_app, ← List.eraseIdx_eq_take_drop_succ, show K + (xs.length - (K + 1)) = (xs.eraseIdx K).length from by rw [List.length_eraseIdx, if_pos hK]; omega] at h2
  rw [show (xs.map Ml.m).eraseIdx K = (xs.eraseIdx K).map Ml.m from by simp only [List.eraseIdx_eq_take_drop_succ, List.map_append, List.map_take, List.map_drop]] at h2
  exact h2.sub
theorem tail_rd {W w : World} {L R : List SP} {ad : Option Addr} {c K : Nat} {xs : List Ml} (hs : St W w L) [pk : PickSl L ad xs.length c 29 3 (mlc xs) R] (hK : K < xs.length) :
    0 < xs.length - (K + 1) → ∃ b2 off2, cutAd ad (K + 1) c 3 = some ⟨b2, off2, none⟩ ∧ Rd w b2 off2 (mlc (xs.drop (K + 1))) := by
  intro h
  have hc := (hs.sl ad).2
  obtain ⟨b', off', e, hrd⟩ := hs.slRd ad (by omega)
  refine ⟨b', off' + (K + 1) * 3, by rw [e, cutAd_some (by omega)], ?_⟩
  have := hrd.part ((K + 1) * 3) (mlc xs).length
  rw [List.take_of_length_le (by rw [List.length_drop]; omega), mlc_drop] at this
  exact this

theorem set_same {ms : List Mm} {K : Nat} {m : Mm} (h : ms[K]? = some m) : ms.set K m = ms := by
  obtain ⟨hi, he⟩ := List.getElem?_eq_some_iff.1 h
  rw [← he, List.set_getElem_self]
theorem Net.small {W w : World} {L : List SP} {q : Nat} {ms : List Mm} (hs : St W w (Net q ms :: L)) : ∀ x ∈ ms, x.2.2.length ≤ 1000 :=
  hs.tell fun h ⟨i, ⟨h1, _, h3⟩, _⟩ => by
    intro x hx
    rw [← h1] at hx
    obtain ⟨y, hy, rfl⟩ := List.mem_map.1 hx
    exact h3 y hy
theorem set_mid2 {p q r : List Value} {i j : Nat} {v : Value} (h : i + j < q.length) : (p ++ q ++ r).set (p.length + i + j) v = p ++ q.set (i + j) v ++ r := by
  rw [Nat.add_assoc]; exact set_mid h
theorem mlc_set {xs : List Ml} {K : Nat} (hK : K < xs.length) {ad : Option Addr} {n c : Nat} {m' : Ml} (h : m'.cells = [.int .i64 xs[K].frm, .int .i64 xs[K].to, .slice ad n c]) : (mlc xs).set (K * 3 + 2) (.slice ad n c) = mlc (xs.set K m') := by
  have h0 : xs = xs.take K ++ xs[K] :: xs.drop (K + 1) := by rw [← List.drop_eq_getElem_cons hK, List.take_append_drop]
  have hr : xs.set K m' = xs.take K ++ m' :: xs.drop (K + 1) := by rw [List.set_eq_take_append_cons_drop, if_pos hK]
  rw [hr]
  conv => lhs; rw [h0]
  rw [mlc_app, mlc_app]
  have hl : (mlc (xs.take K)).length = K * 3 := by rw [mlc_len, List.length_take]; omega
  rw [List.set_append_right _ _ (by omega), hl, show K * 3 + 2 - K * 3 = 2 from by omega]
  congr 1
  simp only [mlc, List.flatMap_cons, h]
  rfl
set_option maxHeartbeats 3200000 in
theorem netAll_walk (ar : Option Addr) (len cap : Nat) (W : World) (w0 : NetOps W ar len cap) :
    Calls Try.prog 3 #[.slice ar len cap] W fun e w' => e = .returned (.bool true) ∧ Below W.heap.size W w' := by
  have hs := St.start W
  have hlen := w0.1
  refine calls_enter Try.func3 rfl Try.ntmps3 (Nat.le_of_ble_eq_true rfl) ?_
  intro a ha
  replace ha : Fr a 223 [(0, _)] := ha
  refine wp_seq ?_
  refine wp_region_lit ?_
  refine wpList_k (st_set ha rfl (ex_assign ha) rfl ?_); clear ha; (try clear a); intro a ha
  refine wpList_nil ?_
  refine then_n ?_
  refine wp_seq ?_
  refine wp_region_lit ?_
  refine wpList_k (st_call ha rfl Ty.c8 rfl (begun16 hs) ?_); clear ha hs
  rintro e w ⟨rfl, hs⟩
  refine ⟨_, rfl, ?_⟩
  intro a ha
  refine wpList_k (st_set ha rfl (ex_assign ha) rfl ?_); clear ha; (try clear a); intro a ha
  refine wpList_nil ?_
  refine then_n ?_
  refine wp_seq ?_
  refine wp_seq ?_
  refine wp_region_lit ?_
  refine wpList_k (st_set ha rfl (ex_move ha) rfl ?_); clear ha; (try clear a); intro a ha
  refine wpList_k (st_set ha rfl (ex_not ha) rfl ?_); clear ha; (try clear a); intro a ha
  refine wpList_nil ?_
  refine then_n ?_
  refine wp_ifF ha ?_
  refine wp_skip ?_
  refine then_n ?_
  refine wp_seq ?_
  refine wp_region_lit ?_
  refine wpList_k (st_call ha rfl Ty.c9 rfl (new_spec hs) ?_); clear ha hs
  rintro e w ⟨q, rfl, hs⟩
  refine ⟨_, rfl, ?_⟩
  intro a ha
  refine wpList_k (st_set ha rfl (ex_assign ha) rfl ?_); clear ha; (try clear a); intro a ha
  refine wpList_nil ?_
  refine then_n ?_
  refine wp_seq ?_
  refine wp_region_lit ?_
  refine wpList_k (st_set ha rfl (ex_assign ha) rfl ?_); clear ha; (try clear a); intro a ha
  refine wpList_nil ?_
  refine then_n ?_
  refine wp_seq ?_
  refine wp_seq ?_
  refine wp_region_lit ?_
  refine wpList_k (st_set ha rfl (ex_assign ha) rfl ?_); clear ha; (try clear a); intro a ha
  refine wpList_nil ?_
  refine then_n ?_
  refine wp_block ?_
  refine wp_loop_ghost (fun μ a w => ∃ (i c : Nat) (xs : List Ml) (ad : Option Addr), (μ = 60 - i ∧ i ≤ 60 ∧ xs.length ≤ i) ∧ Fr a 223 [(0, .slice ar len cap), (2, .bool false), (4, .pointer (some ⟨q, 0, none⟩)), (5, .slice ad xs.length c), (6, .int .i64 i)] ∧ St W w [Net q (xs.map Ml.m), Sl 29 3 ad xs.length c (mlc xs), Bys xs]) (60) ?_ ?_
  · exact ⟨0, 0, [], none, ⟨by simp, by simp, by simp⟩, ha.keep [0, 2, 4, 5, 6], ((Bys.nil (hs.sl0 29 3 none)).sub (M := [Net q [], Sl 29 3 none 0 0 [], Bys []]))⟩
  ·
    clear ha hs
    rintro μ a w ⟨i, c, xs, ad, ⟨rfl, hi, hxl⟩, ha, hs⟩
    refine wp_seq ?_
    refine wp_seq ?_
    refine wp_region_lit ?_
    refine wpList_k (st_set ha rfl (ex_move ha) rfl ?_); clear ha; (try clear a); intro a ha
    refine wpList_k (st_set ha rfl (ex_move ha) rfl ?_); clear ha; (try clear a); intro a ha
    refine wpList_k (st_set ha rfl (ex_len ha Try.underlying22) rfl ?_); clear ha; (try clear a); intro a ha
    refine wpList_k (st_set ha rfl (ex_lss ha) rfl ?_); clear ha; (try clear a); intro a ha
    refine wpList_k (st_set ha rfl (ex_move ha) rfl ?_); clear ha; (try clear a); intro a ha
    refine ha.bool (s := 25) (fun hg4 ha => ?_) (fun hg4 ha => ?_)
    ·
      try simp only [decide_eq_true_eq, decide_eq_false_iff_not, Bool.not_eq_true', Bool.not_eq_false', Int.not_lt, Int.not_le, ne_eq, Decidable.not_not] at hg4
      refine wpList_k (st_set ha (wgT ha rfl (s := 25)) (ex_move ha) rfl ?_); clear ha; (try clear a); intro a ha
      refine wpList_k (st_set ha (wgT ha rfl (s := 25)) (ex_lss ha) rfl ?_); clear ha; (try clear a); intro a ha
      refine wpList_k (st_set ha rfl (ex_pickT ha) rfl ?_); clear ha; (try clear a); intro a ha
      refine wpList_nil ?_
      refine then_n ?_
      refine wp_if ha (fun hc1 => ?_) (fun hc1 => ?_)
      ·
        try simp only [decide_eq_true_eq, decide_eq_false_iff_not, Bool.not_eq_true', Bool.not_eq_false', Int.not_lt, Int.not_le, ne_eq, Decidable.not_not] at hc1
        obtain ⟨b, off, k, I, At, x, f, t, sa, sl, sc, bs, rfl, hb, hop, hsc, hsn, hbr⟩ := w0.get (i := i) (by omega)
        refine wp_skip ?_
        refine then_n ?_
        refine wp_seq ?_
        refine wp_block ?_
        refine wp_seq ?_
        refine wp_region_lit ?_
        refine wpList_k (st_set ha rfl (ex_move ha) rfl ?_); clear ha; (try clear a); intro a ha
        refine wpList_k (st_set ha rfl (ex_move ha) rfl ?_); clear ha; (try clear a); intro a ha
        refine wpList_k (st_set ha rfl (ex_indexAddr ha Try.underlying22 Ty.t31 (by omega)) rfl ?_); clear ha; (try clear a); intro a ha
        refine wpList_k (st_set ha rfl (ex_loadN ha Try.underlying31 rfl Ty.t31 (hs.oldRd hb hop)) rfl ?_); clear ha; (try clear a); intro a ha
        refine wpList_k (st_alloc ha rfl hs Ty.t31 rfl ?_); clear ha hs; (try clear a); (try clear w); intro b7 a w ha hs ho
        clear ho
        refine wpList_k (st_storeAll ha rfl hs Ty.t31 (by simp [Value.oneCell']) (by rfl) ?_); clear ha hs; (try clear a); (try clear w); intro a w ha hs
        refine wpList_nil ?_
        refine then_n ?_
        refine wp_seq_cut (M := fun a w => ∃ (b8 : Nat) (ad45 : Option Addr) (c45 : Nat), Fr a 223 [(0, .slice (some ⟨b, off, none⟩) len cap), (2, .bool false), (4, .pointer (some ⟨q, 0, none⟩)), (5, .slice ad xs.length c), (6, .int .i64 i), (7, .pointer (some ⟨b7, 0, none⟩)), (8, .pointer (some ⟨b8, 0, none⟩))] ∧ (bs.take 40).length ≤ 40 ∧ St W w [blk b8 29 [.int .i64 f, .int .i64 t, .slice ad45 (bs.take 40).length c45], Sl 5 1 ad45 (bs.take 40).length c45 (bc (bs.take 40)), blk b7 31 [.int .i64 k, .int .i64 I, .int .i64 At, .int .u8 (x.toNat : Int), .int .i64 f, .int .i64 t, .slice sa sl sc], Net q (xs.map Ml.m), Sl 29 3 ad xs.length c (mlc xs), Bys xs]) ?_ ?_
        ·
          refine wp_draw (m := 14) (l0 := #[false, false, false, false, false, false, false, false, false, false, false, false, false, false]) (fun w' => Rd w' b7 0 [.int .i64 k, .int .i64 I, .int .i64 At, .int .u8 (x.toNat : Int), .int .i64 f, .int .i64 t, .slice sa sl sc]) [5, 8, 9, 10, 12] Ty.mixed (by kernel_rfl) (by kernel_rfl) ?_
          replace hs := hs.drew
          generalize w.drew = w at hs ⊢
          have hC : Rd w b7 0 [.int .i64 k, .int .i64 I, .int .i64 At, .int .u8 (x.toNat : Int), .int .i64 f, .int .i64 t, .slice sa sl sc] := hs.rdAll
          refine nt_pure (i := 0) (listed' := #[true, false, false, false, false, false, false, false, false, false, false, false, false, false]) (by kernel_rfl) rfl (by kernel_rfl) (by decide) (pk_then (pk_blk (pk_then (pk_then (pk_blk (pk_then pk_body)))))) ha rfl (fun w => ex_fieldAddr ha Try.underlying31 rfl Ty.t29 rfl) rfl ?_; clear ha; (try clear a); intro a ha
          refine nt_pure (i := 1) (listed' := #[true, true, false, false, false, false, false, false, false, false, false, false, false, false]) (by kernel_rfl) rfl (by kernel_rfl) (by decide) (pk_then (pk_blk (pk_then (pk_then (pk_blk (pk_then pk_body)))))) ha rfl (fun w => ex_fieldAddr ha Try.underlying29 rfl Ty.t3 rfl) rfl ?_; clear ha; (try clear a); intro a ha
          refine nt_pure (i := 3) (listed' := #[true, true, false, true, false, false, false, false, false, false, false, false, false, false]) (by kernel_rfl) rfl (by kernel_rfl) (by decide) (pk_then (pk_blk (pk_then (pk_then (pk_blk (pk_then pk_body)))))) ha rfl (fun w => ex_fieldAddr ha Try.underlying31 rfl Ty.t29 rfl) rfl ?_; clear ha; (try clear a); intro a ha
          refine nt_pure (i := 4) (listed' := #[true, true, false, true, true, false, false, false, false, false, false, false, false, false]) (by kernel_rfl) rfl (by kernel_rfl) (by decide) (pk_then (pk_blk (pk_then (pk_then (pk_blk (pk_then pk_body)))))) ha rfl (fun w => ex_fieldAddr ha Try.underlying29 rfl Ty.t3 rfl) rfl ?_; clear ha; (try clear a); intro a ha
          refine nt_pure (i := 6) (listed' := #[true, true, false, true, true, false, true, false, false, false, false, false, false, false]) (by kernel_rfl) rfl (by kernel_rfl) (by decide) (pk_then (pk_blk (pk_then (pk_then (pk_blk (pk_then pk_body)))))) ha rfl (fun w => ex_fieldAddr ha Try.underlying31 rfl Ty.t29 rfl) rfl ?_; clear ha; (try clear a); intro a ha
          refine nt_pure (i := 7) (listed' := #[true, true, false, true, true, false, true, true, false, false, false, false, false, false]) (by kernel_rfl) rfl (by kernel_rfl) (by decide) (pk_then (pk_blk (pk_then (pk_then (pk_blk (pk_then pk_body)))))) ha rfl (fun w => ex_fieldAddr ha Try.underlying29 rfl Ty.t27 rfl) rfl ?_; clear ha; (try clear a); intro a ha
          refine nt_held (i := 2) (listed' := #[true, true, true, true, true, false, true, true, false, false, false, false, false, false]) (by kernel_rfl) rfl (by kernel_rfl) (pk_then (pk_blk (pk_then (pk_then (pk_blk (pk_then pk_body)))))) ha rfl (fun w hc => ex_load1 ha Try.underlying3 rfl (hc 4 _ rfl)) hC rfl ?_; clear ha; (try clear a); intro a ha
          refine nt_held (i := 5) (listed' := #[true, true, true, true, true, true, true, true, false, false, false, false, false, false]) (by kernel_rfl) rfl (by kernel_rfl) (pk_then (pk_blk (pk_then (pk_then (pk_blk (pk_then pk_body)))))) ha rfl (fun w hc => ex_load1 ha Try.underlying3 rfl (hc 5 _ rfl)) hC rfl ?_; clear ha; (try clear a); intro a ha
          refine nt_held (i := 8) (listed' := #[true, true, true, true, true, true, true, true, true, false, false, false, false, false]) (by kernel_rfl) rfl (by kernel_rfl) (pk_then (pk_blk (pk_then (pk_then (pk_blk (pk_then pk_body)))))) ha rfl (fun w hc => ex_load1 ha Try.underlying27 rfl (hc 6 _ rfl)) hC rfl ?_; clear ha; (try clear a); intro a ha
          refine nt_two (i := 9) (j := 12) (li := #[true, true, true, true, true, true, true, true, true, true, false, false, false, false]) (lj := #[true, true, true, true, true, true, true, true, true, false, false, false, true, false]) (by kernel_rfl) (by kernel_rfl) (by kernel_rfl) rfl rfl ?_ ?_
          ·
            refine st_call ha rfl Ty.c10 rfl (short_spec hs hbr hsc) ?_; clear ha hs
            rintro e w ⟨sa', sl', sc', rfl, hs40, hbr', hs⟩
            refine ⟨_, rfl, ?_⟩
            intro a ha
            refine ⟨fun _ => ?_, ?_⟩
            · exact hs.rdAll
            obtain rfl : sl' = (bs.take 40).length := (hbr' _ _ hs).1.symm
            refine nt_two (i := 10) (j := 12) (li := #[true, true, true, true, true, true, true, true, true, true, true, false, false, false]) (lj := #[true, true, true, true, true, true, true, true, true, true, false, false, true, false]) (by kernel_rfl) (by kernel_rfl) (by kernel_rfl) rfl rfl ?_ ?_
            ·
              refine st_appendB ha rfl hs Try.underlying27 Ty.t5 rfl rfl (by decide) (hbr' _ _ hs) (by omega) ?_; clear ha hs; (try clear a); (try clear w); intro ad45 c45 a w ha hs
              refine ⟨fun _ => hs.rdAll, ?_⟩
              refine nt_pure (i := 11) (listed' := #[true, true, true, true, true, true, true, true, true, true, true, true, false, false]) (by kernel_rfl) rfl (by kernel_rfl) (by decide) (pk_then (pk_blk (pk_then (pk_then (pk_blk (pk_then pk_body)))))) ha rfl (fun w => ex_build ha Ty.b29 Ty.t29 rfl) rfl ?_; clear ha; (try clear a); intro a ha
              refine nt_one (i := 12) (listed' := #[true, true, true, true, true, true, true, true, true, true, true, true, true, false]) (by kernel_rfl) (by kernel_rfl) rfl (st_alloc ha rfl hs Ty.t29 rfl ?_); clear ha hs; (try clear a); (try clear w); intro b8 a w ha hs ho
              (try replace hC := hC.trans ho); clear ho
              refine ⟨fun _ => hs.rdAll, ?_⟩
              refine nt_one (i := 13) (listed' := #[true, true, true, true, true, true, true, true, true, true, true, true, true, true]) (by kernel_rfl) (by kernel_rfl) rfl (st_storeAll ha rfl hs Ty.t29 (by simp [Value.oneCell']) (by rfl) ?_); clear ha hs; (try clear a); (try clear w); intro a w ha hs
              refine ⟨fun h => absurd h (by decide), ?_⟩
              refine nt_done (by kernel_rfl) ?_ _
              refine then_n ?_
              exact ⟨b8, ad45, c45, ha.keep [0, 2, 4, 5, 6, 7, 8], hs40, hs.sub⟩
            ·
              refine st_alloc ha rfl hs Ty.t29 rfl ?_; clear ha hs; (try clear a); (try clear w); intro b8 a w ha hs ho
              (try replace hC := hC.trans ho); clear ho
              refine ⟨fun _ => hs.rdAll, ?_⟩
              refine nt_one (i := 10) (listed' := #[true, true, true, true, true, true, true, true, true, true, true, false, true, false]) (by kernel_rfl) (by kernel_rfl) rfl (st_appendB ha rfl hs Try.underlying27 Ty.t5 rfl rfl (by decide) (hbr' _ _ hs) (by omega) ?_); clear ha hs; (try clear a); (try clear w); intro ad45 c45 a w ha hs
              refine ⟨fun _ => hs.rdAll, ?_⟩
              refine nt_pure (i := 11) (listed' := #[true, true, true, true, true, true, true, true, true, true, true, true, true, false]) (by kernel_rfl) rfl (by kernel_rfl) (by decide) (pk_then (pk_blk (pk_then (pk_then (pk_blk (pk_then pk_body)))))) ha rfl (fun w => ex_build ha Ty.b29 Ty.t29 rfl) rfl ?_; clear ha; (try clear a); intro a ha
              refine nt_one (i := 13) (listed' := #[true, true, true, true, true, true, true, true, true, true, true, true, true, true]) (by kernel_rfl) (by kernel_rfl) rfl (st_storeAll ha rfl hs Ty.t29 (by simp [Value.oneCell']) (by rfl) ?_); clear ha hs; (try clear a); (try clear w); intro a w ha hs
              refine ⟨fun h => absurd h (by decide), ?_⟩
              refine nt_done (by kernel_rfl) ?_ _
              refine then_n ?_
              exact ⟨b8, ad45, c45, ha.keep [0, 2, 4, 5, 6, 7, 8], hs40, hs.sub⟩
          ·
            refine st_alloc ha rfl hs Ty.t29 rfl ?_; clear ha hs; (try clear a); (try clear w); intro b8 a w ha hs ho
            (try replace hC := hC.trans ho); clear ho
            refine ⟨fun _ => hs.rdAll, ?_⟩
            refine nt_one (i := 9) (listed' := #[true, true, true, true, true, true, true, true, true, true, false, false, true, false]) (by kernel_rfl) (by kernel_rfl) rfl (st_call ha rfl Ty.c10 rfl (short_spec hs hbr hsc) ?_); clear ha hs
            rintro e w ⟨sa', sl', sc', rfl, hs40, hbr', hs⟩
            refine ⟨_, rfl, ?_⟩
            intro a ha
            refine ⟨fun _ => ?_, ?_⟩
            · exact hs.rdAll
            obtain rfl : sl' = (bs.take 40).length := (hbr' _ _ hs).1.symm
            refine nt_one (i := 10) (listed' := #[true, true, true, true, true, true, true, true, true, true, true, false, true, false]) (by kernel_rfl) (by kernel_rfl) rfl (st_appendB ha rfl hs Try.underlying27 Ty.t5 rfl rfl (by decide) (hbr' _ _ hs) (by omega) ?_); clear ha hs; (try clear a); (try clear w); intro ad45 c45 a w ha hs
            refine ⟨fun _ => hs.rdAll, ?_⟩
            refine nt_pure (i := 11) (listed' := #[true, true, true, true, true, true, true, true, true, true, true, true, true, false]) (by kernel_rfl) rfl (by kernel_rfl) (by decide) (pk_then (pk_blk (pk_then (pk_then (pk_blk (pk_then pk_body)))))) ha rfl (fun w => ex_build ha Ty.b29 Ty.t29 rfl) rfl ?_; clear ha; (try clear a); intro a ha
            refine nt_one (i := 13) (listed' := #[true, true, true, true, true, true, true, true, true, true, true, true, true, true]) (by kernel_rfl) (by kernel_rfl) rfl (st_storeAll ha rfl hs Ty.t29 (by simp [Value.oneCell']) (by rfl) ?_); clear ha hs; (try clear a); (try clear w); intro a w ha hs
            refine ⟨fun h => absurd h (by decide), ?_⟩
            refine nt_done (by kernel_rfl) ?_ _
            refine then_n ?_
            exact ⟨b8, ad45, c45, ha.keep [0, 2, 4, 5, 6, 7, 8], hs40, hs.sub⟩
        · clear ha
          intro a w hcut
          obtain ⟨b8, ad45, c45, ha, hs40, hs⟩ := hcut
          refine wp_seq ?_
          refine wp_region_lit ?_
          refine wpList_k (st_set ha rfl (ex_fieldAddr ha Try.underlying31 rfl Ty.t3 rfl) rfl ?_); clear ha; (try clear a); intro a ha
          refine wpList_k (st_set ha rfl (ex_load1 ha Try.underlying3 rfl (hs.rd1 rfl)) rfl ?_); clear ha; (try clear a); intro a ha
          refine wpList_k (st_set ha rfl (ex_geq ha) rfl ?_); clear ha; (try clear a); intro a ha
          refine wpList_k (st_set ha rfl (ex_move ha) rfl ?_); clear ha; (try clear a); intro a ha
          refine ha.bool (s := 50) (fun hg3 ha => ?_) (fun hg3 ha => ?_)
          ·
            try simp only [decide_eq_true_eq, decide_eq_false_iff_not, Bool.not_eq_true', Bool.not_eq_false', Int.not_lt, Int.not_le, ne_eq, Decidable.not_not] at hg3
            refine wpList_k (st_set ha (wgT ha rfl (s := 50)) (ex_fieldAddr ha Try.underlying31 rfl Ty.t3 rfl) rfl ?_); clear ha; (try clear a); intro a ha
            refine wpList_k (st_set ha (wgT ha rfl (s := 50)) (ex_load1 ha Try.underlying3 rfl (hs.rd1 rfl)) rfl ?_); clear ha; (try clear a); intro a ha
            refine wpList_k (st_set ha (wgT ha rfl (s := 50)) (ex_move ha) rfl ?_); clear ha; (try clear a); intro a ha
            refine wpList_k (st_set ha (wgT ha rfl (s := 50)) (ex_len ha Try.underlying26) rfl ?_); clear ha; (try clear a); intro a ha
            refine wpList_k (st_set ha (wgT ha rfl (s := 50)) (ex_lss ha) rfl ?_); clear ha; (try clear a); intro a ha
            refine wpList_k (st_set ha rfl (ex_pickT ha) rfl ?_); clear ha; (try clear a); intro a ha
            refine wpList_k (st_set ha rfl (ex_assign ha) rfl ?_); clear ha; (try clear a); intro a ha
            refine wpList_nil ?_
            obtain ⟨v, hv0⟩ : ∃ v : Bool, decide (I < (xs.length : Int)) = v := ⟨_, rfl⟩
            rw [hv0] at ha
            have hv : (decide (0 ≤ I) && decide (I < (xs.map Ml.m).length)) = v := by rw [List.length_map, hv0, decide_eq_true (by omega), Bool.true_and]
            refine then_n ?_
            refine wp_seq ?_
            refine wp_seq ?_
            refine wp_region_lit ?_
            refine wpList_k (st_set ha rfl (ex_fieldAddr ha Try.underlying31 rfl Ty.t3 rfl) rfl ?_); clear ha; (try clear a); intro a ha
            refine wpList_k (st_set ha rfl (ex_load1 ha Try.underlying3 rfl (hs.rd1 rfl)) rfl ?_); clear ha; (try clear a); intro a ha
            refine wpList_nil ?_
            refine then_n ?_
            refine wp_block ?_
            refine wp_seq ?_
            refine wp_region_lit ?_
            refine wpList_k (st_set ha rfl (ex_eql ha) rfl ?_); clear ha; (try clear a); intro a ha
            refine wpList_k (st_set ha rfl (ex_assign ha) rfl ?_); clear ha; (try clear a); intro a ha
            refine wpList_nil ?_
            refine then_n ?_
            refine wp_if ha (fun hc2 => ?_) (fun hc2 => ?_)
            ·
              try simp only [decide_eq_true_eq, decide_eq_false_iff_not, Bool.not_eq_true', Bool.not_eq_false', Int.not_lt, Int.not_le, ne_eq, Decidable.not_not] at hc2
              refine wp_seq ?_
              refine wp_seq ?_
              refine wp_region_lit ?_
              refine wpList_k (st_set ha rfl (ex_move ha) rfl ?_); clear ha; (try clear a); intro a ha
              refine wpList_k (st_set ha rfl (ex_loadN ha Try.underlying29 rfl Ty.t29 (hs.rdN 3)) rfl ?_); clear ha; (try clear a); intro a ha
              refine wpList_k (st_call ha rfl Ty.c11 rfl (send_spec (bs := bs.take 40) (hs.net q) (fun w' h => h.rdB ad45 (bs.take 40) rfl rfl)) ?_); clear ha hs
              rintro e w ⟨rfl, hs⟩
              refine ⟨_, rfl, ?_⟩
              intro a ha
              rw [show maySend (xs.map Ml.m) (bs.take 40).length = true from by simp only [maySend, List.length_map, Bool.and_eq_true, decide_eq_true_eq]; omega] at ha hs
              rw [if_pos rfl] at hs
              refine wpList_k (st_set ha rfl (ex_not ha) rfl ?_); clear ha; (try clear a); intro a ha
              refine wpList_nil ?_
              refine then_n ?_
              refine wp_ifF ha ?_
              refine wp_skip ?_
              refine then_n ?_
              refine wp_region_lit ?_
              refine wpList_k (st_set ha rfl (ex_move ha) rfl ?_); clear ha; (try clear a); intro a ha
              refine wpList_k (st_set ha rfl (ex_loadN ha Try.underlying29 rfl Ty.t29 (hs.rdN 3)) rfl ?_); clear ha; (try clear a); intro a ha
              refine wpList_k (st_buildSlice ha rfl hs Try.underlying26 Ty.t29 rfl rfl rfl rfl (by decide) (by decide) ?_); clear ha hs; (try clear a); (try clear w); intro b118 a w ha hs ho
              clear ho
              refine wpList_k (st_append ha rfl hs Try.underlying26 Ty.t29 rfl rfl hs.rdAll rfl (by simp [Value.oneCell']) (by decide) (by decide) (by omega) ?_); clear ha hs; (try clear a); (try clear w); intro ad119 c119 a w ha hs
              replace ha := ha.del 5
              refine wpList_k (st_set ha rfl (ex_assign ha) rfl ?_); clear ha; (try clear a); intro a ha
              refine wpList_nil ?_
              obtain ⟨ys, hys⟩ : ∃ ys, ys = xs ++ [⟨f, t, ad45, c45, bs.take 40⟩] := ⟨_, rfl⟩
              have h4 := Bys.into (a := xs) (b := []) (m := ⟨f, t, ad45, c45, bs.take 40⟩) (by rw [List.append_nil]; exact (hs.pick (Bys xs)).pick (Sl 5 1 ad45 (bs.take 40).length c45 (bc (bs.take 40))))
              rw [← hys, show mlc xs ++ [[Value.int IntKind.i64 f, Value.int IntKind.i64 t, Value.slice ad45 (bs.take 40).length c45]].flatten = mlc ys from by rw [hys, mlc_app]; rfl] at h4
              rw [show xs.map Ml.m ++ [(f, t, bs.take 40)] = ys.map Ml.m from by rw [hys, List.map_append]; rfl, show xs.length + 1 = ys.length from by rw [hys]; simp] at h4
              rw [show xs.length + 1 = ys.length from by rw [hys]; simp] at ha
              have hyl : ys.length ≤ i + 1 := by rw [hys]; simp; omega
              replace hs := h4
              refine blk_n <| then_n ?_
              refine wp_seq ?_
              refine wp_region_lit ?_
              refine wpList_k (st_set ha rfl (ex_move ha) rfl ?_); clear ha; (try clear a); intro a ha
              refine wpList_k (st_call ha rfl Ty.c17 rfl (len_net (hs.net q)) ?_); clear ha hs
              rintro e w ⟨rfl, hs⟩
              refine ⟨_, rfl, ?_⟩
              intro a ha
              refine wpList_k (st_set ha rfl (ex_move ha) rfl ?_); clear ha; (try clear a); intro a ha
              refine wpList_k (st_set ha rfl (ex_len ha Try.underlying26) rfl ?_); clear ha; (try clear a); intro a ha
              refine wpList_k (st_set ha rfl (ex_neq ha) rfl ?_); clear ha; (try clear a); intro a ha
              rw [List.length_map, dneI] at ha
              refine wpList_nil ?_
              refine then_n ?_
              refine wp_ifF ha ?_
              refine wp_skip ?_
              refine blk_n <| then_n ?_
              refine wp_region_lit ?_
              refine wpList_k (st_set ha rfl (ex_move ha) rfl ?_); clear ha; (try clear a); intro a ha
              refine wpList_k (st_set ha rfl (ex_addI ha (by omega) (by omega)) rfl ?_); clear ha; (try clear a); intro a ha
              replace ha := ha.del 6
              refine wpList_k (st_set ha rfl (ex_assign ha) rfl ?_); clear ha; (try clear a); intro a ha
              refine wpList_nil ?_
              refine then_n ?_
              refine ⟨60 - (i + 1), by omega, i + 1, _, _, _, ⟨rfl, by omega, ?_⟩, ha.keep [0, 2, 4, 5, 6], hs.sub⟩
              omega
            ·
              try simp only [decide_eq_true_eq, decide_eq_false_iff_not, Bool.not_eq_true', Bool.not_eq_false', Int.not_lt, Int.not_le, ne_eq, Decidable.not_not] at hc2
              refine wp_seq ?_
              refine wp_seq ?_
              refine wp_region_lit ?_
              refine wpList_k (st_set ha rfl (ex_eql ha) rfl ?_); clear ha; (try clear a); intro a ha
              refine wpList_k (st_set ha rfl (ex_assign ha) rfl ?_); clear ha; (try clear a); intro a ha
              refine wpList_nil ?_
              refine then_n ?_
              refine wp_if ha (fun hc4 => ?_) (fun hc4 => ?_)
              ·
                try simp only [decide_eq_true_eq, decide_eq_false_iff_not, Bool.not_eq_true', Bool.not_eq_false', Int.not_lt, Int.not_le, ne_eq, Decidable.not_not] at hc4
                rw [decide_eq_true (p := k = 1) hc4] at ha
                refine wp_skip ?_
                refine then_n ?_
                refine wp_ifT ha ?_
                refine wp_seq ?_
                refine wp_region_lit ?_
                refine wpList_k (st_set ha rfl (ex_move ha) rfl ?_); clear ha; (try clear a); intro a ha
                refine wpList_k (st_set ha rfl (ex_fieldAddr ha Try.underlying31 rfl Ty.t3 rfl) rfl ?_); clear ha; (try clear a); intro a ha
                refine wpList_k (st_set ha rfl (ex_load1 ha Try.underlying3 rfl (hs.rd1 rfl)) rfl ?_); clear ha; (try clear a); intro a ha
                refine wpList_k (st_call ha rfl Ty.c12 rfl (look_any (hs.net q) hv) ?_); clear ha hs
                rintro e w ⟨f1, t1, ad1, c1, bs1, rfl, hm1, hs⟩
                refine ⟨_, rfl, ?_⟩
                intro a ha
                refine wpList_k (st_set ha rfl (ex_move ha) rfl ?_); clear ha; (try clear a); intro a ha
                refine wpList_k (st_set ha rfl (ex_extract ha rfl) rfl ?_); clear ha; (try clear a); intro a ha
                refine wpList_k (st_set ha rfl (ex_extract ha rfl) rfl ?_); clear ha; (try clear a); intro a ha
                refine wpList_k (st_alloc ha rfl hs Ty.t29 rfl ?_); clear ha hs; (try clear a); (try clear w); intro b10 a w ha hs ho
                clear ho
                refine wpList_k (st_storeAll ha rfl hs Ty.t29 (by simp [Value.oneCell']) (by rfl) ?_); clear ha hs; (try clear a); (try clear w); intro a w ha hs
                refine wpList_k (st_set ha rfl (ex_assign ha) rfl ?_); clear ha; (try clear a); intro a ha
                refine wpList_nil ?_
                refine then_n ?_
                refine wp_seq ?_
                refine wp_seq ?_
                refine wp_region_lit ?_
                refine wpList_k (st_set ha rfl (ex_fieldAddr ha Try.underlying31 rfl Ty.t3 rfl) rfl ?_); clear ha; (try clear a); intro a ha
                refine wpList_k (st_set ha rfl (ex_load1 ha Try.underlying3 rfl (hs.rd1 rfl)) rfl ?_); clear ha; (try clear a); intro a ha
                refine wpList_k (st_set ha rfl (ex_eql ha) rfl ?_); clear ha; (try clear a); intro a ha
                rw [decide_eq_true (p := k = 1) (by omega)] at ha
                refine wpList_nil ?_
                refine then_n ?_
                refine wp_ifT ha ?_
                refine wp_region_lit ?_
                refine wpList_k (st_set ha rfl (ex_move ha) rfl ?_); clear ha; (try clear a); intro a ha
                refine wpList_k (st_set ha rfl (ex_fieldAddr ha Try.underlying31 rfl Ty.t3 rfl) rfl ?_); clear ha; (try clear a); intro a ha
                refine wpList_k (st_set ha rfl (ex_load1 ha Try.underlying3 rfl (hs.rd1 rfl)) rfl ?_); clear ha; (try clear a); intro a ha
                refine wpList_k (st_call ha rfl Ty.c13 rfl (take_any (hs.net q) hv) ?_); clear ha hs
                rintro e w ⟨f2, t2, ad2, c2, bs2, rfl, hm2, hs⟩
                refine ⟨_, rfl, ?_⟩
                intro a ha
                refine wpList_k (st_set ha rfl (ex_move ha) rfl ?_); clear ha; (try clear a); intro a ha
                refine wpList_k (st_set ha rfl (ex_extract ha rfl) rfl ?_); clear ha; (try clear a); intro a ha
                refine wpList_k (st_set ha rfl (ex_extract ha rfl) rfl ?_); clear ha; (try clear a); intro a ha
                refine wpList_k (st_storeAll ha rfl hs Ty.t29 (by simp [Value.oneCell']) (by rfl) ?_); clear ha hs; (try clear a); (try clear w); intro a w ha hs
                replace ha := ha.del 11
                refine wpList_k (st_set ha rfl (ex_assign ha) rfl ?_); clear ha; (try clear a); intro a ha
                refine wpList_nil ?_
                refine then_n ?_
                refine wp_seq ?_
                refine wp_seq ?_
                refine wp_draw (m := 16) (l0 := #[false, false, false, false, false, false, false, false, false, false, false, false, false, false, false, false]) (Old w.drew) [9, 10, 11] Ty.mixed (by kernel_rfl) (by kernel_rfl) ?_
                replace hs := hs.drew
                have hC := Old.refl w.drew
                generalize w.drew = w at hs hC ⊢
                refine nt_pure (i := 0) (listed' := #[true, false, false, false, false, false, false, false, false, false, false, false, false, false, false, false]) (by kernel_rfl) rfl (by kernel_rfl) (by decide) (pk_then (pk_then (pk_blk (pk_then (pk_blk (pk_then (pk_then (pk_blk (pk_then pk_body))))))))) ha rfl (fun w => ex_move ha) rfl ?_; clear ha; (try clear a); intro a ha
                refine nt_pure (i := 1) (listed' := #[true, true, false, false, false, false, false, false, false, false, false, false, false, false, false, false]) (by kernel_rfl) rfl (by kernel_rfl) (by decide) (pk_then (pk_then (pk_blk (pk_then (pk_blk (pk_then (pk_then (pk_blk (pk_then pk_body))))))))) ha rfl (fun w => ex_move ha) rfl ?_; clear ha; (try clear a); intro a ha
                refine nt_pure (i := 2) (listed' := #[true, true, true, false, false, false, false, false, false, false, false, false, false, false, false, false]) (by kernel_rfl) rfl (by kernel_rfl) (by decide) (pk_then (pk_then (pk_blk (pk_then (pk_blk (pk_then (pk_then (pk_blk (pk_then pk_body))))))))) ha rfl (fun w => ex_neqB ha Try.underlying4) rfl ?_; clear ha; (try clear a); intro a ha
                rw [bne_self_eq_false] at ha
                refine nt_pure (i := 3) (listed' := #[true, true, true, true, false, false, false, false, false, false, false, false, false, false, false, false]) (by kernel_rfl) rfl (by kernel_rfl) (by decide) (pk_then (pk_then (pk_blk (pk_then (pk_blk (pk_then (pk_then (pk_blk (pk_then pk_body))))))))) ha rfl (fun w => ex_move ha) rfl ?_; clear ha; (try clear a); intro a ha
                refine nt_pure (i := 4) (listed' := #[true, true, true, true, true, false, false, false, false, false, false, false, false, false, false, false]) (by kernel_rfl) rfl (by kernel_rfl) (by decide) (pk_then (pk_then (pk_blk (pk_then (pk_blk (pk_then (pk_then (pk_blk (pk_then pk_body))))))))) ha (wgT ha rfl (s := 143)) (fun w => ex_move ha) rfl ?_; clear ha; (try clear a); intro a ha
                refine nt_pure (i := 5) (listed' := #[true, true, true, true, true, true, false, false, false, false, false, false, false, false, false, false]) (by kernel_rfl) rfl (by kernel_rfl) (by decide) (pk_then (pk_then (pk_blk (pk_then (pk_blk (pk_then (pk_then (pk_blk (pk_then pk_body))))))))) ha (wgT ha rfl (s := 143)) (fun w => ex_move ha) rfl ?_; clear ha; (try clear a); intro a ha
                refine ha.bool (s := 145) (fun hg5 ha => ?_) (fun hg5 ha => ?_)
                ·
                  try simp only [decide_eq_true_eq, decide_eq_false_iff_not, Bool.not_eq_true', Bool.not_eq_false', Int.not_lt, Int.not_le, ne_eq, Decidable.not_not] at hg5
                  obtain rfl := hg5
                  obtain ⟨K, rfl, hK⟩ := nin hv
                  have hK2 : K < xs.length := by simpa using hK
                  have hq := hm2 rfl
                  rw [Int.toNat_natCast, List.getElem?_map, List.getElem?_eq_getElem hK2] at hq
                  simp only [Option.map_some, Ml.m, Option.some.injEq, Prod.mk.injEq] at hq
                  obtain ⟨rfl, rfl, rfl⟩ := hq
                  rw [if_pos rfl, Int.toNat_natCast] at hs
                  have hcl := (hs.sl ad).2
                  obtain ⟨b', off', hade, hrd⟩ := hs.slRd ad (by omega)
                  have hmr := (mlRd hrd K hK2).1
                  subst hade
                  refine nt_pure (i := 7) (listed' := #[true, true, true, true, true, true, false, true, false, false, false, false, false, false, false, false]) (by kernel_rfl) rfl (by kernel_rfl) (by decide) (pk_then (pk_then (pk_blk (pk_then (pk_blk (pk_then (pk_then (pk_blk (pk_then pk_body))))))))) ha (wgT ha rfl (s := 145)) (fun w => ex_move ha) rfl ?_; clear ha; (try clear a); intro a ha
                  refine nt_pure (i := 8) (listed' := #[true, true, true, true, true, true, false, true, true, false, false, false, false, false, false, false]) (by kernel_rfl) rfl (by kernel_rfl) (by decide) (pk_then (pk_then (pk_blk (pk_then (pk_blk (pk_then (pk_then (pk_blk (pk_then pk_body))))))))) ha (wgT ha rfl (s := 145)) (fun w => ex_fieldAddr ha Try.underlying31 rfl Ty.t3 rfl) rfl ?_; clear ha; (try clear a); intro a ha
                  refine nt_held (i := 6) (listed' := #[true, true, true, true, true, true, true, true, true, false, false, false, false, false, false, false]) (by kernel_rfl) rfl (by kernel_rfl) (pk_then (pk_then (pk_blk (pk_then (pk_blk (pk_then (pk_then (pk_blk (pk_then pk_body))))))))) ha (wgT ha rfl (s := 145)) (fun w hc => ex_loadN ha Try.underlying29 rfl Ty.t29 (hc.rd (hs.rdN 3))) hC rfl ?_; clear ha; (try clear a); intro a ha
                  refine nt_one (i := 9) (listed' := #[true, true, true, true, true, true, true, true, true, true, false, false, false, false, false, false]) (by kernel_rfl) (by kernel_rfl) rfl (st_set ha (wgT ha rfl (s := 145)) (ex_load1 ha Try.underlying3 rfl (hs.rd1 rfl)) rfl ?_); clear ha; (try clear a); intro a ha
                  refine ⟨fun _ => hC, ?_⟩
                  refine nt_one (i := 10) (listed' := #[true, true, true, true, true, true, true, true, true, true, true, false, false, false, false, false]) (by kernel_rfl) (by kernel_rfl) rfl (st_set ha (wgT ha rfl (s := 145)) (ex_indexAddr ha Try.underlying26 Ty.t29 (by omega)) rfl ?_); clear ha; (try clear a); intro a ha
                  refine ⟨fun _ => hC, ?_⟩
                  refine nt_one (i := 11) (listed' := #[true, true, true, true, true, true, true, true, true, true, true, true, false, false, false, false]) (by kernel_rfl) (by kernel_rfl) rfl (st_set ha (wgT ha rfl (s := 145)) (ex_loadN ha Try.underlying29 rfl Ty.t29 (hmr)) rfl ?_); clear ha; (try clear a); intro a ha
                  refine ⟨fun _ => hC, ?_⟩
                  refine nt_one (i := 12) (listed' := #[true, true, true, true, true, true, true, true, true, true, true, true, true, false, false, false]) (by kernel_rfl) (by kernel_rfl) rfl (st_call ha (wgT ha rfl (s := 145)) Ty.c14 rfl (eq_spec hs (fun w' h => h.rdB ad2 xs[K].bs rfl rfl) (fun w' h => Bys.rd h K hK2)) ?_); clear ha hs
                  rintro e w ⟨rfl, hs⟩
                  refine ⟨_, rfl, ?_⟩
                  intro a ha
                  refine ⟨fun h => absurd h (by decide), ?_⟩
                  refine nt_pure (i := 13) (listed' := #[true, true, true, true, true, true, true, true, true, true, true, true, true, true, false, false]) (by kernel_rfl) rfl (by kernel_rfl) (by decide) (pk_then (pk_then (pk_blk (pk_then (pk_blk (pk_then (pk_then (pk_blk (pk_then pk_body))))))))) ha (wgT ha rfl (s := 145)) (fun w => ex_not ha) rfl ?_; clear ha; (try clear a); intro a ha
                  refine nt_pure (i := 14) (listed' := #[true, true, true, true, true, true, true, true, true, true, true, true, true, true, true, false]) (by kernel_rfl) rfl (by kernel_rfl) (by decide) (pk_then (pk_then (pk_blk (pk_then (pk_blk (pk_then (pk_then (pk_blk (pk_then pk_body))))))))) ha (wgT ha rfl (s := 143)) (fun w => ex_pickT ha) rfl ?_; clear ha; (try clear a); intro a ha
                  refine nt_pure (i := 15) (listed' := #[true, true, true, true, true, true, true, true, true, true, true, true, true, true, true, true]) (by kernel_rfl) rfl (by kernel_rfl) (by decide) (pk_then (pk_then (pk_blk (pk_then (pk_blk (pk_then (pk_then (pk_blk (pk_then pk_body))))))))) ha rfl (fun w => ex_pickF ha) rfl ?_; clear ha; (try clear a); intro a ha
                  refine nt_done (by kernel_rfl) ?_ _
                  refine then_n ?_
                  refine wp_ifF ha ?_
                  refine wp_skip ?_
                  refine then_n ?_
                  refine wp_seq ?_
                  refine wp_region_lit ?_
                  refine wpList_k (st_set ha rfl (ex_move ha) rfl ?_); clear ha; (try clear a); intro a ha
                  refine wpList_k (st_set ha rfl (ex_move ha) rfl ?_); clear ha; (try clear a); intro a ha
                  refine wpList_k (st_set ha (wgT ha rfl (s := 157)) (ex_fieldAddr ha Try.underlying31 rfl Ty.t3 rfl) rfl ?_); clear ha; (try clear a); intro a ha
                  refine wpList_k (st_set ha (wgT ha rfl (s := 157)) (ex_load1 ha Try.underlying3 rfl (hs.rd1 rfl)) rfl ?_); clear ha; (try clear a); intro a ha
                  refine wpList_k (st_set ha (wgT ha rfl (s := 157)) (ex_eql ha) rfl ?_); clear ha; (try clear a); intro a ha
                  rw [decide_eq_true (p := k = 1) (by omega)] at ha
                  refine wpList_k (st_set ha rfl (ex_pickT ha) rfl ?_); clear ha; (try clear a); intro a ha
                  refine wpList_nil ?_
                  refine then_n ?_
                  refine wp_ifT ha ?_
                  refine wp_draw (m := 13) (l0 := #[false, false, false, false, false, false, false, false, false, false, false, false, false]) (Old w.drew) [4, 8, 9, 10] Ty.mixed (by kernel_rfl) (by kernel_rfl) ?_
                  replace hs := hs.drew
                  have hC := Old.refl w.drew
                  generalize w.drew = w at hs hC ⊢
                  refine nt_pure (i := 0) (listed' := #[true, false, false, false, false, false, false, false, false, false, false, false, false]) (by kernel_rfl) rfl (by kernel_rfl) (by decide) (pk_blk (pk_then (pk_blk (pk_then (pk_then (pk_blk (pk_then pk_body))))))) ha rfl (fun w => ex_move ha) rfl ?_; clear ha; (try clear a); intro a ha
                  refine nt_pure (i := 1) (listed' := #[true, true, false, false, false, false, false, false, false, false, false, false, false]) (by kernel_rfl) rfl (by kernel_rfl) (by decide) (pk_blk (pk_then (pk_blk (pk_then (pk_then (pk_blk (pk_then pk_body))))))) ha rfl (fun w => ex_fieldAddr ha Try.underlying31 rfl Ty.t3 rfl) rfl ?_; clear ha; (try clear a); intro a ha
                  refine nt_pure (i := 3) (listed' := #[true, true, false, true, false, false, false, false, false, false, false, false, false]) (by kernel_rfl) rfl (by kernel_rfl) (by decide) (pk_blk (pk_then (pk_blk (pk_then (pk_then (pk_blk (pk_then pk_body))))))) ha rfl (fun w => ex_fieldAddr ha Try.underlying31 rfl Ty.t3 rfl) rfl ?_; clear ha; (try clear a); intro a ha
                  refine nt_pure (i := 6) (listed' := #[true, true, false, true, false, false, true, false, false, false, false, false, false]) (by kernel_rfl) rfl (by kernel_rfl) (by decide) (pk_blk (pk_then (pk_blk (pk_then (pk_then (pk_blk (pk_then pk_body))))))) ha rfl (fun w => ex_move ha) rfl ?_; clear ha; (try clear a); intro a ha
                  refine nt_pure (i := 7) (listed' := #[true, true, false, true, false, false, true, true, false, false, false, false, false]) (by kernel_rfl) rfl (by kernel_rfl) (by decide) (pk_blk (pk_then (pk_blk (pk_then (pk_then (pk_blk (pk_then pk_body))))))) ha rfl (fun w => ex_fieldAddr ha Try.underlying31 rfl Ty.t3 rfl) rfl ?_; clear ha; (try clear a); intro a ha
                  refine nt_held (i := 2) (listed' := #[true, true, true, true, false, false, true, true, false, false, false, false, false]) (by kernel_rfl) rfl (by kernel_rfl) (pk_blk (pk_then (pk_blk (pk_then (pk_then (pk_blk (pk_then pk_body))))))) ha rfl (fun w hc => ex_load1 ha Try.underlying3 rfl (hc.cell (hs.rd1 rfl))) hC rfl ?_; clear ha; (try clear a); intro a ha
                  refine nt_held (i := 4) (listed' := #[true, true, true, true, true, false, true, true, false, false, false, false, false]) (by kernel_rfl) rfl (by kernel_rfl) (pk_blk (pk_then (pk_blk (pk_then (pk_then (pk_blk (pk_then pk_body))))))) ha rfl (fun w hc => ex_load1 ha Try.underlying3 rfl (hc.cell (hs.rd1 rfl))) hC rfl ?_; clear ha; (try clear a); intro a ha
                  refine nt_pure (i := 5) (listed' := #[true, true, true, true, true, true, true, true, false, false, false, false, false]) (by kernel_rfl) rfl (by kernel_rfl) (by decide) (pk_blk (pk_then (pk_blk (pk_then (pk_then (pk_blk (pk_then pk_body))))))) ha rfl (fun w => ex_sliceHM ha Try.underlying26 Ty.t29 (by omega) (by omega)) rfl ?_; clear ha; (try clear a); intro a ha
                  refine nt_one (i := 8) (listed' := #[true, true, true, true, true, true, true, true, true, false, false, false, false]) (by kernel_rfl) (by kernel_rfl) rfl (st_set ha rfl (ex_load1 ha Try.underlying3 rfl (hs.rd1 rfl)) rfl ?_); clear ha; (try clear a); intro a ha
                  refine ⟨fun _ => hC, ?_⟩
                  refine nt_one (i := 9) (listed' := #[true, true, true, true, true, true, true, true, true, true, false, false, false]) (by kernel_rfl) (by kernel_rfl) rfl (st_set ha rfl (ex_addI ha (by omega) (by omega)) rfl ?_); clear ha; (try clear a); intro a ha
                  refine ⟨fun _ => hC, ?_⟩
                  refine nt_one (i := 10) (listed' := #[true, true, true, true, true, true, true, true, true, true, true, false, false]) (by kernel_rfl) (by kernel_rfl) rfl (st_set ha rfl (ex_sliceL ha Try.underlying26 Ty.t29 (by omega)) rfl ?_); clear ha; (try clear a); intro a ha
                  refine ⟨fun _ => hC, ?_⟩
                  have hT := tail_rd (ad := some ⟨b', off', none⟩) hs hK2
                  replace hs := hs.cutSlM (some ⟨b', off', none⟩) K (by omega)
                  rw [mlc_take] at hs
                  refine nt_one (i := 11) (listed' := #[true, true, true, true, true, true, true, true, true, true, true, true, false]) (by kernel_rfl) (by kernel_rfl) rfl (st_appendT ha rfl hs Try.underlying26 Ty.t29 rfl rfl (by decide) hT (mlc_len _ |>.trans (by rw [List.length_drop])) (mlc_one _) (by omega) ?_); clear ha hs; (try clear a); (try clear w); intro ad173 c173 a w ha hs
                  refine ⟨fun h => absurd h (by decide), ?_⟩
                  replace ha := ha.del 5
                  refine nt_pure (i := 12) (listed' := #[true, true, true, true, true, true, true, true, true, true, true, true, true]) (by kernel_rfl) rfl (by kernel_rfl) (by decide) (pk_blk (pk_then (pk_blk (pk_then (pk_then (pk_blk (pk_then pk_body))))))) ha rfl (fun w => ex_assign ha) rfl ?_; clear ha; (try clear a); intro a ha
                  refine nt_done (by kernel_rfl) ?_ _
                  have h4 := own_del hK2 (hs.sub (M := [Bys xs, Sl 29 3 ad173 (K + (xs.length - (K + 1))) c173 (mlc (xs.take K) ++ mlc (xs.drop (K + 1))), Net q ((xs.map Ml.m).eraseIdx K)]))
                  rw [show K + (xs.length - (K + 1)) = (xs.eraseIdx K).length from by rw [List.length_eraseIdx, if_pos hK2]; omega] at ha
                  have hyl : (xs.eraseIdx K).length ≤ i + 1 := by rw [List.length_eraseIdx, if_pos hK2]; omega
                  replace hs := h4
                  refine blk_n <| then_n ?_
                  refine wp_seq ?_
                  refine wp_region_lit ?_
                  refine wpList_k (st_set ha rfl (ex_move ha) rfl ?_); clear ha; (try clear a); intro a ha
                  refine wpList_k (st_call ha rfl Ty.c17 rfl (len_net (hs.net q)) ?_); clear ha hs
                  rintro e w ⟨rfl, hs⟩
                  refine ⟨_, rfl, ?_⟩
                  intro a ha
                  refine wpList_k (st_set ha rfl (ex_move ha) rfl ?_); clear ha; (try clear a); intro a ha
                  refine wpList_k (st_set ha rfl (ex_len ha Try.underlying26) rfl ?_); clear ha; (try clear a); intro a ha
                  refine wpList_k (st_set ha rfl (ex_neq ha) rfl ?_); clear ha; (try clear a); intro a ha
                  rw [List.length_map, dneI] at ha
                  refine wpList_nil ?_
                  refine then_n ?_
                  refine wp_ifF ha ?_
                  refine wp_skip ?_
                  refine blk_n <| then_n ?_
                  refine wp_region_lit ?_
                  refine wpList_k (st_set ha rfl (ex_move ha) rfl ?_); clear ha; (try clear a); intro a ha
                  refine wpList_k (st_set ha rfl (ex_addI ha (by omega) (by omega)) rfl ?_); clear ha; (try clear a); intro a ha
                  replace ha := ha.del 6
                  refine wpList_k (st_set ha rfl (ex_assign ha) rfl ?_); clear ha; (try clear a); intro a ha
                  refine wpList_nil ?_
                  refine then_n ?_
                  refine ⟨60 - (i + 1), by omega, i + 1, _, _, _, ⟨rfl, by omega, ?_⟩, ha.keep [0, 2, 4, 5, 6], hs.sub⟩
                  omega
                ·
                  try simp only [decide_eq_true_eq, decide_eq_false_iff_not, Bool.not_eq_true', Bool.not_eq_false', Int.not_lt, Int.not_le, ne_eq, Decidable.not_not] at hg5
                  obtain rfl := hg5
                  rw [if_neg (by decide)] at hs
                  refine nt_off (i := 7) (listed' := #[true, true, true, true, true, true, false, true, false, false, false, false, false, false, false, false]) (by kernel_rfl) rfl (by kernel_rfl) (by decide) (pk_then (pk_then (pk_blk (pk_then (pk_blk (pk_then (pk_then (pk_blk (pk_then pk_body))))))))) ha (wgF ha rfl (s := 145) rfl) rfl ?_; clear ha; (try clear a); intro a ha
                  refine nt_off (i := 8) (listed' := #[true, true, true, true, true, true, false, true, true, false, false, false, false, false, false, false]) (by kernel_rfl) rfl (by kernel_rfl) (by decide) (pk_then (pk_then (pk_blk (pk_then (pk_blk (pk_then (pk_then (pk_blk (pk_then pk_body))))))))) ha (wgF ha rfl (s := 145) rfl) rfl ?_; clear ha; (try clear a); intro a ha
                  refine nt_offH (i := 6) (listed' := #[true, true, true, true, true, true, true, true, true, false, false, false, false, false, false, false]) (by kernel_rfl) rfl (by kernel_rfl) (pk_then (pk_then (pk_blk (pk_then (pk_blk (pk_then (pk_then (pk_blk (pk_then pk_body))))))))) ha (wgF ha rfl (s := 145) rfl) hC rfl ?_; clear ha; (try clear a); intro a ha
                  refine nt_offH (i := 9) (listed' := #[true, true, true, true, true, true, true, true, true, true, false, false, false, false, false, false]) (by kernel_rfl) rfl (by kernel_rfl) (pk_then (pk_then (pk_blk (pk_then (pk_blk (pk_then (pk_then (pk_blk (pk_then pk_body))))))))) ha (wgF ha rfl (s := 145) rfl) hC rfl ?_; clear ha; (try clear a); intro a ha
                  refine nt_offH (i := 10) (listed' := #[true, true, true, true, true, true, true, true, true, true, true, false, false, false, false, false]) (by kernel_rfl) rfl (by kernel_rfl) (pk_then (pk_then (pk_blk (pk_then (pk_blk (pk_then (pk_then (pk_blk (pk_then pk_body))))))))) ha (wgF ha rfl (s := 145) rfl) hC rfl ?_; clear ha; (try clear a); intro a ha
                  refine nt_offH (i := 11) (listed' := #[true, true, true, true, true, true, true, true, true, true, true, true, false, false, false, false]) (by kernel_rfl) rfl (by kernel_rfl) (pk_then (pk_then (pk_blk (pk_then (pk_blk (pk_then (pk_then (pk_blk (pk_then pk_body))))))))) ha (wgF ha rfl (s := 145) rfl) hC rfl ?_; clear ha; (try clear a); intro a ha
                  refine nt_off (i := 12) (listed' := #[true, true, true, true, true, true, true, true, true, true, true, true, true, false, false, false]) (by kernel_rfl) rfl (by kernel_rfl) (by decide) (pk_then (pk_then (pk_blk (pk_then (pk_blk (pk_then (pk_then (pk_blk (pk_then pk_body))))))))) ha (wgF ha rfl (s := 145) rfl) rfl ?_; clear ha; (try clear a); intro a ha
                  refine nt_off (i := 13) (listed' := #[true, true, true, true, true, true, true, true, true, true, true, true, true, true, false, false]) (by kernel_rfl) rfl (by kernel_rfl) (by decide) (pk_then (pk_then (pk_blk (pk_then (pk_blk (pk_then (pk_then (pk_blk (pk_then pk_body))))))))) ha (wgF ha rfl (s := 145) rfl) rfl ?_; clear ha; (try clear a); intro a ha
                  refine nt_pure (i := 14) (listed' := #[true, true, true, true, true, true, true, true, true, true, true, true, true, true, true, false]) (by kernel_rfl) rfl (by kernel_rfl) (by decide) (pk_then (pk_then (pk_blk (pk_then (pk_blk (pk_then (pk_then (pk_blk (pk_then pk_body))))))))) ha (wgT ha rfl (s := 143)) (fun w => ex_pickF ha) rfl ?_; clear ha; (try clear a); intro a ha
                  refine nt_pure (i := 15) (listed' := #[true, true, true, true, true, true, true, true, true, true, true, true, true, true, true, true]) (by kernel_rfl) rfl (by kernel_rfl) (by decide) (pk_then (pk_then (pk_blk (pk_then (pk_blk (pk_then (pk_then (pk_blk (pk_then pk_body))))))))) ha rfl (fun w => ex_pickF ha) rfl ?_; clear ha; (try clear a); intro a ha
                  refine nt_done (by kernel_rfl) ?_ _
                  refine then_n ?_
                  refine wp_ifF ha ?_
                  refine wp_skip ?_
                  refine then_n ?_
                  refine wp_seq ?_
                  refine wp_region_lit ?_
                  refine wpList_k (st_set ha rfl (ex_move ha) rfl ?_); clear ha; (try clear a); intro a ha
                  refine wpList_k (st_set ha rfl (ex_move ha) rfl ?_); clear ha; (try clear a); intro a ha
                  refine wpList_k (st_off ha (wgF ha rfl (s := 157) rfl) rfl ?_); clear ha; (try clear a); intro a ha
                  refine wpList_k (st_off ha (wgF ha rfl (s := 157) rfl) rfl ?_); clear ha; (try clear a); intro a ha
                  refine wpList_k (st_off ha (wgF ha rfl (s := 157) rfl) rfl ?_); clear ha; (try clear a); intro a ha
                  refine wpList_k (st_set ha rfl (ex_pickF ha) rfl ?_); clear ha; (try clear a); intro a ha
                  refine wpList_nil ?_
                  refine then_n ?_
                  refine wp_ifF ha ?_
                  refine wp_skip ?_
                  refine blk_n <| then_n ?_
                  refine wp_seq ?_
                  refine wp_region_lit ?_
                  refine wpList_k (st_set ha rfl (ex_move ha) rfl ?_); clear ha; (try clear a); intro a ha
                  refine wpList_k (st_call ha rfl Ty.c17 rfl (len_net (hs.net q)) ?_); clear ha hs
                  rintro e w ⟨rfl, hs⟩
                  refine ⟨_, rfl, ?_⟩
                  intro a ha
                  refine wpList_k (st_set ha rfl (ex_move ha) rfl ?_); clear ha; (try clear a); intro a ha
                  refine wpList_k (st_set ha rfl (ex_len ha Try.underlying26) rfl ?_); clear ha; (try clear a); intro a ha
                  refine wpList_k (st_set ha rfl (ex_neq ha) rfl ?_); clear ha; (try clear a); intro a ha
                  rw [List.length_map, dneI] at ha
                  refine wpList_nil ?_
                  refine then_n ?_
                  refine wp_ifF ha ?_
                  refine wp_skip ?_
                  refine blk_n <| then_n ?_
                  refine wp_region_lit ?_
                  refine wpList_k (st_set ha rfl (ex_move ha) rfl ?_); clear ha; (try clear a); intro a ha
                  refine wpList_k (st_set ha rfl (ex_addI ha (by omega) (by omega)) rfl ?_); clear ha; (try clear a); intro a ha
                  replace ha := ha.del 6
                  refine wpList_k (st_set ha rfl (ex_assign ha) rfl ?_); clear ha; (try clear a); intro a ha
                  refine wpList_nil ?_
                  refine then_n ?_
                  refine ⟨60 - (i + 1), by omega, i + 1, _, _, _, ⟨rfl, by omega, ?_⟩, ha.keep [0, 2, 4, 5, 6], hs.sub⟩
                  omega
              ·
                try simp only [decide_eq_true_eq, decide_eq_false_iff_not, Bool.not_eq_true', Bool.not_eq_false', Int.not_lt, Int.not_le, ne_eq, Decidable.not_not] at hc4
                refine wp_region_lit ?_
                refine wpList_k (st_set ha rfl (ex_eql ha) rfl ?_); clear ha; (try clear a); intro a ha
                replace ha := ha.del 120
                refine wpList_k (st_set ha rfl (ex_assign ha) rfl ?_); clear ha; (try clear a); intro a ha
                refine wpList_nil ?_
                refine then_n ?_
                refine wp_if ha (fun hc5 => ?_) (fun hc5 => ?_)
                ·
                  try simp only [decide_eq_true_eq, decide_eq_false_iff_not, Bool.not_eq_true', Bool.not_eq_false', Int.not_lt, Int.not_le, ne_eq, Decidable.not_not] at hc5
                  refine wp_seq ?_
                  refine wp_region_lit ?_
                  refine wpList_k (st_set ha rfl (ex_move ha) rfl ?_); clear ha; (try clear a); intro a ha
                  refine wpList_k (st_set ha rfl (ex_fieldAddr ha Try.underlying31 rfl Ty.t3 rfl) rfl ?_); clear ha; (try clear a); intro a ha
                  refine wpList_k (st_set ha rfl (ex_load1 ha Try.underlying3 rfl (hs.rd1 rfl)) rfl ?_); clear ha; (try clear a); intro a ha
                  refine wpList_k (st_call ha rfl Ty.c12 rfl (look_any (hs.net q) hv) ?_); clear ha hs
                  rintro e w ⟨f1, t1, ad1, c1, bs1, rfl, hm1, hs⟩
                  refine ⟨_, rfl, ?_⟩
                  intro a ha
                  refine wpList_k (st_set ha rfl (ex_move ha) rfl ?_); clear ha; (try clear a); intro a ha
                  refine wpList_k (st_set ha rfl (ex_extract ha rfl) rfl ?_); clear ha; (try clear a); intro a ha
                  refine wpList_k (st_set ha rfl (ex_extract ha rfl) rfl ?_); clear ha; (try clear a); intro a ha
                  refine wpList_k (st_alloc ha rfl hs Ty.t29 rfl ?_); clear ha hs; (try clear a); (try clear w); intro b10 a w ha hs ho
                  clear ho
                  refine wpList_k (st_storeAll ha rfl hs Ty.t29 (by simp [Value.oneCell']) (by rfl) ?_); clear ha hs; (try clear a); (try clear w); intro a w ha hs
                  refine wpList_k (st_set ha rfl (ex_assign ha) rfl ?_); clear ha; (try clear a); intro a ha
                  refine wpList_nil ?_
                  refine then_n ?_
                  refine wp_seq ?_
                  refine wp_seq ?_
                  refine wp_region_lit ?_
                  refine wpList_k (st_set ha rfl (ex_fieldAddr ha Try.underlying31 rfl Ty.t3 rfl) rfl ?_); clear ha; (try clear a); intro a ha
                  refine wpList_k (st_set ha rfl (ex_load1 ha Try.underlying3 rfl (hs.rd1 rfl)) rfl ?_); clear ha; (try clear a); intro a ha
                  refine wpList_k (st_set ha rfl (ex_eql ha) rfl ?_); clear ha; (try clear a); intro a ha
                  rw [decide_eq_false (p := k = 1) (by omega)] at ha
                  refine wpList_nil ?_
                  refine then_n ?_
                  refine wp_ifF ha ?_
                  refine wp_skip ?_
                  refine then_n ?_
                  refine wp_seq ?_
                  refine wp_seq ?_
                  refine wp_draw (m := 16) (l0 := #[false, false, false, false, false, false, false, false, false, false, false, false, false, false, false, false]) (Old w.drew) [9, 10, 11] Ty.mixed (by kernel_rfl) (by kernel_rfl) ?_
                  replace hs := hs.drew
                  have hC := Old.refl w.drew
                  generalize w.drew = w at hs hC ⊢
                  refine nt_pure (i := 0) (listed' := #[true, false, false, false, false, false, false, false, false, false, false, false, false, false, false, false]) (by kernel_rfl) rfl (by kernel_rfl) (by decide) (pk_then (pk_then (pk_blk (pk_then (pk_blk (pk_then (pk_then (pk_blk (pk_then pk_body))))))))) ha rfl (fun w => ex_move ha) rfl ?_; clear ha; (try clear a); intro a ha
                  refine nt_pure (i := 1) (listed' := #[true, true, false, false, false, false, false, false, false, false, false, false, false, false, false, false]) (by kernel_rfl) rfl (by kernel_rfl) (by decide) (pk_then (pk_then (pk_blk (pk_then (pk_blk (pk_then (pk_then (pk_blk (pk_then pk_body))))))))) ha rfl (fun w => ex_move ha) rfl ?_; clear ha; (try clear a); intro a ha
                  refine nt_pure (i := 2) (listed' := #[true, true, true, false, false, false, false, false, false, false, false, false, false, false, false, false]) (by kernel_rfl) rfl (by kernel_rfl) (by decide) (pk_then (pk_then (pk_blk (pk_then (pk_blk (pk_then (pk_then (pk_blk (pk_then pk_body))))))))) ha rfl (fun w => ex_neqB ha Try.underlying4) rfl ?_; clear ha; (try clear a); intro a ha
                  rw [bne_self_eq_false] at ha
                  refine nt_pure (i := 3) (listed' := #[true, true, true, true, false, false, false, false, false, false, false, false, false, false, false, false]) (by kernel_rfl) rfl (by kernel_rfl) (by decide) (pk_then (pk_then (pk_blk (pk_then (pk_blk (pk_then (pk_then (pk_blk (pk_then pk_body))))))))) ha rfl (fun w => ex_move ha) rfl ?_; clear ha; (try clear a); intro a ha
                  refine nt_pure (i := 4) (listed' := #[true, true, true, true, true, false, false, false, false, false, false, false, false, false, false, false]) (by kernel_rfl) rfl (by kernel_rfl) (by decide) (pk_then (pk_then (pk_blk (pk_then (pk_blk (pk_then (pk_then (pk_blk (pk_then pk_body))))))))) ha (wgT ha rfl (s := 143)) (fun w => ex_move ha) rfl ?_; clear ha; (try clear a); intro a ha
                  refine nt_pure (i := 5) (listed' := #[true, true, true, true, true, true, false, false, false, false, false, false, false, false, false, false]) (by kernel_rfl) rfl (by kernel_rfl) (by decide) (pk_then (pk_then (pk_blk (pk_then (pk_blk (pk_then (pk_then (pk_blk (pk_then pk_body))))))))) ha (wgT ha rfl (s := 143)) (fun w => ex_move ha) rfl ?_; clear ha; (try clear a); intro a ha
                  refine ha.bool (s := 145) (fun hg5 ha => ?_) (fun hg5 ha => ?_)
                  ·
                    try simp only [decide_eq_true_eq, decide_eq_false_iff_not, Bool.not_eq_true', Bool.not_eq_false', Int.not_lt, Int.not_le, ne_eq, Decidable.not_not] at hg5
                    obtain rfl := hg5
                    obtain ⟨K, rfl, hK⟩ := nin hv
                    have hK2 : K < xs.length := by simpa using hK
                    have hq := hm1 rfl
                    rw [Int.toNat_natCast, List.getElem?_map, List.getElem?_eq_getElem hK2] at hq
                    simp only [Option.map_some, Ml.m, Option.some.injEq, Prod.mk.injEq] at hq
                    obtain ⟨rfl, rfl, rfl⟩ := hq
                    obtain ⟨b', off', hade, hrd⟩ := hs.slRd ad (by omega)
                    have hmr := (mlRd hrd K hK2).1
                    subst hade
                    refine nt_pure (i := 7) (listed' := #[true, true, true, true, true, true, false, true, false, false, false, false, false, false, false, false]) (by kernel_rfl) rfl (by kernel_rfl) (by decide) (pk_then (pk_then (pk_blk (pk_then (pk_blk (pk_then (pk_then (pk_blk (pk_then pk_body))))))))) ha (wgT ha rfl (s := 145)) (fun w => ex_move ha) rfl ?_; clear ha; (try clear a); intro a ha
                    refine nt_pure (i := 8) (listed' := #[true, true, true, true, true, true, false, true, true, false, false, false, false, false, false, false]) (by kernel_rfl) rfl (by kernel_rfl) (by decide) (pk_then (pk_then (pk_blk (pk_then (pk_blk (pk_then (pk_then (pk_blk (pk_then pk_body))))))))) ha (wgT ha rfl (s := 145)) (fun w => ex_fieldAddr ha Try.underlying31 rfl Ty.t3 rfl) rfl ?_; clear ha; (try clear a); intro a ha
                    refine nt_held (i := 6) (listed' := #[true, true, true, true, true, true, true, true, true, false, false, false, false, false, false, false]) (by kernel_rfl) rfl (by kernel_rfl) (pk_then (pk_then (pk_blk (pk_then (pk_blk (pk_then (pk_then (pk_blk (pk_then pk_body))))))))) ha (wgT ha rfl (s := 145)) (fun w hc => ex_loadN ha Try.underlying29 rfl Ty.t29 (hc.rd (hs.rdN 3))) hC rfl ?_; clear ha; (try clear a); intro a ha
                    refine nt_one (i := 9) (listed' := #[true, true, true, true, true, true, true, true, true, true, false, false, false, false, false, false]) (by kernel_rfl) (by kernel_rfl) rfl (st_set ha (wgT ha rfl (s := 145)) (ex_load1 ha Try.underlying3 rfl (hs.rd1 rfl)) rfl ?_); clear ha; (try clear a); intro a ha
                    refine ⟨fun _ => hC, ?_⟩
                    refine nt_one (i := 10) (listed' := #[true, true, true, true, true, true, true, true, true, true, true, false, false, false, false, false]) (by kernel_rfl) (by kernel_rfl) rfl (st_set ha (wgT ha rfl (s := 145)) (ex_indexAddr ha Try.underlying26 Ty.t29 (by omega)) rfl ?_); clear ha; (try clear a); intro a ha
                    refine ⟨fun _ => hC, ?_⟩
                    refine nt_one (i := 11) (listed' := #[true, true, true, true, true, true, true, true, true, true, true, true, false, false, false, false]) (by kernel_rfl) (by kernel_rfl) rfl (st_set ha (wgT ha rfl (s := 145)) (ex_loadN ha Try.underlying29 rfl Ty.t29 (hmr)) rfl ?_); clear ha; (try clear a); intro a ha
                    refine ⟨fun _ => hC, ?_⟩
                    refine nt_one (i := 12) (listed' := #[true, true, true, true, true, true, true, true, true, true, true, true, true, false, false, false]) (by kernel_rfl) (by kernel_rfl) rfl (st_call ha (wgT ha rfl (s := 145)) Ty.c14 rfl (eq_spec hs (fun w' h => h.rdB ad1 xs[K].bs rfl rfl) (fun w' h => Bys.rd h K hK2)) ?_); clear ha hs
                    rintro e w ⟨rfl, hs⟩
                    refine ⟨_, rfl, ?_⟩
                    intro a ha
                    refine ⟨fun h => absurd h (by decide), ?_⟩
                    refine nt_pure (i := 13) (listed' := #[true, true, true, true, true, true, true, true, true, true, true, true, true, true, false, false]) (by kernel_rfl) rfl (by kernel_rfl) (by decide) (pk_then (pk_then (pk_blk (pk_then (pk_blk (pk_then (pk_then (pk_blk (pk_then pk_body))))))))) ha (wgT ha rfl (s := 145)) (fun w => ex_not ha) rfl ?_; clear ha; (try clear a); intro a ha
                    refine nt_pure (i := 14) (listed' := #[true, true, true, true, true, true, true, true, true, true, true, true, true, true, true, false]) (by kernel_rfl) rfl (by kernel_rfl) (by decide) (pk_then (pk_then (pk_blk (pk_then (pk_blk (pk_then (pk_then (pk_blk (pk_then pk_body))))))))) ha (wgT ha rfl (s := 143)) (fun w => ex_pickT ha) rfl ?_; clear ha; (try clear a); intro a ha
                    refine nt_pure (i := 15) (listed' := #[true, true, true, true, true, true, true, true, true, true, true, true, true, true, true, true]) (by kernel_rfl) rfl (by kernel_rfl) (by decide) (pk_then (pk_then (pk_blk (pk_then (pk_blk (pk_then (pk_then (pk_blk (pk_then pk_body))))))))) ha rfl (fun w => ex_pickF ha) rfl ?_; clear ha; (try clear a); intro a ha
                    refine nt_done (by kernel_rfl) ?_ _
                    refine then_n ?_
                    refine wp_ifF ha ?_
                    refine wp_skip ?_
                    refine then_n ?_
                    refine wp_seq ?_
                    refine wp_region_lit ?_
                    refine wpList_k (st_set ha rfl (ex_move ha) rfl ?_); clear ha; (try clear a); intro a ha
                    refine wpList_k (st_set ha rfl (ex_move ha) rfl ?_); clear ha; (try clear a); intro a ha
                    refine wpList_k (st_set ha (wgT ha rfl (s := 157)) (ex_fieldAddr ha Try.underlying31 rfl Ty.t3 rfl) rfl ?_); clear ha; (try clear a); intro a ha
                    refine wpList_k (st_set ha (wgT ha rfl (s := 157)) (ex_load1 ha Try.underlying3 rfl (hs.rd1 rfl)) rfl ?_); clear ha; (try clear a); intro a ha
                    refine wpList_k (st_set ha (wgT ha rfl (s := 157)) (ex_eql ha) rfl ?_); clear ha; (try clear a); intro a ha
                    rw [decide_eq_false (p := k = 1) (by omega)] at ha
                    refine wpList_k (st_set ha rfl (ex_pickT ha) rfl ?_); clear ha; (try clear a); intro a ha
                    refine wpList_nil ?_
                    refine then_n ?_
                    refine wp_ifF ha ?_
                    refine wp_skip ?_
                    refine blk_n <| then_n ?_
                    refine wp_seq ?_
                    refine wp_region_lit ?_
                    refine wpList_k (st_set ha rfl (ex_move ha) rfl ?_); clear ha; (try clear a); intro a ha
                    refine wpList_k (st_call ha rfl Ty.c17 rfl (len_net (hs.net q)) ?_); clear ha hs
                    rintro e w ⟨rfl, hs⟩
                    refine ⟨_, rfl, ?_⟩
                    intro a ha
                    refine wpList_k (st_set ha rfl (ex_move ha) rfl ?_); clear ha; (try clear a); intro a ha
                    refine wpList_k (st_set ha rfl (ex_len ha Try.underlying26) rfl ?_); clear ha; (try clear a); intro a ha
                    refine wpList_k (st_set ha rfl (ex_neq ha) rfl ?_); clear ha; (try clear a); intro a ha
                    rw [List.length_map, dneI] at ha
                    refine wpList_nil ?_
                    refine then_n ?_
                    refine wp_ifF ha ?_
                    refine wp_skip ?_
                    refine blk_n <| then_n ?_
                    refine wp_region_lit ?_
                    refine wpList_k (st_set ha rfl (ex_move ha) rfl ?_); clear ha; (try clear a); intro a ha
                    refine wpList_k (st_set ha rfl (ex_addI ha (by omega) (by omega)) rfl ?_); clear ha; (try clear a); intro a ha
                    replace ha := ha.del 6
                    refine wpList_k (st_set ha rfl (ex_assign ha) rfl ?_); clear ha; (try clear a); intro a ha
                    refine wpList_nil ?_
                    refine then_n ?_
                    refine ⟨60 - (i + 1), by omega, i + 1, _, _, _, ⟨rfl, by omega, ?_⟩, ha.keep [0, 2, 4, 5, 6], hs.sub⟩
                    omega
                  ·
                    try simp only [decide_eq_true_eq, decide_eq_false_iff_not, Bool.not_eq_true', Bool.not_eq_false', Int.not_lt, Int.not_le, ne_eq, Decidable.not_not] at hg5
                    obtain rfl := hg5
                    refine nt_off (i := 7) (listed' := #[true, true, true, true, true, true, false, true, false, false, false, false, false, false, false, false]) (by kernel_rfl) rfl (by kernel_rfl) (by decide) (pk_then (pk_then (pk_blk (pk_then (pk_blk (pk_then (pk_then (pk_blk (pk_then pk_body))))))))) ha (wgF ha rfl (s := 145) rfl) rfl ?_; clear ha; (try clear a); intro a ha
                    refine nt_off (i := 8) (listed' := #[true, true, true, true, true, true, false, true, true, false, false, false, false, false, false, false]) (by kernel_rfl) rfl (by kernel_rfl) (by decide) (pk_then (pk_then (pk_blk (pk_then (pk_blk (pk_then (pk_then (pk_blk (pk_then pk_body))))))))) ha (wgF ha rfl (s := 145) rfl) rfl ?_; clear ha; (try clear a); intro a ha
                    refine nt_offH (i := 6) (listed' := #[true, true, true, true, true, true, true, true, true, false, false, false, false, false, false, false]) (by kernel_rfl) rfl (by kernel_rfl) (pk_then (pk_then (pk_blk (pk_then (pk_blk (pk_then (pk_then (pk_blk (pk_then pk_body))))))))) ha (wgF ha rfl (s := 145) rfl) hC rfl ?_; clear ha; (try clear a); intro a ha
                    refine nt_offH (i := 9) (listed' := #[true, true, true, true, true, true, true, true, true, true, false, false, false, false, false, false]) (by kernel_rfl) rfl (by kernel_rfl) (pk_then (pk_then (pk_blk (pk_then (pk_blk (pk_then (pk_then (pk_blk (pk_then pk_body))))))))) ha (wgF ha rfl (s := 145) rfl) hC rfl ?_; clear ha; (try clear a); intro a ha
                    refine nt_offH (i := 10) (listed' := #[true, true, true, true, true, true, true, true, true, true, true, false, false, false, false, false]) (by kernel_rfl) rfl (by kernel_rfl) (pk_then (pk_then (pk_blk (pk_then (pk_blk (pk_then (pk_then (pk_blk (pk_then pk_body))))))))) ha (wgF ha rfl (s := 145) rfl) hC rfl ?_; clear ha; (try clear a); intro a ha
                    refine nt_offH (i := 11) (listed' := #[true, true, true, true, true, true, true, true, true, true, true, true, false, false, false, false]) (by kernel_rfl) rfl (by kernel_rfl) (pk_then (pk_then (pk_blk (pk_then (pk_blk (pk_then (pk_then (pk_blk (pk_then pk_body))))))))) ha (wgF ha rfl (s := 145) rfl) hC rfl ?_; clear ha; (try clear a); intro a ha
                    refine nt_off (i := 12) (listed' := #[true, true, true, true, true, true, true, true, true, true, true, true, true, false, false, false]) (by kernel_rfl) rfl (by kernel_rfl) (by decide) (pk_then (pk_then (pk_blk (pk_then (pk_blk (pk_then (pk_then (pk_blk (pk_then pk_body))))))))) ha (wgF ha rfl (s := 145) rfl) rfl ?_; clear ha; (try clear a); intro a ha
                    refine nt_off (i := 13) (listed' := #[true, true, true, true, true, true, true, true, true, true, true, true, true, true, false, false]) (by kernel_rfl) rfl (by kernel_rfl) (by decide) (pk_then (pk_then (pk_blk (pk_then (pk_blk (pk_then (pk_then (pk_blk (pk_then pk_body))))))))) ha (wgF ha rfl (s := 145) rfl) rfl ?_; clear ha; (try clear a); intro a ha
                    refine nt_pure (i := 14) (listed' := #[true, true, true, true, true, true, true, true, true, true, true, true, true, true, true, false]) (by kernel_rfl) rfl (by kernel_rfl) (by decide) (pk_then (pk_then (pk_blk (pk_then (pk_blk (pk_then (pk_then (pk_blk (pk_then pk_body))))))))) ha (wgT ha rfl (s := 143)) (fun w => ex_pickF ha) rfl ?_; clear ha; (try clear a); intro a ha
                    refine nt_pure (i := 15) (listed' := #[true, true, true, true, true, true, true, true, true, true, true, true, true, true, true, true]) (by kernel_rfl) rfl (by kernel_rfl) (by decide) (pk_then (pk_then (pk_blk (pk_then (pk_blk (pk_then (pk_then (pk_blk (pk_then pk_body))))))))) ha rfl (fun w => ex_pickF ha) rfl ?_; clear ha; (try clear a); intro a ha
                    refine nt_done (by kernel_rfl) ?_ _
                    refine then_n ?_
                    refine wp_ifF ha ?_
                    refine wp_skip ?_
                    refine then_n ?_
                    refine wp_seq ?_
                    refine wp_region_lit ?_
                    refine wpList_k (st_set ha rfl (ex_move ha) rfl ?_); clear ha; (try clear a); intro a ha
                    refine wpList_k (st_set ha rfl (ex_move ha) rfl ?_); clear ha; (try clear a); intro a ha
                    refine wpList_k (st_off ha (wgF ha rfl (s := 157) rfl) rfl ?_); clear ha; (try clear a); intro a ha
                    refine wpList_k (st_off ha (wgF ha rfl (s := 157) rfl) rfl ?_); clear ha; (try clear a); intro a ha
                    refine wpList_k (st_off ha (wgF ha rfl (s := 157) rfl) rfl ?_); clear ha; (try clear a); intro a ha
                    refine wpList_k (st_set ha rfl (ex_pickF ha) rfl ?_); clear ha; (try clear a); intro a ha
                    refine wpList_nil ?_
                    refine then_n ?_
                    refine wp_ifF ha ?_
                    refine wp_skip ?_
                    refine blk_n <| then_n ?_
                    refine wp_seq ?_
                    refine wp_region_lit ?_
                    refine wpList_k (st_set ha rfl (ex_move ha) rfl ?_); clear ha; (try clear a); intro a ha
                    refine wpList_k (st_call ha rfl Ty.c17 rfl (len_net (hs.net q)) ?_); clear ha hs
                    rintro e w ⟨rfl, hs⟩
                    refine ⟨_, rfl, ?_⟩
                    intro a ha
                    refine wpList_k (st_set ha rfl (ex_move ha) rfl ?_); clear ha; (try clear a); intro a ha
                    refine wpList_k (st_set ha rfl (ex_len ha Try.underlying26) rfl ?_); clear ha; (try clear a); intro a ha
                    refine wpList_k (st_set ha rfl (ex_neq ha) rfl ?_); clear ha; (try clear a); intro a ha
                    rw [List.length_map, dneI] at ha
                    refine wpList_nil ?_
                    refine then_n ?_
                    refine wp_ifF ha ?_
                    refine wp_skip ?_
                    refine blk_n <| then_n ?_
                    refine wp_region_lit ?_
                    refine wpList_k (st_set ha rfl (ex_move ha) rfl ?_); clear ha; (try clear a); intro a ha
                    refine wpList_k (st_set ha rfl (ex_addI ha (by omega) (by omega)) rfl ?_); clear ha; (try clear a); intro a ha
                    replace ha := ha.del 6
                    refine wpList_k (st_set ha rfl (ex_assign ha) rfl ?_); clear ha; (try clear a); intro a ha
                    refine wpList_nil ?_
                    refine then_n ?_
                    refine ⟨60 - (i + 1), by omega, i + 1, _, _, _, ⟨rfl, by omega, ?_⟩, ha.keep [0, 2, 4, 5, 6], hs.sub⟩
                    omega
                ·
                  try simp only [decide_eq_true_eq, decide_eq_false_iff_not, Bool.not_eq_true', Bool.not_eq_false', Int.not_lt, Int.not_le, ne_eq, Decidable.not_not] at hc5
                  refine wp_seq ?_
                  refine wp_region_lit ?_
                  refine wpList_k (st_set ha rfl (ex_eql ha) rfl ?_); clear ha; (try clear a); intro a ha
                  refine wpList_k (st_set ha rfl (ex_assign ha) rfl ?_); clear ha; (try clear a); intro a ha
                  refine wpList_nil ?_
                  refine then_n ?_
                  refine wp_if ha (fun hc9 => ?_) (fun hc9 => ?_)
                  ·
                    try simp only [decide_eq_true_eq, decide_eq_false_iff_not, Bool.not_eq_true', Bool.not_eq_false', Int.not_lt, Int.not_le, ne_eq, Decidable.not_not] at hc9
                    refine wp_seq ?_
                    refine wp_seq ?_
                    refine wp_region_lit ?_
                    refine wpList_k (st_set ha rfl (ex_move ha) rfl ?_); clear ha; (try clear a); intro a ha
                    refine wpList_k (st_set ha rfl (ex_fieldAddr ha Try.underlying31 rfl Ty.t3 rfl) rfl ?_); clear ha; (try clear a); intro a ha
                    refine wpList_k (st_set ha rfl (ex_load1 ha Try.underlying3 rfl (hs.rd1 rfl)) rfl ?_); clear ha; (try clear a); intro a ha
                    refine wpList_k (st_call ha rfl Ty.c15 rfl (drop_any (hs.net q) hv) ?_); clear ha hs
                    rintro e w ⟨rfl, hs⟩
                    refine ⟨_, rfl, ?_⟩
                    intro a ha
                    refine wpList_k (st_set ha rfl (ex_move ha) rfl ?_); clear ha; (try clear a); intro a ha
                    refine wpList_k (st_set ha rfl (ex_neqB ha Try.underlying4) rfl ?_); clear ha; (try clear a); intro a ha
                    rw [bne_self_eq_false] at ha
                    refine wpList_nil ?_
                    refine then_n ?_
                    refine wp_ifF ha ?_
                    refine wp_skip ?_
                    refine then_n ?_
                    refine wp_seq ?_
                    refine wp_region_lit ?_
                    refine wpList_k (st_set ha rfl (ex_move ha) rfl ?_); clear ha; (try clear a); intro a ha
                    refine wpList_nil ?_
                    refine then_n ?_
                    refine wp_if ha (fun hc11 => ?_) (fun hc11 => ?_)
                    ·
                      try simp only [decide_eq_true_eq, decide_eq_false_iff_not, Bool.not_eq_true', Bool.not_eq_false', Int.not_lt, Int.not_le, ne_eq, Decidable.not_not] at hc11
                      obtain rfl := hc11
                      obtain ⟨K, rfl, hK⟩ := nin hv
                      have hK2 : K < xs.length := by simpa using hK
                      rw [if_pos rfl, Int.toNat_natCast] at hs
                      have hcl := (hs.sl ad).2
                      refine wp_draw (m := 13) (l0 := #[false, false, false, false, false, false, false, false, false, false, false, false, false]) (Old w.drew) [4, 8, 9, 10] Ty.mixed (by kernel_rfl) (by kernel_rfl) ?_
                      replace hs := hs.drew
                      have hC := Old.refl w.drew
                      generalize w.drew = w at hs hC ⊢
                      refine nt_pure (i := 0) (listed' := #[true, false, false, false, false, false, false, false, false, false, false, false, false]) (by kernel_rfl) rfl (by kernel_rfl) (by decide) (pk_blk (pk_then (pk_blk (pk_then (pk_then (pk_blk (pk_then pk_body))))))) ha rfl (fun w => ex_move ha) rfl ?_; clear ha; (try clear a); intro a ha
                      refine nt_pure (i := 1) (listed' := #[true, true, false, false, false, false, false, false, false, false, false, false, false]) (by kernel_rfl) rfl (by kernel_rfl) (by decide) (pk_blk (pk_then (pk_blk (pk_then (pk_then (pk_blk (pk_then pk_body))))))) ha rfl (fun w => ex_fieldAddr ha Try.underlying31 rfl Ty.t3 rfl) rfl ?_; clear ha; (try clear a); intro a ha
                      refine nt_pure (i := 3) (listed' := #[true, true, false, true, false, false, false, false, false, false, false, false, false]) (by kernel_rfl) rfl (by kernel_rfl) (by decide) (pk_blk (pk_then (pk_blk (pk_then (pk_then (pk_blk (pk_then pk_body))))))) ha rfl (fun w => ex_fieldAddr ha Try.underlying31 rfl Ty.t3 rfl) rfl ?_; clear ha; (try clear a); intro a ha
                      refine nt_pure (i := 6) (listed' := #[true, true, false, true, false, false, true, false, false, false, false, false, false]) (by kernel_rfl) rfl (by kernel_rfl) (by decide) (pk_blk (pk_then (pk_blk (pk_then (pk_then (pk_blk (pk_then pk_body))))))) ha rfl (fun w => ex_move ha) rfl ?_; clear ha; (try clear a); intro a ha
                      refine nt_pure (i := 7) (listed' := #[true, true, false, true, false, false, true, true, false, false, false, false, false]) (by kernel_rfl) rfl (by kernel_rfl) (by decide) (pk_blk (pk_then (pk_blk (pk_then (pk_then (pk_blk (pk_then pk_body))))))) ha rfl (fun w => ex_fieldAddr ha Try.underlying31 rfl Ty.t3 rfl) rfl ?_; clear ha; (try clear a); intro a ha
                      refine nt_held (i := 2) (listed' := #[true, true, true, true, false, false, true, true, false, false, false, false, false]) (by kernel_rfl) rfl (by kernel_rfl) (pk_blk (pk_then (pk_blk (pk_then (pk_then (pk_blk (pk_then pk_body))))))) ha rfl (fun w hc => ex_load1 ha Try.underlying3 rfl (hc.cell (hs.rd1 rfl))) hC rfl ?_; clear ha; (try clear a); intro a ha
                      refine nt_held (i := 4) (listed' := #[true, true, true, true, true, false, true, true, false, false, false, false, false]) (by kernel_rfl) rfl (by kernel_rfl) (pk_blk (pk_then (pk_blk (pk_then (pk_then (pk_blk (pk_then pk_body))))))) ha rfl (fun w hc => ex_load1 ha Try.underlying3 rfl (hc.cell (hs.rd1 rfl))) hC rfl ?_; clear ha; (try clear a); intro a ha
                      refine nt_pure (i := 5) (listed' := #[true, true, true, true, true, true, true, true, false, false, false, false, false]) (by kernel_rfl) rfl (by kernel_rfl) (by decide) (pk_blk (pk_then (pk_blk (pk_then (pk_then (pk_blk (pk_then pk_body))))))) ha rfl (fun w => ex_sliceHM ha Try.underlying26 Ty.t29 (by omega) (by omega)) rfl ?_; clear ha; (try clear a); intro a ha
                      refine nt_one (i := 8) (listed' := #[true, true, true, true, true, true, true, true, true, false, false, false, false]) (by kernel_rfl) (by kernel_rfl) rfl (st_set ha rfl (ex_load1 ha Try.underlying3 rfl (hs.rd1 rfl)) rfl ?_); clear ha; (try clear a); intro a ha
                      refine ⟨fun _ => hC, ?_⟩
                      refine nt_one (i := 9) (listed' := #[true, true, true, true, true, true, true, true, true, true, false, false, false]) (by kernel_rfl) (by kernel_rfl) rfl (st_set ha rfl (ex_addI ha (by omega) (by omega)) rfl ?_); clear ha; (try clear a); intro a ha
                      refine ⟨fun _ => hC, ?_⟩
                      refine nt_one (i := 10) (listed' := #[true, true, true, true, true, true, true, true, true, true, true, false, false]) (by kernel_rfl) (by kernel_rfl) rfl (st_set ha rfl (ex_sliceL ha Try.underlying26 Ty.t29 (by omega)) rfl ?_); clear ha; (try clear a); intro a ha
                      refine ⟨fun _ => hC, ?_⟩
                      have hT := tail_rd (ad := ad) hs hK2
                      replace hs := hs.cutSlM ad K (by omega)
                      rw [mlc_take] at hs
                      refine nt_one (i := 11) (listed' := #[true, true, true, true, true, true, true, true, true, true, true, true, false]) (by kernel_rfl) (by kernel_rfl) rfl (st_appendT ha rfl hs Try.underlying26 Ty.t29 rfl rfl (by decide) hT (mlc_len _ |>.trans (by rw [List.length_drop])) (mlc_one _) (by omega) ?_); clear ha hs; (try clear a); (try clear w); intro ad194 c194 a w ha hs
                      refine ⟨fun h => absurd h (by decide), ?_⟩
                      replace ha := ha.del 5
                      refine nt_pure (i := 12) (listed' := #[true, true, true, true, true, true, true, true, true, true, true, true, true]) (by kernel_rfl) rfl (by kernel_rfl) (by decide) (pk_blk (pk_then (pk_blk (pk_then (pk_then (pk_blk (pk_then pk_body))))))) ha rfl (fun w => ex_assign ha) rfl ?_; clear ha; (try clear a); intro a ha
                      refine nt_done (by kernel_rfl) ?_ _
                      have h4 := own_del hK2 (hs.sub (M := [Bys xs, Sl 29 3 ad194 (K + (xs.length - (K + 1))) c194 (mlc (xs.take K) ++ mlc (xs.drop (K + 1))), Net q ((xs.map Ml.m).eraseIdx K)]))
                      rw [show K + (xs.length - (K + 1)) = (xs.eraseIdx K).length from by rw [List.length_eraseIdx, if_pos hK2]; omega] at ha
                      have hyl : (xs.eraseIdx K).length ≤ i + 1 := by rw [List.length_eraseIdx, if_pos hK2]; omega
                      replace hs := h4
                      refine blk_n <| then_n ?_
                      refine wp_seq ?_
                      refine wp_region_lit ?_
                      refine wpList_k (st_set ha rfl (ex_move ha) rfl ?_); clear ha; (try clear a); intro a ha
                      refine wpList_k (st_call ha rfl Ty.c17 rfl (len_net (hs.net q)) ?_); clear ha hs
                      rintro e w ⟨rfl, hs⟩
                      refine ⟨_, rfl, ?_⟩
                      intro a ha
                      refine wpList_k (st_set ha rfl (ex_move ha) rfl ?_); clear ha; (try clear a); intro a ha
                      refine wpList_k (st_set ha rfl (ex_len ha Try.underlying26) rfl ?_); clear ha; (try clear a); intro a ha
                      refine wpList_k (st_set ha rfl (ex_neq ha) rfl ?_); clear ha; (try clear a); intro a ha
                      rw [List.length_map, dneI] at ha
                      refine wpList_nil ?_
                      refine then_n ?_
                      refine wp_ifF ha ?_
                      refine wp_skip ?_
                      refine blk_n <| then_n ?_
                      refine wp_region_lit ?_
                      refine wpList_k (st_set ha rfl (ex_move ha) rfl ?_); clear ha; (try clear a); intro a ha
                      refine wpList_k (st_set ha rfl (ex_addI ha (by omega) (by omega)) rfl ?_); clear ha; (try clear a); intro a ha
                      replace ha := ha.del 6
                      refine wpList_k (st_set ha rfl (ex_assign ha) rfl ?_); clear ha; (try clear a); intro a ha
                      refine wpList_nil ?_
                      refine then_n ?_
                      refine ⟨60 - (i + 1), by omega, i + 1, _, _, _, ⟨rfl, by omega, ?_⟩, ha.keep [0, 2, 4, 5, 6], hs.sub⟩
                      omega
                    ·
                      try simp only [decide_eq_true_eq, decide_eq_false_iff_not, Bool.not_eq_true', Bool.not_eq_false', Int.not_lt, Int.not_le, ne_eq, Decidable.not_not] at hc11
                      obtain rfl := hc11
                      rw [if_neg (by decide)] at hs
                      refine wp_skip ?_
                      refine blk_n <| then_n ?_
                      refine wp_seq ?_
                      refine wp_region_lit ?_
                      refine wpList_k (st_set ha rfl (ex_move ha) rfl ?_); clear ha; (try clear a); intro a ha
                      refine wpList_k (st_call ha rfl Ty.c17 rfl (len_net (hs.net q)) ?_); clear ha hs
                      rintro e w ⟨rfl, hs⟩
                      refine ⟨_, rfl, ?_⟩
                      intro a ha
                      refine wpList_k (st_set ha rfl (ex_move ha) rfl ?_); clear ha; (try clear a); intro a ha
                      refine wpList_k (st_set ha rfl (ex_len ha Try.underlying26) rfl ?_); clear ha; (try clear a); intro a ha
                      refine wpList_k (st_set ha rfl (ex_neq ha) rfl ?_); clear ha; (try clear a); intro a ha
                      rw [List.length_map, dneI] at ha
                      refine wpList_nil ?_
                      refine then_n ?_
                      refine wp_ifF ha ?_
                      refine wp_skip ?_
                      refine blk_n <| then_n ?_
                      refine wp_region_lit ?_
                      refine wpList_k (st_set ha rfl (ex_move ha) rfl ?_); clear ha; (try clear a); intro a ha
                      refine wpList_k (st_set ha rfl (ex_addI ha (by omega) (by omega)) rfl ?_); clear ha; (try clear a); intro a ha
                      replace ha := ha.del 6
                      refine wpList_k (st_set ha rfl (ex_assign ha) rfl ?_); clear ha; (try clear a); intro a ha
                      refine wpList_nil ?_
                      refine then_n ?_
                      refine ⟨60 - (i + 1), by omega, i + 1, _, _, _, ⟨rfl, by omega, ?_⟩, ha.keep [0, 2, 4, 5, 6], hs.sub⟩
                      omega
                  ·
                    try simp only [decide_eq_true_eq, decide_eq_false_iff_not, Bool.not_eq_true', Bool.not_eq_false', Int.not_lt, Int.not_le, ne_eq, Decidable.not_not] at hc9
                    refine wp_seq ?_
                    refine wp_draw (m := 19) (l0 := #[false, false, false, false, false, false, false, false, false, false, false, false, false, false, false, false, false, false, false]) (Old w.drew) [11, 12, 13, 14, 15] Ty.mixed (by kernel_rfl) (by kernel_rfl) ?_
                    replace hs := hs.drew
                    have hC := Old.refl w.drew
                    generalize w.drew = w at hs hC ⊢
                    refine nt_pure (i := 0) (listed' := #[true, false, false, false, false, false, false, false, false, false, false, false, false, false, false, false, false, false, false]) (by kernel_rfl) rfl (by kernel_rfl) (by decide) (pk_then (pk_blk (pk_then (pk_blk (pk_then (pk_then (pk_blk (pk_then pk_body)))))))) ha rfl (fun w => ex_move ha) rfl ?_; clear ha; (try clear a); intro a ha
                    refine nt_pure (i := 1) (listed' := #[true, true, false, false, false, false, false, false, false, false, false, false, false, false, false, false, false, false, false]) (by kernel_rfl) rfl (by kernel_rfl) (by decide) (pk_then (pk_blk (pk_then (pk_blk (pk_then (pk_then (pk_blk (pk_then pk_body)))))))) ha rfl (fun w => ex_move ha) rfl ?_; clear ha; (try clear a); intro a ha
                    refine ha.bool (s := 60) (fun hg1 ha => ?_) (fun hg1 ha => ?_)
                    ·
                      try simp only [decide_eq_true_eq, decide_eq_false_iff_not, Bool.not_eq_true', Bool.not_eq_false', Int.not_lt, Int.not_le, ne_eq, Decidable.not_not] at hg1
                      obtain rfl := hg1
                      obtain ⟨K, rfl, hK⟩ := nin hv
                      have hK2 : K < xs.length := by simpa using hK
                      have hxm : (xs.map Ml.m)[K]? = some (xs[K].frm, xs[K].to, xs[K].bs) := by rw [List.getElem?_map, List.getElem?_eq_getElem hK2]; rfl
                      have hset := set_same hxm
                      have hsm : xs[K].bs.length ≤ 1000 := Net.small (hs.net q) _ (List.mem_of_getElem? hxm)
                      have hcl := (hs.sl ad).2
                      obtain ⟨b', off', hade, hrd⟩ := hs.slRd ad (by omega)
                      have hmr4 := (mlRd hrd K hK2).2.2.2
                      subst hade
                      clear hrd
                      refine nt_pure (i := 2) (listed' := #[true, true, true, false, false, false, false, false, false, false, false, false, false, false, false, false, false, false, false]) (by kernel_rfl) rfl (by kernel_rfl) (by decide) (pk_then (pk_blk (pk_then (pk_blk (pk_then (pk_then (pk_blk (pk_then pk_body)))))))) ha (wgT ha rfl (s := 60)) (fun w => ex_fieldAddr ha Try.underlying31 rfl Ty.t3 rfl) rfl ?_; clear ha; (try clear a); intro a ha
                      refine nt_one (i := 3) (listed' := #[true, true, true, true, false, false, false, false, false, false, false, false, false, false, false, false, false, false, false]) (by kernel_rfl) (by kernel_rfl) rfl (st_set ha (wgT ha rfl (s := 60)) (ex_load1 ha Try.underlying3 rfl (hs.rd1 rfl)) rfl ?_); clear ha; (try clear a); intro a ha
                      refine ⟨fun h => absurd h (by decide), ?_⟩
                      refine nt_pure (i := 4) (listed' := #[true, true, true, true, true, false, false, false, false, false, false, false, false, false, false, false, false, false, false]) (by kernel_rfl) rfl (by kernel_rfl) (by decide) (pk_then (pk_blk (pk_then (pk_blk (pk_then (pk_then (pk_blk (pk_then pk_body)))))))) ha (wgT ha rfl (s := 60)) (fun w => ex_geq ha) rfl ?_; clear ha; (try clear a); intro a ha
                      refine nt_pure (i := 5) (listed' := #[true, true, true, true, true, true, false, false, false, false, false, false, false, false, false, false, false, false, false]) (by kernel_rfl) rfl (by kernel_rfl) (by decide) (pk_then (pk_blk (pk_then (pk_blk (pk_then (pk_then (pk_blk (pk_then pk_body)))))))) ha rfl (fun w => ex_pickT ha) rfl ?_; clear ha; (try clear a); intro a ha
                      refine nt_pure (i := 6) (listed' := #[true, true, true, true, true, true, true, false, false, false, false, false, false, false, false, false, false, false, false]) (by kernel_rfl) rfl (by kernel_rfl) (by decide) (pk_then (pk_blk (pk_then (pk_blk (pk_then (pk_then (pk_blk (pk_then pk_body)))))))) ha rfl (fun w => ex_move ha) rfl ?_; clear ha; (try clear a); intro a ha
                      refine ha.bool (s := 65) (fun hg6 ha => ?_) (fun hg6 ha => ?_)
                      ·
                        try simp only [decide_eq_true_eq, decide_eq_false_iff_not, Bool.not_eq_true', Bool.not_eq_false', Int.not_lt, Int.not_le, ne_eq, Decidable.not_not] at hg6
                        refine nt_pure (i := 7) (listed' := #[true, true, true, true, true, true, true, true, false, false, false, false, false, false, false, false, false, false, false]) (by kernel_rfl) rfl (by kernel_rfl) (by decide) (pk_then (pk_blk (pk_then (pk_blk (pk_then (pk_then (pk_blk (pk_then pk_body)))))))) ha (wgT ha rfl (s := 65)) (fun w => ex_fieldAddr ha Try.underlying31 rfl Ty.t3 rfl) rfl ?_; clear ha; (try clear a); intro a ha
                        refine nt_pure (i := 9) (listed' := #[true, true, true, true, true, true, true, true, false, true, false, false, false, false, false, false, false, false, false]) (by kernel_rfl) rfl (by kernel_rfl) (by decide) (pk_then (pk_blk (pk_then (pk_blk (pk_then (pk_then (pk_blk (pk_then pk_body)))))))) ha (wgT ha rfl (s := 65)) (fun w => ex_move ha) rfl ?_; clear ha; (try clear a); intro a ha
                        refine nt_pure (i := 10) (listed' := #[true, true, true, true, true, true, true, true, false, true, true, false, false, false, false, false, false, false, false]) (by kernel_rfl) rfl (by kernel_rfl) (by decide) (pk_then (pk_blk (pk_then (pk_blk (pk_then (pk_then (pk_blk (pk_then pk_body)))))))) ha (wgT ha rfl (s := 65)) (fun w => ex_fieldAddr ha Try.underlying31 rfl Ty.t3 rfl) rfl ?_; clear ha; (try clear a); intro a ha
                        refine nt_held (i := 8) (listed' := #[true, true, true, true, true, true, true, true, true, true, true, false, false, false, false, false, false, false, false]) (by kernel_rfl) rfl (by kernel_rfl) (pk_then (pk_blk (pk_then (pk_blk (pk_then (pk_then (pk_blk (pk_then pk_body)))))))) ha (wgT ha rfl (s := 65)) (fun w hc => ex_load1 ha Try.underlying3 rfl (hc.cell (hs.rd1 rfl))) hC rfl ?_; clear ha; (try clear a); intro a ha
                        refine nt_one (i := 11) (listed' := #[true, true, true, true, true, true, true, true, true, true, true, true, false, false, false, false, false, false, false]) (by kernel_rfl) (by kernel_rfl) rfl (st_set ha (wgT ha rfl (s := 65)) (ex_load1 ha Try.underlying3 rfl (hs.rd1 rfl)) rfl ?_); clear ha; (try clear a); intro a ha
                        refine ⟨fun _ => hC, ?_⟩
                        refine nt_one (i := 12) (listed' := #[true, true, true, true, true, true, true, true, true, true, true, true, true, false, false, false, false, false, false]) (by kernel_rfl) (by kernel_rfl) rfl (st_set ha (wgT ha rfl (s := 65)) (ex_indexAddr ha Try.underlying26 Ty.t29 (by omega)) rfl ?_); clear ha; (try clear a); intro a ha
                        refine ⟨fun _ => hC, ?_⟩
                        refine nt_one (i := 13) (listed' := #[true, true, true, true, true, true, true, true, true, true, true, true, true, true, false, false, false, false, false]) (by kernel_rfl) (by kernel_rfl) rfl (st_set ha (wgT ha rfl (s := 65)) (ex_fieldAddr ha Try.underlying29 rfl Ty.t27 rfl) rfl ?_); clear ha; (try clear a); intro a ha
                        refine ⟨fun _ => hC, ?_⟩
                        refine nt_one (i := 14) (listed' := #[true, true, true, true, true, true, true, true, true, true, true, true, true, true, true, false, false, false, false]) (by kernel_rfl) (by kernel_rfl) rfl (st_set ha (wgT ha rfl (s := 65)) (ex_load1 ha Try.underlying27 rfl (hmr4)) rfl ?_); clear ha; (try clear a); intro a ha
                        refine ⟨fun _ => hC, ?_⟩
                        refine nt_one (i := 15) (listed' := #[true, true, true, true, true, true, true, true, true, true, true, true, true, true, true, true, false, false, false]) (by kernel_rfl) (by kernel_rfl) rfl (st_set ha (wgT ha rfl (s := 65)) (ex_len ha Try.underlying27) rfl ?_); clear ha; (try clear a); intro a ha
                        refine ⟨fun _ => hC, ?_⟩
                        refine nt_pure (i := 16) (listed' := #[true, true, true, true, true, true, true, true, true, true, true, true, true, true, true, true, true, false, false]) (by kernel_rfl) rfl (by kernel_rfl) (by decide) (pk_then (pk_blk (pk_then (pk_blk (pk_then (pk_then (pk_blk (pk_then pk_body)))))))) ha (wgT ha rfl (s := 65)) (fun w => ex_lss ha) rfl ?_; clear ha; (try clear a); intro a ha
                        refine nt_pure (i := 17) (listed' := #[true, true, true, true, true, true, true, true, true, true, true, true, true, true, true, true, true, true, false]) (by kernel_rfl) rfl (by kernel_rfl) (by decide) (pk_then (pk_blk (pk_then (pk_blk (pk_then (pk_then (pk_blk (pk_then pk_body)))))))) ha rfl (fun w => ex_pickT ha) rfl ?_; clear ha; (try clear a); intro a ha
                        refine nt_pure (i := 18) (listed' := #[true, true, true, true, true, true, true, true, true, true, true, true, true, true, true, true, true, true, true]) (by kernel_rfl) rfl (by kernel_rfl) (by decide) (pk_then (pk_blk (pk_then (pk_blk (pk_then (pk_then (pk_blk (pk_then pk_body)))))))) ha rfl (fun w => ex_assign ha) rfl ?_; clear ha; (try clear a); intro a ha
                        refine nt_done (by kernel_rfl) ?_ _
                        rw [show decide (At < (xs[K].bs.length : Int)) = inn xs[K].bs At from by rw [inn, decide_eq_true (p := 0 ≤ At) (by omega), Bool.true_and]] at ha
                        refine then_n ?_
                        refine wp_seq ?_
                        refine wp_seq ?_
                        refine wp_region_lit ?_
                        refine wpList_k (st_set ha rfl (ex_move ha) rfl ?_); clear ha; (try clear a); intro a ha
                        refine wpList_k (st_set ha rfl (ex_fieldAddr ha Try.underlying31 rfl Ty.t3 rfl) rfl ?_); clear ha; (try clear a); intro a ha
                        refine wpList_k (st_set ha rfl (ex_load1 ha Try.underlying3 rfl (hs.rd1 rfl)) rfl ?_); clear ha; (try clear a); intro a ha
                        refine wpList_k (st_set ha rfl (ex_fieldAddr ha Try.underlying31 rfl Ty.t3 rfl) rfl ?_); clear ha; (try clear a); intro a ha
                        refine wpList_k (st_set ha rfl (ex_load1 ha Try.underlying3 rfl (hs.rd1 rfl)) rfl ?_); clear ha; (try clear a); intro a ha
                        refine wpList_k (st_set ha rfl (ex_fieldAddr ha Try.underlying31 rfl Ty.t5 rfl) rfl ?_); clear ha; (try clear a); intro a ha
                        refine wpList_k (st_set ha rfl (ex_load1 ha Try.underlying5 rfl (hs.rd1 rfl)) rfl ?_); clear ha; (try clear a); intro a ha
                        refine wpList_k (st_call ha rfl Ty.c16 rfl (spoil_at (i := K) (hs.net q) hxm) ?_); clear ha hs
                        rintro e w ⟨rfl, hs⟩
                        refine ⟨_, rfl, ?_⟩
                        intro a ha
                        refine wpList_k (st_set ha rfl (ex_move ha) rfl ?_); clear ha; (try clear a); intro a ha
                        refine wpList_k (st_set ha rfl (ex_neqB ha Try.underlying4) rfl ?_); clear ha; (try clear a); intro a ha
                        rw [bne_self_eq_false] at ha
                        refine wpList_nil ?_
                        refine then_n ?_
                        refine wp_ifF ha ?_
                        refine wp_skip ?_
                        refine then_n ?_
                        refine wp_seq ?_
                        refine wp_region_lit ?_
                        refine wpList_k (st_set ha rfl (ex_move ha) rfl ?_); clear ha; (try clear a); intro a ha
                        refine wpList_nil ?_
                        refine then_n ?_
                        refine wp_if ha (fun hc13 => ?_) (fun hc13 => ?_)
                        ·
                          try simp only [decide_eq_true_eq, decide_eq_false_iff_not, Bool.not_eq_true', Bool.not_eq_false', Int.not_lt, Int.not_le, ne_eq, Decidable.not_not] at hc13
                          obtain ⟨A, rfl, hA⟩ := nin (n := xs[K].bs.length) hc13
                          refine wp_seq ?_
                          refine wp_region_lit ?_
                          refine wpList_k (st_set ha rfl (ex_move ha) rfl ?_); clear ha; (try clear a); intro a ha
                          refine wpList_k (st_set ha rfl (ex_fieldAddr ha Try.underlying31 rfl Ty.t3 rfl) rfl ?_); clear ha; (try clear a); intro a ha
                          refine wpList_k (st_set ha rfl (ex_load1 ha Try.underlying3 rfl (hs.rd1 rfl)) rfl ?_); clear ha; (try clear a); intro a ha
                          refine wpList_k (st_set ha rfl (ex_indexAddr ha Try.underlying26 Ty.t29 (by omega)) rfl ?_); clear ha; (try clear a); intro a ha
                          refine wpList_k (st_set ha rfl (ex_fieldAddr ha Try.underlying29 rfl Ty.t27 rfl) rfl ?_); clear ha; (try clear a); intro a ha
                          refine wpList_k (st_set ha rfl (ex_load1 ha Try.underlying27 rfl ((mlRd (hs.slRdAt b' off' (by omega)) K hK2).2.2.2)) rfl ?_); clear ha; (try clear a); intro a ha
                          refine wpList_k (st_appendB ha rfl hs Try.underlying27 Ty.t5 rfl rfl (by decide) (Bys.rd hs K hK2) (by omega) ?_); clear ha hs; (try clear a); (try clear w); intro ad94 c94 a w ha hs
                          refine wpList_k (st_set ha rfl (ex_assign ha) rfl ?_); clear ha; (try clear a); intro a ha
                          refine wpList_nil ?_
                          refine then_n ?_
                          refine wp_seq ?_
                          have hcl2 := (hs.sl ad94).2
                          obtain ⟨bb, pre, post, ⟨h3, h4, h5, h6⟩, hs0⟩ := (hs.pick (Sl 5 1 ad94 xs[K].bs.length c94 (bc xs[K].bs))).slOpen (by omega)
                          subst h5
                          replace hs := hs0
                          clear hs0
                          have hb2 : (pre ++ bc xs[K].bs ++ post)[pre.length + A * 1]? = some (.int .u8 (xs[K].bs[A].toNat : Int)) := by
                            rw [Nat.mul_one, List.append_assoc, List.getElem?_append_right (by omega), show pre.length + A - pre.length = A from by omega, List.getElem?_append_left (by rw [bc_len]; exact hA)]
                            simp [bc, hA]
                          refine wp_draw (m := 10) (l0 := #[false, false, false, false, false, false, false, false, false, false]) (Old w.drew) [6] Ty.mixed (by kernel_rfl) (by kernel_rfl) ?_
                          replace hs := hs.drew
                          have hC := Old.refl w.drew
                          generalize w.drew = w at hs hC ⊢
                          refine nt_pure (i := 0) (listed' := #[true, false, false, false, false, false, false, false, false, false]) (by kernel_rfl) rfl (by kernel_rfl) (by decide) (pk_then (pk_blk (pk_then (pk_blk (pk_then (pk_then (pk_blk (pk_then pk_body)))))))) ha rfl (fun w => ex_move ha) rfl ?_; clear ha; (try clear a); intro a ha
                          refine nt_pure (i := 1) (listed' := #[true, true, false, false, false, false, false, false, false, false]) (by kernel_rfl) rfl (by kernel_rfl) (by decide) (pk_then (pk_blk (pk_then (pk_blk (pk_then (pk_then (pk_blk (pk_then pk_body)))))))) ha rfl (fun w => ex_fieldAddr ha Try.underlying31 rfl Ty.t3 rfl) rfl ?_; clear ha; (try clear a); intro a ha
                          refine nt_pure (i := 5) (listed' := #[true, true, false, false, false, true, false, false, false, false]) (by kernel_rfl) rfl (by kernel_rfl) (by decide) (pk_then (pk_blk (pk_then (pk_blk (pk_then (pk_then (pk_blk (pk_then pk_body)))))))) ha rfl (fun w => ex_fieldAddr ha Try.underlying31 rfl Ty.t5 rfl) rfl ?_; clear ha; (try clear a); intro a ha
                          refine nt_held (i := 2) (listed' := #[true, true, true, false, false, true, false, false, false, false]) (by kernel_rfl) rfl (by kernel_rfl) (pk_then (pk_blk (pk_then (pk_blk (pk_then (pk_then (pk_blk (pk_then pk_body)))))))) ha rfl (fun w hc => ex_load1 ha Try.underlying3 rfl (hc.cell (hs.rd1 rfl))) hC rfl ?_; clear ha; (try clear a); intro a ha
                          refine nt_pure (i := 3) (listed' := #[true, true, true, true, false, true, false, false, false, false]) (by kernel_rfl) rfl (by kernel_rfl) (by decide) (pk_then (pk_blk (pk_then (pk_blk (pk_then (pk_then (pk_blk (pk_then pk_body)))))))) ha rfl (fun w => ex_indexAddr ha Try.underlying27 Ty.t5 (by omega)) rfl ?_; clear ha; (try clear a); intro a ha
                          refine nt_held (i := 4) (listed' := #[true, true, true, true, true, true, false, false, false, false]) (by kernel_rfl) rfl (by kernel_rfl) (pk_then (pk_blk (pk_then (pk_blk (pk_then (pk_then (pk_blk (pk_then pk_body)))))))) ha rfl (fun w hc => ex_load1 ha Try.underlying5 rfl (hc.cell (hs.rd1 hb2))) hC rfl ?_; clear ha; (try clear a); intro a ha
                          refine nt_one (i := 6) (listed' := #[true, true, true, true, true, true, true, false, false, false]) (by kernel_rfl) (by kernel_rfl) rfl (st_set ha rfl (ex_load1 ha Try.underlying5 rfl (hs.rd1 rfl)) rfl ?_); clear ha; (try clear a); intro a ha
                          refine ⟨fun _ => hC, ?_⟩
                          refine nt_pure (i := 7) (listed' := #[true, true, true, true, true, true, true, true, false, false]) (by kernel_rfl) rfl (by kernel_rfl) (by decide) (pk_then (pk_blk (pk_then (pk_blk (pk_then (pk_then (pk_blk (pk_then pk_body)))))))) ha rfl (fun w => ex_xor8 ha) rfl ?_; clear ha; (try clear a); intro a ha
                          refine nt_pure (i := 8) (listed' := #[true, true, true, true, true, true, true, true, true, false]) (by kernel_rfl) rfl (by kernel_rfl) (by decide) (pk_then (pk_blk (pk_then (pk_blk (pk_then (pk_then (pk_blk (pk_then pk_body)))))))) ha rfl (fun w => ex_indexAddr ha Try.underlying27 Ty.t5 (by omega)) rfl ?_; clear ha; (try clear a); intro a ha
                          refine nt_one (i := 9) (listed' := #[true, true, true, true, true, true, true, true, true, true]) (by kernel_rfl) (by kernel_rfl) rfl (st_store ha rfl hs Ty.t5 rfl (by simp only [List.length_append, bc_len]; omega) ?_); clear ha hs; (try clear a); (try clear w); intro a w ha hs
                          refine ⟨fun h => absurd h (by decide), ?_⟩
                          refine nt_done (by kernel_rfl) ?_ _
                          rw [Nat.mul_one, set_mid (by rw [bc_len]; exact hA), bc_set] at hs
                          have h7 := St.slShut (n := xs[K].bs.length) (c := c94) (sz := 1) (hs.bring bb) (by rw [bc_len, List.length_set, Nat.mul_one]) hcl2 h6
                          obtain ⟨bl, pre2, post2, ⟨g3, g4, g5, g6⟩, hs0⟩ := (h7.pick (Sl 29 3 (some ⟨b', off', none⟩) xs.length c (mlc xs))).slOpen (by omega)
                          cases g5
                          replace hs := hs0
                          clear hs0 h7
                          have hlt : pre2.length + K * 3 + 2 < (pre2 ++ mlc xs ++ post2).length := by
                            rw [List.length_append, List.length_append, mlc_len]; omega
                          refine then_n ?_
                          refine wp_region_lit ?_
                          refine wpList_k (st_set ha rfl (ex_move ha) rfl ?_); clear ha; (try clear a); intro a ha
                          refine wpList_k (st_set ha rfl (ex_fieldAddr ha Try.underlying31 rfl Ty.t3 rfl) rfl ?_); clear ha; (try clear a); intro a ha
                          refine wpList_k (st_set ha rfl (ex_load1 ha Try.underlying3 rfl (hs.rd1 rfl)) rfl ?_); clear ha; (try clear a); intro a ha
                          refine wpList_k (st_set ha rfl (ex_move ha) rfl ?_); clear ha; (try clear a); intro a ha
                          refine wpList_k (st_set ha rfl (ex_indexAddr ha Try.underlying26 Ty.t29 (by omega)) rfl ?_); clear ha; (try clear a); intro a ha
                          refine wpList_k (st_set ha rfl (ex_fieldAddr ha Try.underlying29 rfl Ty.t27 rfl) rfl ?_); clear ha; (try clear a); intro a ha
                          refine wpList_k (st_store ha rfl hs Ty.t27 rfl hlt ?_); clear ha hs; (try clear a); (try clear w); intro a w ha hs
                          refine wpList_nil ?_
                          obtain ⟨m', hm'⟩ : ∃ m' : Ml, m' = ⟨xs[K].frm, xs[K].to, some ⟨bb, pre.length, none⟩, c94, xs[K].bs.set A (xs[K].bs[A] ^^^ x)⟩ := ⟨_, rfl⟩
                          obtain ⟨ys, hys⟩ : ∃ ys, ys = xs.set K m' := ⟨_, rfl⟩
                          have hyl : ys.length = xs.length := by rw [hys, List.length_set]
                          have hyl2 : ys.length ≤ i + 1 := by omega
                          rw [set_mid2 (q := mlc xs) (i := K * 3) (j := 2) (by rw [mlc_len]; omega), mlc_set hK2 (m' := m') (by rw [hm', Ml.cells, List.length_set]), ← hys] at hs
                          have h8 := St.slShut (n := ys.length) (c := c) (sz := 3) (hs.bring b') (mlc_len _) (by omega) (by rw [hyl]; exact g6)
                          have h9 := h8.pick (Bys xs)
                          rw [show Bys xs = Bys (xs.take K ++ xs[K] :: xs.drop (K + 1)) from by rw [← List.drop_eq_getElem_cons hK2, List.take_append_drop]] at h9
                          have h10 := (Bys.out h9).tail
                          have how : m'.own = Sl 5 1 (some ⟨bb, pre.length, none⟩) xs[K].bs.length c94 (bc (xs[K].bs.set A (xs[K].bs[A] ^^^ x))) := by
                            rw [hm', Ml.own]; simp only [List.length_set]
                          rw [← how] at h10
                          have h11 := Bys.into (a := xs.take K) (b := xs.drop (K + 1)) (m := m') (h10.pick m'.own)
                          rw [show xs.take K ++ m' :: xs.drop (K + 1) = ys from by rw [hys, List.set_eq_take_append_cons_drop, if_pos hK2]] at h11
                          have hyn : (xs.map Ml.m).set K (xs[K].frm, xs[K].to, sp xs[K].bs A x) = ys.map Ml.m := by
                            rw [hys, List.map_set, hm', Ml.m, sp, hc13, if_pos rfl, Int.toNat_natCast, List.getD_eq_getElem?_getD, List.getElem?_eq_getElem hA, Option.getD_some]
                          rw [hyn] at h11
                          rw [← hyl] at ha
                          replace hs := h11
                          refine blk_n <| then_n ?_
                          refine wp_seq ?_
                          refine wp_region_lit ?_
                          refine wpList_k (st_set ha rfl (ex_move ha) rfl ?_); clear ha; (try clear a); intro a ha
                          refine wpList_k (st_call ha rfl Ty.c17 rfl (len_net (hs.net q)) ?_); clear ha hs
                          rintro e w ⟨rfl, hs⟩
                          refine ⟨_, rfl, ?_⟩
                          intro a ha
                          refine wpList_k (st_set ha rfl (ex_move ha) rfl ?_); clear ha; (try clear a); intro a ha
                          refine wpList_k (st_set ha rfl (ex_len ha Try.underlying26) rfl ?_); clear ha; (try clear a); intro a ha
                          refine wpList_k (st_set ha rfl (ex_neq ha) rfl ?_); clear ha; (try clear a); intro a ha
                          rw [List.length_map, dneI] at ha
                          refine wpList_nil ?_
                          refine then_n ?_
                          refine wp_ifF ha ?_
                          refine wp_skip ?_
                          refine blk_n <| then_n ?_
                          refine wp_region_lit ?_
                          refine wpList_k (st_set ha rfl (ex_move ha) rfl ?_); clear ha; (try clear a); intro a ha
                          refine wpList_k (st_set ha rfl (ex_addI ha (by omega) (by omega)) rfl ?_); clear ha; (try clear a); intro a ha
                          replace ha := ha.del 6
                          refine wpList_k (st_set ha rfl (ex_assign ha) rfl ?_); clear ha; (try clear a); intro a ha
                          refine wpList_nil ?_
                          refine then_n ?_
                          refine ⟨60 - (i + 1), by omega, i + 1, _, _, _, ⟨rfl, by omega, ?_⟩, ha.keep [0, 2, 4, 5, 6], hs.sub⟩
                          omega
                        ·
                          try simp only [decide_eq_true_eq, decide_eq_false_iff_not, Bool.not_eq_true', Bool.not_eq_false', Int.not_lt, Int.not_le, ne_eq, Decidable.not_not] at hc13
                          rw [show sp xs[K].bs At x = xs[K].bs from by rw [sp, hc13, if_neg (by decide)], hset] at hs
                          refine wp_skip ?_
                          refine blk_n <| then_n ?_
                          refine wp_seq ?_
                          refine wp_region_lit ?_
                          refine wpList_k (st_set ha rfl (ex_move ha) rfl ?_); clear ha; (try clear a); intro a ha
                          refine wpList_k (st_call ha rfl Ty.c17 rfl (len_net (hs.net q)) ?_); clear ha hs
                          rintro e w ⟨rfl, hs⟩
                          refine ⟨_, rfl, ?_⟩
                          intro a ha
                          refine wpList_k (st_set ha rfl (ex_move ha) rfl ?_); clear ha; (try clear a); intro a ha
                          refine wpList_k (st_set ha rfl (ex_len ha Try.underlying26) rfl ?_); clear ha; (try clear a); intro a ha
                          refine wpList_k (st_set ha rfl (ex_neq ha) rfl ?_); clear ha; (try clear a); intro a ha
                          rw [List.length_map, dneI] at ha
                          refine wpList_nil ?_
                          refine then_n ?_
                          refine wp_ifF ha ?_
                          refine wp_skip ?_
                          refine blk_n <| then_n ?_
                          refine wp_region_lit ?_
                          refine wpList_k (st_set ha rfl (ex_move ha) rfl ?_); clear ha; (try clear a); intro a ha
                          refine wpList_k (st_set ha rfl (ex_addI ha (by omega) (by omega)) rfl ?_); clear ha; (try clear a); intro a ha
                          replace ha := ha.del 6
                          refine wpList_k (st_set ha rfl (ex_assign ha) rfl ?_); clear ha; (try clear a); intro a ha
                          refine wpList_nil ?_
                          refine then_n ?_
                          refine ⟨60 - (i + 1), by omega, i + 1, _, _, _, ⟨rfl, by omega, ?_⟩, ha.keep [0, 2, 4, 5, 6], hs.sub⟩
                          omega
                      ·
                        try simp only [decide_eq_true_eq, decide_eq_false_iff_not, Bool.not_eq_true', Bool.not_eq_false', Int.not_lt, Int.not_le, ne_eq, Decidable.not_not] at hg6
                        refine nt_off (i := 7) (listed' := #[true, true, true, true, true, true, true, true, false, false, false, false, false, false, false, false, false, false, false]) (by kernel_rfl) rfl (by kernel_rfl) (by decide) (pk_then (pk_blk (pk_then (pk_blk (pk_then (pk_then (pk_blk (pk_then pk_body)))))))) ha (wgF ha rfl (s := 65) rfl) rfl ?_; clear ha; (try clear a); intro a ha
                        refine nt_off (i := 9) (listed' := #[true, true, true, true, true, true, true, true, false, true, false, false, false, false, false, false, false, false, false]) (by kernel_rfl) rfl (by kernel_rfl) (by decide) (pk_then (pk_blk (pk_then (pk_blk (pk_then (pk_then (pk_blk (pk_then pk_body)))))))) ha (wgF ha rfl (s := 65) rfl) rfl ?_; clear ha; (try clear a); intro a ha
                        refine nt_off (i := 10) (listed' := #[true, true, true, true, true, true, true, true, false, true, true, false, false, false, false, false, false, false, false]) (by kernel_rfl) rfl (by kernel_rfl) (by decide) (pk_then (pk_blk (pk_then (pk_blk (pk_then (pk_then (pk_blk (pk_then pk_body)))))))) ha (wgF ha rfl (s := 65) rfl) rfl ?_; clear ha; (try clear a); intro a ha
                        refine nt_offH (i := 8) (listed' := #[true, true, true, true, true, true, true, true, true, true, true, false, false, false, false, false, false, false, false]) (by kernel_rfl) rfl (by kernel_rfl) (pk_then (pk_blk (pk_then (pk_blk (pk_then (pk_then (pk_blk (pk_then pk_body)))))))) ha (wgF ha rfl (s := 65) rfl) hC rfl ?_; clear ha; (try clear a); intro a ha
                        refine nt_offH (i := 11) (listed' := #[true, true, true, true, true, true, true, true, true, true, true, true, false, false, false, false, false, false, false]) (by kernel_rfl) rfl (by kernel_rfl) (pk_then (pk_blk (pk_then (pk_blk (pk_then (pk_then (pk_blk (pk_then pk_body)))))))) ha (wgF ha rfl (s := 65) rfl) hC rfl ?_; clear ha; (try clear a); intro a ha
                        refine nt_offH (i := 12) (listed' := #[true, true, true, true, true, true, true, true, true, true, true, true, true, false, false, false, false, false, false]) (by kernel_rfl) rfl (by kernel_rfl) (pk_then (pk_blk (pk_then (pk_blk (pk_then (pk_then (pk_blk (pk_then pk_body)))))))) ha (wgF ha rfl (s := 65) rfl) hC rfl ?_; clear ha; (try clear a); intro a ha
                        refine nt_offH (i := 13) (listed' := #[true, true, true, true, true, true, true, true, true, true, true, true, true, true, false, false, false, false, false]) (by kernel_rfl) rfl (by kernel_rfl) (pk_then (pk_blk (pk_then (pk_blk (pk_then (pk_then (pk_blk (pk_then pk_body)))))))) ha (wgF ha rfl (s := 65) rfl) hC rfl ?_; clear ha; (try clear a); intro a ha
                        refine nt_offH (i := 14) (listed' := #[true, true, true, true, true, true, true, true, true, true, true, true, true, true, true, false, false, false, false]) (by kernel_rfl) rfl (by kernel_rfl) (pk_then (pk_blk (pk_then (pk_blk (pk_then (pk_then (pk_blk (pk_then pk_body)))))))) ha (wgF ha rfl (s := 65) rfl) hC rfl ?_; clear ha; (try clear a); intro a ha
                        refine nt_offH (i := 15) (listed' := #[true, true, true, true, true, true, true, true, true, true, true, true, true, true, true, true, false, false, false]) (by kernel_rfl) rfl (by kernel_rfl) (pk_then (pk_blk (pk_then (pk_blk (pk_then (pk_then (pk_blk (pk_then pk_body)))))))) ha (wgF ha rfl (s := 65) rfl) hC rfl ?_; clear ha; (try clear a); intro a ha
                        refine nt_off (i := 16) (listed' := #[true, true, true, true, true, true, true, true, true, true, true, true, true, true, true, true, true, false, false]) (by kernel_rfl) rfl (by kernel_rfl) (by decide) (pk_then (pk_blk (pk_then (pk_blk (pk_then (pk_then (pk_blk (pk_then pk_body)))))))) ha (wgF ha rfl (s := 65) rfl) rfl ?_; clear ha; (try clear a); intro a ha
                        refine nt_pure (i := 17) (listed' := #[true, true, true, true, true, true, true, true, true, true, true, true, true, true, true, true, true, true, false]) (by kernel_rfl) rfl (by kernel_rfl) (by decide) (pk_then (pk_blk (pk_then (pk_blk (pk_then (pk_then (pk_blk (pk_then pk_body)))))))) ha rfl (fun w => ex_pickF ha) rfl ?_; clear ha; (try clear a); intro a ha
                        refine nt_pure (i := 18) (listed' := #[true, true, true, true, true, true, true, true, true, true, true, true, true, true, true, true, true, true, true]) (by kernel_rfl) rfl (by kernel_rfl) (by decide) (pk_then (pk_blk (pk_then (pk_blk (pk_then (pk_then (pk_blk (pk_then pk_body)))))))) ha rfl (fun w => ex_assign ha) rfl ?_; clear ha; (try clear a); intro a ha
                        refine nt_done (by kernel_rfl) ?_ _
                        have hin : inn xs[K].bs At = false := by rw [inn, decide_eq_false (by omega), Bool.false_and]
                        refine then_n ?_
                        refine wp_seq ?_
                        refine wp_seq ?_
                        refine wp_region_lit ?_
                        refine wpList_k (st_set ha rfl (ex_move ha) rfl ?_); clear ha; (try clear a); intro a ha
                        refine wpList_k (st_set ha rfl (ex_fieldAddr ha Try.underlying31 rfl Ty.t3 rfl) rfl ?_); clear ha; (try clear a); intro a ha
                        refine wpList_k (st_set ha rfl (ex_load1 ha Try.underlying3 rfl (hs.rd1 rfl)) rfl ?_); clear ha; (try clear a); intro a ha
                        refine wpList_k (st_set ha rfl (ex_fieldAddr ha Try.underlying31 rfl Ty.t3 rfl) rfl ?_); clear ha; (try clear a); intro a ha
                        refine wpList_k (st_set ha rfl (ex_load1 ha Try.underlying3 rfl (hs.rd1 rfl)) rfl ?_); clear ha; (try clear a); intro a ha
                        refine wpList_k (st_set ha rfl (ex_fieldAddr ha Try.underlying31 rfl Ty.t5 rfl) rfl ?_); clear ha; (try clear a); intro a ha
                        refine wpList_k (st_set ha rfl (ex_load1 ha Try.underlying5 rfl (hs.rd1 rfl)) rfl ?_); clear ha; (try clear a); intro a ha
                        refine wpList_k (st_call ha rfl Ty.c16 rfl (spoil_at (i := K) (hs.net q) hxm) ?_); clear ha hs
                        rintro e w ⟨rfl, hs⟩
                        refine ⟨_, rfl, ?_⟩
                        intro a ha
                        rw [hin] at ha
                        rw [show sp xs[K].bs At x = xs[K].bs from by rw [sp, hin, if_neg (by decide)], hset] at hs
                        refine wpList_k (st_set ha rfl (ex_move ha) rfl ?_); clear ha; (try clear a); intro a ha
                        refine wpList_k (st_set ha rfl (ex_neqB ha Try.underlying4) rfl ?_); clear ha; (try clear a); intro a ha
                        rw [bne_self_eq_false] at ha
                        refine wpList_nil ?_
                        refine then_n ?_
                        refine wp_ifF ha ?_
                        refine wp_skip ?_
                        refine then_n ?_
                        refine wp_seq ?_
                        refine wp_region_lit ?_
                        refine wpList_k (st_set ha rfl (ex_move ha) rfl ?_); clear ha; (try clear a); intro a ha
                        refine wpList_nil ?_
                        refine then_n ?_
                        refine wp_ifF ha ?_
                        refine wp_skip ?_
                        refine blk_n <| then_n ?_
                        refine wp_seq ?_
                        refine wp_region_lit ?_
                        refine wpList_k (st_set ha rfl (ex_move ha) rfl ?_); clear ha; (try clear a); intro a ha
                        refine wpList_k (st_call ha rfl Ty.c17 rfl (len_net (hs.net q)) ?_); clear ha hs
                        rintro e w ⟨rfl, hs⟩
                        refine ⟨_, rfl, ?_⟩
                        intro a ha
                        refine wpList_k (st_set ha rfl (ex_move ha) rfl ?_); clear ha; (try clear a); intro a ha
                        refine wpList_k (st_set ha rfl (ex_len ha Try.underlying26) rfl ?_); clear ha; (try clear a); intro a ha
                        refine wpList_k (st_set ha rfl (ex_neq ha) rfl ?_); clear ha; (try clear a); intro a ha
                        rw [List.length_map, dneI] at ha
                        refine wpList_nil ?_
                        refine then_n ?_
                        refine wp_ifF ha ?_
                        refine wp_skip ?_
                        refine blk_n <| then_n ?_
                        refine wp_region_lit ?_
                        refine wpList_k (st_set ha rfl (ex_move ha) rfl ?_); clear ha; (try clear a); intro a ha
                        refine wpList_k (st_set ha rfl (ex_addI ha (by omega) (by omega)) rfl ?_); clear ha; (try clear a); intro a ha
                        replace ha := ha.del 6
                        refine wpList_k (st_set ha rfl (ex_assign ha) rfl ?_); clear ha; (try clear a); intro a ha
                        refine wpList_nil ?_
                        refine then_n ?_
                        refine ⟨60 - (i + 1), by omega, i + 1, _, _, _, ⟨rfl, by omega, ?_⟩, ha.keep [0, 2, 4, 5, 6], hs.sub⟩
                        omega
                    ·
                      try simp only [decide_eq_true_eq, decide_eq_false_iff_not, Bool.not_eq_true', Bool.not_eq_false', Int.not_lt, Int.not_le, ne_eq, Decidable.not_not] at hg1
                      obtain rfl := hg1
                      refine nt_off (i := 2) (listed' := #[true, true, true, false, false, false, false, false, false, false, false, false, false, false, false, false, false, false, false]) (by kernel_rfl) rfl (by kernel_rfl) (by decide) (pk_then (pk_blk (pk_then (pk_blk (pk_then (pk_then (pk_blk (pk_then pk_body)))))))) ha (wgF ha rfl (s := 60) rfl) rfl ?_; clear ha; (try clear a); intro a ha
                      refine nt_off (i := 3) (listed' := #[true, true, true, true, false, false, false, false, false, false, false, false, false, false, false, false, false, false, false]) (by kernel_rfl) rfl (by kernel_rfl) (by decide) (pk_then (pk_blk (pk_then (pk_blk (pk_then (pk_then (pk_blk (pk_then pk_body)))))))) ha (wgF ha rfl (s := 60) rfl) rfl ?_; clear ha; (try clear a); intro a ha
                      refine nt_off (i := 4) (listed' := #[true, true, true, true, true, false, false, false, false, false, false, false, false, false, false, false, false, false, false]) (by kernel_rfl) rfl (by kernel_rfl) (by decide) (pk_then (pk_blk (pk_then (pk_blk (pk_then (pk_then (pk_blk (pk_then pk_body)))))))) ha (wgF ha rfl (s := 60) rfl) rfl ?_; clear ha; (try clear a); intro a ha
                      refine nt_pure (i := 5) (listed' := #[true, true, true, true, true, true, false, false, false, false, false, false, false, false, false, false, false, false, false]) (by kernel_rfl) rfl (by kernel_rfl) (by decide) (pk_then (pk_blk (pk_then (pk_blk (pk_then (pk_then (pk_blk (pk_then pk_body)))))))) ha rfl (fun w => ex_pickF ha) rfl ?_; clear ha; (try clear a); intro a ha
                      refine nt_pure (i := 6) (listed' := #[true, true, true, true, true, true, true, false, false, false, false, false, false, false, false, false, false, false, false]) (by kernel_rfl) rfl (by kernel_rfl) (by decide) (pk_then (pk_blk (pk_then (pk_blk (pk_then (pk_then (pk_blk (pk_then pk_body)))))))) ha rfl (fun w => ex_move ha) rfl ?_; clear ha; (try clear a); intro a ha
                      refine nt_off (i := 7) (listed' := #[true, true, true, true, true, true, true, true, false, false, false, false, false, false, false, false, false, false, false]) (by kernel_rfl) rfl (by kernel_rfl) (by decide) (pk_then (pk_blk (pk_then (pk_blk (pk_then (pk_then (pk_blk (pk_then pk_body)))))))) ha (wgF ha rfl (s := 65) rfl) rfl ?_; clear ha; (try clear a); intro a ha
                      refine nt_off (i := 9) (listed' := #[true, true, true, true, true, true, true, true, false, true, false, false, false, false, false, false, false, false, false]) (by kernel_rfl) rfl (by kernel_rfl) (by decide) (pk_then (pk_blk (pk_then (pk_blk (pk_then (pk_then (pk_blk (pk_then pk_body)))))))) ha (wgF ha rfl (s := 65) rfl) rfl ?_; clear ha; (try clear a); intro a ha
                      refine nt_off (i := 10) (listed' := #[true, true, true, true, true, true, true, true, false, true, true, false, false, false, false, false, false, false, false]) (by kernel_rfl) rfl (by kernel_rfl) (by decide) (pk_then (pk_blk (pk_then (pk_blk (pk_then (pk_then (pk_blk (pk_then pk_body)))))))) ha (wgF ha rfl (s := 65) rfl) rfl ?_; clear ha; (try clear a); intro a ha
                      refine nt_offH (i := 8) (listed' := #[true, true, true, true, true, true, true, true, true, true, true, false, false, false, false, false, false, false, false]) (by kernel_rfl) rfl (by kernel_rfl) (pk_then (pk_blk (pk_then (pk_blk (pk_then (pk_then (pk_blk (pk_then pk_body)))))))) ha (wgF ha rfl (s := 65) rfl) hC rfl ?_; clear ha; (try clear a); intro a ha
                      refine nt_offH (i := 11) (listed' := #[true, true, true, true, true, true, true, true, true, true, true, true, false, false, false, false, false, false, false]) (by kernel_rfl) rfl (by kernel_rfl) (pk_then (pk_blk (pk_then (pk_blk (pk_then (pk_then (pk_blk (pk_then pk_body)))))))) ha (wgF ha rfl (s := 65) rfl) hC rfl ?_; clear ha; (try clear a); intro a ha
                      refine nt_offH (i := 12) (listed' := #[true, true, true, true, true, true, true, true, true, true, true, true, true, false, false, false, false, false, false]) (by kernel_rfl) rfl (by kernel_rfl) (pk_then (pk_blk (pk_then (pk_blk (pk_then (pk_then (pk_blk (pk_then pk_body)))))))) ha (wgF ha rfl (s := 65) rfl) hC rfl ?_; clear ha; (try clear a); intro a ha
                      refine nt_offH (i := 13) (listed' := #[true, true, true, true, true, true, true, true, true, true, true, true, true, true, false, false, false, false, false]) (by kernel_rfl) rfl (by kernel_rfl) (pk_then (pk_blk (pk_then (pk_blk (pk_then (pk_then (pk_blk (pk_then pk_body)))))))) ha (wgF ha rfl (s := 65) rfl) hC rfl ?_; clear ha; (try clear a); intro a ha
                      refine nt_offH (i := 14) (listed' := #[true, true, true, true, true, true, true, true, true, true, true, true, true, true, true, false, false, false, false]) (by kernel_rfl) rfl (by kernel_rfl) (pk_then (pk_blk (pk_then (pk_blk (pk_then (pk_then (pk_blk (pk_then pk_body)))))))) ha (wgF ha rfl (s := 65) rfl) hC rfl ?_; clear ha; (try clear a); intro a ha
                      refine nt_offH (i := 15) (listed' := #[true, true, true, true, true, true, true, true, true, true, true, true, true, true, true, true, false, false, false]) (by kernel_rfl) rfl (by kernel_rfl) (pk_then (pk_blk (pk_then (pk_blk (pk_then (pk_then (pk_blk (pk_then pk_body)))))))) ha (wgF ha rfl (s := 65) rfl) hC rfl ?_; clear ha; (try clear a); intro a ha
                      refine nt_off (i := 16) (listed' := #[true, true, true, true, true, true, true, true, true, true, true, true, true, true, true, true, true, false, false]) (by kernel_rfl) rfl (by kernel_rfl) (by decide) (pk_then (pk_blk (pk_then (pk_blk (pk_then (pk_then (pk_blk (pk_then pk_body)))))))) ha (wgF ha rfl (s := 65) rfl) rfl ?_; clear ha; (try clear a); intro a ha
                      refine nt_pure (i := 17) (listed' := #[true, true, true, true, true, true, true, true, true, true, true, true, true, true, true, true, true, true, false]) (by kernel_rfl) rfl (by kernel_rfl) (by decide) (pk_then (pk_blk (pk_then (pk_blk (pk_then (pk_then (pk_blk (pk_then pk_body)))))))) ha rfl (fun w => ex_pickF ha) rfl ?_; clear ha; (try clear a); intro a ha
                      refine nt_pure (i := 18) (listed' := #[true, true, true, true, true, true, true, true, true, true, true, true, true, true, true, true, true, true, true]) (by kernel_rfl) rfl (by kernel_rfl) (by decide) (pk_then (pk_blk (pk_then (pk_blk (pk_then (pk_then (pk_blk (pk_then pk_body)))))))) ha rfl (fun w => ex_assign ha) rfl ?_; clear ha; (try clear a); intro a ha
                      refine nt_done (by kernel_rfl) ?_ _
                      refine then_n ?_
                      refine wp_seq ?_
                      refine wp_seq ?_
                      refine wp_region_lit ?_
                      refine wpList_k (st_set ha rfl (ex_move ha) rfl ?_); clear ha; (try clear a); intro a ha
                      refine wpList_k (st_set ha rfl (ex_fieldAddr ha Try.underlying31 rfl Ty.t3 rfl) rfl ?_); clear ha; (try clear a); intro a ha
                      refine wpList_k (st_set ha rfl (ex_load1 ha Try.underlying3 rfl (hs.rd1 rfl)) rfl ?_); clear ha; (try clear a); intro a ha
                      refine wpList_k (st_set ha rfl (ex_fieldAddr ha Try.underlying31 rfl Ty.t3 rfl) rfl ?_); clear ha; (try clear a); intro a ha
                      refine wpList_k (st_set ha rfl (ex_load1 ha Try.underlying3 rfl (hs.rd1 rfl)) rfl ?_); clear ha; (try clear a); intro a ha
                      refine wpList_k (st_set ha rfl (ex_fieldAddr ha Try.underlying31 rfl Ty.t5 rfl) rfl ?_); clear ha; (try clear a); intro a ha
                      refine wpList_k (st_set ha rfl (ex_load1 ha Try.underlying5 rfl (hs.rd1 rfl)) rfl ?_); clear ha; (try clear a); intro a ha
                      refine wpList_k (st_call ha rfl Ty.c16 rfl (spoil_out (hs.net q) hv) ?_); clear ha hs
                      rintro e w ⟨rfl, hs⟩
                      refine ⟨_, rfl, ?_⟩
                      intro a ha
                      refine wpList_k (st_set ha rfl (ex_move ha) rfl ?_); clear ha; (try clear a); intro a ha
                      refine wpList_k (st_set ha rfl (ex_neqB ha Try.underlying4) rfl ?_); clear ha; (try clear a); intro a ha
                      rw [bne_self_eq_false] at ha
                      refine wpList_nil ?_
                      refine then_n ?_
                      refine wp_ifF ha ?_
                      refine wp_skip ?_
                      refine then_n ?_
                      refine wp_seq ?_
                      refine wp_region_lit ?_
                      refine wpList_k (st_set ha rfl (ex_move ha) rfl ?_); clear ha; (try clear a); intro a ha
                      refine wpList_nil ?_
                      refine then_n ?_
                      refine wp_ifF ha ?_
                      refine wp_skip ?_
                      refine blk_n <| then_n ?_
                      refine wp_seq ?_
                      refine wp_region_lit ?_
                      refine wpList_k (st_set ha rfl (ex_move ha) rfl ?_); clear ha; (try clear a); intro a ha
                      refine wpList_k (st_call ha rfl Ty.c17 rfl (len_net (hs.net q)) ?_); clear ha hs
                      rintro e w ⟨rfl, hs⟩
                      refine ⟨_, rfl, ?_⟩
                      intro a ha
                      refine wpList_k (st_set ha rfl (ex_move ha) rfl ?_); clear ha; (try clear a); intro a ha
                      refine wpList_k (st_set ha rfl (ex_len ha Try.underlying26) rfl ?_); clear ha; (try clear a); intro a ha
                      refine wpList_k (st_set ha rfl (ex_neq ha) rfl ?_); clear ha; (try clear a); intro a ha
                      rw [List.length_map, dneI] at ha
                      refine wpList_nil ?_
                      refine then_n ?_
                      refine wp_ifF ha ?_
                      refine wp_skip ?_
                      refine blk_n <| then_n ?_
                      refine wp_region_lit ?_
                      refine wpList_k (st_set ha rfl (ex_move ha) rfl ?_); clear ha; (try clear a); intro a ha
                      refine wpList_k (st_set ha rfl (ex_addI ha (by omega) (by omega)) rfl ?_); clear ha; (try clear a); intro a ha
                      replace ha := ha.del 6
                      refine wpList_k (st_set ha rfl (ex_assign ha) rfl ?_); clear ha; (try clear a); intro a ha
                      refine wpList_nil ?_
                      refine then_n ?_
                      refine ⟨60 - (i + 1), by omega, i + 1, _, _, _, ⟨rfl, by omega, ?_⟩, ha.keep [0, 2, 4, 5, 6], hs.sub⟩
                      omega
          ·
            try simp only [decide_eq_true_eq, decide_eq_false_iff_not, Bool.not_eq_true', Bool.not_eq_false', Int.not_lt, Int.not_le, ne_eq, Decidable.not_not] at hg3
            refine wpList_k (st_off ha (wgF ha rfl (s := 50) rfl) rfl ?_); clear ha; (try clear a); intro a ha
            refine wpList_k (st_off ha (wgF ha rfl (s := 50) rfl) rfl ?_); clear ha; (try clear a); intro a ha
            refine wpList_k (st_off ha (wgF ha rfl (s := 50) rfl) rfl ?_); clear ha; (try clear a); intro a ha
            refine wpList_k (st_off ha (wgF ha rfl (s := 50) rfl) rfl ?_); clear ha; (try clear a); intro a ha
            refine wpList_k (st_off ha (wgF ha rfl (s := 50) rfl) rfl ?_); clear ha; (try clear a); intro a ha
            refine wpList_k (st_set ha rfl (ex_pickF ha) rfl ?_); clear ha; (try clear a); intro a ha
            refine wpList_k (st_set ha rfl (ex_assign ha) rfl ?_); clear ha; (try clear a); intro a ha
            refine wpList_nil ?_
            have hv : (decide (0 ≤ I) && decide (I < (xs.map Ml.m).length)) = false := by rw [decide_eq_false (by omega), Bool.false_and]
            refine then_n ?_
            refine wp_seq ?_
            refine wp_seq ?_
            refine wp_region_lit ?_
            refine wpList_k (st_set ha rfl (ex_fieldAddr ha Try.underlying31 rfl Ty.t3 rfl) rfl ?_); clear ha; (try clear a); intro a ha
            refine wpList_k (st_set ha rfl (ex_load1 ha Try.underlying3 rfl (hs.rd1 rfl)) rfl ?_); clear ha; (try clear a); intro a ha
            refine wpList_nil ?_
            refine then_n ?_
            refine wp_block ?_
            refine wp_seq ?_
            refine wp_region_lit ?_
            refine wpList_k (st_set ha rfl (ex_eql ha) rfl ?_); clear ha; (try clear a); intro a ha
            refine wpList_k (st_set ha rfl (ex_assign ha) rfl ?_); clear ha; (try clear a); intro a ha
            refine wpList_nil ?_
            refine then_n ?_
            refine wp_if ha (fun hc2 => ?_) (fun hc2 => ?_)
            ·
              try simp only [decide_eq_true_eq, decide_eq_false_iff_not, Bool.not_eq_true', Bool.not_eq_false', Int.not_lt, Int.not_le, ne_eq, Decidable.not_not] at hc2
              refine wp_seq ?_
              refine wp_seq ?_
              refine wp_region_lit ?_
              refine wpList_k (st_set ha rfl (ex_move ha) rfl ?_); clear ha; (try clear a); intro a ha
              refine wpList_k (st_set ha rfl (ex_loadN ha Try.underlying29 rfl Ty.t29 (hs.rdN 3)) rfl ?_); clear ha; (try clear a); intro a ha
              refine wpList_k (st_call ha rfl Ty.c11 rfl (send_spec (bs := bs.take 40) (hs.net q) (fun w' h => h.rdB ad45 (bs.take 40) rfl rfl)) ?_); clear ha hs
              rintro e w ⟨rfl, hs⟩
              refine ⟨_, rfl, ?_⟩
              intro a ha
              rw [show maySend (xs.map Ml.m) (bs.take 40).length = true from by simp only [maySend, List.length_map, Bool.and_eq_true, decide_eq_true_eq]; omega] at ha hs
              rw [if_pos rfl] at hs
              refine wpList_k (st_set ha rfl (ex_not ha) rfl ?_); clear ha; (try clear a); intro a ha
              refine wpList_nil ?_
              refine then_n ?_
              refine wp_ifF ha ?_
              refine wp_skip ?_
              refine then_n ?_
              refine wp_region_lit ?_
              refine wpList_k (st_set ha rfl (ex_move ha) rfl ?_); clear ha; (try clear a); intro a ha
              refine wpList_k (st_set ha rfl (ex_loadN ha Try.underlying29 rfl Ty.t29 (hs.rdN 3)) rfl ?_); clear ha; (try clear a); intro a ha
              refine wpList_k (st_buildSlice ha rfl hs Try.underlying26 Ty.t29 rfl rfl rfl rfl (by decide) (by decide) ?_); clear ha hs; (try clear a); (try clear w); intro b118 a w ha hs ho
              clear ho
              refine wpList_k (st_append ha rfl hs Try.underlying26 Ty.t29 rfl rfl hs.rdAll rfl (by simp [Value.oneCell']) (by decide) (by decide) (by omega) ?_); clear ha hs; (try clear a); (try clear w); intro ad119 c119 a w ha hs
              replace ha := ha.del 5
              refine wpList_k (st_set ha rfl (ex_assign ha) rfl ?_); clear ha; (try clear a); intro a ha
              refine wpList_nil ?_
              obtain ⟨ys, hys⟩ : ∃ ys, ys = xs ++ [⟨f, t, ad45, c45, bs.take 40⟩] := ⟨_, rfl⟩
              have h4 := Bys.into (a := xs) (b := []) (m := ⟨f, t, ad45, c45, bs.take 40⟩) (by rw [List.append_nil]; exact (hs.pick (Bys xs)).pick (Sl 5 1 ad45 (bs.take 40).length c45 (bc (bs.take 40))))
              rw [← hys, show mlc xs ++ [[Value.int IntKind.i64 f, Value.int IntKind.i64 t, Value.slice ad45 (bs.take 40).length c45]].flatten = mlc ys from by rw [hys, mlc_app]; rfl] at h4
              rw [show xs.map Ml.m ++ [(f, t, bs.take 40)] = ys.map Ml.m from by rw [hys, List.map_append]; rfl, show xs.length + 1 = ys.length from by rw [hys]; simp] at h4
              rw [show xs.length + 1 = ys.length from by rw [hys]; simp] at ha
              have hyl : ys.length ≤ i + 1 := by rw [hys]; simp; omega
              replace hs := h4
              refine blk_n <| then_n ?_
              refine wp_seq ?_
              refine wp_region_lit ?_
              refine wpList_k (st_set ha rfl (ex_move ha) rfl ?_); clear ha; (try clear a); intro a ha
              refine wpList_k (st_call ha rfl Ty.c17 rfl (len_net (hs.net q)) ?_); clear ha hs
              rintro e w ⟨rfl, hs⟩
              refine ⟨_, rfl, ?_⟩
              intro a ha
              refine wpList_k (st_set ha rfl (ex_move ha) rfl ?_); clear ha; (try clear a); intro a ha
              refine wpList_k (st_set ha rfl (ex_len ha Try.underlying26) rfl ?_); clear ha; (try clear a); intro a ha
              refine wpList_k (st_set ha rfl (ex_neq ha) rfl ?_); clear ha; (try clear a); intro a ha
              rw [List.length_map, dneI] at ha
              refine wpList_nil ?_
              refine then_n ?_
              refine wp_ifF ha ?_
              refine wp_skip ?_
              refine blk_n <| then_n ?_
              refine wp_region_lit ?_
              refine wpList_k (st_set ha rfl (ex_move ha) rfl ?_); clear ha; (try clear a); intro a ha
              refine wpList_k (st_set ha rfl (ex_addI ha (by omega) (by omega)) rfl ?_); clear ha; (try clear a); intro a ha
              replace ha := ha.del 6
              refine wpList_k (st_set ha rfl (ex_assign ha) rfl ?_); clear ha; (try clear a); intro a ha
              refine wpList_nil ?_
              refine then_n ?_
              refine ⟨60 - (i + 1), by omega, i + 1, _, _, _, ⟨rfl, by omega, ?_⟩, ha.keep [0, 2, 4, 5, 6], hs.sub⟩
              omega
            ·
              try simp only [decide_eq_true_eq, decide_eq_false_iff_not, Bool.not_eq_true', Bool.not_eq_false', Int.not_lt, Int.not_le, ne_eq, Decidable.not_not] at hc2
              refine wp_seq ?_
              refine wp_seq ?_
              refine wp_region_lit ?_
              refine wpList_k (st_set ha rfl (ex_eql ha) rfl ?_); clear ha; (try clear a); intro a ha
              refine wpList_k (st_set ha rfl (ex_assign ha) rfl ?_); clear ha; (try clear a); intro a ha
              refine wpList_nil ?_
              refine then_n ?_
              refine wp_if ha (fun hc4 => ?_) (fun hc4 => ?_)
              ·
                try simp only [decide_eq_true_eq, decide_eq_false_iff_not, Bool.not_eq_true', Bool.not_eq_false', Int.not_lt, Int.not_le, ne_eq, Decidable.not_not] at hc4
                rw [decide_eq_true (p := k = 1) hc4] at ha
                refine wp_skip ?_
                refine then_n ?_
                refine wp_ifT ha ?_
                refine wp_seq ?_
                refine wp_region_lit ?_
                refine wpList_k (st_set ha rfl (ex_move ha) rfl ?_); clear ha; (try clear a); intro a ha
                refine wpList_k (st_set ha rfl (ex_fieldAddr ha Try.underlying31 rfl Ty.t3 rfl) rfl ?_); clear ha; (try clear a); intro a ha
                refine wpList_k (st_set ha rfl (ex_load1 ha Try.underlying3 rfl (hs.rd1 rfl)) rfl ?_); clear ha; (try clear a); intro a ha
                refine wpList_k (st_call ha rfl Ty.c12 rfl (look_any (hs.net q) hv) ?_); clear ha hs
                rintro e w ⟨f1, t1, ad1, c1, bs1, rfl, hm1, hs⟩
                refine ⟨_, rfl, ?_⟩
                intro a ha
                refine wpList_k (st_set ha rfl (ex_move ha) rfl ?_); clear ha; (try clear a); intro a ha
                refine wpList_k (st_set ha rfl (ex_extract ha rfl) rfl ?_); clear ha; (try clear a); intro a ha
                refine wpList_k (st_set ha rfl (ex_extract ha rfl) rfl ?_); clear ha; (try clear a); intro a ha
                refine wpList_k (st_alloc ha rfl hs Ty.t29 rfl ?_); clear ha hs; (try clear a); (try clear w); intro b10 a w ha hs ho
                clear ho
                refine wpList_k (st_storeAll ha rfl hs Ty.t29 (by simp [Value.oneCell']) (by rfl) ?_); clear ha hs; (try clear a); (try clear w); intro a w ha hs
                refine wpList_k (st_set ha rfl (ex_assign ha) rfl ?_); clear ha; (try clear a); intro a ha
                refine wpList_nil ?_
                refine then_n ?_
                refine wp_seq ?_
                refine wp_seq ?_
                refine wp_region_lit ?_
                refine wpList_k (st_set ha rfl (ex_fieldAddr ha Try.underlying31 rfl Ty.t3 rfl) rfl ?_); clear ha; (try clear a); intro a ha
                refine wpList_k (st_set ha rfl (ex_load1 ha Try.underlying3 rfl (hs.rd1 rfl)) rfl ?_); clear ha; (try clear a); intro a ha
                refine wpList_k (st_set ha rfl (ex_eql ha) rfl ?_); clear ha; (try clear a); intro a ha
                rw [decide_eq_true (p := k = 1) (by omega)] at ha
                refine wpList_nil ?_
                refine then_n ?_
                refine wp_ifT ha ?_
                refine wp_region_lit ?_
                refine wpList_k (st_set ha rfl (ex_move ha) rfl ?_); clear ha; (try clear a); intro a ha
                refine wpList_k (st_set ha rfl (ex_fieldAddr ha Try.underlying31 rfl Ty.t3 rfl) rfl ?_); clear ha; (try clear a); intro a ha
                refine wpList_k (st_set ha rfl (ex_load1 ha Try.underlying3 rfl (hs.rd1 rfl)) rfl ?_); clear ha; (try clear a); intro a ha
                refine wpList_k (st_call ha rfl Ty.c13 rfl (take_any (hs.net q) hv) ?_); clear ha hs
                rintro e w ⟨f2, t2, ad2, c2, bs2, rfl, hm2, hs⟩
                refine ⟨_, rfl, ?_⟩
                intro a ha
                rw [if_neg (by decide)] at hs
                refine wpList_k (st_set ha rfl (ex_move ha) rfl ?_); clear ha; (try clear a); intro a ha
                refine wpList_k (st_set ha rfl (ex_extract ha rfl) rfl ?_); clear ha; (try clear a); intro a ha
                refine wpList_k (st_set ha rfl (ex_extract ha rfl) rfl ?_); clear ha; (try clear a); intro a ha
                refine wpList_k (st_storeAll ha rfl hs Ty.t29 (by simp [Value.oneCell']) (by rfl) ?_); clear ha hs; (try clear a); (try clear w); intro a w ha hs
                replace ha := ha.del 11
                refine wpList_k (st_set ha rfl (ex_assign ha) rfl ?_); clear ha; (try clear a); intro a ha
                refine wpList_nil ?_
                refine then_n ?_
                refine wp_seq ?_
                refine wp_seq ?_
                refine wp_draw (m := 16) (l0 := #[false, false, false, false, false, false, false, false, false, false, false, false, false, false, false, false]) (Old w.drew) [9, 10, 11] Ty.mixed (by kernel_rfl) (by kernel_rfl) ?_
                replace hs := hs.drew
                have hC := Old.refl w.drew
                generalize w.drew = w at hs hC ⊢
                refine nt_pure (i := 0) (listed' := #[true, false, false, false, false, false, false, false, false, false, false, false, false, false, false, false]) (by kernel_rfl) rfl (by kernel_rfl) (by decide) (pk_then (pk_then (pk_blk (pk_then (pk_blk (pk_then (pk_then (pk_blk (pk_then pk_body))))))))) ha rfl (fun w => ex_move ha) rfl ?_; clear ha; (try clear a); intro a ha
                refine nt_pure (i := 1) (listed' := #[true, true, false, false, false, false, false, false, false, false, false, false, false, false, false, false]) (by kernel_rfl) rfl (by kernel_rfl) (by decide) (pk_then (pk_then (pk_blk (pk_then (pk_blk (pk_then (pk_then (pk_blk (pk_then pk_body))))))))) ha rfl (fun w => ex_move ha) rfl ?_; clear ha; (try clear a); intro a ha
                refine nt_pure (i := 2) (listed' := #[true, true, true, false, false, false, false, false, false, false, false, false, false, false, false, false]) (by kernel_rfl) rfl (by kernel_rfl) (by decide) (pk_then (pk_then (pk_blk (pk_then (pk_blk (pk_then (pk_then (pk_blk (pk_then pk_body))))))))) ha rfl (fun w => ex_neqB ha Try.underlying4) rfl ?_; clear ha; (try clear a); intro a ha
                rw [bne_self_eq_false] at ha
                refine nt_pure (i := 3) (listed' := #[true, true, true, true, false, false, false, false, false, false, false, false, false, false, false, false]) (by kernel_rfl) rfl (by kernel_rfl) (by decide) (pk_then (pk_then (pk_blk (pk_then (pk_blk (pk_then (pk_then (pk_blk (pk_then pk_body))))))))) ha rfl (fun w => ex_move ha) rfl ?_; clear ha; (try clear a); intro a ha
                refine nt_pure (i := 4) (listed' := #[true, true, true, true, true, false, false, false, false, false, false, false, false, false, false, false]) (by kernel_rfl) rfl (by kernel_rfl) (by decide) (pk_then (pk_then (pk_blk (pk_then (pk_blk (pk_then (pk_then (pk_blk (pk_then pk_body))))))))) ha (wgT ha rfl (s := 143)) (fun w => ex_move ha) rfl ?_; clear ha; (try clear a); intro a ha
                refine nt_pure (i := 5) (listed' := #[true, true, true, true, true, true, false, false, false, false, false, false, false, false, false, false]) (by kernel_rfl) rfl (by kernel_rfl) (by decide) (pk_then (pk_then (pk_blk (pk_then (pk_blk (pk_then (pk_then (pk_blk (pk_then pk_body))))))))) ha (wgT ha rfl (s := 143)) (fun w => ex_move ha) rfl ?_; clear ha; (try clear a); intro a ha
                refine nt_off (i := 7) (listed' := #[true, true, true, true, true, true, false, true, false, false, false, false, false, false, false, false]) (by kernel_rfl) rfl (by kernel_rfl) (by decide) (pk_then (pk_then (pk_blk (pk_then (pk_blk (pk_then (pk_then (pk_blk (pk_then pk_body))))))))) ha (wgF ha rfl (s := 145) rfl) rfl ?_; clear ha; (try clear a); intro a ha
                refine nt_off (i := 8) (listed' := #[true, true, true, true, true, true, false, true, true, false, false, false, false, false, false, false]) (by kernel_rfl) rfl (by kernel_rfl) (by decide) (pk_then (pk_then (pk_blk (pk_then (pk_blk (pk_then (pk_then (pk_blk (pk_then pk_body))))))))) ha (wgF ha rfl (s := 145) rfl) rfl ?_; clear ha; (try clear a); intro a ha
                refine nt_offH (i := 6) (listed' := #[true, true, true, true, true, true, true, true, true, false, false, false, false, false, false, false]) (by kernel_rfl) rfl (by kernel_rfl) (pk_then (pk_then (pk_blk (pk_then (pk_blk (pk_then (pk_then (pk_blk (pk_then pk_body))))))))) ha (wgF ha rfl (s := 145) rfl) hC rfl ?_; clear ha; (try clear a); intro a ha
                refine nt_offH (i := 9) (listed' := #[true, true, true, true, true, true, true, true, true, true, false, false, false, false, false, false]) (by kernel_rfl) rfl (by kernel_rfl) (pk_then (pk_then (pk_blk (pk_then (pk_blk (pk_then (pk_then (pk_blk (pk_then pk_body))))))))) ha (wgF ha rfl (s := 145) rfl) hC rfl ?_; clear ha; (try clear a); intro a ha
                refine nt_offH (i := 10) (listed' := #[true, true, true, true, true, true, true, true, true, true, true, false, false, false, false, false]) (by kernel_rfl) rfl (by kernel_rfl) (pk_then (pk_then (pk_blk (pk_then (pk_blk (pk_then (pk_then (pk_blk (pk_then pk_body))))))))) ha (wgF ha rfl (s := 145) rfl) hC rfl ?_; clear ha; (try clear a); intro a ha
                refine nt_offH (i := 11) (listed' := #[true, true, true, true, true, true, true, true, true, true, true, true, false, false, false, false]) (by kernel_rfl) rfl (by kernel_rfl) (pk_then (pk_then (pk_blk (pk_then (pk_blk (pk_then (pk_then (pk_blk (pk_then pk_body))))))))) ha (wgF ha rfl (s := 145) rfl) hC rfl ?_; clear ha; (try clear a); intro a ha
                refine nt_off (i := 12) (listed' := #[true, true, true, true, true, true, true, true, true, true, true, true, true, false, false, false]) (by kernel_rfl) rfl (by kernel_rfl) (by decide) (pk_then (pk_then (pk_blk (pk_then (pk_blk (pk_then (pk_then (pk_blk (pk_then pk_body))))))))) ha (wgF ha rfl (s := 145) rfl) rfl ?_; clear ha; (try clear a); intro a ha
                refine nt_off (i := 13) (listed' := #[true, true, true, true, true, true, true, true, true, true, true, true, true, true, false, false]) (by kernel_rfl) rfl (by kernel_rfl) (by decide) (pk_then (pk_then (pk_blk (pk_then (pk_blk (pk_then (pk_then (pk_blk (pk_then pk_body))))))))) ha (wgF ha rfl (s := 145) rfl) rfl ?_; clear ha; (try clear a); intro a ha
                refine nt_pure (i := 14) (listed' := #[true, true, true, true, true, true, true, true, true, true, true, true, true, true, true, false]) (by kernel_rfl) rfl (by kernel_rfl) (by decide) (pk_then (pk_then (pk_blk (pk_then (pk_blk (pk_then (pk_then (pk_blk (pk_then pk_body))))))))) ha (wgT ha rfl (s := 143)) (fun w => ex_pickF ha) rfl ?_; clear ha; (try clear a); intro a ha
                refine nt_pure (i := 15) (listed' := #[true, true, true, true, true, true, true, true, true, true, true, true, true, true, true, true]) (by kernel_rfl) rfl (by kernel_rfl) (by decide) (pk_then (pk_then (pk_blk (pk_then (pk_blk (pk_then (pk_then (pk_blk (pk_then pk_body))))))))) ha rfl (fun w => ex_pickF ha) rfl ?_; clear ha; (try clear a); intro a ha
                refine nt_done (by kernel_rfl) ?_ _
                refine then_n ?_
                refine wp_ifF ha ?_
                refine wp_skip ?_
                refine then_n ?_
                refine wp_seq ?_
                refine wp_region_lit ?_
                refine wpList_k (st_set ha rfl (ex_move ha) rfl ?_); clear ha; (try clear a); intro a ha
                refine wpList_k (st_set ha rfl (ex_move ha) rfl ?_); clear ha; (try clear a); intro a ha
                refine wpList_k (st_off ha (wgF ha rfl (s := 157) rfl) rfl ?_); clear ha; (try clear a); intro a ha
                refine wpList_k (st_off ha (wgF ha rfl (s := 157) rfl) rfl ?_); clear ha; (try clear a); intro a ha
                refine wpList_k (st_off ha (wgF ha rfl (s := 157) rfl) rfl ?_); clear ha; (try clear a); intro a ha
                refine wpList_k (st_set ha rfl (ex_pickF ha) rfl ?_); clear ha; (try clear a); intro a ha
                refine wpList_nil ?_
                refine then_n ?_
                refine wp_ifF ha ?_
                refine wp_skip ?_
                refine blk_n <| then_n ?_
                refine wp_seq ?_
                refine wp_region_lit ?_
                refine wpList_k (st_set ha rfl (ex_move ha) rfl ?_); clear ha; (try clear a); intro a ha
                refine wpList_k (st_call ha rfl Ty.c17 rfl (len_net (hs.net q)) ?_); clear ha hs
                rintro e w ⟨rfl, hs⟩
                refine ⟨_, rfl, ?_⟩
                intro a ha
                refine wpList_k (st_set ha rfl (ex_move ha) rfl ?_); clear ha; (try clear a); intro a ha
                refine wpList_k (st_set ha rfl (ex_len ha Try.underlying26) rfl ?_); clear ha; (try clear a); intro a ha
                refine wpList_k (st_set ha rfl (ex_neq ha) rfl ?_); clear ha; (try clear a); intro a ha
                rw [List.length_map, dneI] at ha
                refine wpList_nil ?_
                refine then_n ?_
                refine wp_ifF ha ?_
                refine wp_skip ?_
                refine blk_n <| then_n ?_
                refine wp_region_lit ?_
                refine wpList_k (st_set ha rfl (ex_move ha) rfl ?_); clear ha; (try clear a); intro a ha
                refine wpList_k (st_set ha rfl (ex_addI ha (by omega) (by omega)) rfl ?_); clear ha; (try clear a); intro a ha
                replace ha := ha.del 6
                refine wpList_k (st_set ha rfl (ex_assign ha) rfl ?_); clear ha; (try clear a); intro a ha
                refine wpList_nil ?_
                refine then_n ?_
                refine ⟨60 - (i + 1), by omega, i + 1, _, _, _, ⟨rfl, by omega, ?_⟩, ha.keep [0, 2, 4, 5, 6], hs.sub⟩
                omega
              ·
                try simp only [decide_eq_true_eq, decide_eq_false_iff_not, Bool.not_eq_true', Bool.not_eq_false', Int.not_lt, Int.not_le, ne_eq, Decidable.not_not] at hc4
                refine wp_region_lit ?_
                refine wpList_k (st_set ha rfl (ex_eql ha) rfl ?_); clear ha; (try clear a); intro a ha
                replace ha := ha.del 120
                refine wpList_k (st_set ha rfl (ex_assign ha) rfl ?_); clear ha; (try clear a); intro a ha
                refine wpList_nil ?_
                refine then_n ?_
                refine wp_if ha (fun hc5 => ?_) (fun hc5 => ?_)
                ·
                  try simp only [decide_eq_true_eq, decide_eq_false_iff_not, Bool.not_eq_true', Bool.not_eq_false', Int.not_lt, Int.not_le, ne_eq, Decidable.not_not] at hc5
                  refine wp_seq ?_
                  refine wp_region_lit ?_
                  refine wpList_k (st_set ha rfl (ex_move ha) rfl ?_); clear ha; (try clear a); intro a ha
                  refine wpList_k (st_set ha rfl (ex_fieldAddr ha Try.underlying31 rfl Ty.t3 rfl) rfl ?_); clear ha; (try clear a); intro a ha
                  refine wpList_k (st_set ha rfl (ex_load1 ha Try.underlying3 rfl (hs.rd1 rfl)) rfl ?_); clear ha; (try clear a); intro a ha
                  refine wpList_k (st_call ha rfl Ty.c12 rfl (look_any (hs.net q) hv) ?_); clear ha hs
                  rintro e w ⟨f1, t1, ad1, c1, bs1, rfl, hm1, hs⟩
                  refine ⟨_, rfl, ?_⟩
                  intro a ha
                  refine wpList_k (st_set ha rfl (ex_move ha) rfl ?_); clear ha; (try clear a); intro a ha
                  refine wpList_k (st_set ha rfl (ex_extract ha rfl) rfl ?_); clear ha; (try clear a); intro a ha
                  refine wpList_k (st_set ha rfl (ex_extract ha rfl) rfl ?_); clear ha; (try clear a); intro a ha
                  refine wpList_k (st_alloc ha rfl hs Ty.t29 rfl ?_); clear ha hs; (try clear a); (try clear w); intro b10 a w ha hs ho
                  clear ho
                  refine wpList_k (st_storeAll ha rfl hs Ty.t29 (by simp [Value.oneCell']) (by rfl) ?_); clear ha hs; (try clear a); (try clear w); intro a w ha hs
                  refine wpList_k (st_set ha rfl (ex_assign ha) rfl ?_); clear ha; (try clear a); intro a ha
                  refine wpList_nil ?_
                  refine then_n ?_
                  refine wp_seq ?_
                  refine wp_seq ?_
                  refine wp_region_lit ?_
                  refine wpList_k (st_set ha rfl (ex_fieldAddr ha Try.underlying31 rfl Ty.t3 rfl) rfl ?_); clear ha; (try clear a); intro a ha
                  refine wpList_k (st_set ha rfl (ex_load1 ha Try.underlying3 rfl (hs.rd1 rfl)) rfl ?_); clear ha; (try clear a); intro a ha
                  refine wpList_k (st_set ha rfl (ex_eql ha) rfl ?_); clear ha; (try clear a); intro a ha
                  rw [decide_eq_false (p := k = 1) (by omega)] at ha
                  refine wpList_nil ?_
                  refine then_n ?_
                  refine wp_ifF ha ?_
                  refine wp_skip ?_
                  refine then_n ?_
                  refine wp_seq ?_
                  refine wp_seq ?_
                  refine wp_draw (m := 16) (l0 := #[false, false, false, false, false, false, false, false, false, false, false, false, false, false, false, false]) (Old w.drew) [9, 10, 11] Ty.mixed (by kernel_rfl) (by kernel_rfl) ?_
                  replace hs := hs.drew
                  have hC := Old.refl w.drew
                  generalize w.drew = w at hs hC ⊢
                  refine nt_pure (i := 0) (listed' := #[true, false, false, false, false, false, false, false, false, false, false, false, false, false, false, false]) (by kernel_rfl) rfl (by kernel_rfl) (by decide) (pk_then (pk_then (pk_blk (pk_then (pk_blk (pk_then (pk_then (pk_blk (pk_then pk_body))))))))) ha rfl (fun w => ex_move ha) rfl ?_; clear ha; (try clear a); intro a ha
                  refine nt_pure (i := 1) (listed' := #[true, true, false, false, false, false, false, false, false, false, false, false, false, false, false, false]) (by kernel_rfl) rfl (by kernel_rfl) (by decide) (pk_then (pk_then (pk_blk (pk_then (pk_blk (pk_then (pk_then (pk_blk (pk_then pk_body))))))))) ha rfl (fun w => ex_move ha) rfl ?_; clear ha; (try clear a); intro a ha
                  refine nt_pure (i := 2) (listed' := #[true, true, true, false, false, false, false, false, false, false, false, false, false, false, false, false]) (by kernel_rfl) rfl (by kernel_rfl) (by decide) (pk_then (pk_then (pk_blk (pk_then (pk_blk (pk_then (pk_then (pk_blk (pk_then pk_body))))))))) ha rfl (fun w => ex_neqB ha Try.underlying4) rfl ?_; clear ha; (try clear a); intro a ha
                  rw [bne_self_eq_false] at ha
                  refine nt_pure (i := 3) (listed' := #[true, true, true, true, false, false, false, false, false, false, false, false, false, false, false, false]) (by kernel_rfl) rfl (by kernel_rfl) (by decide) (pk_then (pk_then (pk_blk (pk_then (pk_blk (pk_then (pk_then (pk_blk (pk_then pk_body))))))))) ha rfl (fun w => ex_move ha) rfl ?_; clear ha; (try clear a); intro a ha
                  refine nt_pure (i := 4) (listed' := #[true, true, true, true, true, false, false, false, false, false, false, false, false, false, false, false]) (by kernel_rfl) rfl (by kernel_rfl) (by decide) (pk_then (pk_then (pk_blk (pk_then (pk_blk (pk_then (pk_then (pk_blk (pk_then pk_body))))))))) ha (wgT ha rfl (s := 143)) (fun w => ex_move ha) rfl ?_; clear ha; (try clear a); intro a ha
                  refine nt_pure (i := 5) (listed' := #[true, true, true, true, true, true, false, false, false, false, false, false, false, false, false, false]) (by kernel_rfl) rfl (by kernel_rfl) (by decide) (pk_then (pk_then (pk_blk (pk_then (pk_blk (pk_then (pk_then (pk_blk (pk_then pk_body))))))))) ha (wgT ha rfl (s := 143)) (fun w => ex_move ha) rfl ?_; clear ha; (try clear a); intro a ha
                  refine nt_off (i := 7) (listed' := #[true, true, true, true, true, true, false, true, false, false, false, false, false, false, false, false]) (by kernel_rfl) rfl (by kernel_rfl) (by decide) (pk_then (pk_then (pk_blk (pk_then (pk_blk (pk_then (pk_then (pk_blk (pk_then pk_body))))))))) ha (wgF ha rfl (s := 145) rfl) rfl ?_; clear ha; (try clear a); intro a ha
                  refine nt_off (i := 8) (listed' := #[true, true, true, true, true, true, false, true, true, false, false, false, false, false, false, false]) (by kernel_rfl) rfl (by kernel_rfl) (by decide) (pk_then (pk_then (pk_blk (pk_then (pk_blk (pk_then (pk_then (pk_blk (pk_then pk_body))))))))) ha (wgF ha rfl (s := 145) rfl) rfl ?_; clear ha; (try clear a); intro a ha
                  refine nt_offH (i := 6) (listed' := #[true, true, true, true, true, true, true, true, true, false, false, false, false, false, false, false]) (by kernel_rfl) rfl (by kernel_rfl) (pk_then (pk_then (pk_blk (pk_then (pk_blk (pk_then (pk_then (pk_blk (pk_then pk_body))))))))) ha (wgF ha rfl (s := 145) rfl) hC rfl ?_; clear ha; (try clear a); intro a ha
                  refine nt_offH (i := 9) (listed' := #[true, true, true, true, true, true, true, true, true, true, false, false, false, false, false, false]) (by kernel_rfl) rfl (by kernel_rfl) (pk_then (pk_then (pk_blk (pk_then (pk_blk (pk_then (pk_then (pk_blk (pk_then pk_body))))))))) ha (wgF ha rfl (s := 145) rfl) hC rfl ?_; clear ha; (try clear a); intro a ha
                  refine nt_offH (i := 10) (listed' := #[true, true, true, true, true, true, true, true, true, true, true, false, false, false, false, false]) (by kernel_rfl) rfl (by kernel_rfl) (pk_then (pk_then (pk_blk (pk_then (pk_blk (pk_then (pk_then (pk_blk (pk_then pk_body))))))))) ha (wgF ha rfl (s := 145) rfl) hC rfl ?_; clear ha; (try clear a); intro a ha
                  refine nt_offH (i := 11) (listed' := #[true, true, true, true, true, true, true, true, true, true, true, true, false, false, false, false]) (by kernel_rfl) rfl (by kernel_rfl) (pk_then (pk_then (pk_blk (pk_then (pk_blk (pk_then (pk_then (pk_blk (pk_then pk_body))))))))) ha (wgF ha rfl (s := 145) rfl) hC rfl ?_; clear ha; (try clear a); intro a ha
                  refine nt_off (i := 12) (listed' := #[true, true, true, true, true, true, true, true, true, true, true, true, true, false, false, false]) (by kernel_rfl) rfl (by kernel_rfl) (by decide) (pk_then (pk_then (pk_blk (pk_then (pk_blk (pk_then (pk_then (pk_blk (pk_then pk_body))))))))) ha (wgF ha rfl (s := 145) rfl) rfl ?_; clear ha; (try clear a); intro a ha
                  refine nt_off (i := 13) (listed' := #[true, true, true, true, true, true, true, true, true, true, true, true, true, true, false, false]) (by kernel_rfl) rfl (by kernel_rfl) (by decide) (pk_then (pk_then (pk_blk (pk_then (pk_blk (pk_then (pk_then (pk_blk (pk_then pk_body))))))))) ha (wgF ha rfl (s := 145) rfl) rfl ?_; clear ha; (try clear a); intro a ha
                  refine nt_pure (i := 14) (listed' := #[true, true, true, true, true, true, true, true, true, true, true, true, true, true, true, false]) (by kernel_rfl) rfl (by kernel_rfl) (by decide) (pk_then (pk_then (pk_blk (pk_then (pk_blk (pk_then (pk_then (pk_blk (pk_then pk_body))))))))) ha (wgT ha rfl (s := 143)) (fun w => ex_pickF ha) rfl ?_; clear ha; (try clear a); intro a ha
                  refine nt_pure (i := 15) (listed' := #[true, true, true, true, true, true, true, true, true, true, true, true, true, true, true, true]) (by kernel_rfl) rfl (by kernel_rfl) (by decide) (pk_then (pk_then (pk_blk (pk_then (pk_blk (pk_then (pk_then (pk_blk (pk_then pk_body))))))))) ha rfl (fun w => ex_pickF ha) rfl ?_; clear ha; (try clear a); intro a ha
                  refine nt_done (by kernel_rfl) ?_ _
                  refine then_n ?_
                  refine wp_ifF ha ?_
                  refine wp_skip ?_
                  refine then_n ?_
                  refine wp_seq ?_
                  refine wp_region_lit ?_
                  refine wpList_k (st_set ha rfl (ex_move ha) rfl ?_); clear ha; (try clear a); intro a ha
                  refine wpList_k (st_set ha rfl (ex_move ha) rfl ?_); clear ha; (try clear a); intro a ha
                  refine wpList_k (st_off ha (wgF ha rfl (s := 157) rfl) rfl ?_); clear ha; (try clear a); intro a ha
                  refine wpList_k (st_off ha (wgF ha rfl (s := 157) rfl) rfl ?_); clear ha; (try clear a); intro a ha
                  refine wpList_k (st_off ha (wgF ha rfl (s := 157) rfl) rfl ?_); clear ha; (try clear a); intro a ha
                  refine wpList_k (st_set ha rfl (ex_pickF ha) rfl ?_); clear ha; (try clear a); intro a ha
                  refine wpList_nil ?_
                  refine then_n ?_
                  refine wp_ifF ha ?_
                  refine wp_skip ?_
                  refine blk_n <| then_n ?_
                  refine wp_seq ?_
                  refine wp_region_lit ?_
                  refine wpList_k (st_set ha rfl (ex_move ha) rfl ?_); clear ha; (try clear a); intro a ha
                  refine wpList_k (st_call ha rfl Ty.c17 rfl (len_net (hs.net q)) ?_); clear ha hs
                  rintro e w ⟨rfl, hs⟩
                  refine ⟨_, rfl, ?_⟩
                  intro a ha
                  refine wpList_k (st_set ha rfl (ex_move ha) rfl ?_); clear ha; (try clear a); intro a ha
                  refine wpList_k (st_set ha rfl (ex_len ha Try.underlying26) rfl ?_); clear ha; (try clear a); intro a ha
                  refine wpList_k (st_set ha rfl (ex_neq ha) rfl ?_); clear ha; (try clear a); intro a ha
                  rw [List.length_map, dneI] at ha
                  refine wpList_nil ?_
                  refine then_n ?_
                  refine wp_ifF ha ?_
                  refine wp_skip ?_
                  refine blk_n <| then_n ?_
                  refine wp_region_lit ?_
                  refine wpList_k (st_set ha rfl (ex_move ha) rfl ?_); clear ha; (try clear a); intro a ha
                  refine wpList_k (st_set ha rfl (ex_addI ha (by omega) (by omega)) rfl ?_); clear ha; (try clear a); intro a ha
                  replace ha := ha.del 6
                  refine wpList_k (st_set ha rfl (ex_assign ha) rfl ?_); clear ha; (try clear a); intro a ha
                  refine wpList_nil ?_
                  refine then_n ?_
                  refine ⟨60 - (i + 1), by omega, i + 1, _, _, _, ⟨rfl, by omega, ?_⟩, ha.keep [0, 2, 4, 5, 6], hs.sub⟩
                  omega
                ·
                  try simp only [decide_eq_true_eq, decide_eq_false_iff_not, Bool.not_eq_true', Bool.not_eq_false', Int.not_lt, Int.not_le, ne_eq, Decidable.not_not] at hc5
                  refine wp_seq ?_
                  refine wp_region_lit ?_
                  refine wpList_k (st_set ha rfl (ex_eql ha) rfl ?_); clear ha; (try clear a); intro a ha
                  refine wpList_k (st_set ha rfl (ex_assign ha) rfl ?_); clear ha; (try clear a); intro a ha
                  refine wpList_nil ?_
                  refine then_n ?_
                  refine wp_if ha (fun hc9 => ?_) (fun hc9 => ?_)
                  ·
                    try simp only [decide_eq_true_eq, decide_eq_false_iff_not, Bool.not_eq_true', Bool.not_eq_false', Int.not_lt, Int.not_le, ne_eq, Decidable.not_not] at hc9
                    refine wp_seq ?_
                    refine wp_seq ?_
                    refine wp_region_lit ?_
                    refine wpList_k (st_set ha rfl (ex_move ha) rfl ?_); clear ha; (try clear a); intro a ha
                    refine wpList_k (st_set ha rfl (ex_fieldAddr ha Try.underlying31 rfl Ty.t3 rfl) rfl ?_); clear ha; (try clear a); intro a ha
                    refine wpList_k (st_set ha rfl (ex_load1 ha Try.underlying3 rfl (hs.rd1 rfl)) rfl ?_); clear ha; (try clear a); intro a ha
                    refine wpList_k (st_call ha rfl Ty.c15 rfl (drop_any (hs.net q) hv) ?_); clear ha hs
                    rintro e w ⟨rfl, hs⟩
                    refine ⟨_, rfl, ?_⟩
                    intro a ha
                    rw [if_neg (by decide)] at hs
                    refine wpList_k (st_set ha rfl (ex_move ha) rfl ?_); clear ha; (try clear a); intro a ha
                    refine wpList_k (st_set ha rfl (ex_neqB ha Try.underlying4) rfl ?_); clear ha; (try clear a); intro a ha
                    rw [bne_self_eq_false] at ha
                    refine wpList_nil ?_
                    refine then_n ?_
                    refine wp_ifF ha ?_
                    refine wp_skip ?_
                    refine then_n ?_
                    refine wp_seq ?_
                    refine wp_region_lit ?_
                    refine wpList_k (st_set ha rfl (ex_move ha) rfl ?_); clear ha; (try clear a); intro a ha
                    refine wpList_nil ?_
                    refine then_n ?_
                    refine wp_ifF ha ?_
                    refine wp_skip ?_
                    refine blk_n <| then_n ?_
                    refine wp_seq ?_
                    refine wp_region_lit ?_
                    refine wpList_k (st_set ha rfl (ex_move ha) rfl ?_); clear ha; (try clear a); intro a ha
                    refine wpList_k (st_call ha rfl Ty.c17 rfl (len_net (hs.net q)) ?_); clear ha hs
                    rintro e w ⟨rfl, hs⟩
                    refine ⟨_, rfl, ?_⟩
                    intro a ha
                    refine wpList_k (st_set ha rfl (ex_move ha) rfl ?_); clear ha; (try clear a); intro a ha
                    refine wpList_k (st_set ha rfl (ex_len ha Try.underlying26) rfl ?_); clear ha; (try clear a); intro a ha
                    refine wpList_k (st_set ha rfl (ex_neq ha) rfl ?_); clear ha; (try clear a); intro a ha
                    rw [List.length_map, dneI] at ha
                    refine wpList_nil ?_
                    refine then_n ?_
                    refine wp_ifF ha ?_
                    refine wp_skip ?_
                    refine blk_n <| then_n ?_
                    refine wp_region_lit ?_
                    refine wpList_k (st_set ha rfl (ex_move ha) rfl ?_); clear ha; (try clear a); intro a ha
                    refine wpList_k (st_set ha rfl (ex_addI ha (by omega) (by omega)) rfl ?_); clear ha; (try clear a); intro a ha
                    replace ha := ha.del 6
                    refine wpList_k (st_set ha rfl (ex_assign ha) rfl ?_); clear ha; (try clear a); intro a ha
                    refine wpList_nil ?_
                    refine then_n ?_
                    refine ⟨60 - (i + 1), by omega, i + 1, _, _, _, ⟨rfl, by omega, ?_⟩, ha.keep [0, 2, 4, 5, 6], hs.sub⟩
                    omega
                  ·
                    try simp only [decide_eq_true_eq, decide_eq_false_iff_not, Bool.not_eq_true', Bool.not_eq_false', Int.not_lt, Int.not_le, ne_eq, Decidable.not_not] at hc9
                    refine wp_seq ?_
                    refine wp_draw (m := 19) (l0 := #[false, false, false, false, false, false, false, false, false, false, false, false, false, false, false, false, false, false, false]) (Old w.drew) [11, 12, 13, 14, 15] Ty.mixed (by kernel_rfl) (by kernel_rfl) ?_
                    replace hs := hs.drew
                    have hC := Old.refl w.drew
                    generalize w.drew = w at hs hC ⊢
                    refine nt_pure (i := 0) (listed' := #[true, false, false, false, false, false, false, false, false, false, false, false, false, false, false, false, false, false, false]) (by kernel_rfl) rfl (by kernel_rfl) (by decide) (pk_then (pk_blk (pk_then (pk_blk (pk_then (pk_then (pk_blk (pk_then pk_body)))))))) ha rfl (fun w => ex_move ha) rfl ?_; clear ha; (try clear a); intro a ha
                    refine nt_pure (i := 1) (listed' := #[true, true, false, false, false, false, false, false, false, false, false, false, false, false, false, false, false, false, false]) (by kernel_rfl) rfl (by kernel_rfl) (by decide) (pk_then (pk_blk (pk_then (pk_blk (pk_then (pk_then (pk_blk (pk_then pk_body)))))))) ha rfl (fun w => ex_move ha) rfl ?_; clear ha; (try clear a); intro a ha
                    refine nt_off (i := 2) (listed' := #[true, true, true, false, false, false, false, false, false, false, false, false, false, false, false, false, false, false, false]) (by kernel_rfl) rfl (by kernel_rfl) (by decide) (pk_then (pk_blk (pk_then (pk_blk (pk_then (pk_then (pk_blk (pk_then pk_body)))))))) ha (wgF ha rfl (s := 60) rfl) rfl ?_; clear ha; (try clear a); intro a ha
                    refine nt_off (i := 3) (listed' := #[true, true, true, true, false, false, false, false, false, false, false, false, false, false, false, false, false, false, false]) (by kernel_rfl) rfl (by kernel_rfl) (by decide) (pk_then (pk_blk (pk_then (pk_blk (pk_then (pk_then (pk_blk (pk_then pk_body)))))))) ha (wgF ha rfl (s := 60) rfl) rfl ?_; clear ha; (try clear a); intro a ha
                    refine nt_off (i := 4) (listed' := #[true, true, true, true, true, false, false, false, false, false, false, false, false, false, false, false, false, false, false]) (by kernel_rfl) rfl (by kernel_rfl) (by decide) (pk_then (pk_blk (pk_then (pk_blk (pk_then (pk_then (pk_blk (pk_then pk_body)))))))) ha (wgF ha rfl (s := 60) rfl) rfl ?_; clear ha; (try clear a); intro a ha
                    refine nt_pure (i := 5) (listed' := #[true, true, true, true, true, true, false, false, false, false, false, false, false, false, false, false, false, false, false]) (by kernel_rfl) rfl (by kernel_rfl) (by decide) (pk_then (pk_blk (pk_then (pk_blk (pk_then (pk_then (pk_blk (pk_then pk_body)))))))) ha rfl (fun w => ex_pickF ha) rfl ?_; clear ha; (try clear a); intro a ha
                    refine nt_pure (i := 6) (listed' := #[true, true, true, true, true, true, true, false, false, false, false, false, false, false, false, false, false, false, false]) (by kernel_rfl) rfl (by kernel_rfl) (by decide) (pk_then (pk_blk (pk_then (pk_blk (pk_then (pk_then (pk_blk (pk_then pk_body)))))))) ha rfl (fun w => ex_move ha) rfl ?_; clear ha; (try clear a); intro a ha
                    refine nt_off (i := 7) (listed' := #[true, true, true, true, true, true, true, true, false, false, false, false, false, false, false, false, false, false, false]) (by kernel_rfl) rfl (by kernel_rfl) (by decide) (pk_then (pk_blk (pk_then (pk_blk (pk_then (pk_then (pk_blk (pk_then pk_body)))))))) ha (wgF ha rfl (s := 65) rfl) rfl ?_; clear ha; (try clear a); intro a ha
                    refine nt_off (i := 9) (listed' := #[true, true, true, true, true, true, true, true, false, true, false, false, false, false, false, false, false, false, false]) (by kernel_rfl) rfl (by kernel_rfl) (by decide) (pk_then (pk_blk (pk_then (pk_blk (pk_then (pk_then (pk_blk (pk_then pk_body)))))))) ha (wgF ha rfl (s := 65) rfl) rfl ?_; clear ha; (try clear a); intro a ha
                    refine nt_off (i := 10) (listed' := #[true, true, true, true, true, true, true, true, false, true, true, false, false, false, false, false, false, false, false]) (by kernel_rfl) rfl (by kernel_rfl) (by decide) (pk_then (pk_blk (pk_then (pk_blk (pk_then (pk_then (pk_blk (pk_then pk_body)))))))) ha (wgF ha rfl (s := 65) rfl) rfl ?_; clear ha; (try clear a); intro a ha
                    refine nt_offH (i := 8) (listed' := #[true, true, true, true, true, true, true, true, true, true, true, false, false, false, false, false, false, false, false]) (by kernel_rfl) rfl (by kernel_rfl) (pk_then (pk_blk (pk_then (pk_blk (pk_then (pk_then (pk_blk (pk_then pk_body)))))))) ha (wgF ha rfl (s := 65) rfl) hC rfl ?_; clear ha; (try clear a); intro a ha
                    refine nt_offH (i := 11) (listed' := #[true, true, true, true, true, true, true, true, true, true, true, true, false, false, false, false, false, false, false]) (by kernel_rfl) rfl (by kernel_rfl) (pk_then (pk_blk (pk_then (pk_blk (pk_then (pk_then (pk_blk (pk_then pk_body)))))))) ha (wgF ha rfl (s := 65) rfl) hC rfl ?_; clear ha; (try clear a); intro a ha
                    refine nt_offH (i := 12) (listed' := #[true, true, true, true, true, true, true, true, true, true, true, true, true, false, false, false, false, false, false]) (by kernel_rfl) rfl (by kernel_rfl) (pk_then (pk_blk (pk_then (pk_blk (pk_then (pk_then (pk_blk (pk_then pk_body)))))))) ha (wgF ha rfl (s := 65) rfl) hC rfl ?_; clear ha; (try clear a); intro a ha
                    refine nt_offH (i := 13) (listed' := #[true, true, true, true, true, true, true, true, true, true, true, true, true, true, false, false, false, false, false]) (by kernel_rfl) rfl (by kernel_rfl) (pk_then (pk_blk (pk_then (pk_blk (pk_then (pk_then (pk_blk (pk_then pk_body)))))))) ha (wgF ha rfl (s := 65) rfl) hC rfl ?_; clear ha; (try clear a); intro a ha
                    refine nt_offH (i := 14) (listed' := #[true, true, true, true, true, true, true, true, true, true, true, true, true, true, true, false, false, false, false]) (by kernel_rfl) rfl (by kernel_rfl) (pk_then (pk_blk (pk_then (pk_blk (pk_then (pk_then (pk_blk (pk_then pk_body)))))))) ha (wgF ha rfl (s := 65) rfl) hC rfl ?_; clear ha; (try clear a); intro a ha
                    refine nt_offH (i := 15) (listed' := #[true, true, true, true, true, true, true, true, true, true, true, true, true, true, true, true, false, false, false]) (by kernel_rfl) rfl (by kernel_rfl) (pk_then (pk_blk (pk_then (pk_blk (pk_then (pk_then (pk_blk (pk_then pk_body)))))))) ha (wgF ha rfl (s := 65) rfl) hC rfl ?_; clear ha; (try clear a); intro a ha
                    refine nt_off (i := 16) (listed' := #[true, true, true, true, true, true, true, true, true, true, true, true, true, true, true, true, true, false, false]) (by kernel_rfl) rfl (by kernel_rfl) (by decide) (pk_then (pk_blk (pk_then (pk_blk (pk_then (pk_then (pk_blk (pk_then pk_body)))))))) ha (wgF ha rfl (s := 65) rfl) rfl ?_; clear ha; (try clear a); intro a ha
                    refine nt_pure (i := 17) (listed' := #[true, true, true, true, true, true, true, true, true, true, true, true, true, true, true, true, true, true, false]) (by kernel_rfl) rfl (by kernel_rfl) (by decide) (pk_then (pk_blk (pk_then (pk_blk (pk_then (pk_then (pk_blk (pk_then pk_body)))))))) ha rfl (fun w => ex_pickF ha) rfl ?_; clear ha; (try clear a); intro a ha
                    refine nt_pure (i := 18) (listed' := #[true, true, true, true, true, true, true, true, true, true, true, true, true, true, true, true, true, true, true]) (by kernel_rfl) rfl (by kernel_rfl) (by decide) (pk_then (pk_blk (pk_then (pk_blk (pk_then (pk_then (pk_blk (pk_then pk_body)))))))) ha rfl (fun w => ex_assign ha) rfl ?_; clear ha; (try clear a); intro a ha
                    refine nt_done (by kernel_rfl) ?_ _
                    refine then_n ?_
                    refine wp_seq ?_
                    refine wp_seq ?_
                    refine wp_region_lit ?_
                    refine wpList_k (st_set ha rfl (ex_move ha) rfl ?_); clear ha; (try clear a); intro a ha
                    refine wpList_k (st_set ha rfl (ex_fieldAddr ha Try.underlying31 rfl Ty.t3 rfl) rfl ?_); clear ha; (try clear a); intro a ha
                    refine wpList_k (st_set ha rfl (ex_load1 ha Try.underlying3 rfl (hs.rd1 rfl)) rfl ?_); clear ha; (try clear a); intro a ha
                    refine wpList_k (st_set ha rfl (ex_fieldAddr ha Try.underlying31 rfl Ty.t3 rfl) rfl ?_); clear ha; (try clear a); intro a ha
                    refine wpList_k (st_set ha rfl (ex_load1 ha Try.underlying3 rfl (hs.rd1 rfl)) rfl ?_); clear ha; (try clear a); intro a ha
                    refine wpList_k (st_set ha rfl (ex_fieldAddr ha Try.underlying31 rfl Ty.t5 rfl) rfl ?_); clear ha; (try clear a); intro a ha
                    refine wpList_k (st_set ha rfl (ex_load1 ha Try.underlying5 rfl (hs.rd1 rfl)) rfl ?_); clear ha; (try clear a); intro a ha
                    refine wpList_k (st_call ha rfl Ty.c16 rfl (spoil_out (hs.net q) hv) ?_); clear ha hs
                    rintro e w ⟨rfl, hs⟩
                    refine ⟨_, rfl, ?_⟩
                    intro a ha
                    refine wpList_k (st_set ha rfl (ex_move ha) rfl ?_); clear ha; (try clear a); intro a ha
                    refine wpList_k (st_set ha rfl (ex_neqB ha Try.underlying4) rfl ?_); clear ha; (try clear a); intro a ha
                    rw [bne_self_eq_false] at ha
                    refine wpList_nil ?_
                    refine then_n ?_
                    refine wp_ifF ha ?_
                    refine wp_skip ?_
                    refine then_n ?_
                    refine wp_seq ?_
                    refine wp_region_lit ?_
                    refine wpList_k (st_set ha rfl (ex_move ha) rfl ?_); clear ha; (try clear a); intro a ha
                    refine wpList_nil ?_
                    refine then_n ?_
                    refine wp_ifF ha ?_
                    refine wp_skip ?_
                    refine blk_n <| then_n ?_
                    refine wp_seq ?_
                    refine wp_region_lit ?_
                    refine wpList_k (st_set ha rfl (ex_move ha) rfl ?_); clear ha; (try clear a); intro a ha
                    refine wpList_k (st_call ha rfl Ty.c17 rfl (len_net (hs.net q)) ?_); clear ha hs
                    rintro e w ⟨rfl, hs⟩
                    refine ⟨_, rfl, ?_⟩
                    intro a ha
                    refine wpList_k (st_set ha rfl (ex_move ha) rfl ?_); clear ha; (try clear a); intro a ha
                    refine wpList_k (st_set ha rfl (ex_len ha Try.underlying26) rfl ?_); clear ha; (try clear a); intro a ha
                    refine wpList_k (st_set ha rfl (ex_neq ha) rfl ?_); clear ha; (try clear a); intro a ha
                    rw [List.length_map, dneI] at ha
                    refine wpList_nil ?_
                    refine then_n ?_
                    refine wp_ifF ha ?_
                    refine wp_skip ?_
                    refine blk_n <| then_n ?_
                    refine wp_region_lit ?_
                    refine wpList_k (st_set ha rfl (ex_move ha) rfl ?_); clear ha; (try clear a); intro a ha
                    refine wpList_k (st_set ha rfl (ex_addI ha (by omega) (by omega)) rfl ?_); clear ha; (try clear a); intro a ha
                    replace ha := ha.del 6
                    refine wpList_k (st_set ha rfl (ex_assign ha) rfl ?_); clear ha; (try clear a); intro a ha
                    refine wpList_nil ?_
                    refine then_n ?_
                    refine ⟨60 - (i + 1), by omega, i + 1, _, _, _, ⟨rfl, by omega, ?_⟩, ha.keep [0, 2, 4, 5, 6], hs.sub⟩
                    omega
      ·
        try simp only [decide_eq_true_eq, decide_eq_false_iff_not, Bool.not_eq_true', Bool.not_eq_false', Int.not_lt, Int.not_le, ne_eq, Decidable.not_not] at hc1
        refine wp_exit ?_
        refine then_e <| then_e <| blk_e ?_
        refine then_n ?_
        refine wp_seq ?_
        refine wp_seq ?_
        refine wp_region_lit ?_
        refine wpList_k (st_set ha rfl (ex_assign ha) rfl ?_); clear ha; (try clear a); intro a ha
        refine wpList_nil ?_
        refine then_n ?_
        refine wp_block ?_
        refine wp_loop_ghost (fun μ a w => ∃ j : Nat, (μ = xs.length - j ∧ j ≤ xs.length) ∧ Fr a 223 [(2, .bool false), (4, .pointer (some ⟨q, 0, none⟩)), (5, .slice ad xs.length c), (14, .int .i64 j)] ∧ St W w [Net q (xs.map Ml.m), Sl 29 3 ad xs.length c (mlc xs), Bys xs]) (xs.length) ?_ ?_
        · exact ⟨0, ⟨by simp, by simp⟩, ha.keep [2, 4, 5, 14], hs.sub⟩
        ·
          clear ha hs
          rintro μ a w ⟨j, ⟨rfl, hj⟩, ha, hs⟩
          refine wp_seq ?_
          refine wp_seq ?_
          refine wp_region_lit ?_
          refine wpList_k (st_set ha rfl (ex_move ha) rfl ?_); clear ha; (try clear a); intro a ha
          refine wpList_k (st_set ha rfl (ex_move ha) rfl ?_); clear ha; (try clear a); intro a ha
          refine wpList_k (st_set ha rfl (ex_len ha Try.underlying26) rfl ?_); clear ha; (try clear a); intro a ha
          refine wpList_k (st_set ha rfl (ex_lss ha) rfl ?_); clear ha; (try clear a); intro a ha
          refine wpList_nil ?_
          refine then_n ?_
          refine wp_if ha (fun hc15 => ?_) (fun hc15 => ?_)
          ·
            try simp only [decide_eq_true_eq, decide_eq_false_iff_not, Bool.not_eq_true', Bool.not_eq_false', Int.not_lt, Int.not_le, ne_eq, Decidable.not_not] at hc15
            have hj2 : j < xs.length := by omega
            have hjm : (xs.map Ml.m)[j]? = some (xs[j].frm, xs[j].to, xs[j].bs) := by rw [List.getElem?_map, List.getElem?_eq_getElem hj2]; rfl
            refine wp_skip ?_
            refine then_n ?_
            refine wp_seq ?_
            refine wp_block ?_
            refine wp_seq ?_
            refine wp_region_lit ?_
            refine wpList_k (st_set ha rfl (ex_move ha) rfl ?_); clear ha; (try clear a); intro a ha
            refine wpList_k (st_set ha rfl (ex_move ha) rfl ?_); clear ha; (try clear a); intro a ha
            refine wpList_k (st_call ha rfl Ty.c12 rfl (look_at (i := j) (hs.net q) hjm) ?_); clear ha hs
            rintro e w ⟨ad1, c1, rfl, hs⟩
            refine ⟨_, rfl, ?_⟩
            intro a ha
            refine wpList_k (st_set ha rfl (ex_move ha) rfl ?_); clear ha; (try clear a); intro a ha
            refine wpList_k (st_set ha rfl (ex_extract ha rfl) rfl ?_); clear ha; (try clear a); intro a ha
            refine wpList_k (st_set ha rfl (ex_extract ha rfl) rfl ?_); clear ha; (try clear a); intro a ha
            refine wpList_k (st_alloc ha rfl hs Ty.t29 rfl ?_); clear ha hs; (try clear a); (try clear w); intro b15 a w ha hs ho
            clear ho
            refine wpList_k (st_storeAll ha rfl hs Ty.t29 (by simp [Value.oneCell']) (by rfl) ?_); clear ha hs; (try clear a); (try clear w); intro a w ha hs
            refine wpList_k (st_set ha rfl (ex_assign ha) rfl ?_); clear ha; (try clear a); intro a ha
            refine wpList_nil ?_
            refine then_n ?_
            refine wp_seq ?_
            obtain ⟨b', off', hade, hrd0⟩ := hs.slRd ad (by omega)
            subst hade
            clear hrd0
            refine wp_draw (m := 11) (l0 := #[false, false, false, false, false, false, false, false, false, false, false]) (Old w.drew) [7] Ty.mixed (by kernel_rfl) (by kernel_rfl) ?_
            replace hs := hs.drew
            have hC := Old.refl w.drew
            generalize w.drew = w at hs hC ⊢
            have hmr := (mlRd (hs.slRdAt b' off' (by omega)) j hj2).1
            refine nt_pure (i := 0) (listed' := #[true, false, false, false, false, false, false, false, false, false, false]) (by kernel_rfl) rfl (by kernel_rfl) (by decide) (pk_then (pk_blk (pk_then (pk_then (pk_blk (pk_then pk_body)))))) ha rfl (fun w => ex_move ha) rfl ?_; clear ha; (try clear a); intro a ha
            refine nt_pure (i := 1) (listed' := #[true, true, false, false, false, false, false, false, false, false, false]) (by kernel_rfl) rfl (by kernel_rfl) (by decide) (pk_then (pk_blk (pk_then (pk_then (pk_blk (pk_then pk_body)))))) ha rfl (fun w => ex_not ha) rfl ?_; clear ha; (try clear a); intro a ha
            refine nt_pure (i := 2) (listed' := #[true, true, true, false, false, false, false, false, false, false, false]) (by kernel_rfl) rfl (by kernel_rfl) (by decide) (pk_then (pk_blk (pk_then (pk_then (pk_blk (pk_then pk_body)))))) ha rfl (fun w => ex_move ha) rfl ?_; clear ha; (try clear a); intro a ha
            refine nt_pure (i := 4) (listed' := #[true, true, true, false, true, false, false, false, false, false, false]) (by kernel_rfl) rfl (by kernel_rfl) (by decide) (pk_then (pk_blk (pk_then (pk_then (pk_blk (pk_then pk_body)))))) ha (wgT ha rfl (s := 214)) (fun w => ex_move ha) rfl ?_; clear ha; (try clear a); intro a ha
            refine nt_pure (i := 5) (listed' := #[true, true, true, false, true, true, false, false, false, false, false]) (by kernel_rfl) rfl (by kernel_rfl) (by decide) (pk_then (pk_blk (pk_then (pk_then (pk_blk (pk_then pk_body)))))) ha (wgT ha rfl (s := 214)) (fun w => ex_move ha) rfl ?_; clear ha; (try clear a); intro a ha
            refine nt_pure (i := 6) (listed' := #[true, true, true, false, true, true, true, false, false, false, false]) (by kernel_rfl) rfl (by kernel_rfl) (by decide) (pk_then (pk_blk (pk_then (pk_then (pk_blk (pk_then pk_body)))))) ha (wgT ha rfl (s := 214)) (fun w => ex_indexAddr ha Try.underlying26 Ty.t29 (by omega)) rfl ?_; clear ha; (try clear a); intro a ha
            refine nt_held (i := 3) (listed' := #[true, true, true, true, true, true, true, false, false, false, false]) (by kernel_rfl) rfl (by kernel_rfl) (pk_then (pk_blk (pk_then (pk_then (pk_blk (pk_then pk_body)))))) ha (wgT ha rfl (s := 214)) (fun w hc => ex_loadN ha Try.underlying29 rfl Ty.t29 (hc.rd (hs.rdN 3))) hC rfl ?_; clear ha; (try clear a); intro a ha
            refine nt_one (i := 7) (listed' := #[true, true, true, true, true, true, true, true, false, false, false]) (by kernel_rfl) (by kernel_rfl) rfl (st_set ha (wgT ha rfl (s := 214)) (ex_loadN ha Try.underlying29 rfl Ty.t29 (hmr)) rfl ?_); clear ha; (try clear a); intro a ha
            refine ⟨fun _ => hC, ?_⟩
            refine nt_one (i := 8) (listed' := #[true, true, true, true, true, true, true, true, true, false, false]) (by kernel_rfl) (by kernel_rfl) rfl (st_call ha (wgT ha rfl (s := 214)) Ty.c14 rfl (eq_spec hs (fun w' h => h.rdB ad1 xs[j].bs rfl rfl) (fun w' h => Bys.rd h j hj2)) ?_); clear ha hs
            rintro e w ⟨rfl, hs⟩
            refine ⟨_, rfl, ?_⟩
            intro a ha
            refine ⟨fun h => absurd h (by decide), ?_⟩
            refine nt_pure (i := 9) (listed' := #[true, true, true, true, true, true, true, true, true, true, false]) (by kernel_rfl) rfl (by kernel_rfl) (by decide) (pk_then (pk_blk (pk_then (pk_then (pk_blk (pk_then pk_body)))))) ha (wgT ha rfl (s := 214)) (fun w => ex_not ha) rfl ?_; clear ha; (try clear a); intro a ha
            refine nt_pure (i := 10) (listed' := #[true, true, true, true, true, true, true, true, true, true, true]) (by kernel_rfl) rfl (by kernel_rfl) (by decide) (pk_then (pk_blk (pk_then (pk_then (pk_blk (pk_then pk_body)))))) ha rfl (fun w => ex_pickF ha) rfl ?_; clear ha; (try clear a); intro a ha
            refine nt_done (by kernel_rfl) ?_ _
            refine then_n ?_
            refine wp_ifF ha ?_
            refine wp_skip ?_
            refine blk_n <| then_n ?_
            refine wp_region_lit ?_
            refine wpList_k (st_set ha rfl (ex_move ha) rfl ?_); clear ha; (try clear a); intro a ha
            refine wpList_k (st_set ha rfl (ex_addI ha (by omega) (by omega)) rfl ?_); clear ha; (try clear a); intro a ha
            replace ha := ha.del 14
            refine wpList_k (st_set ha rfl (ex_assign ha) rfl ?_); clear ha; (try clear a); intro a ha
            refine wpList_nil ?_
            refine then_n ?_
            exact ⟨xs.length - (j + 1), by omega, j + 1, ⟨rfl, by omega⟩, ha.keep [2, 4, 5, 14], hs.sub⟩
          ·
            try simp only [decide_eq_true_eq, decide_eq_false_iff_not, Bool.not_eq_true', Bool.not_eq_false', Int.not_lt, Int.not_le, ne_eq, Decidable.not_not] at hc15
            refine wp_exit ?_
            refine then_e <| then_e <| blk_e ?_
            refine then_n ?_
            refine wp_seq ?_
            refine wp_region_lit ?_
            replace ha := ha.del 2
            refine wpList_k (st_set ha rfl (ex_assign ha) rfl ?_); clear ha; (try clear a); intro a ha
            refine wpList_nil ?_
            refine then_n ?_
            refine wp_ret ?_
            refine ret1 ha rfl ?_
            exact ⟨rfl, hs.below⟩
    ·
      try simp only [decide_eq_true_eq, decide_eq_false_iff_not, Bool.not_eq_true', Bool.not_eq_false', Int.not_lt, Int.not_le, ne_eq, Decidable.not_not] at hg4
      refine wpList_k (st_off ha (wgF ha rfl (s := 25) rfl) rfl ?_); clear ha; (try clear a); intro a ha
      refine wpList_k (st_off ha (wgF ha rfl (s := 25) rfl) rfl ?_); clear ha; (try clear a); intro a ha
      refine wpList_k (st_set ha rfl (ex_pickF ha) rfl ?_); clear ha; (try clear a); intro a ha
      refine wpList_nil ?_
      refine then_n ?_
      refine wp_ifF ha ?_
      refine wp_exit ?_
      refine then_e <| then_e <| blk_e ?_
      refine then_n ?_
      refine wp_seq ?_
      refine wp_seq ?_
      refine wp_region_lit ?_
      refine wpList_k (st_set ha rfl (ex_assign ha) rfl ?_); clear ha; (try clear a); intro a ha
      refine wpList_nil ?_
      refine then_n ?_
      refine wp_block ?_
      refine wp_loop_ghost (fun μ a w => ∃ j : Nat, (μ = xs.length - j ∧ j ≤ xs.length) ∧ Fr a 223 [(2, .bool false), (4, .pointer (some ⟨q, 0, none⟩)), (5, .slice ad xs.length c), (14, .int .i64 j)] ∧ St W w [Net q (xs.map Ml.m), Sl 29 3 ad xs.length c (mlc xs), Bys xs]) (xs.length) ?_ ?_
      · exact ⟨0, ⟨by simp, by simp⟩, ha.keep [2, 4, 5, 14], hs.sub⟩
      ·
        clear ha hs
        rintro μ a w ⟨j, ⟨rfl, hj⟩, ha, hs⟩
        refine wp_seq ?_
        refine wp_seq ?_
        refine wp_region_lit ?_
        refine wpList_k (st_set ha rfl (ex_move ha) rfl ?_); clear ha; (try clear a); intro a ha
        refine wpList_k (st_set ha rfl (ex_move ha) rfl ?_); clear ha; (try clear a); intro a ha
        refine wpList_k (st_set ha rfl (ex_len ha Try.underlying26) rfl ?_); clear ha; (try clear a); intro a ha
        refine wpList_k (st_set ha rfl (ex_lss ha) rfl ?_); clear ha; (try clear a); intro a ha
        refine wpList_nil ?_
        refine then_n ?_
        refine wp_if ha (fun hc15 => ?_) (fun hc15 => ?_)
        ·
          try simp only [decide_eq_true_eq, decide_eq_false_iff_not, Bool.not_eq_true', Bool.not_eq_false', Int.not_lt, Int.not_le, ne_eq, Decidable.not_not] at hc15
          have hj2 : j < xs.length := by omega
          have hjm : (xs.map Ml.m)[j]? = some (xs[j].frm, xs[j].to, xs[j].bs) := by rw [List.getElem?_map, List.getElem?_eq_getElem hj2]; rfl
          refine wp_skip ?_
          refine then_n ?_
          refine wp_seq ?_
          refine wp_block ?_
          refine wp_seq ?_
          refine wp_region_lit ?_
          refine wpList_k (st_set ha rfl (ex_move ha) rfl ?_); clear ha; (try clear a); intro a ha
          refine wpList_k (st_set ha rfl (ex_move ha) rfl ?_); clear ha; (try clear a); intro a ha
          refine wpList_k (st_call ha rfl Ty.c12 rfl (look_at (i := j) (hs.net q) hjm) ?_); clear ha hs
          rintro e w ⟨ad1, c1, rfl, hs⟩
          refine ⟨_, rfl, ?_⟩
          intro a ha
          refine wpList_k (st_set ha rfl (ex_move ha) rfl ?_); clear ha; (try clear a); intro a ha
          refine wpList_k (st_set ha rfl (ex_extract ha rfl) rfl ?_); clear ha; (try clear a); intro a ha
          refine wpList_k (st_set ha rfl (ex_extract ha rfl) rfl ?_); clear ha; (try clear a); intro a ha
          refine wpList_k (st_alloc ha rfl hs Ty.t29 rfl ?_); clear ha hs; (try clear a); (try clear w); intro b15 a w ha hs ho
          clear ho
          refine wpList_k (st_storeAll ha rfl hs Ty.t29 (by simp [Value.oneCell']) (by rfl) ?_); clear ha hs; (try clear a); (try clear w); intro a w ha hs
          refine wpList_k (st_set ha rfl (ex_assign ha) rfl ?_); clear ha; (try clear a); intro a ha
          refine wpList_nil ?_
          refine then_n ?_
          refine wp_seq ?_
          obtain ⟨b', off', hade, hrd0⟩ := hs.slRd ad (by omega)
          subst hade
          clear hrd0
          refine wp_draw (m := 11) (l0 := #[false, false, false, false, false, false, false, false, false, false, false]) (Old w.drew) [7] Ty.mixed (by kernel_rfl) (by kernel_rfl) ?_
          replace hs := hs.drew
          have hC := Old.refl w.drew
          generalize w.drew = w at hs hC ⊢
          have hmr := (mlRd (hs.slRdAt b' off' (by omega)) j hj2).1
          refine nt_pure (i := 0) (listed' := #[true, false, false, false, false, false, false, false, false, false, false]) (by kernel_rfl) rfl (by kernel_rfl) (by decide) (pk_then (pk_blk (pk_then (pk_then (pk_blk (pk_then pk_body)))))) ha rfl (fun w => ex_move ha) rfl ?_; clear ha; (try clear a); intro a ha
          refine nt_pure (i := 1) (listed' := #[true, true, false, false, false, false, false, false, false, false, false]) (by kernel_rfl) rfl (by kernel_rfl) (by decide) (pk_then (pk_blk (pk_then (pk_then (pk_blk (pk_then pk_body)))))) ha rfl (fun w => ex_not ha) rfl ?_; clear ha; (try clear a); intro a ha
          refine nt_pure (i := 2) (listed' := #[true, true, true, false, false, false, false, false, false, false, false]) (by kernel_rfl) rfl (by kernel_rfl) (by decide) (pk_then (pk_blk (pk_then (pk_then (pk_blk (pk_then pk_body)))))) ha rfl (fun w => ex_move ha) rfl ?_; clear ha; (try clear a); intro a ha
          refine nt_pure (i := 4) (listed' := #[true, true, true, false, true, false, false, false, false, false, false]) (by kernel_rfl) rfl (by kernel_rfl) (by decide) (pk_then (pk_blk (pk_then (pk_then (pk_blk (pk_then pk_body)))))) ha (wgT ha rfl (s := 214)) (fun w => ex_move ha) rfl ?_; clear ha; (try clear a); intro a ha
          refine nt_pure (i := 5) (listed' := #[true, true, true, false, true, true, false, false, false, false, false]) (by kernel_rfl) rfl (by kernel_rfl) (by decide) (pk_then (pk_blk (pk_then (pk_then (pk_blk (pk_then pk_body)))))) ha (wgT ha rfl (s := 214)) (fun w => ex_move ha) rfl ?_; clear ha; (try clear a); intro a ha
          refine nt_pure (i := 6) (listed' := #[true, true, true, false, true, true, true, false, false, false, false]) (by kernel_rfl) rfl (by kernel_rfl) (by decide) (pk_then (pk_blk (pk_then (pk_then (pk_blk (pk_then pk_body)))))) ha (wgT ha rfl (s := 214)) (fun w => ex_indexAddr ha Try.underlying26 Ty.t29 (by omega)) rfl ?_; clear ha; (try clear a); intro a ha
          refine nt_held (i := 3) (listed' := #[true, true, true, true, true, true, true, false, false, false, false]) (by kernel_rfl) rfl (by kernel_rfl) (pk_then (pk_blk (pk_then (pk_then (pk_blk (pk_then pk_body)))))) ha (wgT ha rfl (s := 214)) (fun w hc => ex_loadN ha Try.underlying29 rfl Ty.t29 (hc.rd (hs.rdN 3))) hC rfl ?_; clear ha; (try clear a); intro a ha
          refine nt_one (i := 7) (listed' := #[true, true, true, true, true, true, true, true, false, false, false]) (by kernel_rfl) (by kernel_rfl) rfl (st_set ha (wgT ha rfl (s := 214)) (ex_loadN ha Try.underlying29 rfl Ty.t29 (hmr)) rfl ?_); clear ha; (try clear a); intro a ha
          refine ⟨fun _ => hC, ?_⟩
          refine nt_one (i := 8) (listed' := #[true, true, true, true, true, true, true, true, true, false, false]) (by kernel_rfl) (by kernel_rfl) rfl (st_call ha (wgT ha rfl (s := 214)) Ty.c14 rfl (eq_spec hs (fun w' h => h.rdB ad1 xs[j].bs rfl rfl) (fun w' h => Bys.rd h j hj2)) ?_); clear ha hs
          rintro e w ⟨rfl, hs⟩
          refine ⟨_, rfl, ?_⟩
          intro a ha
          refine ⟨fun h => absurd h (by decide), ?_⟩
          refine nt_pure (i := 9) (listed' := #[true, true, true, true, true, true, true, true, true, true, false]) (by kernel_rfl) rfl (by kernel_rfl) (by decide) (pk_then (pk_blk (pk_then (pk_then (pk_blk (pk_then pk_body)))))) ha (wgT ha rfl (s := 214)) (fun w => ex_not ha) rfl ?_; clear ha; (try clear a); intro a ha
          refine nt_pure (i := 10) (listed' := #[true, true, true, true, true, true, true, true, true, true, true]) (by kernel_rfl) rfl (by kernel_rfl) (by decide) (pk_then (pk_blk (pk_then (pk_then (pk_blk (pk_then pk_body)))))) ha rfl (fun w => ex_pickF ha) rfl ?_; clear ha; (try clear a); intro a ha
          refine nt_done (by kernel_rfl) ?_ _
          refine then_n ?_
          refine wp_ifF ha ?_
          refine wp_skip ?_
          refine blk_n <| then_n ?_
          refine wp_region_lit ?_
          refine wpList_k (st_set ha rfl (ex_move ha) rfl ?_); clear ha; (try clear a); intro a ha
          refine wpList_k (st_set ha rfl (ex_addI ha (by omega) (by omega)) rfl ?_); clear ha; (try clear a); intro a ha
          replace ha := ha.del 14
          refine wpList_k (st_set ha rfl (ex_assign ha) rfl ?_); clear ha; (try clear a); intro a ha
          refine wpList_nil ?_
          refine then_n ?_
          exact ⟨xs.length - (j + 1), by omega, j + 1, ⟨rfl, by omega⟩, ha.keep [2, 4, 5, 14], hs.sub⟩
        ·
          try simp only [decide_eq_true_eq, decide_eq_false_iff_not, Bool.not_eq_true', Bool.not_eq_false', Int.not_lt, Int.not_le, ne_eq, Decidable.not_not] at hc15
          refine wp_exit ?_
          refine then_e <| then_e <| blk_e ?_
          refine then_n ?_
          refine wp_seq ?_
          refine wp_region_lit ?_
          replace ha := ha.del 2
          refine wpList_k (st_set ha rfl (ex_assign ha) rfl ?_); clear ha; (try clear a); intro a ha
          refine wpList_nil ?_
          refine then_n ?_
          refine wp_ret ?_
          refine ret1 ha rfl ?_
          exact ⟨rfl, hs.below⟩
end Go.Proofs.Ytjaiojfmcpbkbaa

