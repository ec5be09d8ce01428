/- SnapAll: the operations that came in; the statement's walk. -/
import Derived.Test.YtpfblmpgljodmaaSnapF
import Derived.Test.YtpfblmpgljodmaaArg
namespace Go.Proofs.Ytpfblmpgljodmaa
open Go.RowKit Go.ChangeShapes
set_option linter.unusedVariables false
set_option linter.unusedSimpArgs false
set_option maxRecDepth 10000
set_option synthInstance.maxSize 4000
set_option synthInstance.maxHeartbeats 400000

def SOps (W : World) (ad : Option Addr) (len : Nat) : Prop :=
  len ≤ 9223372036854775807 ∧ (len = 0 ∨ ∃ b off, ad = some ⟨b, off, none⟩ ∧ b < W.heap.size ∧ ∀ i, i < len → ∃ (kd P C V : Int) (al : Option Addr) (cl : Nat) (zs : List Int),
    Rd W b (off + i * 5) (opc kd P C V al zs.length cl) ∧ ∀ w L, St W w L → RdV w al zs.length (I32 zs))
theorem sops_of {H : Type} {enc : TypeId × Value → H} {W : World} {len cap : Nat} {ad : Option Addr} {d : DataW H} {p : List MemPlace}
    (h : DataW.Trod enc Try.prog W 0 (fun _ => true) true 52 (.slice ad len cap) d p) : SOps W ad len := by
  obtain ⟨h1, h2⟩ := argRows (sz := 5) Try.underlying52 (by kernel_rfl) (by decide) h
  refine ⟨h1, h2.imp id ?_⟩
  rintro ⟨b, off, h3, h4, h5⟩
  refine ⟨b, off, h3, h4, fun i hi => ?_⟩
  obtain ⟨cs, m, x, g1, g2, g3⟩ := h5 i hi
  obtain ⟨xs, n, _, rfl, _, hlen, hf⟩ := DataW.trod_struct Try.underlying59 g3
  match cs, g1, xs, hlen with
  | [c0, c1, c2, c3, c4], _, [y0, y1, y2, y3, y4], _ =>
    have e0 : DataW.trod enc Try.prog W 0 (fun _ => true) true n 3 (([c0, c1, c2, c3, c4].drop 0).take (Try.prog.cellsOf 3)) = some y0 := hf 0 _ rfl
    have e1 : DataW.trod enc Try.prog W 0 (fun _ => true) true n 3 (([c0, c1, c2, c3, c4].drop 1).take (Try.prog.cellsOf 3)) = some y1 := hf 1 _ rfl
    have e2 : DataW.trod enc Try.prog W 0 (fun _ => true) true n 3 (([c0, c1, c2, c3, c4].drop 2).take (Try.prog.cellsOf 3)) = some y2 := hf 2 _ rfl
    have e3 : DataW.trod enc Try.prog W 0 (fun _ => true) true n 21 (([c0, c1, c2, c3, c4].drop 3).take (Try.prog.cellsOf 21)) = some y3 := hf 3 _ rfl
    have e4 : DataW.trod enc Try.prog W 0 (fun _ => true) true n 31 (([c0, c1, c2, c3, c4].drop 4).take (Try.prog.cellsOf 31)) = some y4 := hf 4 _ rfl
    rw [show Try.prog.cellsOf 3 = 1 from by kernel_rfl] at e0 e1 e2
    rw [show Try.prog.cellsOf 21 = 1 from by kernel_rfl] at e3
    rw [show Try.prog.cellsOf 31 = 1 from by kernel_rfl] at e4
    obtain ⟨k, hk, _, _⟩ := DataW.trod_int Try.underlying3 e0
    obtain ⟨f, hf', _, _⟩ := DataW.trod_int Try.underlying3 e1
    obtain ⟨d, hd, _, _⟩ := DataW.trod_int Try.underlying3 e2
    obtain ⟨v, hv, _, _⟩ := DataW.trod_int Try.underlying21 e3
    simp at hk hf' hd hv
    subst hk hf' hd hv
    have e5 : DataW.trod enc Try.prog W 0 (fun _ => true) true n 31 [c4] = some y4 := e4
    obtain ⟨al, l, c, rfl, z, hz⟩ : ∃ (al : Option Addr) (l c : Nat), c4 = .slice al l c ∧ ∃ zs, ArgInts .i32 W al l c zs := by
      rcases open_ints Try.underlying31 Try.underlying21 (by kernel_rfl) e5 with ⟨hcs, _⟩ | ⟨x, l, c, zs, hcs, _, hl, hm, hz, _, hcell, hwz⟩
      · simp at hcs
        exact ⟨none, 0, 0, hcs, [], .inl ⟨rfl, rfl, rfl, rfl⟩⟩
      · simp at hcs
        exact ⟨_, l, c, hcs, zs, .inr ⟨_, rfl, hl, hm, by simpa using hz, hcell, hwz⟩⟩
    obtain ⟨zs, rfl, _, hzs⟩ := hz.vals
    exact ⟨k, f, d, v, al, c, zs, g2, fun w L hs => rdv32 hzs hs⟩

set_option maxHeartbeats 4000000 in
theorem snapAll_walk (pn : Int) (a1 : Option Addr) (len1 cap1 : Nat) (W : World) (w0 : (Lit.int .i64 pn).wf = true) (w1 : SOps W a1 len1) :
    Calls Try.prog 9 #[.int .i64 pn, .slice a1 len1 cap1] W fun e w' => e = .returned (.bool true) ∧ Below W.heap.size W w' := by
  have hs := St.start W
  have hb1 := w1.1
  obtain ⟨m, hm1, hm2, hm3, hm4⟩ : ∃ m : Nat, m < 5 ∧ (pn.tmod 5 + 5).tmod 5 = m ∧ -5 < pn.tmod 5 ∧ pn.tmod 5 < 5 := by
    have h1 := Int.tmod_lt_of_pos pn (b := 5) (by decide)
    have h2 := Int.lt_tmod_of_pos pn (b := 5) (by decide)
    have h4 := Int.tmod_nonneg (5 : Int) (show (0 : Int) ≤ pn.tmod 5 + 5 by omega)
    have h5 := Int.tmod_lt_of_pos (pn.tmod 5 + 5) (b := 5) (by decide)
    exact ⟨((pn.tmod 5 + 5).tmod 5).toNat, by omega, by omega, by omega, by omega⟩
  refine calls_enter Try.func9 rfl Try.ntmps9 (Nat.le_of_ble_eq_true rfl) ?_
  intro a ha
  replace ha : Fr a 49 [(0, _), (1, _)] := ha
  refine wp_seq ?_
  refine wp_region_lit ?_
  refine wpList_k (st_set ha rfl (ex_assign ha) rfl ?_); clear ha; (try clear a); intro a ha
  refine wpList_nil ?_
  refine then_n ?_
  refine wp_seq ?_
  refine wp_region_lit ?_
  refine wpList_k (st_call ha rfl Ty.c11 rfl (begun11 hs) ?_); clear ha hs
  rintro e w ⟨rfl, hs⟩
  refine ⟨_, rfl, ?_⟩
  intro a ha
  refine wpList_k (st_set ha rfl (ex_assign ha) rfl ?_); clear ha; (try clear a); intro a ha
  refine wpList_nil ?_
  refine then_n ?_
  refine wp_seq ?_
  refine wp_seq ?_
  refine wp_region_lit ?_
  refine wpList_k (st_set ha rfl (ex_move ha) rfl ?_); clear ha; (try clear a); intro a ha
  refine wpList_k (st_set ha rfl (ex_not ha) rfl ?_); clear ha; (try clear a); intro a ha
  refine wpList_nil ?_
  refine then_n ?_
  refine wp_ifF ha ?_
  refine wp_skip ?_
  refine then_n ?_
  refine wp_seq ?_
  refine wp_region_lit ?_
  refine wpList_k (st_set ha rfl (ex_move ha) rfl ?_); clear ha; (try clear a); intro a ha
  refine wpList_k (st_set ha rfl (ex_rem ha (by omega)) rfl ?_); clear ha; (try clear a); intro a ha
  refine wpList_k (st_set ha rfl (ex_addI ha (by omega) (by omega)) rfl ?_); clear ha; (try clear a); intro a ha
  refine wpList_k (st_set ha rfl (ex_rem ha (by omega)) rfl ?_); clear ha; (try clear a); intro a ha
  rw [hm2] at ha
  replace ha := ha.del 0
  refine wpList_k (st_set ha rfl (ex_assign ha) rfl ?_); clear ha; (try clear a); intro a ha
  refine wpList_nil ?_
  refine then_n ?_
  refine wp_seq ?_
  refine wp_region_lit ?_
  refine wpList_k (st_set ha rfl (ex_move ha) rfl ?_); clear ha; (try clear a); intro a ha
  refine wpList_k (st_call ha rfl Ty.c12 rfl (snap_new (n := m) hs (by omega)) ?_); clear ha hs
  rintro e w ⟨q, r, rfl, hs⟩
  refine ⟨_, rfl, ?_⟩
  intro a ha
  refine wpList_k (st_set ha rfl (ex_assign ha) rfl ?_); clear ha; (try clear a); intro a ha
  refine wpList_nil ?_
  refine then_n ?_
  refine wp_seq ?_
  refine wp_region_lit ?_
  refine wpList_k (st_set ha rfl (ex_move ha) rfl ?_); clear ha; (try clear a); intro a ha
  refine wpList_k (st_set ha rfl (ex_mulI ha (by omega) (by omega)) rfl ?_); clear ha; (try clear a); intro a ha
  refine wpList_k (st_set ha rfl (ex_build ha Ty.b56 Ty.t56 rfl) rfl ?_); clear ha; (try clear a); intro a ha
  refine wpList_k (st_box ha rfl hs rfl ?_); clear ha hs; (try clear a); (try clear w); intro b21 a w ha hs ho
  clear ho
  rw [show ((4 : Int) * (m : Int)) = ((4 * m : Nat) : Int) from by omega] at hs
  have h0 : St W w [Sl 92 38 none ([] : List Bz).length 0 (rows bkc []), blk b21 56 [.slice none ([] : List Bz).length 0, .int .i64 ((0 : Nat) : Int), .int .i64 ((4 * m : Nat) : Int)], Store q r ⟨0, 4 * m, 0, []⟩] := hs.sl0 92 38 none
  replace hs : St W w (Book b21 (4 * m) 0 [] :: Store q r ⟨0, 4 * m, 0, []⟩ :: []) := Book.close (ad := none) (c := 0) h0 (by simp)
  clear h0
  refine wpList_k (st_set ha rfl (ex_assign ha) rfl ?_); clear ha; (try clear a); intro a ha
  refine wpList_nil ?_
  refine then_n ?_
  refine wp_seq ?_
  refine wp_seq ?_
  refine wp_region_lit ?_
  refine wpList_k (st_set ha rfl (ex_assign ha) rfl ?_); clear ha; (try clear a); intro a ha
  refine wpList_nil ?_
  refine then_n ?_
  refine wp_block ?_
  refine wp_loop_ghost (fun μ a w => ∃ (i : Nat) (A : Sn) (B : List Bz) (nx : Nat), (μ = 50 - i ∧ i ≤ 50 ∧ i ≤ len1 ∧ BkOk A B nx ∧ A.n ≤ i ∧ nx ≤ 4 * i ∧ B.length ≤ i) ∧ Fr a 49 [(1, .slice a1 len1 cap1), (6, .pointer (some ⟨q, 0, none⟩)), (7, .pointer (some ⟨b21, 0, none⟩)), (8, .int .i64 i)] ∧ St W w [Book b21 A.room nx B, Store q r A]) (50) ?_ ?_
  · exact ⟨0, ⟨0, 4 * m, 0, []⟩, [], 0, ⟨by simp, by simp, by simp, BkOk.begin _ _, by simp, by simp, by simp⟩, ha.keep [1, 6, 7, 8], hs⟩
  ·
    clear ha hs
    rintro μ a w ⟨i, A, B, nx, ⟨rfl, hi, hil, hB, hAn, hnx, hBl⟩, ha, hs⟩
    refine wp_seq ?_
    refine wp_seq ?_
    refine wp_region_lit ?_
    refine wpList_k (st_set ha rfl (ex_move ha) rfl ?_); clear ha; (try clear a); intro a ha
    refine wpList_k (st_set ha rfl (ex_move ha) rfl ?_); clear ha; (try clear a); intro a ha
    refine wpList_k (st_set ha rfl (ex_len ha Try.underlying52) rfl ?_); clear ha; (try clear a); intro a ha
    refine wpList_k (st_set ha rfl (ex_lss ha) rfl ?_); clear ha; (try clear a); intro a ha
    refine wpList_k (st_set ha rfl (ex_move ha) rfl ?_); clear ha; (try clear a); intro a ha
    refine ha.bool (s := 26) (fun hg4 ha => ?_) (fun hg4 ha => ?_)
    ·
      try simp only [decide_eq_true_eq, decide_eq_false_iff_not, Bool.not_eq_true', Bool.not_eq_false', Int.not_lt, Int.not_le, ne_eq, Decidable.not_not] at hg4
      refine wpList_k (st_set ha (wgT ha rfl (s := 26)) (ex_move ha) rfl ?_); clear ha; (try clear a); intro a ha
      refine wpList_k (st_set ha (wgT ha rfl (s := 26)) (ex_lss ha) rfl ?_); clear ha; (try clear a); intro a ha
      refine wpList_k (st_set ha rfl (ex_pickT ha) rfl ?_); clear ha; (try clear a); intro a ha
      refine wpList_nil ?_
      refine then_n ?_
      refine wp_if ha (fun hc1 => ?_) (fun hc1 => ?_)
      ·
        try simp only [decide_eq_true_eq, decide_eq_false_iff_not, Bool.not_eq_true', Bool.not_eq_false', Int.not_lt, Int.not_le, ne_eq, Decidable.not_not] at hc1
        refine wp_skip ?_
        refine then_n ?_
        refine wp_seq ?_
        refine wp_block ?_
        refine wp_seq ?_
        obtain ⟨bo, oo, hade, hbo, hop⟩ := w1.2.resolve_left (by omega)
        obtain ⟨kd, P, C, V, al, cl, zs, hrow, hzs⟩ := hop i (by omega)
        have hrow2 : Rd w bo (oo + i * 5) (opc kd P C V al zs.length cl) := fun j v hj => (hs.old hbo).trans (hrow j v hj)
        rw [hade] at ha
        refine wp_region_lit ?_
        refine wpList_k (st_set ha rfl (ex_move ha) rfl ?_); clear ha; (try clear a); intro a ha
        refine wpList_k (st_set ha rfl (ex_move ha) rfl ?_); clear ha; (try clear a); intro a ha
        refine wpList_k (st_set ha rfl (ex_move ha) rfl ?_); clear ha; (try clear a); intro a ha
        refine wpList_k (st_set ha rfl (ex_move ha) rfl ?_); clear ha; (try clear a); intro a ha
        refine wpList_k (st_set ha rfl (ex_indexAddr ha Try.underlying52 Ty.t59 (by omega)) rfl ?_); clear ha; (try clear a); intro a ha
        refine wpList_k (st_set ha rfl (ex_loadN ha Try.underlying59 rfl Ty.t59 (hrow2)) rfl ?_); clear ha; (try clear a); intro a ha
        refine wpList_k (st_call ha rfl Ty.c26 rfl (do_spec hs hB (by omega) (by omega) (by omega) (fun w' h => hzs w' _ h)) ?_); clear ha hs
        rintro e w ⟨A', B', nx', rfl, ⟨hB', hn', hx', hl', hr'⟩, hs⟩
        refine ⟨_, rfl, ?_⟩
        intro a ha
        refine wpList_k (st_set ha rfl (ex_not ha) rfl ?_); clear ha; (try clear a); intro a ha
        rw [show (!true) = false from rfl] at ha
        refine wpList_k (st_set ha rfl (ex_move ha) rfl ?_); clear ha; (try clear a); intro a ha
        refine wpList_k (st_set ha (wgT ha rfl (s := 40)) (ex_move ha) rfl ?_); clear ha; (try clear a); intro a ha
        refine wpList_k (st_set ha (wgT ha rfl (s := 40)) (ex_move ha) rfl ?_); clear ha; (try clear a); intro a ha
        refine wpList_k (st_call ha (wgT ha rfl (s := 40)) Ty.c27 rfl (same11 hs hB' (by omega)) ?_); clear ha hs
        rintro e w ⟨rfl, hs⟩
        refine ⟨_, rfl, ?_⟩
        intro a ha
        refine wpList_k (st_set ha (wgT ha rfl (s := 40)) (ex_not ha) rfl ?_); clear ha; (try clear a); intro a ha
        rw [show (!true) = false from rfl] at ha
        refine wpList_k (st_set ha rfl (ex_pickF ha) rfl ?_); clear ha; (try clear a); intro a ha
        refine wpList_nil ?_
        refine then_n ?_
        refine wp_ifF ha ?_
        refine wp_skip ?_
        refine blk_n <| then_n ?_
        refine wp_region_lit ?_
        refine wpList_k (st_set ha rfl (ex_move ha) rfl ?_); clear ha; (try clear a); intro a ha
        refine wpList_k (st_set ha rfl (ex_addI ha (by omega) (by omega)) rfl ?_); clear ha; (try clear a); intro a ha
        replace ha := ha.del 8
        refine wpList_k (st_set ha rfl (ex_assign ha) rfl ?_); clear ha; (try clear a); intro a ha
        refine wpList_nil ?_
        refine then_n ?_
        rw [← hade] at ha
        exact ⟨50 - (i + 1), by omega, i + 1, A', B', nx', ⟨rfl, by omega, by omega, hB', by omega, by omega, by omega⟩, ha.keep [1, 6, 7, 8], hs⟩
      ·
        try simp only [decide_eq_true_eq, decide_eq_false_iff_not, Bool.not_eq_true', Bool.not_eq_false', Int.not_lt, Int.not_le, ne_eq, Decidable.not_not] at hc1
        refine wp_exit ?_
        refine then_e <| then_e <| blk_e ?_
        refine then_n ?_
        refine wp_seq ?_
        refine wp_region_lit ?_
        refine wpList_k (st_set ha rfl (ex_move ha) rfl ?_); clear ha; (try clear a); intro a ha
        refine wpList_k (st_set ha rfl (ex_move ha) rfl ?_); clear ha; (try clear a); intro a ha
        refine wpList_k (st_call ha rfl Ty.c27 rfl (same11 hs hB (by omega)) ?_); clear ha hs
        rintro e w ⟨rfl, hs⟩
        refine ⟨_, rfl, ?_⟩
        intro a ha
        refine wpList_k (st_set ha rfl (ex_assign ha) rfl ?_); clear ha; (try clear a); intro a ha
        refine wpList_nil ?_
        refine then_n ?_
        refine wp_ret ?_
        refine ret1 ha rfl ?_
        exact ⟨rfl, hs.below⟩
    ·
      try simp only [decide_eq_true_eq, decide_eq_false_iff_not, Bool.not_eq_true', Bool.not_eq_false', Int.not_lt, Int.not_le, ne_eq, Decidable.not_not] at hg4
      refine wpList_k (st_off ha (wgF ha rfl (s := 26) rfl) rfl ?_); clear ha; (try clear a); intro a ha
      refine wpList_k (st_off ha (wgF ha rfl (s := 26) rfl) rfl ?_); clear ha; (try clear a); intro a ha
      refine wpList_k (st_set ha rfl (ex_pickF ha) rfl ?_); clear ha; (try clear a); intro a ha
      refine wpList_nil ?_
      refine then_n ?_
      refine wp_ifF ha ?_
      refine wp_exit ?_
      refine then_e <| then_e <| blk_e ?_
      refine then_n ?_
      refine wp_seq ?_
      refine wp_region_lit ?_
      refine wpList_k (st_set ha rfl (ex_move ha) rfl ?_); clear ha; (try clear a); intro a ha
      refine wpList_k (st_set ha rfl (ex_move ha) rfl ?_); clear ha; (try clear a); intro a ha
      refine wpList_k (st_call ha rfl Ty.c27 rfl (same11 hs hB (by omega)) ?_); clear ha hs
      rintro e w ⟨rfl, hs⟩
      refine ⟨_, rfl, ?_⟩
      intro a ha
      refine wpList_k (st_set ha rfl (ex_assign ha) rfl ?_); clear ha; (try clear a); intro a ha
      refine wpList_nil ?_
      refine then_n ?_
      refine wp_ret ?_
      refine ret1 ha rfl ?_
      exact ⟨rfl, hs.below⟩
end Go.Proofs.Ytpfblmpgljodmaa

