/- PlainOrder. -/
import Derived.Test.YtagpkhbkdbaigaaGreatPlSure
namespace Go.Proofs.YtagpkhbkdbaigaaGreat
open Go.RowKit
set_option linter.unusedVariables false
set_option linter.unusedSimpArgs false
set_option maxRecDepth 10000
set_option synthInstance.maxSize 4000
set_option synthInstance.maxHeartbeats 400000

theorem putLn_cut {O : List UInt8} {q f to : Nat} (hq : q ≤ O.length) (ht : to ≤ O.length) (hf : f ≤ to) (hO : O.length ≤ 1000) : ∃ q', q' ≤ O.length ∧ (f ≤ q → to ≤ q') ∧ putLn (O.take q) f ((O.drop f).take (to - f)) = O.take q' := by
  have hl : (O.take q).length = q := by rw [List.length_take]; omega
  unfold putLn
  rw [hl]
  by_cases h : q < f
  · rw [if_pos h]; exact ⟨q, hq, by omega, rfl⟩
  · rw [if_neg h, List.drop_take, List.drop_drop, show f + (q - f) = q from by omega, show to - f - (q - f) = to - q from by omega, List.take_of_length_le (i := 1000 - q) (by rw [List.length_take, List.length_drop]; omega)]
    refine ⟨q + (to - q), by omega, by omega, ?_⟩
    rw [List.take_add]
theorem tmod_bd {x L : Int} (h : 0 < L) : -L < x.tmod L ∧ x.tmod L < L := by
  have h1 := Int.natAbs_tmod x L
  have h2 := Nat.mod_lt x.natAbs (show 0 < L.natAbs by omega)
  omega
theorem tmod_nn {x : Int} {L : Nat} (h : 0 ≤ x) (hL : 0 < L) : ∃ k : Nat, x.tmod L = k ∧ k < L := by
  obtain ⟨y, rfl⟩ := Int.eq_ofNat_of_zero_le h
  exact ⟨y % L, remN y L, Nat.mod_lt _ hL⟩
set_option maxHeartbeats 4000000 in
theorem plainOrder_walk (a0 : Option Addr) (len0 cap0 : Nat) (z0 : List Int) (a1 : Option Addr) (len1 cap1 : Nat) (z1 : List Int) (a2 : Option Addr) (len2 cap2 : Nat) (z2 : List Int) (a3 : Option Addr) (len3 cap3 : Nat) (z3 : List Int) (W : World)
    (w0 : ArgInts .u8 W a0 len0 cap0 z0) (w1 : ArgInts .u8 W a1 len1 cap1 z1) (w2 : ArgInts .i64 W a2 len2 cap2 z2) (w3 : ArgInts .i64 W a3 len3 cap3 z3) :
    Calls Tryz.prog 7 #[.slice a0 len0 cap0, .slice a1 len1 cap1, .slice a2 len2 cap2, .slice a3 len3 cap3] W fun e w' => e = .returned (.bool true) ∧ Below W.heap.size W w' := by
  have hs := St.start W
  have hm0 : mayCf ⟨(2 : Nat), (0 : Nat), 0, (0 : Nat), (16 : Nat), 1, 0, 0, 0, 3⟩ := by decide
  obtain ⟨P0, hP0, hrP0⟩ := w0.bytesB
  obtain ⟨O0, hO0, hrO0⟩ := w1.bytesB
  obtain ⟨xs, hxl, hxw, hxr⟩ := w2.vals
  obtain ⟨ys, hyl, hyw, hyr⟩ := w3.vals
  have hcap0 := capLe w0
  have hcap1 := capLe w1
  refine calls_enter Tryz.func7 rfl Tryz.ntmps7 (Nat.le_of_ble_eq_true rfl) ?_
  intro a ha
  replace ha : Fr a 151 [(0, _), (1, _), (2, _), (3, _)] := ha
  refine WS <| WR ?_
  refine S1 ha ?_; clear ha a; intro a ha
  refine LN <| TN <| WS <| WR ?_
  refine SK (st_call ha rfl Ty.c10 rfl (begun22 hs) ?_); clear ha hs
  rintro e w ⟨rfl, hs⟩
  refine ⟨_, rfl, ?_⟩
  intro a ha
  refine S1 ha ?_; clear ha a; intro a ha
  refine LN <| TN <| WS <| WS <| WR ?_
  iterate 2 (refine S1 ha ?_; clear ha a; intro a ha)
  refine LN <| TN <| WFa ha <| WK <| TN <| WS <| WR ?_
  refine S1 ha ?_; clear ha a; intro a ha
  refine SK (st_call ha rfl Ty.c11 rfl (shortN (K := 10) hs hrP0 hcap0) ?_); clear ha hs
  rintro e w ⟨aP, cP, rfl, hrP, hcP, hs⟩
  refine ⟨_, rfl, ?_⟩
  intro a ha
  refine S1 ha ?_; clear ha a; intro a ha
  refine SK (st_call ha rfl Ty.c11 rfl (shortN (K := 10) hs hrO0 hcap1) ?_); clear ha hs
  rintro e w ⟨aO, cO, rfl, hrO, hcO, hs⟩
  refine ⟨_, rfl, ?_⟩
  intro a ha
  iterate 2 (refine S1d ha ?_; clear ha a; intro a ha)
  refine LN ?_
  have hPl : (P0.take 10).length ≤ 10 := by rw [List.length_take]; omega
  have hOl : (O0.take 10).length ≤ 10 := by rw [List.length_take]; omega
  generalize P0.take 10 = P at ha hrP hcP hPl
  generalize O0.take 10 = O at ha hrO hcO hOl
  refine TN <| WS <| WR ?_
  refine SK (st_set ha rfl (ex_build ha Ty.b30 Ty.t30 rfl) rfl ?_); clear ha a; intro a ha
  refine SK (st_call ha rfl Ty.c13 rfl (prog22 hs) ?_); clear ha hs
  rintro e w ⟨adP, rfl, hs⟩
  refine ⟨_, rfl, ?_⟩
  intro a ha
  refine SK (st_call ha rfl Ty.c12 rfl (plain_new (tb := []) (n := 2) (me := 0) (id := 0) (delay := 0) (window := 16) (guess := 1) (order := 0) (branches := 0) (workers := 0) (room := 3) hs hm0 sumP_ok (by decide) (by decide) (by decide) (by decide) (fun w' h => RdB.nil)) ?_); clear ha hs
  rintro e w ⟨B, rfl, hgs, hs⟩
  refine ⟨_, rfl, ?_⟩
  intro a ha
  have t0 : Two sumP 16 0 [[], []] (newP sumP _) := Two.new (id := 0) hm0 rfl
  generalize newP sumP _ = s0 at hs t0
  iterate 5 (refine S1 ha ?_; clear ha a; intro a ha)
  refine LN <| TN <| WS <| WS <| WR ?_
  iterate 2 (refine S1 ha ?_; clear ha a; intro a ha)
  refine LN <| TN <| WFa ha <| WK <| TN <| WS <| WS <| WR ?_
  refine S1 ha ?_; clear ha a; intro a ha
  refine LN <| TN <| wp_block ?_
  refine wp_loop_ghost (fun μ a w => ∃ (i : Nat) (s : Pl), (μ = P.length - i ∧ i ≤ P.length ∧ Two sumP 16 0 [P.take i, []] s) ∧ Fr a 151 [(0, .slice aP P.length cP), (1, .slice aO O.length cO), (2, .slice a2 len2 cap2), (3, .slice a3 len3 cap3), (10, .pointer (some ⟨B.pb, 0, none⟩)), (12, .int .i64 i)] ∧ St W w (PlainS W B sumP s :: [])) (P.length) ?_ ?_
  · exact ⟨0, s0, ⟨rfl, Nat.zero_le _, t0⟩, ha.keep [0, 1, 2, 3, 10, 12], hs.sub⟩
  ·
   clear ha hs
   rintro μ a w ⟨i, s, ⟨rfl, hi, t⟩, ha, hs⟩
   refine WS <| WS <| WR ?_
   refine S1 ha ?_; clear ha; (try clear a); intro a ha
   iterate 3 (refine S1 ha ?_; clear ha a; intro a ha)
   refine LN <| TN ?_
   refine WI ha (fun hc2 => ?_) (fun hc2 => ?_)
   ·
    obtain ⟨bp, op, rfl, hrp⟩ := (hrP.old hs).get (by omega)
    have hip : i < P.length := by omega
    have htl : (P.take i).length = i := by rw [List.length_take]; omega
    refine WK <| TN <| WS <| wp_block <| WR ?_
    refine S1 ha ?_; clear ha; (try clear a); intro a ha
    iterate 2 (refine S1 ha ?_; clear ha a; intro a ha)
    refine SK (st_set ha rfl (ex_indexAddr ha Tryz.underlying22 Ty.t5 (by omega)) rfl ?_); clear ha a; intro a ha
    rw [Nat.mul_one] at ha
    refine SL ha (hrp i _ (bc_at hip)) ?_; clear ha a; intro a ha
    refine SK (st_call ha rfl Ty.c14 rfl (two_press (x := P[i]) hs t sumP_ok (by decide) (by show (P.take i).length < 1000; omega) (by show (P.take i).length < _; omega)) ?_); clear ha hs
    rintro e w ⟨s', rfl, t2, hs⟩
    refine ⟨_, rfl, ?_⟩
    intro a ha
    refine LN <| BN <| TN <| WR ?_
    refine S1 ha ?_; clear ha a; intro a ha
    refine SK (st_set ha rfl (ex_addI ha (by omega) (by omega)) rfl ?_); clear ha a; intro a ha
    refine S1d ha ?_; clear ha a; intro a ha
    refine LN <| TN ?_
    replace t2 : Two sumP 16 0 [P.take i ++ [P[i]], []] s' := t2
    rw [List.take_append_getElem] at t2
    exact ⟨P.length - (i + 1), by omega, i + 1, s', ⟨rfl, by omega, t2⟩, ha.keep [0, 1, 2, 3, 10, 12], hs⟩
   ·
    obtain rfl : i = P.length := by omega
    rw [List.take_length] at t
    refine wp_exit <| TE <| TE <| blk_e <| TN ?_
    refine wp_seq_cut (M := fun a w => ∃ (q : Nat) (s : Pl), (q ≤ O.length ∧ Two sumP 16 0 [P, O.take q] s) ∧ Fr a 151 [(0, .slice aP P.length cP), (1, .slice aO O.length cO), (10, .pointer (some ⟨B.pb, 0, none⟩))] ∧ St W w (PlainS W B sumP s :: [])) ?_ ?_
    ·
     refine WS <| WR ?_
     refine S1 ha ?_; clear ha; (try clear a); intro a ha
     refine LN <| TN <| wp_block ?_
     refine wp_loop_ghost (fun μ a w => ∃ (i q : Nat) (s : Pl), (μ = 20 - i ∧ i ≤ 20 ∧ q ≤ O.length ∧ Two sumP 16 0 [P, O.take q] s) ∧ Fr a 151 [(0, .slice aP P.length cP), (1, .slice aO O.length cO), (2, .slice a2 len2 cap2), (3, .slice a3 len3 cap3), (10, .pointer (some ⟨B.pb, 0, none⟩)), (13, .int .i64 i)] ∧ St W w (PlainS W B sumP s :: [])) (20) ?_ ?_
     · exact ⟨0, 0, s, ⟨rfl, by omega, by omega, t⟩, ha.keep [0, 1, 2, 3, 10, 13], hs⟩
     ·
      clear ha hs
      rintro μ a w ⟨i, q, s, ⟨rfl, hi, hq, t⟩, ha, hs⟩
      refine WS <| WS <| WR ?_
      refine S1 ha ?_; clear ha; (try clear a); intro a ha
      iterate 4 (refine S1 ha ?_; clear ha a; intro a ha)
      refine ha.by (s := 51) (fun hg4 ha => ?_) (fun hg4 ha => ?_)
      ·
       refine S1g (s := 51) ha ?_; clear ha; (try clear a); intro a ha
       iterate 3 (refine S1g (s := 51) ha ?_; clear ha a; intro a ha)
       refine PT ha ?_; clear ha a; intro a ha
       refine S1 ha ?_; clear ha a; intro a ha
       refine ha.by (s := 57) (fun hg10 ha => ?_) (fun hg10 ha => ?_)
       ·
        refine S1g (s := 57) ha ?_; clear ha; (try clear a); intro a ha
        refine S1g (s := 57) ha ?_; clear ha a; intro a ha
        refine PT ha ?_; clear ha a; intro a ha
        refine LN <| TN ?_
        refine WI ha (fun hc3 => ?_) (fun hc3 => ?_)
        ·
         refine WK <| TN <| WS <| wp_block <| WS <| WS <| WR ?_
         refine S1 ha ?_; clear ha; (try clear a); intro a ha
         iterate 2 (refine S1 ha ?_; clear ha a; intro a ha)
         refine LN <| TN ?_
         refine WI ha (fun hc4 => ?_) (fun hc4 => ?_)
         ·
          refine wp_exit <| TE <| blk_ne rfl <| TE <| TE <| blk_e <| TN ?_
          exact ⟨q, s, ⟨hq, t⟩, ha.keep [0, 1, 10], hs⟩
         ·
          have hi2 : i < xs.length := by omega
          have hi3 : i < ys.length := by omega
          have hO0 : 0 < O.length := by omega
          obtain ⟨bf, of, rfl, _, hrf⟩ := (hxr _ _ hs).resolve_left (by omega)
          obtain ⟨bn, on, rfl, _, hrn⟩ := (hyr _ _ hs).resolve_left (by omega)
          have hcf := hrf i (.int .i64 xs[i]) (by rw [List.getElem?_map, List.getElem?_eq_getElem hi2]; rfl)
          have hcn := hrn i (.int .i64 ys[i]) (by rw [List.getElem?_map, List.getElem?_eq_getElem hi3]; rfl)
          generalize xs[i] = x at hcf
          generalize ys[i] = y at hcn
          refine WK <| TN <| WS <| WR ?_
          refine S1 ha ?_; clear ha; (try clear a); intro a ha
          refine S1 ha ?_; clear ha a; intro a ha
          refine SK (st_set ha rfl (ex_indexAddr ha Tryz.underlying63 Ty.t3 (by omega)) rfl ?_); clear ha a; intro a ha
          rw [Nat.mul_one] at ha
          refine SL ha (hcf) ?_; clear ha a; intro a ha
          iterate 2 (refine S1 ha ?_; clear ha a; intro a ha)
          refine SK (st_set ha rfl (ex_rem ha (by omega)) rfl ?_); clear ha a; intro a ha
          have hx1 := tmod_bd (x := x) (L := O.length) (by omega)
          generalize x.tmod (O.length : Int) = x1 at ha hx1
          iterate 2 (refine S1 ha ?_; clear ha a; intro a ha)
          refine SK (st_set ha rfl (ex_addI ha (by omega) (by omega)) rfl ?_); clear ha a; intro a ha
          iterate 2 (refine S1 ha ?_; clear ha a; intro a ha)
          refine SK (st_set ha rfl (ex_rem ha (by omega)) rfl ?_); clear ha a; intro a ha
          obtain ⟨f, hf, hfl⟩ := tmod_nn (x := x1 + O.length) (L := O.length) (by omega) hO0
          rw [hf] at ha
          refine S1 ha ?_; clear ha a; intro a ha
          refine LN <| TN <| WS <| WR ?_
          iterate 5 (refine S1 ha ?_; clear ha a; intro a ha)
          refine SK (st_set ha rfl (ex_indexAddr ha Tryz.underlying63 Ty.t3 (by omega)) rfl ?_); clear ha a; intro a ha
          rw [Nat.mul_one] at ha
          refine SL ha (hcn) ?_; clear ha a; intro a ha
          refine SK (st_set ha rfl (ex_rem ha (by decide)) rfl ?_); clear ha a; intro a ha
          have hy1 := tmod_bd (x := y) (L := 5) (by omega)
          generalize y.tmod 5 = y1 at ha hy1
          refine SK (st_set ha rfl (ex_addI ha (by omega) (by omega)) rfl ?_); clear ha a; intro a ha
          refine SK (st_set ha rfl (ex_rem ha (by decide)) rfl ?_); clear ha a; intro a ha
          obtain ⟨d, hd, hdl⟩ := tmod_nn (x := y1 + 5) (L := 5) (by omega) (by decide)
          rw [show (y1 + 5).tmod 5 = (d : Int) from hd] at ha
          refine SK (st_set ha rfl (ex_addI ha (by omega) (by omega)) rfl ?_); clear ha a; intro a ha
          refine SK (st_set ha rfl (ex_min ha) rfl ?_); clear ha a; intro a ha
          rw [show min (O.length : Int) ((f : Int) + (d : Int)) = ((min O.length (f + d) : Nat) : Int) from by omega] at ha
          obtain ⟨to, hto⟩ : ∃ to, to = min O.length (f + d) := ⟨_, rfl⟩
          rw [← hto] at ha
          obtain ⟨pr, hpr⟩ : ∃ pr, pr = (O.drop f).take (to - f) := ⟨_, rfl⟩
          have hprl : pr.length = to - f := by rw [hpr, List.length_take, List.length_drop]; omega
          refine S1 ha ?_; clear ha a; intro a ha
          refine LN <| TN <| WS <| WR ?_
          iterate 5 (refine S1 ha ?_; clear ha a; intro a ha)
          refine SK (st_set ha rfl (ex_sliceLH ha Tryz.underlying22 Ty.t5 (by omega) (by omega)) rfl ?_); clear ha a; intro a ha
          rw [← hprl] at ha
          refine SK (st_set ha rfl (ex_build ha Ty.b40 Ty.t40 rfl) rfl ?_); clear ha a; intro a ha
          refine SK (st_call ha rfl Ty.c16 rfl (refPacket_spec (p := pkT f pr) (ad := cutAd aO f cO 1) (c := cO - f) hs (by show 0 < 4294967296; decide) (fun w' hw => by
            have h := (hrO.old hw).cutLH (c := cO) (lo := f) (n := to - f) (by omega) hcO
            rw [← hpr, ← hprl] at h; exact h)) ?_); clear ha hs
          rintro e w ⟨adE, cE, rfl, hs⟩
          refine ⟨_, rfl, ?_⟩
          intro a ha
          refine SK (st_call ha rfl Ty.c15 rfl (two_recv (me := 0) (f := f) (bs := pr) (hs.pick (PlainS W B sumP s)) t sumP_ok (by decide) (by omega) (by omega) (hs.sl adE).2 (fun w' hw => (hw.pick (Sl 5 1 adE (encO (pkT f pr)).length cE (bc (encO (pkT f pr))))).rdB adE _ rfl rfl)) ?_); clear ha hs
          rintro e w ⟨s', rfl, t2, hs⟩
          refine ⟨_, rfl, ?_⟩
          intro a ha
          replace t2 : Two sumP 16 0 [P, putLn (O.take q) f pr] s' := t2
          obtain ⟨q', hq1, hq2, hq3⟩ := putLn_cut (q := q) (f := f) (to := to) hq (by omega) (by omega) (by omega)
          rw [hpr, hq3] at t2
          refine S1 ha ?_; clear ha a; intro a ha
          refine LN <| TN <| WFa ha <| WK <| BN <| TN <| WR ?_
          refine S1 ha ?_; clear ha a; intro a ha
          refine SK (st_set ha rfl (ex_addI ha (by omega) (by omega)) rfl ?_); clear ha a; intro a ha
          refine S1d ha ?_; clear ha a; intro a ha
          refine LN <| TN ?_
          exact ⟨20 - (i + 1), by omega, i + 1, q', s', ⟨rfl, by omega, hq1, t2⟩, ha.keep [0, 1, 2, 3, 10, 13], hs.sub⟩
        ·
         refine wp_exit <| TE <| TE <| blk_e <| TN ?_
         exact ⟨q, s, ⟨hq, t⟩, ha.keep [0, 1, 10], hs⟩
       ·
        refine SO (s := 57) ha ?_; clear ha; (try clear a); intro a ha
        refine SO (s := 57) ha ?_; clear ha a; intro a ha
        refine PF ha ?_; clear ha a; intro a ha
        refine LN <| TN <| WFa ha <| wp_exit <| TE <| TE <| blk_e <| TN ?_
        exact ⟨q, s, ⟨hq, t⟩, ha.keep [0, 1, 10], hs⟩
      ·
       refine SO (s := 51) ha ?_; clear ha; (try clear a); intro a ha
       iterate 3 (refine SO (s := 51) ha ?_; clear ha a; intro a ha)
       refine PF ha ?_; clear ha a; intro a ha
       refine S1 ha ?_; clear ha a; intro a ha
       iterate 2 (refine SO (s := 57) ha ?_; clear ha a; intro a ha)
       refine PF ha ?_; clear ha a; intro a ha
       refine LN <| TN <| WFa ha <| wp_exit <| TE <| TE <| blk_e <| TN ?_
       exact ⟨q, s, ⟨hq, t⟩, ha.keep [0, 1, 10], hs⟩
    ·
     clear ha; (try clear hs)
     intro a w hcut
     obtain ⟨q, s, ⟨hq, t⟩, ha, hs⟩ := hcut
     refine WS <| WS <| WR ?_
     refine S1 ha ?_; clear ha; (try clear a); intro a ha
     refine S1 ha ?_; clear ha a; intro a ha
     refine SK (st_set ha rfl (ex_build ha Ty.b40 Ty.t40 rfl) rfl ?_); clear ha a; intro a ha
     refine SK (st_call ha rfl Ty.c16 rfl (refPacket_spec (p := pkT 0 O) (ad := aO) (c := cO) hs (by show 0 < 4294967296; decide) (fun w' hw => hrO.old hw)) ?_); clear ha hs
     rintro e w ⟨adE, cE, rfl, hs⟩
     refine ⟨_, rfl, ?_⟩
     intro a ha
     refine SK (st_call ha rfl Ty.c15 rfl (two_recv (me := 0) (f := 0) (bs := O) (hs.pick (PlainS W B sumP s)) t sumP_ok (by decide) (by decide) (by omega) (hs.sl adE).2 (fun w' hw => (hw.pick (Sl 5 1 adE (encO (pkT 0 O)).length cE (bc (encO (pkT 0 O))))).rdB adE _ rfl rfl)) ?_); clear ha hs
     rintro e w ⟨s', rfl, t2, hs⟩
     refine ⟨_, rfl, ?_⟩
     intro a ha
     replace t2 : Two sumP 16 0 [P, putLn (O.take q) 0 O] s' := t2
     obtain ⟨q', hq1, hq2, hq3⟩ := putLn_cut (q := q) (f := 0) (to := O.length) hq (Nat.le_refl _) (by omega) (by omega)
     rw [Nat.sub_zero, List.drop_zero, List.take_length] at hq3
     obtain rfl : q' = O.length := by have := hq2 (Nat.zero_le _); omega
     rw [hq3, List.take_length] at t2
     refine S1 ha ?_; clear ha a; intro a ha
     refine LN <| TN <| WFa ha <| WK <| TN <| WS <| WR ?_
     refine S1 ha ?_; clear ha a; intro a ha
     refine LN ?_
     replace hs := St.sl0 (St.allNil (f := bbo) hs) 22 1 none
     refine TN ?_
     refine wp_seq_cut (M := fun a w => ∃ (zs : List BBx) (adJ : Option Addr) (cJ : Nat), prx zs = jn P O (min P.length O.length) ∧ Fr a 151 [(10, .pointer (some ⟨B.pb, 0, none⟩)), (16, .slice adJ (min P.length O.length) cJ)] ∧ St W w (Sl 22 1 adJ (min P.length O.length) cJ (zs.map bbv) :: All bbo zs :: PlainS W B sumP s' :: [])) ?_ ?_
     ·
      refine WS <| WR ?_
      refine S1 ha ?_; clear ha; (try clear a); intro a ha
      refine LN <| TN <| wp_block ?_
      refine wp_loop_ghost (fun μ a w => ∃ (j : Nat) (zs : List BBx) (adJ : Option Addr) (cJ : Nat), (μ = P.length - j ∧ (j ≤ P.length ∧ j ≤ O.length) ∧ prx zs = jn P O j) ∧ Fr a 151 [(0, .slice aP P.length cP), (1, .slice aO O.length cO), (10, .pointer (some ⟨B.pb, 0, none⟩)), (16, .slice adJ j cJ), (17, .int .i64 j)] ∧ St W w (Sl 22 1 adJ j cJ (zs.map bbv) :: All bbo zs :: PlainS W B sumP s' :: [])) (P.length) ?_ ?_
      · exact ⟨0, [], none, 0, ⟨rfl, by omega, rfl⟩, ha.keep [0, 1, 10, 16, 17], (show St W w (Sl 22 1 none 0 0 (([] : List BBx).map bbv) :: All bbo [] :: _) from hs).sub⟩
      ·
       clear ha hs
       rintro μ a w ⟨j, zs, adJ, cJ, ⟨rfl, hjl, hz⟩, ha, hs⟩
       refine WS <| WS <| WR ?_
       refine S1 ha ?_; clear ha; (try clear a); intro a ha
       iterate 4 (refine S1 ha ?_; clear ha a; intro a ha)
       refine ha.by (s := 111) (fun hg4 ha => ?_) (fun hg4 ha => ?_)
       ·
        refine S1g (s := 111) ha ?_; clear ha; (try clear a); intro a ha
        iterate 3 (refine S1g (s := 111) ha ?_; clear ha a; intro a ha)
        refine PT ha ?_; clear ha a; intro a ha
        refine LN <| TN ?_
        refine WI ha (fun hc7 => ?_) (fun hc7 => ?_)
        ·
         have hjP : j < P.length := by omega
         have hjO : j < O.length := by omega
         refine WK <| TN <| WS <| wp_block ?_
         obtain ⟨bp, op, rfl, hrp⟩ := (hrP.old hs.drew).get (by omega)
         obtain ⟨bo, oo, rfl, hro⟩ := (hrO.old hs.drew).get (by omega)
         refine DW (m := 13) (Old w.drew) [8] [0, 1, 2, 3, 5, 6, 7, 4, 8, 9, 10, 11, 12] Ty.mixed (pk_blk (pk_then (pk_then (pk_blk (pk_then pk_body))))) (fun hpk => ?_)
         replace hs := hs.drew
         have hC := Old.refl w.drew
         generalize w.drew = w at hs hC hpk hrp hro ⊢
         refine DP hpk ha rfl ?_; clear ha; (try clear a); intro a ha
         iterate 2 (refine DP hpk ha rfl ?_; clear ha a; intro a ha)
         refine DQ hpk ha rfl rfl (fun w => ex_indexAddr ha Tryz.underlying22 Ty.t5 (by omega)) ?_; clear ha a; intro a ha
         rw [Nat.mul_one] at ha
         iterate 2 (refine DP hpk ha rfl ?_; clear ha a; intro a ha)
         refine DQ hpk ha rfl rfl (fun w => ex_indexAddr ha Tryz.underlying22 Ty.t5 (by omega)) ?_; clear ha a; intro a ha
         rw [Nat.mul_one] at ha
         refine DL hpk ha rfl (fun w hc => hc.cell (hrp j _ (bc_at hjP))) hC ?_; clear ha a; intro a ha
         refine D1 rfl (st_set ha rfl (ex_load1 ha Tryz.underlying5 rfl (hro j _ (bc_at hjO))) rfl ?_); clear ha a; intro a ha
         refine ⟨fun _ => hC, ?_⟩
         refine D1 rfl (st_buildSlice ha rfl hs Tryz.underlying22 Ty.t5 rfl rfl rfl rfl (by decide) (by decide) ?_); clear ha hs a; (try clear w); intro b128 a w ha hs ho
         (try replace hC := hC.trans ho); clear ho
         refine ⟨fun h => absurd h (by decide), ?_⟩
         refine D1 rfl (st_buildSlice ha rfl hs Tryz.underlying41 Ty.t22 rfl rfl rfl rfl (by decide) (by decide) ?_); clear ha hs a; (try clear w); intro b129 a w ha hs ho
         (try replace hC := hC.trans ho); clear ho
         refine ⟨fun h => absurd h (by decide), ?_⟩
         refine D1 rfl (st_append ha rfl hs Tryz.underlying41 Ty.t22 rfl rfl hs.rdAll rfl (by simp [Value.oneCell']) (by decide) (by decide) (by omega) ?_); clear ha hs a; (try clear w); intro ad130 c130 a w ha hs
         refine ⟨fun h => absurd h (by decide), ?_⟩
         rw [show zs.map bbv ++ _ = (zs ++ [((some ⟨b128, 0, none⟩, 2, [P[j], O[j]]) : BBx)]).map bbv from by rw [List.map_append]; rfl] at hs
         replace ha := ha.del 16
         refine DP hpk ha rfl ?_; clear ha a; intro a ha
         refine DD <| BN <| TN <| WR ?_
         refine S1 ha ?_; clear ha a; intro a ha
         refine SK (st_set ha rfl (ex_addI ha (by omega) (by omega)) rfl ?_); clear ha a; intro a ha
         refine S1d ha ?_; clear ha a; intro a ha
         refine LN <| TN ?_
         have hs1 : St W w (Sl 5 1 (some ⟨b128, 0, none⟩) [P[j], O[j]].length 2 (bc [P[j], O[j]]) :: _) := St.blkSl (k := 2) (sz := 1) (hs.bring b128) rfl
         have hs2 := St.allPush (f := bbo) (x := ((some ⟨b128, 0, none⟩, 2, [P[j], O[j]]) : BBx)) (hs1.sub (M := Sl 5 1 (some ⟨b128, 0, none⟩) [P[j], O[j]].length 2 (bc [P[j], O[j]]) :: All bbo zs :: Sl 22 1 ad130 (j + 1) c130 ((zs ++ [((some ⟨b128, 0, none⟩, 2, [P[j], O[j]]) : BBx)]).map bbv) :: PlainS W B sumP s' :: []))
         exact ⟨P.length - (j + 1), by omega, j + 1, zs ++ [((some ⟨b128, 0, none⟩, 2, [P[j], O[j]]) : BBx)], ad130, c130, ⟨rfl, by omega, by rw [prx, List.map_append, ← prx, hz, jn_succ hjP hjO]; rfl⟩, ha.keep [0, 1, 10, 16, 17], hs2.sub⟩
        ·
         refine wp_exit <| TE <| TE <| blk_e <| TN ?_
         obtain rfl : j = min P.length O.length := by omega
         exact ⟨zs, adJ, cJ, hz, ha.keep [10, 16], hs⟩
       ·
        refine SO (s := 111) ha ?_; clear ha; (try clear a); intro a ha
        iterate 3 (refine SO (s := 111) ha ?_; clear ha a; intro a ha)
        refine PF ha ?_; clear ha a; intro a ha
        refine LN <| TN <| WFa ha <| wp_exit <| TE <| TE <| blk_e <| TN ?_
        obtain rfl : j = min P.length O.length := by omega
        exact ⟨zs, adJ, cJ, hz, ha.keep [10, 16], hs⟩
     ·
      clear ha; (try clear hs)
      intro a w hcut
      obtain ⟨zs, adJ, cJ, hz, ha, hs⟩ := hcut
      refine WS ?_
      have hfr : frontL [P, O] = min P.length O.length := front_two _ _
      have hga : gameAt sumP [P, O] (min P.length O.length) = foldI sumP 0 zeroG (jn P O (min P.length O.length)) := rfl
      generalize hmm : min P.length O.length = m at ha hs hz hfr hga
      refine WR ?_
      refine S1 ha ?_; clear ha; (try clear a); intro a ha
      refine SK (st_call ha rfl Ty.c17 rfl (two_conf (hs.pick (PlainS W B sumP s')) t2) ?_); clear ha hs
      rintro e w ⟨adC, cC, rfl, hs⟩
      refine ⟨_, rfl, ?_⟩
      intro a ha
      rw [hfr] at ha hs
      rw [hga] at hs
      iterate 5 (refine S1 ha ?_; clear ha a; intro a ha)
      refine LN <| TN <| WS ?_
      refine DW (m := 16) (fun w' => RdB w' adC 128 (gameB (foldI sumP 0 zeroG (jn P O m)))) [7, 10, 11, 12] [0, 1, 2, 3, 4, 5, 8, 9, 6, 7, 10, 11, 12, 13, 14, 15] Ty.mixed (pk_then pk_body) (fun hpk => ?_)
      replace hs := hs.drew
      generalize w.drew = w at hs hpk ⊢
      have hC : RdB w adC 128 (gameB (foldI sumP 0 zeroG (jn P O m))) := hs.rdB adC _ rfl (gameB_len _)
      iterate 5 (refine DP hpk ha rfl ?_; clear ha a; intro a ha)
      rw [decide_eq_true (by omega)] at ha
      refine DPg (s := 140) hpk ha rfl ?_; clear ha a; intro a ha
      refine DQ hpk ha rfl (wgT ha rfl (s := 140)) (fun w => ex_buildA0 ha Tryz.underlying46 Ty.t46 Ty.t21) ?_; clear ha a; intro a ha
      refine DPg (s := 140) hpk ha rfl ?_; clear ha a; intro a ha
      refine DH hpk ha rfl (wgT ha rfl (s := 140)) (fun w hc => ex_toString ha Tryz.underlying22 Tryz.underlying5 Tryz.underlying9 (hc)) hC ?_; clear ha a; intro a ha
      refine D1 rfl (st_call ha (wgT ha rfl (s := 140)) Ty.c13 rfl (prog22 hs) ?_); clear ha hs
      rintro e w ⟨adQ, rfl, hs⟩
      refine ⟨_, rfl, ?_⟩
      intro a ha
      replace hC : (fun w' => RdB w' adC 128 (gameB (foldI sumP 0 zeroG (jn P O m)))) w := hs.rdB adC _ rfl (gameB_len _)
      refine ⟨fun _ => hC, ?_⟩
      refine D1 rfl (st_call ha (wgT ha rfl (s := 140)) Ty.c19 rfl (refFold_len (p := sumP) (P := jn P O m) (zs := zs) (g := zeroG) (fr := 0) (L := Sl 22 1 adJ m cJ (zs.map bbv) :: All bbo zs :: Sl 5 1 adC 128 cC (bc (gameB (foldI sumP 0 zeroG (jn P O m)))) :: PlainS W B sumP s' :: []) hs.sub (jn_len P O m) sumP_ok (by decide) zeroG_ok ⟨by rw [jn_len]; omega, jn_short⟩ hz (by decide) (fun w' hw => hw.rdX)) ?_); clear ha hs
      rintro e w ⟨rfl, hgk, hs⟩
      refine ⟨_, rfl, ?_⟩
      intro a ha
      replace hC : (fun w' => RdB w' adC 128 (gameB (foldI sumP 0 zeroG (jn P O m)))) w := hs.rdB adC _ rfl (gameB_len _)
      refine ⟨fun _ => hC, ?_⟩
      refine D1 rfl (st_call ha (wgT ha rfl (s := 140)) Ty.c18 rfl (refBytes_spec hs) ?_); clear ha hs
      rintro e w ⟨adG, cG, rfl, hs⟩
      refine ⟨_, rfl, ?_⟩
      intro a ha
      replace hC : (fun w' => RdB w' adC 128 (gameB (foldI sumP 0 zeroG (jn P O m)))) w := hs.rdB adC _ rfl (gameB_len _)
      refine ⟨fun _ => hC, ?_⟩
      refine D1 rfl (st_set ha (wgT ha rfl (s := 140)) (ex_toString ha Tryz.underlying22 Tryz.underlying5 Tryz.underlying9 ((hs.rdB adG (gameB (foldI sumP 0 zeroG (jn P O m))) rfl (gameB_len _)))) rfl ?_); clear ha a; intro a ha
      refine ⟨fun _ => hC, ?_⟩
      refine DQ hpk ha rfl (wgT ha rfl (s := 140)) (fun w => ex_eqlS ha) ?_; clear ha a; intro a ha
      refine DT hpk ha rfl ?_; clear ha a; intro a ha
      refine DP hpk ha rfl ?_; clear ha a; intro a ha
      refine DD <| TN <| wp_ret ?_
      refine ret1 ha rfl ?_
      exact ⟨by rw [str_beq]; simp, hs.below⟩
end Go.Proofs.YtagpkhbkdbaigaaGreat

