/- PlainMay. -/
import Derived.Test.YtagpkhbkdbaigaaGreatArgC
namespace Go.Proofs.YtagpkhbkdbaigaaGreat
open Go.RowKit
set_option linter.unusedVariables false
set_option linter.unusedSimpArgs false
set_option maxRecDepth 10000
set_option synthInstance.maxSize 4000
set_option synthInstance.maxHeartbeats 400000

theorem frontL_rep {n d : Nat} (h : 0 < n) : frontL (List.replicate n (List.replicate d (0 : UInt8))) = d := by
  have hne : List.replicate n (List.replicate d (0 : UInt8)) ≠ [] := fun e => by
    have := congrArg List.length e
    simp at this; omega
  apply Nat.le_antisymm
  · have h1 := frontL_le (ls := List.replicate n (List.replicate d (0 : UInt8))) (l := List.replicate d (0 : UInt8)) (List.mem_replicate.2 ⟨by omega, rfl⟩)
    simpa using h1
  · refine frontL_ge hne fun l hl => ?_
    rw [List.eq_of_mem_replicate hl, List.length_replicate]
    exact Nat.le_refl _
theorem newP_at {p : Pr} {cf : Cf} (h : mayCf cf) : frontK (newP p cf).k = cf.delay.toNat ∧ headK (newP p cf).k = cf.delay.toNat ∧ (newP p cf).k.mr.length = cf.delay.toNat := by
  have h1 := (newP_ok (p := p) h).playP.2.1
  have h2 := (WF'.new (p := p) h).full
  have hls : (newP p cf).k.ls = List.replicate cf.n.toNat (List.replicate cf.delay.toNat 0) := h1
  obtain ⟨_, hme, _⟩ := playP_same (newP_ok (p := p) h)
  have hf : frontK (newP p cf).k = cf.delay.toNat := by
    rw [frontK, hls, frontL_rep]
    have := h.1.1; simp only [inI] at this; omega
  refine ⟨hf, ?_, by rw [h2, hf]⟩
  have hme2 : (newP p cf).k.me = cf.me.toNat := hme
  rw [headK, hls, hme2, List.getD_eq_getElem?_getD, List.getElem?_replicate, if_pos ?_]
  · simp
  · have h3 := h.1.1; have h4 := h.1.2.1; simp only [inI] at h3 h4; omega
set_option maxHeartbeats 4000000 in
theorem plainMay_walk (cf0 : Cf) (pr1 : Pr) (ado1 : Option Addr) (co1 : Nat) (a2 : Option Addr) (len2 cap2 : Nat) (z2 : List Int) (W : World) (w1 : ArgProg W pr1 ado1 co1) (w2 : ArgInts .u8 W a2 len2 cap2 z2) :
    Calls Tryz.prog 5 #[.agg (cfC cf0).toArray, .agg (prV pr1 ado1 co1).toArray, .slice a2 len2 cap2] W fun e w' => e = .returned (.bool true) ∧ Below W.heap.size W w' := by
  have hs := St.start W
  obtain ⟨T0, hT0, hrT0⟩ := w2.bytesB
  have hcap := capLe w2
  obtain ⟨hz1, hz2⟩ := cutP_ok (K := 66) (by decide) pr1
  by_cases hma : mayAll cf0 (cutP 66 pr1) (T0.take 30)
  ·
    refine calls_enter Tryz.func5 rfl Tryz.ntmps5 (Nat.le_of_ble_eq_true rfl) ?_
    intro a ha
    replace ha : Fr a 66 [(0, _), (1, _), (2, _)] := ha
    refine WS <| WR ?_
    refine SK (st_box ha rfl hs rfl ?_); clear ha hs a; (try clear w); intro b3 a w ha hs ho
    clear ho
    change St W w (blk b3 30 (cfC cf0) :: _) at hs
    refine SK (st_box ha rfl hs rfl ?_); clear ha hs a; (try clear w); intro b4 a w ha hs ho
    clear ho
    change St W w (blk b4 33 (prV pr1 ado1 co1) :: _) at hs
    refine S1 ha ?_; clear ha a; intro a ha
    refine LN <| TN <| WS <| WR ?_
    refine SK (st_call ha rfl Ty.c10 rfl (begun22 hs) ?_); clear ha hs
    rintro e w ⟨rfl, hs⟩
    refine ⟨_, rfl, ?_⟩
    intro a ha
    refine S1 ha ?_; clear ha a; intro a ha
    refine LN <| TN <| WS <| WS <| WR ?_
    iterate 2 (refine S1 ha ?_; clear ha a; intro a ha)
    refine LN <| TN <| WFa ha <| WK <| TN <| WS <| WR ?_
    refine SK (st_set ha rfl (ex_loadN ha Tryz.underlying33 rfl Ty.t33 (hs.rdAll (b := b4))) rfl ?_); clear ha a; intro a ha
    refine SK (st_call ha rfl Ty.c20 rfl (cut5_spec (K := 66) (w1.ro hs)) ?_); clear ha hs
    rintro e w ⟨rfl, hs⟩
    refine ⟨_, rfl, ?_⟩
    intro a ha
    refine S1 ha ?_; clear ha a; intro a ha
    refine SK (st_call ha rfl Ty.c11 rfl (shortN (K := 30) hs hrT0 hcap) ?_); clear ha hs
    rintro e w ⟨aT, cT, rfl, hrT, hcT, hs⟩
    refine ⟨_, rfl, ?_⟩
    intro a ha
    refine SK (st_storeAll ha rfl hs Ty.t33 (prV_one _ _ _) (by rfl) ?_); clear ha hs a; (try clear w); intro a w ha hs
    refine S1d ha ?_; clear ha a; intro a ha
    refine LN ?_
    have hTl : (T0.take 30).length ≤ 30 := by rw [List.length_take]; omega
    generalize T0.take 30 = T at ha hrT hcT hTl hma
    generalize cutP 66 pr1 = p at hs ha hz1 hz2 hma
    refine TN <| WS <| WR ?_
    refine SK (st_set ha rfl (ex_loadN ha Tryz.underlying30 rfl Ty.t30 (hs.rdAll (b := b3))) rfl ?_); clear ha a; intro a ha
    refine SK (st_set ha rfl (ex_loadN ha Tryz.underlying33 rfl Ty.t33 (hs.rdAll (b := b4))) rfl ?_); clear ha a; intro a ha
    refine S1 ha ?_; clear ha a; intro a ha
    refine SK (st_call ha rfl Ty.c12 rfl (plain_newY hma (hs.pick (RoP W p ado1 co1)) rfl hz1 hz2 (by omega) (fun w' h => hrT.old h)) ?_); clear ha hs
    rintro e w ⟨B, rfl, hgs, hs⟩
    refine ⟨_, rfl, ?_⟩
    intro a ha
    obtain ⟨hn1, hn2, hn3⟩ := newP_at (p := p) hma.1
    have hwf := WF'.new (p := p) hma.1
    have hdl : ((cf0.delay.toNat : Nat) : Int) = cf0.delay := Int.toNat_of_nonneg hma.1.2.1.1.1
    generalize newP p cf0 = s at hs hn1 hn2 hn3 hwf
    iterate 5 (refine S1 ha ?_; clear ha a; intro a ha)
    refine LN <| TN <| WS <| WS <| WR ?_
    refine SK (st_set ha rfl (ex_loadN ha Tryz.underlying30 rfl Ty.t30 (hs.rdAll (b := b3))) rfl ?_); clear ha a; intro a ha
    refine SK (st_set ha rfl (ex_loadN ha Tryz.underlying33 rfl Ty.t33 (hs.rdAll (b := b4))) rfl ?_); clear ha a; intro a ha
    refine S1 ha ?_; clear ha a; intro a ha
    refine SK (st_call ha rfl Ty.c21 rfl (refMayAll (cf := cf0) (tb := T) (hs.pick (RoP W p ado1 co1)) hz1 hz2 rfl) ?_); clear ha hs
    rintro e w ⟨rr, rfl, hrr, hs⟩
    refine ⟨_, rfl, ?_⟩
    intro a ha
    rw [hrr.2 hma] at ha
    refine S1 ha ?_; clear ha a; intro a ha
    refine LN <| TN <| WFa ha <| WK <| TN <| WS <| WR ?_
    refine S1 ha ?_; clear ha a; intro a ha
    refine SK (st_call ha rfl Ty.c17 rfl (plain_confirmed (hs.pick (PlainS W B p s)) hwf) ?_); clear ha hs
    rintro e w ⟨adC, cC, rfl, hs⟩
    refine ⟨_, rfl, ?_⟩
    intro a ha
    rw [confP, hn1, hdl] at ha
    iterate 5 (refine S1 ha ?_; clear ha a; intro a ha)
    refine LN <| TN <| WS ?_
    refine DW (m := 25) (fun w' => Rd w' b3 0 (cfC cf0)) [10, 11, 18, 19] [0, 1, 2, 3, 4, 5, 6, 7, 8, 9, 12, 13, 10, 11, 14, 15, 16, 17, 20, 21, 18, 19, 22, 23, 24] Ty.mixed (pk_then pk_body) (fun hpk => ?_)
    replace hs := hs.drew
    generalize w.drew = w at hs hpk ⊢
    have hC : Rd w b3 0 (cfC cf0) := hs.rdAll (b := b3)
    iterate 3 (refine DP hpk ha rfl ?_; clear ha a; intro a ha)
    rw [decide_eq_true (by omega)] at ha
    iterate 2 (refine DPg (s := 44) hpk ha rfl ?_; clear ha a; intro a ha)
    refine D1 rfl (st_set ha (wgT ha rfl (s := 44)) (ex_load1 ha Tryz.underlying3 rfl (hC 3 _ rfl)) rfl ?_); clear ha a; intro a ha
    refine ⟨fun h => absurd h (by decide), ?_⟩
    refine DPg (s := 44) hpk ha rfl ?_; clear ha a; intro a ha
    refine DT hpk ha rfl ?_; clear ha a; intro a ha
    refine DP hpk ha rfl ?_; clear ha a; intro a ha
    rw [decide_eq_true (by omega)] at ha
    iterate 2 (refine DPg (s := 50) hpk ha rfl ?_; clear ha a; intro a ha)
    refine DH hpk ha rfl (wgT ha rfl (s := 50)) (fun w hc => ex_load1 ha Tryz.underlying3 rfl (hc 3 _ rfl)) hC ?_; clear ha a; intro a ha
    refine D1 rfl (st_call ha (wgT ha rfl (s := 50)) Ty.c25 rfl (plain_core (hs.pick (PlainS W B p s))) ?_); clear ha hs
    rintro e w ⟨rfl, hs⟩
    refine ⟨_, rfl, ?_⟩
    intro a ha
    replace hC : (fun w' => Rd w' b3 0 (cfC cf0)) w := hs.rdAll (b := b3)
    refine ⟨fun _ => hC, ?_⟩
    replace hs := PlainS.open hs
    refine D1 rfl (st_call ha (wgT ha rfl (s := 50)) Ty.c26 rfl (core_head (hs.pick (CoreS B.core s.k)) hwf.wc) ?_); clear ha hs
    rintro e w ⟨rfl, hs⟩
    refine ⟨_, rfl, ?_⟩
    intro a ha
    replace hC : (fun w' => Rd w' b3 0 (cfC cf0)) w := hs.rdAll (b := b3)
    refine ⟨fun _ => hC, ?_⟩
    rw [hn2, hdl] at ha
    replace hs := PlainS.fold hs B p s
    refine DPg (s := 50) hpk ha rfl ?_; clear ha a; intro a ha
    refine DT hpk ha rfl ?_; clear ha a; intro a ha
    refine DP hpk ha rfl ?_; clear ha a; intro a ha
    rw [decide_eq_true (by omega)] at ha
    iterate 2 (refine DPg (s := 58) hpk ha rfl ?_; clear ha a; intro a ha)
    refine DH hpk ha rfl (wgT ha rfl (s := 58)) (fun w hc => ex_load1 ha Tryz.underlying3 rfl (hc 3 _ rfl)) hC ?_; clear ha a; intro a ha
    refine D1 rfl (st_call ha (wgT ha rfl (s := 58)) Ty.c25 rfl (plain_core hs) ?_); clear ha hs
    rintro e w ⟨rfl, hs⟩
    refine ⟨_, rfl, ?_⟩
    intro a ha
    replace hC : (fun w' => Rd w' b3 0 (cfC cf0)) w := hs.rdAll (b := b3)
    refine ⟨fun _ => hC, ?_⟩
    replace hs := PlainS.open hs
    refine D1 rfl (st_call ha (wgT ha rfl (s := 58)) Ty.c27 rfl (core_marks (hs.pick (CoreS B.core s.k))) ?_); clear ha hs
    rintro e w ⟨rfl, hs⟩
    refine ⟨_, rfl, ?_⟩
    intro a ha
    replace hC : (fun w' => Rd w' b3 0 (cfC cf0)) w := hs.rdAll (b := b3)
    refine ⟨fun _ => hC, ?_⟩
    rw [hn3, hdl] at ha
    refine DPg (s := 58) hpk ha rfl ?_; clear ha a; intro a ha
    refine DT hpk ha rfl ?_; clear ha a; intro a ha
    replace ha := ha.del 6
    refine DP hpk ha rfl ?_; clear ha a; intro a ha
    refine DD <| TN <| wp_ret ?_
    refine ret1 ha rfl ?_
    exact ⟨by simp, hs.below⟩
  ·
    refine calls_enter Tryz.func5 rfl Tryz.ntmps5 (Nat.le_of_ble_eq_true rfl) ?_
    intro a ha
    replace ha : Fr a 66 [(0, _), (1, _), (2, _)] := ha
    refine WS <| WR ?_
    refine SK (st_box ha rfl hs rfl ?_); clear ha hs a; (try clear w); intro b3 a w ha hs ho
    clear ho
    change St W w (blk b3 30 (cfC cf0) :: _) at hs
    refine SK (st_box ha rfl hs rfl ?_); clear ha hs a; (try clear w); intro b4 a w ha hs ho
    clear ho
    change St W w (blk b4 33 (prV pr1 ado1 co1) :: _) at hs
    refine S1 ha ?_; clear ha a; intro a ha
    refine LN <| TN <| WS <| WR ?_
    refine SK (st_call ha rfl Ty.c10 rfl (begun22 hs) ?_); clear ha hs
    rintro e w ⟨rfl, hs⟩
    refine ⟨_, rfl, ?_⟩
    intro a ha
    refine S1 ha ?_; clear ha a; intro a ha
    refine LN <| TN <| WS <| WS <| WR ?_
    iterate 2 (refine S1 ha ?_; clear ha a; intro a ha)
    refine LN <| TN <| WFa ha <| WK <| TN <| WS <| WR ?_
    refine SK (st_set ha rfl (ex_loadN ha Tryz.underlying33 rfl Ty.t33 (hs.rdAll (b := b4))) rfl ?_); clear ha a; intro a ha
    refine SK (st_call ha rfl Ty.c20 rfl (cut5_spec (K := 66) (w1.ro hs)) ?_); clear ha hs
    rintro e w ⟨rfl, hs⟩
    refine ⟨_, rfl, ?_⟩
    intro a ha
    refine S1 ha ?_; clear ha a; intro a ha
    refine SK (st_call ha rfl Ty.c11 rfl (shortN (K := 30) hs hrT0 hcap) ?_); clear ha hs
    rintro e w ⟨aT, cT, rfl, hrT, hcT, hs⟩
    refine ⟨_, rfl, ?_⟩
    intro a ha
    refine SK (st_storeAll ha rfl hs Ty.t33 (prV_one _ _ _) (by rfl) ?_); clear ha hs a; (try clear w); intro a w ha hs
    refine S1d ha ?_; clear ha a; intro a ha
    refine LN ?_
    have hTl : (T0.take 30).length ≤ 30 := by rw [List.length_take]; omega
    generalize T0.take 30 = T at ha hrT hcT hTl hma
    generalize cutP 66 pr1 = p at hs ha hz1 hz2 hma
    refine TN <| WS <| WR ?_
    refine SK (st_set ha rfl (ex_loadN ha Tryz.underlying30 rfl Ty.t30 (hs.rdAll (b := b3))) rfl ?_); clear ha a; intro a ha
    refine SK (st_set ha rfl (ex_loadN ha Tryz.underlying33 rfl Ty.t33 (hs.rdAll (b := b4))) rfl ?_); clear ha a; intro a ha
    refine S1 ha ?_; clear ha a; intro a ha
    refine SK (st_call ha rfl Ty.c12 rfl (plain_newN hma (hs.pick (RoP W p ado1 co1)) rfl hz1 hz2 (by omega) (fun w' h => hrT.old h)) ?_); clear ha hs
    rintro e w ⟨rfl, hs⟩
    refine ⟨_, rfl, ?_⟩
    intro a ha
    iterate 5 (refine S1 ha ?_; clear ha a; intro a ha)
    refine LN <| TN <| WS <| WS <| WR ?_
    refine SK (st_set ha rfl (ex_loadN ha Tryz.underlying30 rfl Ty.t30 (hs.rdAll (b := b3))) rfl ?_); clear ha a; intro a ha
    refine SK (st_set ha rfl (ex_loadN ha Tryz.underlying33 rfl Ty.t33 (hs.rdAll (b := b4))) rfl ?_); clear ha a; intro a ha
    refine S1 ha ?_; clear ha a; intro a ha
    refine SK (st_call ha rfl Ty.c21 rfl (refMayAll (cf := cf0) (tb := T) (hs.pick (RoP W p ado1 co1)) hz1 hz2 rfl) ?_); clear ha hs
    rintro e w ⟨rr, rfl, hrr, hs⟩
    refine ⟨_, rfl, ?_⟩
    intro a ha
    rw [show rr = false from Bool.eq_false_iff.2 fun h => hma (hrr.1 h)] at ha
    refine S1 ha ?_; clear ha a; intro a ha
    refine LN <| TN <| WTr ha <| WS <| WR ?_
    iterate 3 (refine S1 ha ?_; clear ha a; intro a ha)
    iterate 2 (refine S1g (s := 33) ha ?_; clear ha a; intro a ha)
    refine PT ha ?_; clear ha a; intro a ha
    refine S1d ha ?_; clear ha a; intro a ha
    refine LN <| TN <| wp_ret <| TR ?_
    refine ret1 ha rfl ?_
    exact ⟨rfl, hs.below⟩
end Go.Proofs.YtagpkhbkdbaigaaGreat

