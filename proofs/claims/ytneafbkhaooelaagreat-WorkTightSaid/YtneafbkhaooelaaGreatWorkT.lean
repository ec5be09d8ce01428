/- WorkTight. -/
import Derived.Test.YtneafbkhaooelaaGreatWorkR
namespace Go.Proofs.YtneafbkhaooelaaGreat
open Go.RowKit
set_option linter.unusedVariables false
set_option linter.unusedSimpArgs false
set_option maxRecDepth 10000
set_option synthInstance.maxSize 4000
set_option synthInstance.maxHeartbeats 400000

theorem workTight_walk (pr : Pr) (adO : Option Addr) (cO : Nat) (a1 : Option Addr) (len1 cap1 : Nat) (a2 : Int) (a3 : Option Addr) (len3 cap3 : Nat) (z3 : List Int) (W : World) (w0 : ArgProg W pr adO cO) (w1 : len1 ≤ 9223372036854775807 ∧ ∃ ys : List BBBx, ys.length = len1 ∧ ArgBBB W a1 ys)
    (w2 : (Lit.int .i64 a2).wf = true) (w3 : ArgInts .i64 W a3 len3 cap3 z3) :
    Calls Tryz.prog 6 #[.agg (prV pr adO cO).toArray, .slice a1 len1 cap1, .int .i64 a2, .slice a3 len3 cap3] W fun e w' => e = .returned (.bool true) ∧ Below W.heap.size W w' := by
  have hs := St.start W
  obtain ⟨hl1, ys, rfl, hy⟩ := w1
  obtain ⟨vz, hvl, hvw, hvr⟩ := w3.vals
  have hl3 := w3.len_le.2
  obtain ⟨hz1, hz2⟩ := cutP_ok pr
  refine calls_enter Tryz.func6 rfl Tryz.ntmps6 (Nat.le_of_ble_eq_true rfl) ?_
  intro a ha
  replace ha : Fr a 105 [(0, _), (1, _), (2, _), (3, _)] := ha
  refine WS <| WR ?_
  refine SK (st_box ha rfl hs rfl ?_); clear ha hs a; (try clear w); intro b4 a w ha hs ho
  clear ho
  change St W w (blk b4 24 (prV pr adO cO) :: _) at hs
  refine S1 ha ?_; clear ha a; intro a ha
  refine LN <| TN <| WS <| WR ?_
  refine SK (st_call ha rfl Ty.c8 rfl (begun25 hs) ?_); clear ha hs
  rintro e w ⟨rfl, hs⟩
  refine ⟨_, rfl, ?_⟩
  intro a ha
  refine S1 ha ?_; clear ha a; intro a ha
  refine LN <| TN <| WS <| WS <| WR ?_
  iterate 2 (refine S1 ha ?_; clear ha a; intro a ha)
  refine LN <| TN <| WFa ha <| WK <| TN <| WS <| WR ?_
  refine SK (st_set ha rfl (ex_loadN ha Tryz.underlying24 rfl Ty.t24 (hs.rdAll)) rfl ?_); clear ha a; intro a ha
  refine SK (st_call ha rfl Ty.c9 rfl (cut5_spec (K := 30) (w0.ro hs)) ?_); clear ha hs
  rintro e w ⟨rfl, hs⟩
  refine ⟨_, rfl, ?_⟩
  intro a ha
  refine SK (st_storeAll ha rfl hs Ty.t24 (prV_one _ _ _) (by rfl) ?_); clear ha hs a; (try clear w); intro a w ha hs
  refine LN <| TN <| WS <| WS ?_
  generalize cutP 30 pr = p at hs ha hz1 hz2
  refine WR ?_
  refine SK (st_set ha rfl (ex_loadN ha Tryz.underlying24 rfl Ty.t24 (hs.rdAll)) rfl ?_); clear ha a; intro a ha
  refine SK (st_call ha rfl Ty.c10 rfl (refFault_spec (hs.pick (RoP W p adO cO)) hz1 hz2) ?_); clear ha hs
  rintro e w ⟨rf, rfl, hrf, hs⟩
  refine ⟨_, rfl, ?_⟩
  intro a ha
  iterate 2 (refine S1 ha ?_; clear ha a; intro a ha)
  refine ha.by (s := 21) (fun hg3 ha => ?_) (fun hg3 ha => ?_)
  ·
   refine SO (s := 21) ha ?_; clear ha; (try clear a); intro a ha
   refine SO (s := 21) ha ?_; clear ha a; intro a ha
   refine PT ha ?_; clear ha a; intro a ha
   refine S1 ha ?_; clear ha a; intro a ha
   iterate 2 (refine SO (s := 25) ha ?_; clear ha a; intro a ha)
   refine PT ha ?_; clear ha a; intro a ha
   refine LN <| TN <| WTr ha <| WS <| WR ?_
   refine S1d ha ?_; clear ha a; intro a ha
   refine LN <| TN <| wp_ret <| TR ?_
   refine ret1 ha rfl ?_
   exact ⟨rfl, hs.below⟩
  ·
   refine S1g (s := 21) ha ?_; clear ha; (try clear a); intro a ha
   refine S1g (s := 21) ha ?_; clear ha a; intro a ha
   refine PF ha ?_; clear ha a; intro a ha
   refine S1 ha ?_; clear ha a; intro a ha
   refine ha.by (s := 25) (fun hg7 ha => ?_) (fun hg7 ha => ?_)
   ·
    refine SO (s := 25) ha ?_; clear ha; (try clear a); intro a ha
    refine SO (s := 25) ha ?_; clear ha a; intro a ha
    refine PT ha ?_; clear ha a; intro a ha
    refine LN <| TN <| WTr ha <| WS <| WR ?_
    refine S1d ha ?_; clear ha a; intro a ha
    refine LN <| TN <| wp_ret <| TR ?_
    refine ret1 ha rfl ?_
    exact ⟨rfl, hs.below⟩
   ·
    refine S1g (s := 25) ha ?_; clear ha; (try clear a); intro a ha
    refine S1g (s := 25) ha ?_; clear ha a; intro a ha
    refine PF ha ?_; clear ha a; intro a ha
    refine LN <| TN ?_
    refine WI ha (fun hc1 => ?_) (fun hc1 => ?_)
    ·
     refine WS <| WR ?_
     refine S1d ha ?_; clear ha; (try clear a); intro a ha
     refine LN <| TN <| wp_ret <| TR ?_
     refine ret1 ha rfl ?_
     exact ⟨rfl, hs.below⟩
    ·
     refine WK <| TN <| WS ?_
     have hpr := hrf.1 hg3
     obtain ⟨room, rfl⟩ := Int.eq_ofNat_of_zero_le (show 0 ≤ a2 by omega)
     refine WR ?_
     refine SK (st_set ha rfl (ex_loadN ha Tryz.underlying24 rfl Ty.t24 (hs.rdAll)) rfl ?_); clear ha; (try clear a); intro a ha
     iterate 2 (refine S1 ha ?_; clear ha a; intro a ha)
     refine SK (st_call ha rfl Ty.c11 rfl (made_spec (p := p) (room := room) (nw := 2) (ys := ys) (hs.pick (RoP W p adO cO)) (fun w' h => hy.rd h) (by omega) (by decide) hl1) ?_); clear ha hs
     rintro e w ⟨xb, sq, r, tq, jq, adw, cw, ks, A, T, J, t, rfl, ⟨hkl, hap, hfr⟩, hs⟩
     refine ⟨_, rfl, ?_⟩
     intro a ha
     refine S1 ha ?_; clear ha a; intro a ha
     refine LN ?_
     have hS := hfr.sure (by omega)
     clear hfr
     refine TN <| WS <| WS <| WR ?_
     iterate 2 (refine S1 ha ?_; clear ha a; intro a ha)
     refine LN <| TN <| WFa ha <| WK <| TN ?_
     refine wp_seq_cut (M := fun a w => ∃ (A2 : Sn) (T2 : Tr) (J2 : Js) (ks2 : List Kx), (Like ks2 ks ∧ Sure p t room 80 A2 T2 J2 (ks2.map (·.1))) ∧ Fr a 105 [(10, .pointer (some ⟨xb, 0, none⟩))] ∧ St W w (blk xb 38 (shopC sq tq jq adw ks.length cw 1) :: Sl 31 1 adw ks.length cw (ptrs ks) :: All (ownK p adO cO tq jq sq) ks2 :: Tree tq sq T2 :: Store sq r A2 :: RoP W p adO cO :: Jobs jq J2 :: [])) ?_ ?_
     ·
      refine WS <| WR ?_
      refine S1 ha ?_; clear ha; (try clear a); intro a ha
      refine LN <| TN <| wp_block ?_
      refine wp_loop_ghost (fun μ a w => ∃ (i : Nat) (A2 : Sn) (T2 : Tr) (J2 : Js) (ks2 : List Kx), (μ = len3 - i ∧ i ≤ len3 ∧ i ≤ 80 ∧ Like ks2 ks ∧ Sure p t room i A2 T2 J2 (ks2.map (·.1))) ∧ Fr a 105 [(3, .slice a3 len3 cap3), (4, .pointer (some ⟨b4, 0, none⟩)), (10, .pointer (some ⟨xb, 0, none⟩)), (11, .int .i64 i)] ∧ St W w (blk xb 38 (shopC sq tq jq adw ks.length cw 1) :: Sl 31 1 adw ks.length cw (ptrs ks) :: All (ownK p adO cO tq jq sq) ks2 :: Tree tq sq T2 :: Store sq r A2 :: RoP W p adO cO :: Jobs jq J2 :: blk b4 24 (prV p adO cO) :: [])) (len3) ?_ ?_
      · exact ⟨0, A, T, J, ks, ⟨rfl, by omega, by omega, Like.refl _, hS⟩, ha.keep [3, 4, 10, 11], hs.sub⟩
      ·
       clear ha hs
       rintro μ a w ⟨i, A2, T2, J2, ks2, ⟨rfl, hi, hi6, hlk, hS2⟩, ha, hs⟩
       refine WS <| WS <| WR ?_
       refine S1 ha ?_; clear ha; (try clear a); intro a ha
       iterate 4 (refine S1 ha ?_; clear ha a; intro a ha)
       refine ha.by (s := 39) (fun hg4 ha => ?_) (fun hg4 ha => ?_)
       ·
        refine S1g (s := 39) ha ?_; clear ha; (try clear a); intro a ha
        refine S1g (s := 39) ha ?_; clear ha a; intro a ha
        refine PT ha ?_; clear ha a; intro a ha
        refine LN <| TN ?_
        refine WI ha (fun hc3 => ?_) (fun hc3 => ?_)
        ·
         obtain ⟨bp, op, rfl, hbp, hrp⟩ := (hvr _ _ hs).resolve_left (by omega)
         obtain ⟨x0, hx0⟩ : ∃ x, vz[i]? = some x := ⟨_, List.getElem?_eq_getElem (by omega)⟩
         have hcx := hrp i _ (by rw [List.getElem?_map, hx0]; rfl)
         obtain ⟨kx, hkx, hke, hkl4, hkh4⟩ := normI 2 (by decide) x0
         obtain ⟨k, wb, hk, hpt⟩ := hlk.at (i := kx) (by omega)
         obtain ⟨bw, ow, rfl, hrw⟩ := hs.slRd adw (by omega)
         refine WK <| TN <| WS <| wp_block <| WS ?_
         replace hcx : w.drew.cell? ⟨bp, op + i, none⟩ = some (.int .i64 x0) := hcx
         refine DW (m := 14) (fun w' => Rd w' xb 0 (shopC sq tq jq (some ⟨bw, ow, none⟩) ks.length cw 1) ∧ w'.cell? ⟨bp, op + i, none⟩ = some (.int .i64 x0) ∧ Rd w' bw ow (ptrs ks)) [7, 8, 9, 10] [0, 1, 2, 4, 5, 6, 3, 7, 8, 9, 10, 11, 12, 13] Ty.mixed (pk_then (pk_blk (pk_then (pk_then (pk_blk (pk_then pk_body)))))) (fun hpk => ?_)
         replace hs := hs.drew
         generalize w.drew = w at hs hpk hcx ⊢
         have hC : Rd w xb 0 (shopC sq tq jq (some ⟨bw, ow, none⟩) ks.length cw 1) ∧ w.cell? ⟨bp, op + i, none⟩ = some (.int .i64 x0) ∧ Rd w bw ow (ptrs ks) := ⟨hs.rdAll, hcx, hs.slRdAt bw ow (by omega)⟩
         refine DP hpk ha rfl ?_; clear ha; (try clear a); intro a ha
         iterate 4 (refine DP hpk ha rfl ?_; clear ha a; intro a ha)
         refine DQ hpk ha rfl rfl (fun w => ex_indexAddr ha Tryz.underlying49 Ty.t3 (by omega)) ?_; clear ha a; intro a ha
         rw [Nat.mul_one] at ha
         refine DL hpk ha rfl (fun w hc => hc.1 3 _ rfl) hC ?_; clear ha a; intro a ha
         refine D1 rfl (st_set ha rfl (ex_load1 ha Tryz.underlying3 rfl (hC.2.1)) rfl ?_); clear ha a; intro a ha
         refine ⟨fun _ => hC, ?_⟩
         refine D1 rfl (st_set ha rfl (ex_rem ha (by decide)) rfl ?_); clear ha a; intro a ha
         refine ⟨fun _ => hC, ?_⟩
         refine D1 rfl (st_set ha rfl (ex_addI ha (by omega) (by omega)) rfl ?_); clear ha a; intro a ha
         refine ⟨fun _ => hC, ?_⟩
         refine D1 rfl (st_set ha rfl (ex_rem ha (by decide)) rfl ?_); clear ha a; intro a ha
         refine ⟨fun _ => hC, ?_⟩
         rw [hke] at ha
         refine DQ hpk ha rfl rfl (fun w => ex_indexAddr ha Tryz.underlying35 Ty.t31 (by omega)) ?_; clear ha a; intro a ha
         rw [Nat.mul_one] at ha
         refine D1 rfl (st_set ha rfl (ex_load1 ha Tryz.underlying31 rfl (hC.2.2 kx _ hpt)) rfl ?_); clear ha a; intro a ha
         refine ⟨fun h => absurd h (by decide), ?_⟩
         refine D1 rfl (st_call ha rfl Ty.c12 rfl (sure_step (L := blk xb 38 (shopC sq tq jq (some ⟨bw, ow, none⟩) ks.length cw 1) :: Sl 31 1 (some ⟨bw, ow, none⟩) ks.length cw (ptrs ks) :: blk b4 24 (prV p adO cO) :: []) (hs.sub (M := All (ownK p adO cO tq jq sq) ks2 :: Tree tq sq T2 :: Store sq r A2 :: Jobs jq J2 :: RoP W p adO cO :: blk xb 38 (shopC sq tq jq (some ⟨bw, ow, none⟩) ks.length cw 1) :: Sl 31 1 (some ⟨bw, ow, none⟩) ks.length cw (ptrs ks) :: blk b4 24 (prV p adO cO) :: [])) hk hS2 hpr hz1 (by omega)) ?_); clear ha hs
         rintro e w ⟨z1, A4, T4, J4, k4, rfl, ⟨hbit, hS4, hl4⟩, hs⟩
         refine ⟨_, rfl, ?_⟩
         intro a ha
         refine ⟨fun h => absurd h (by decide), ?_⟩
         refine DD <| TN <| WS <| WR ?_
         refine S1 ha ?_; clear ha a; intro a ha
         refine SK (st_set ha rfl (ex_loadN ha Tryz.underlying24 rfl Ty.t24 (hs.rdAll)) rfl ?_); clear ha a; intro a ha
         refine SK (st_call ha rfl Ty.c14 rfl (right_any (ks0 := ks) (L := Jobs jq J4 :: blk b4 24 (prV p adO cO) :: []) (hs.sub (M := blk xb 38 (shopC sq tq jq (some ⟨bw, ow, none⟩) ks.length cw 1) :: Sl 31 1 (some ⟨bw, ow, none⟩) ks.length cw (ptrs ks) :: All (ownK p adO cO tq jq sq) (ks2.set kx (k4, wb)) :: Tree tq sq T4 :: Store sq r A4 :: RoP W p adO cO :: Jobs jq J4 :: blk b4 24 (prV p adO cO) :: [])) (hlk.set hk) hS4 hpr hz1 (by omega)) ?_); clear ha hs
         rintro e w ⟨rfl, hs⟩
         refine ⟨_, rfl, ?_⟩
         intro a ha
         refine S1 ha ?_; clear ha a; intro a ha
         refine LN <| TN <| WFa ha <| WK <| BN <| TN <| WR ?_
         refine S1 ha ?_; clear ha a; intro a ha
         refine SK (st_set ha rfl (ex_addI ha (by omega) (by omega)) rfl ?_); clear ha a; intro a ha
         refine S1d ha ?_; clear ha a; intro a ha
         refine LN <| TN ?_
         exact ⟨len3 - (i + 1), by omega, i + 1, A4, T4, J4, ks2.set kx (k4, wb), ⟨rfl, by omega, by omega, hlk.set hk, hS4⟩, ha.keep [3, 4, 10, 11], hs.sub⟩
        ·
         refine wp_exit <| TE <| TE <| blk_e <| TN ?_
         exact ⟨A2, T2, J2, ks2, ⟨hlk, hS2.later hi6⟩, ha.keep [10], hs.sub⟩
       ·
        refine SO (s := 39) ha ?_; clear ha; (try clear a); intro a ha
        refine SO (s := 39) ha ?_; clear ha a; intro a ha
        refine PF ha ?_; clear ha a; intro a ha
        refine LN <| TN <| WFa ha <| wp_exit <| TE <| TE <| blk_e <| TN ?_
        exact ⟨A2, T2, J2, ks2, ⟨hlk, hS2.later hi6⟩, ha.keep [10], hs.sub⟩
     ·
      clear ha; (try clear hs)
      intro a w hcut
      obtain ⟨A2, T2, J2, ks2, ⟨hlk, hS2⟩, ha, hs⟩ := hcut
      refine WS <| WS <| WR ?_
      refine S1 ha ?_; clear ha; (try clear a); intro a ha
      refine LN <| TN <| wp_block ?_
      refine wp_loop_ghost (fun μ a w => ∃ (m : Nat) (A3 : Sn) (ks3 : List Kx), (μ = 2 - m ∧ m ≤ 2 ∧ Like ks3 ks ∧ Sure p t room 80 A3 T2 J2 (ks3.map (·.1)) ∧ ∀ j k, j < m → (ks3.map (·.1))[j]? = some k → k.busy = false) ∧ Fr a 105 [(10, .pointer (some ⟨xb, 0, none⟩)), (12, .int .i64 m)] ∧ St W w (blk xb 38 (shopC sq tq jq adw ks.length cw 1) :: Sl 31 1 adw ks.length cw (ptrs ks) :: All (ownK p adO cO tq jq sq) ks3 :: Store sq r A3 :: Tree tq sq T2 :: RoP W p adO cO :: Jobs jq J2 :: [])) (2) ?_ ?_
      · exact ⟨0, A2, ks2, ⟨rfl, by omega, hlk, hS2, fun j k h => by omega⟩, ha.keep [10, 12], hs.sub⟩
      ·
       clear ha hs
       rintro μ a w ⟨m, A3, ks3, ⟨rfl, hm, hlk3, hS3, hid⟩, ha, hs⟩
       refine WS <| WS <| WR ?_
       refine S1 ha ?_; clear ha; (try clear a); intro a ha
       refine S1 ha ?_; clear ha a; intro a ha
       refine LN <| TN ?_
       refine WI ha (fun hc5 => ?_) (fun hc5 => ?_)
       ·
        obtain ⟨k, wb, hk, hpt⟩ := hlk3.at (i := m) (by omega)
        obtain ⟨bw, ow, rfl, hrw⟩ := hs.slRd adw (by omega)
        have hcw := hrw m _ hpt
        refine WK <| TN <| WS <| wp_block <| WR ?_
        refine S1 ha ?_; clear ha; (try clear a); intro a ha
        iterate 2 (refine S1 ha ?_; clear ha a; intro a ha)
        refine SL ha (hs.rd1 rfl) ?_; clear ha a; intro a ha
        refine S1 ha ?_; clear ha a; intro a ha
        refine SK (st_set ha rfl (ex_indexAddr ha Tryz.underlying35 Ty.t31 (by omega)) rfl ?_); clear ha a; intro a ha
        rw [Nat.mul_one] at ha
        refine SL ha (hcw) ?_; clear ha a; intro a ha
        refine SK (st_call ha rfl Ty.c18 rfl (sure_rest (L := blk xb 38 (shopC sq tq jq (some ⟨bw, ow, none⟩) ks.length cw 1) :: Sl 31 1 (some ⟨bw, ow, none⟩) ks.length cw (ptrs ks) :: Tree tq sq T2 :: RoP W p adO cO :: Jobs jq J2 :: []) (hs.sub (M := All (ownK p adO cO tq jq sq) ks3 :: Store sq r A3 :: blk xb 38 (shopC sq tq jq (some ⟨bw, ow, none⟩) ks.length cw 1) :: Sl 31 1 (some ⟨bw, ow, none⟩) ks.length cw (ptrs ks) :: Tree tq sq T2 :: RoP W p adO cO :: Jobs jq J2 :: [])) hk hS3) ?_); clear ha hs
        rintro e w ⟨A4, k4, rfl, ⟨hkb, hS4⟩, hs⟩
        refine ⟨_, rfl, ?_⟩
        intro a ha
        refine LN <| BN <| TN <| WR ?_
        refine S1 ha ?_; clear ha a; intro a ha
        refine SK (st_set ha rfl (ex_addI ha (by omega) (by omega)) rfl ?_); clear ha a; intro a ha
        refine S1d ha ?_; clear ha a; intro a ha
        refine LN <| TN ?_
        exact ⟨2 - (m + 1), by omega, m + 1, A4, ks3.set m (k4, wb), ⟨rfl, by omega, hlk3.set hk, hS4, idle_next hid hk hkb⟩, ha.keep [10, 12], hs.sub⟩
       ·
        refine wp_exit <| TE <| TE <| blk_e <| TN <| WS ?_
        obtain rfl : m = 2 := by omega
        have hidl := idle_all hid (by rw [List.length_map, hlk3.1]; omega)
        have hep := hS3.ep
        have hA3 := (Store.facts (hs.store sq)).1
        have hcut := hS3.cut hA3 (fun _ => true)
        rw [show T2.l.filter (fun _ => true) = T2.l from List.filter_eq_self.2 (fun _ _ => rfl)] at hcut
        refine WR ?_
        refine S1 ha ?_; clear ha; (try clear a); intro a ha
        iterate 2 (refine S1 ha ?_; clear ha a; intro a ha)
        refine SL ha (hs.rd1 rfl) ?_; clear ha a; intro a ha
        refine SK (st_call ha rfl Ty.c20 rfl (tree_clear ((hs.store sq).tree tq) (by omega)) ?_); clear ha hs
        rintro e w ⟨rfl, hs⟩
        refine ⟨_, rfl, ?_⟩
        intro a ha
        refine LN <| TN <| WS ?_
        have hnone := hcut.none (Store.facts (hs.store sq)).1 (by simp [Tr.cut]) hidl
        refine DW (m := 9) (fun w' => Rd w' xb 0 (shopC sq tq jq adw ks.length cw 1)) [7] [0, 1, 2, 4, 5, 6, 3, 7, 8] Ty.mixed (pk_then pk_body) (fun hpk => ?_)
        replace hs := hs.drew
        generalize w.drew = w at hs hpk ⊢
        have hC : Rd w xb 0 (shopC sq tq jq adw ks.length cw 1) := hs.rdAll
        iterate 6 (refine DP hpk ha rfl ?_; clear ha a; intro a ha)
        refine DL hpk ha rfl (fun w hc => hc 0 _ rfl) hC ?_; clear ha a; intro a ha
        refine D1 rfl (st_set ha rfl (ex_load1 ha Tryz.underlying36 rfl (hC 4 _ rfl)) rfl ?_); clear ha a; intro a ha
        refine ⟨fun _ => hC, ?_⟩
        refine D1 rfl (st_call ha rfl Ty.c21 rfl (snap_dropId (id := 1) (hs.store sq)) ?_); clear ha hs
        rintro e w ⟨v, rfl, hs⟩
        refine ⟨_, rfl, ?_⟩
        intro a ha
        refine ⟨fun h => absurd h (by decide), ?_⟩
        refine DD <| TN <| WS ?_
        obtain ⟨px, hp1, hp2, hp3, hp4⟩ := hnone
        have hu := Store.used (hs.store sq)
        rw [hp4] at hu
        refine WR ?_
        iterate 3 (refine S1 ha ?_; clear ha a; intro a ha)
        refine SL ha (hs.rd1 rfl) ?_; clear ha a; intro a ha
        refine SK (st_call ha rfl Ty.c22 rfl (snap_live (hs.store sq)) ?_); clear ha hs
        rintro e w ⟨adv, cv, rfl, hs⟩
        refine ⟨_, rfl, ?_⟩
        intro a ha
        rw [hp4] at ha
        iterate 2 (refine S1 ha ?_; clear ha a; intro a ha)
        rw [decide_eq_true (by rfl)] at ha
        refine S1 ha ?_; clear ha a; intro a ha
        iterate 3 (refine S1g (s := 96) ha ?_; clear ha a; intro a ha)
        refine SLg (s := 96) ha (hs.rd1 rfl) ?_; clear ha a; intro a ha
        refine SK (st_call ha (wgT ha rfl (s := 96)) Ty.c23 rfl (snap_room (hs.store sq)) ?_); clear ha hs
        rintro e w ⟨rfl, hs⟩
        refine ⟨_, rfl, ?_⟩
        intro a ha
        refine SK (st_call ha (wgT ha rfl (s := 96)) Ty.c24 rfl (snap_used (hs.store sq)) ?_); clear ha hs
        rintro e w ⟨rfl, hs⟩
        refine ⟨_, rfl, ?_⟩
        intro a ha
        rw [hu] at ha
        refine S1g (s := 96) ha ?_; clear ha a; intro a ha
        rw [decide_eq_true (by rfl)] at ha
        refine PT ha ?_; clear ha a; intro a ha
        refine S1 ha ?_; clear ha a; intro a ha
        refine LN <| TN <| wp_ret ?_
        refine ret1 ha rfl ?_
        exact ⟨rfl, hs.below⟩
end Go.Proofs.YtneafbkhaooelaaGreat

