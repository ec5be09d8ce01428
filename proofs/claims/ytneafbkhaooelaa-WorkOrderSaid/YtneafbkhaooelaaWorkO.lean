/- WorkOrder. -/
import Derived.Test.YtneafbkhaooelaaWorkG
namespace Go.Proofs.Ytneafbkhaooelaa
open Go.RowKit
set_option linter.unusedVariables false
set_option linter.unusedSimpArgs false
set_option maxRecDepth 10000
set_option synthInstance.maxSize 4000
set_option synthInstance.maxHeartbeats 400000

theorem workOrder_walk (pr : Pr) (adO : Option Addr) (cO : Nat) (a1 : Option Addr) (len1 cap1 : Nat) (a2 : Option Addr) (len2 cap2 : Nat) (z2 : List Int) (W : World) (w0 : ArgProg W pr adO cO) (w1 : len1 ≤ 9223372036854775807 ∧ ∃ ys : List BBBx, ys.length = len1 ∧ ArgBBB W a1 ys)
    (w2 : ArgInts .i64 W a2 len2 cap2 z2) :
    Calls Try.prog 4 #[.agg (prV pr adO cO).toArray, .slice a1 len1 cap1, .slice a2 len2 cap2] W fun e w' => e = .returned (.bool true) ∧ Below W.heap.size W w' := by
  have hs := St.start W
  obtain ⟨hl1, ys, rfl, hy⟩ := w1
  obtain ⟨vz, hvl, hvw, hvr⟩ := w2.vals
  have hl2 := w2.len_le.2
  obtain ⟨hz1, hz2⟩ := cutP_ok pr
  refine calls_enter Try.func4 rfl Try.ntmps4 (Nat.le_of_ble_eq_true rfl) ?_
  intro a ha
  replace ha : Fr a 171 [(0, _), (1, _), (2, _)] := ha
  refine WS <| WR ?_
  refine SK (st_box ha rfl hs rfl ?_); clear ha hs a; (try clear w); intro b3 a w ha hs ho
  clear ho
  change St W w (blk b3 26 (prV pr adO cO) :: _) at hs
  refine S1 ha ?_; clear ha a; intro a ha
  refine LN <| TN <| WS <| WR ?_
  refine SK (st_call ha rfl Ty.c5 rfl (begun25 hs) ?_); clear ha hs
  rintro e w ⟨rfl, hs⟩
  refine ⟨_, rfl, ?_⟩
  intro a ha
  refine S1 ha ?_; clear ha a; intro a ha
  refine LN <| TN <| WS <| WS <| WR ?_
  iterate 2 (refine S1 ha ?_; clear ha a; intro a ha)
  refine LN <| TN <| WFa ha <| WK <| TN <| WS <| WR ?_
  refine SK (st_set ha rfl (ex_loadN ha Try.underlying26 rfl Ty.t26 (hs.rdAll)) rfl ?_); clear ha a; intro a ha
  refine SK (st_call ha rfl Ty.c9 rfl (cut5_spec (K := 30) (w0.ro hs)) ?_); clear ha hs
  rintro e w ⟨rfl, hs⟩
  refine ⟨_, rfl, ?_⟩
  intro a ha
  refine SK (st_storeAll ha rfl hs Ty.t26 (prV_one _ _ _) (by rfl) ?_); clear ha hs a; (try clear w); intro a w ha hs
  refine LN <| TN <| WS <| WS ?_
  generalize cutP 30 pr = p at hs ha hz1 hz2
  refine WR ?_
  refine SK (st_set ha rfl (ex_loadN ha Try.underlying26 rfl Ty.t26 (hs.rdAll)) rfl ?_); clear ha a; intro a ha
  refine SK (st_call ha rfl Ty.c10 rfl (refFault_spec (hs.pick (RoP W p adO cO)) hz1 hz2) ?_); clear ha hs
  rintro e w ⟨rf, rfl, hrf, hs⟩
  refine ⟨_, rfl, ?_⟩
  intro a ha
  refine S1 ha ?_; clear ha a; intro a ha
  refine LN <| TN ?_
  refine WI ha (fun hc1 => ?_) (fun hc1 => ?_)
  ·
   refine WS <| WR ?_
   refine S1d ha ?_; clear ha; (try clear a); intro a ha
   refine LN <| TN <| wp_ret <| TR ?_
   refine ret1 ha rfl ?_
   exact ⟨rfl, hs.below⟩
  ·
   refine WK <| TN <| WS ?_
   have hpr := hrf.1 hc1
   refine DW (m := 8) (fun w' => Rd w' b3 0 (prV p adO cO)) [2, 3] [1, 4, 0, 3, 2, 5, 6, 7] Ty.mixed (pk_then pk_body) (fun hpk => ?_)
   replace hs := hs.drew
   generalize w.drew = w at hs hpk ⊢
   have hC : Rd w b3 0 (prV p adO cO) := hs.rdAll
   refine DP hpk ha rfl ?_; clear ha; (try clear a); intro a ha
   refine DP hpk ha rfl ?_; clear ha a; intro a ha
   refine DH hpk ha rfl rfl (fun w hc => ex_loadN ha Try.underlying26 rfl Ty.t26 (hc)) hC ?_; clear ha a; intro a ha
   refine DH hpk ha rfl rfl (fun w hc => ex_loadN ha Try.underlying26 rfl Ty.t26 (hc)) hC ?_; clear ha a; intro a ha
   refine D1 rfl (st_call ha rfl Ty.c11 rfl (made_spec (p := p) (room := 30) (nw := 3) (ys := ys) (hs.pick (RoP W p adO cO)) (fun w' h => hy.rd h) (by decide) (by decide) hl1) ?_); clear ha hs
   rintro e w ⟨xa, sa, ra, ta, ja, awa, cwa, ksa, A, T, J, t, rfl, ⟨hkla, hap, hfra⟩, hs⟩
   refine ⟨_, rfl, ?_⟩
   intro a ha
   replace hC : (fun w' => Rd w' b3 0 (prV p adO cO)) w := hs.rdAll
   refine ⟨fun _ => hC, ?_⟩
   refine D1 rfl (st_call ha rfl Ty.c11 rfl (made_spec (p := p) (room := 30) (nw := 1) (ys := ys) (hs.pick (RoP W p adO cO)) (fun w' h => hy.rd h) (by decide) (by decide) hl1) ?_); clear ha hs
   rintro e w ⟨xb, sb, rb, tb, jb, awb, cwb, ksb, A1, T1, J1, t1, rfl, ⟨hklb, hap1, hfrb⟩, hs⟩
   refine ⟨_, rfl, ?_⟩
   intro a ha
   refine ⟨fun h => absurd h (by decide), ?_⟩
   iterate 2 (refine DP hpk ha rfl ?_; clear ha a; intro a ha)
   refine DD ?_
   obtain ⟨N, hN, hfm⟩ := hfra.firm (by omega)
   obtain ⟨N1, hN1, hfm1⟩ := hfrb.firm (by omega)
   clear hfra hfrb
   refine TN <| WS <| WS <| WR ?_
   iterate 3 (refine S1 ha ?_; clear ha a; intro a ha)
   iterate 2 (refine S1g (s := 36) ha ?_; clear ha a; intro a ha)
   refine PF ha ?_; clear ha a; intro a ha
   refine LN <| TN <| WFa ha <| WK <| TN ?_
   refine wp_seq_cut (M := fun a w => ∃ (A2 : Sn) (T2 : Tr) (J2 : Js) (ks2 : List Kx) (N2 c2 : Nat), (c2 ≤ 60 ∧ N2 ≤ 90 ∧ Like ks2 ksa ∧ Firm p t 30 c2 N2 (((prs ys).take (min ys.length 6)).foldl addB []) A2 T2 J2 (ks2.map (·.1))) ∧ Fr a 171 [(8, .pointer (some ⟨xa, 0, none⟩)), (9, .pointer (some ⟨xb, 0, none⟩))] ∧ St W w (blk xa 39 (shopC sa ta ja awa ksa.length cwa 1) :: Sl 22 1 awa ksa.length cwa (ptrs ksa) :: All (ownK p adO cO ta ja sa) ks2 :: Tree ta sa T2 :: Store sa ra A2 :: Jobs ja J2 :: blk xb 39 (shopC sb tb jb awb ksb.length cwb 1) :: Sl 22 1 awb ksb.length cwb (ptrs ksb) :: All (ownK p adO cO tb jb sb) ksb :: Tree tb sb T1 :: Store sb rb A1 :: Jobs jb J1 :: RoP W p adO cO :: [])) ?_ ?_
   ·
    refine WS <| WR ?_
    refine S1 ha ?_; clear ha; (try clear a); intro a ha
    refine LN <| TN <| wp_block ?_
    refine wp_loop_ghost (fun μ a w => ∃ (i : Nat) (A2 : Sn) (T2 : Tr) (J2 : Js) (ks2 : List Kx) (N2 : Nat), (μ = len2 - i ∧ i ≤ len2 ∧ i ≤ 60 ∧ N2 ≤ 90 ∧ Like ks2 ksa ∧ Firm p t 30 i N2 (((prs ys).take (min ys.length 6)).foldl addB []) A2 T2 J2 (ks2.map (·.1))) ∧ Fr a 171 [(2, .slice a2 len2 cap2), (8, .pointer (some ⟨xa, 0, none⟩)), (9, .pointer (some ⟨xb, 0, none⟩)), (10, .int .i64 i)] ∧ St W w (blk xa 39 (shopC sa ta ja awa ksa.length cwa 1) :: Sl 22 1 awa ksa.length cwa (ptrs ksa) :: All (ownK p adO cO ta ja sa) ks2 :: Tree ta sa T2 :: Store sa ra A2 :: Jobs ja J2 :: blk xb 39 (shopC sb tb jb awb ksb.length cwb 1) :: Sl 22 1 awb ksb.length cwb (ptrs ksb) :: All (ownK p adO cO tb jb sb) ksb :: Tree tb sb T1 :: Store sb rb A1 :: Jobs jb J1 :: RoP W p adO cO :: [])) (len2) ?_ ?_
    · exact ⟨0, A, T, J, ksa, N, ⟨rfl, by omega, by omega, hN, Like.refl _, hfm⟩, ha.keep [2, 8, 9, 10], hs.sub⟩
    ·
     clear ha hs
     rintro μ a w ⟨i, A2, T2, J2, ks2, N2, ⟨rfl, hi, hi6, hN2, hlk, hfm2⟩, ha, hs⟩
     refine WS <| WS <| WR ?_
     refine S1 ha ?_; clear ha; (try clear a); intro a ha
     iterate 4 (refine S1 ha ?_; clear ha a; intro a ha)
     refine ha.by (s := 44) (fun hg4 ha => ?_) (fun hg4 ha => ?_)
     ·
      refine S1g (s := 44) ha ?_; clear ha; (try clear a); intro a ha
      refine S1g (s := 44) ha ?_; clear ha a; intro a ha
      refine PT ha ?_; clear ha a; intro a ha
      refine LN <| TN ?_
      refine WI ha (fun hc3 => ?_) (fun hc3 => ?_)
      ·
       obtain ⟨bp, op, rfl, hbp, hrp⟩ := (hvr _ _ hs).resolve_left (by omega)
       obtain ⟨x0, hx0⟩ : ∃ x, vz[i]? = some x := ⟨_, List.getElem?_eq_getElem (by omega)⟩
       have hcx := hrp i _ (by rw [List.getElem?_map, hx0]; rfl)
       obtain ⟨kx, hkx, hke, hkl4, hkh4⟩ := normI 3 (by decide) x0
       obtain ⟨k, wb, hk, hpt⟩ := hlk.at (i := kx) (by omega)
       obtain ⟨ba, oa, rfl, hrw⟩ := hs.slRd awa (by omega)
       refine WK <| TN <| WS <| wp_block ?_
       replace hcx : w.drew.cell? ⟨bp, op + i, none⟩ = some (.int .i64 x0) := hcx
       refine DW (m := 14) (fun w' => Rd w' xa 0 (shopC sa ta ja (some ⟨ba, oa, none⟩) ksa.length cwa 1) ∧ w'.cell? ⟨bp, op + i, none⟩ = some (.int .i64 x0) ∧ Rd w' ba oa (ptrs ksa)) [7, 8, 9, 10] [0, 1, 2, 4, 5, 6, 3, 7, 8, 9, 10, 11, 12, 13] Ty.mixed (pk_blk (pk_then (pk_then (pk_blk (pk_then pk_body))))) (fun hpk => ?_)
       replace hs := hs.drew
       generalize w.drew = w at hs hpk hcx ⊢
       have hC : Rd w xa 0 (shopC sa ta ja (some ⟨ba, oa, none⟩) ksa.length cwa 1) ∧ w.cell? ⟨bp, op + i, none⟩ = some (.int .i64 x0) ∧ Rd w ba oa (ptrs ksa) := ⟨hs.rdAll, hcx, hs.slRdAt ba oa (by omega)⟩
       refine DP hpk ha rfl ?_; clear ha; (try clear a); intro a ha
       iterate 4 (refine DP hpk ha rfl ?_; clear ha a; intro a ha)
       refine DQ hpk ha rfl rfl (fun w => ex_indexAddr ha Try.underlying28 Ty.t3 (by omega)) ?_; clear ha a; intro a ha
       rw [Nat.mul_one] at ha
       refine DL hpk ha rfl (fun w hc => hc.1 3 _ rfl) hC ?_; clear ha a; intro a ha
       refine D1 rfl (st_set ha rfl (ex_load1 ha Try.underlying3 rfl (hC.2.1)) rfl ?_); clear ha a; intro a ha
       refine ⟨fun _ => hC, ?_⟩
       refine D1 rfl (st_set ha rfl (ex_rem ha (by decide)) rfl ?_); clear ha a; intro a ha
       refine ⟨fun _ => hC, ?_⟩
       refine D1 rfl (st_set ha rfl (ex_addI ha (by omega) (by omega)) rfl ?_); clear ha a; intro a ha
       refine ⟨fun _ => hC, ?_⟩
       refine D1 rfl (st_set ha rfl (ex_rem ha (by decide)) rfl ?_); clear ha a; intro a ha
       refine ⟨fun _ => hC, ?_⟩
       rw [hke] at ha
       refine DQ hpk ha rfl rfl (fun w => ex_indexAddr ha Try.underlying36 Ty.t22 (by omega)) ?_; clear ha a; intro a ha
       rw [Nat.mul_one] at ha
       refine D1 rfl (st_set ha rfl (ex_load1 ha Try.underlying22 rfl (hC.2.2 kx _ hpt)) rfl ?_); clear ha a; intro a ha
       refine ⟨fun h => absurd h (by decide), ?_⟩
       refine D1 rfl (st_call ha rfl Ty.c6 rfl (firm_step (L := blk xa 39 (shopC sa ta ja (some ⟨ba, oa, none⟩) ksa.length cwa 1) :: Sl 22 1 (some ⟨ba, oa, none⟩) ksa.length cwa (ptrs ksa) :: blk xb 39 (shopC sb tb jb awb ksb.length cwb 1) :: Sl 22 1 awb ksb.length cwb (ptrs ksb) :: All (ownK p adO cO tb jb sb) ksb :: Tree tb sb T1 :: Store sb rb A1 :: Jobs jb J1 :: []) (hs.sub (M := All (ownK p adO cO ta ja sa) ks2 :: Tree ta sa T2 :: Store sa ra A2 :: Jobs ja J2 :: RoP W p adO cO :: blk xa 39 (shopC sa ta ja (some ⟨ba, oa, none⟩) ksa.length cwa 1) :: Sl 22 1 (some ⟨ba, oa, none⟩) ksa.length cwa (ptrs ksa) :: blk xb 39 (shopC sb tb jb awb ksb.length cwb 1) :: Sl 22 1 awb ksb.length cwb (ptrs ksb) :: All (ownK p adO cO tb jb sb) ksb :: Tree tb sb T1 :: Store sb rb A1 :: Jobs jb J1 :: [])) hk hfm2 (by decide) (by rw [hlk.1]; omega) hpr hz1 (by omega)) ?_); clear ha hs
       rintro e w ⟨z1, A4, T4, J4, k4, N4, rfl, ⟨hfm4, hd⟩, hs⟩
       refine ⟨_, rfl, ?_⟩
       intro a ha
       refine ⟨fun h => absurd h (by decide), ?_⟩
       refine DD <| BN <| TN <| WR ?_
       refine S1 ha ?_; clear ha a; intro a ha
       refine SK (st_set ha rfl (ex_addI ha (by omega) (by omega)) rfl ?_); clear ha a; intro a ha
       refine S1d ha ?_; clear ha a; intro a ha
       refine LN <| TN ?_
       exact ⟨len2 - (i + 1), by omega, i + 1, A4, T4, J4, ks2.set kx (k4, wb), N4, ⟨rfl, by omega, by omega, by omega, hlk.set hk, hfm4⟩, ha.keep [2, 8, 9, 10], hs.sub⟩
      ·
       refine wp_exit <| TE <| TE <| blk_e <| TN ?_
       exact ⟨A2, T2, J2, ks2, N2, i, ⟨hi6, hN2, hlk, hfm2⟩, ha.keep [8, 9], hs.sub⟩
     ·
      refine SO (s := 44) ha ?_; clear ha; (try clear a); intro a ha
      refine SO (s := 44) ha ?_; clear ha a; intro a ha
      refine PF ha ?_; clear ha a; intro a ha
      refine LN <| TN <| WFa ha <| wp_exit <| TE <| TE <| blk_e <| TN ?_
      exact ⟨A2, T2, J2, ks2, N2, i, ⟨hi6, hN2, hlk, hfm2⟩, ha.keep [8, 9], hs.sub⟩
   ·
    clear ha; (try clear hs)
    intro a w hcut
    obtain ⟨A2, T2, J2, ks2, N2, c2, ⟨hc2x, hN2, hlk, hfm2⟩, ha, hs⟩ := hcut
    refine WS <| WS <| WR ?_
    refine S1 ha ?_; clear ha; (try clear a); intro a ha
    refine LN <| TN <| wp_block ?_
    refine wp_loop_ghost (fun μ a w => ∃ (i : Nat) (A5 : Sn) (T5 : Tr) (J5 : Js) (ks5 : List Kx) (N5 c5 : Nat) (A3 : Sn) (T3 : Tr) (J3 : Js) (ks3 : List Kx) (N3 c3 : Nat), (μ = 200 - i ∧ i ≤ 200 ∧ (c5 ≤ 60 + 3 * i ∧ (N5 = 0 ∨ N5 + i ≤ 90) ∧ Like ks5 ksa ∧ Firm p t 30 c5 N5 (((prs ys).take (min ys.length 6)).foldl addB []) A5 T5 J5 (ks5.map (·.1))) ∧ (c3 ≤ i ∧ (N3 = 0 ∨ N3 + i ≤ 90) ∧ Like ks3 ksb ∧ Firm p t1 30 c3 N3 (((prs ys).take (min ys.length 6)).foldl addB []) A3 T3 J3 (ks3.map (·.1)))) ∧ Fr a 171 [(8, .pointer (some ⟨xa, 0, none⟩)), (9, .pointer (some ⟨xb, 0, none⟩)), (11, .int .i64 i)] ∧ St W w (blk xa 39 (shopC sa ta ja awa ksa.length cwa 1) :: Sl 22 1 awa ksa.length cwa (ptrs ksa) :: All (ownK p adO cO ta ja sa) ks5 :: Tree ta sa T5 :: Store sa ra A5 :: Jobs ja J5 :: blk xb 39 (shopC sb tb jb awb ksb.length cwb 1) :: Sl 22 1 awb ksb.length cwb (ptrs ksb) :: All (ownK p adO cO tb jb sb) ks3 :: Tree tb sb T3 :: Store sb rb A3 :: Jobs jb J3 :: RoP W p adO cO :: [])) (200) ?_ ?_
    · exact ⟨0, A2, T2, J2, ks2, N2, c2, A1, T1, J1, ksb, N1, 0, ⟨rfl, by omega, ⟨by omega, .inr hN2, hlk, hfm2⟩, ⟨by omega, .inr hN1, Like.refl _, hfm1⟩⟩, ha.keep [8, 9, 11], hs.sub⟩
    ·
     clear ha hs
     rintro μ a w ⟨i, A5, T5, J5, ks5, N5, c5, A3, T3, J3, ks3, N3, c3, ⟨rfl, hi, ⟨hc5x, hN5, hlk5, hfm5⟩, ⟨hc3x, hN3, hlk3, hfm3⟩⟩, ha, hs⟩
     refine WS <| WS <| WR ?_
     refine S1 ha ?_; clear ha; (try clear a); intro a ha
     refine S1 ha ?_; clear ha a; intro a ha
     refine LN <| TN ?_
     refine WI ha (fun hc4 => ?_) (fun hc4 => ?_)
     ·
      refine WK <| TN <| WS <| wp_block <| WS <| WS <| WR ?_
      refine S1 ha ?_; clear ha; (try clear a); intro a ha
      refine LN <| TN <| wp_block ?_
      refine wp_loop_ghost (fun μ a w => ∃ (m : Nat) (A6 : Sn) (T6 : Tr) (J6 : Js) (ks6 : List Kx) (z : Bool) (N6 c6 : Nat), (μ = 3 - m ∧ m ≤ 3 ∧ c6 = c5 + m ∧ Like ks6 ksa ∧ Firm p t 30 c6 N6 (((prs ys).take (min ys.length 6)).foldl addB []) A6 T6 J6 (ks6.map (·.1)) ∧ Rnd z N5 N6 m J6 (ks6.map (·.1))) ∧ Fr a 171 [(8, .pointer (some ⟨xa, 0, none⟩)), (9, .pointer (some ⟨xb, 0, none⟩)), (11, .int .i64 i), (12, .int .i64 m)] ∧ St W w (blk xa 39 (shopC sa ta ja awa ksa.length cwa 1) :: Sl 22 1 awa ksa.length cwa (ptrs ksa) :: All (ownK p adO cO ta ja sa) ks6 :: Tree ta sa T6 :: Store sa ra A6 :: Jobs ja J6 :: blk xb 39 (shopC sb tb jb awb ksb.length cwb 1) :: Sl 22 1 awb ksb.length cwb (ptrs ksb) :: All (ownK p adO cO tb jb sb) ks3 :: Tree tb sb T3 :: Store sb rb A3 :: Jobs jb J3 :: RoP W p adO cO :: [])) (3) ?_ ?_
      · exact ⟨0, A5, T5, J5, ks5, false, N5, c5, ⟨rfl, by omega, by omega, hlk5, hfm5, Rnd.begin⟩, ha.keep [8, 9, 11, 12], hs.sub⟩
      ·
       clear ha hs
       rintro μ a w ⟨m, A6, T6, J6, ks6, z, N6, c6, ⟨rfl, hm, hc6x, hlk6, hfm6, hrd⟩, ha, hs⟩
       refine WS <| WS <| WR ?_
       refine S1 ha ?_; clear ha; (try clear a); intro a ha
       refine S1 ha ?_; clear ha a; intro a ha
       refine LN <| TN ?_
       refine WI ha (fun hc5 => ?_) (fun hc5 => ?_)
       ·
        obtain ⟨k, wb, hk, hpt⟩ := hlk6.at (i := m) (by omega)
        obtain ⟨ba, oa, rfl, hrw⟩ := hs.slRd awa (by omega)
        have hcw := hrw m _ hpt
        refine WK <| TN <| WS <| wp_block <| WR ?_
        refine S1 ha ?_; clear ha; (try clear a); intro a ha
        iterate 2 (refine S1 ha ?_; clear ha a; intro a ha)
        refine SL ha (hs.rd1 rfl) ?_; clear ha a; intro a ha
        refine S1 ha ?_; clear ha a; intro a ha
        refine SK (st_set ha rfl (ex_indexAddr ha Try.underlying36 Ty.t22 (by omega)) rfl ?_); clear ha a; intro a ha
        rw [Nat.mul_one] at ha
        refine SL ha (hcw) ?_; clear ha a; intro a ha
        refine SK (st_call ha rfl Ty.c6 rfl (firm_step (L := blk xa 39 (shopC sa ta ja (some ⟨ba, oa, none⟩) ksa.length cwa 1) :: Sl 22 1 (some ⟨ba, oa, none⟩) ksa.length cwa (ptrs ksa) :: blk xb 39 (shopC sb tb jb awb ksb.length cwb 1) :: Sl 22 1 awb ksb.length cwb (ptrs ksb) :: All (ownK p adO cO tb jb sb) ks3 :: Tree tb sb T3 :: Store sb rb A3 :: Jobs jb J3 :: []) (hs.sub (M := All (ownK p adO cO ta ja sa) ks6 :: Tree ta sa T6 :: Store sa ra A6 :: Jobs ja J6 :: RoP W p adO cO :: blk xa 39 (shopC sa ta ja (some ⟨ba, oa, none⟩) ksa.length cwa 1) :: Sl 22 1 (some ⟨ba, oa, none⟩) ksa.length cwa (ptrs ksa) :: blk xb 39 (shopC sb tb jb awb ksb.length cwb 1) :: Sl 22 1 awb ksb.length cwb (ptrs ksb) :: All (ownK p adO cO tb jb sb) ks3 :: Tree tb sb T3 :: Store sb rb A3 :: Jobs jb J3 :: [])) hk hfm6 (by decide) (by rw [hlk6.1]; omega) hpr hz1 (by omega)) ?_); clear ha hs
        rintro e w ⟨z1, A4, T4, J4, k4, N4, rfl, ⟨hfm4, hd⟩, hs⟩
        refine ⟨_, rfl, ?_⟩
        intro a ha
        refine LN <| BN <| TN <| WR ?_
        refine S1 ha ?_; clear ha a; intro a ha
        refine SK (st_set ha rfl (ex_addI ha (by omega) (by omega)) rfl ?_); clear ha a; intro a ha
        refine S1d ha ?_; clear ha a; intro a ha
        refine LN <| TN ?_
        exact ⟨3 - (m + 1), by omega, m + 1, A4, T4, J4, ks6.set m (k4, wb), z1 || z, N4, c6 + 1, ⟨rfl, by omega, by omega, hlk6.set hk, hfm4, hrd.next hk hd⟩, ha.keep [8, 9, 11, 12], hs.sub⟩
       ·
        refine wp_exit <| TE <| TE <| blk_e <| TN ?_
        obtain rfl : m = 3 := by omega
        have hov := hrd.over (by decide) (by rw [List.length_map, hlk6.1]; exact hkla) hfm6 (Tree.wt (hs.tree ta))
        obtain ⟨k, wb, hk, hpt⟩ := hlk3.at (i := 0) (by omega)
        obtain ⟨bb, ob, rfl, hrw⟩ := hs.slRd awb (by omega)
        have hcw := hrw 0 _ hpt
        refine WR ?_
        refine S1 ha ?_; clear ha; (try clear a); intro a ha
        iterate 2 (refine S1 ha ?_; clear ha a; intro a ha)
        refine SL ha (hs.rd1 rfl) ?_; clear ha a; intro a ha
        refine SK (st_set ha rfl (ex_indexAddr ha Try.underlying36 Ty.t22 (by omega)) rfl ?_); clear ha a; intro a ha
        rw [Nat.zero_mul] at ha
        refine SL ha (hcw) ?_; clear ha a; intro a ha
        refine SK (st_call ha rfl Ty.c6 rfl (firm_step (L := blk xa 39 (shopC sa ta ja awa ksa.length cwa 1) :: Sl 22 1 awa ksa.length cwa (ptrs ksa) :: blk xb 39 (shopC sb tb jb (some ⟨bb, ob, none⟩) ksb.length cwb 1) :: Sl 22 1 (some ⟨bb, ob, none⟩) ksb.length cwb (ptrs ksb) :: All (ownK p adO cO ta ja sa) ks6 :: Tree ta sa T6 :: Store sa ra A6 :: Jobs ja J6 :: []) (hs.sub (M := All (ownK p adO cO tb jb sb) ks3 :: Tree tb sb T3 :: Store sb rb A3 :: Jobs jb J3 :: RoP W p adO cO :: blk xa 39 (shopC sa ta ja awa ksa.length cwa 1) :: Sl 22 1 awa ksa.length cwa (ptrs ksa) :: blk xb 39 (shopC sb tb jb (some ⟨bb, ob, none⟩) ksb.length cwb 1) :: Sl 22 1 (some ⟨bb, ob, none⟩) ksb.length cwb (ptrs ksb) :: All (ownK p adO cO ta ja sa) ks6 :: Tree ta sa T6 :: Store sa ra A6 :: Jobs ja J6 :: [])) hk hfm3 (by decide) (by rw [hlk3.1]; omega) hpr hz1 (by omega)) ?_); clear ha hs
        rintro e w ⟨z1, A4, T4, J4, k4, N4, rfl, ⟨hfm4, hd⟩, hs⟩
        refine ⟨_, rfl, ?_⟩
        intro a ha
        refine LN ?_
        have hov4 := (Rnd.begin.next hk hd).over (m := 1) (by decide) (by rw [List.length_map, List.length_set, hlk3.1]; exact hklb) hfm4 (Tree.wt (hs.tree tb))
        refine BN <| TN <| WR ?_
        refine S1 ha ?_; clear ha a; intro a ha
        refine SK (st_set ha rfl (ex_addI ha (by omega) (by omega)) rfl ?_); clear ha a; intro a ha
        refine S1d ha ?_; clear ha a; intro a ha
        refine LN <| TN ?_
        exact ⟨200 - (i + 1), by omega, i + 1, A6, T6, J6, ks6, N6, c6, A4, T4, J4, ks3.set 0 (k4, wb), N4, c3 + 1, ⟨rfl, by omega, ⟨by omega, by omega, hlk6, hfm6⟩, ⟨by omega, by omega, hlk3.set hk, hfm4⟩⟩, ha.keep [8, 9, 11], hs.sub⟩
     ·
      refine wp_exit <| TE <| TE <| blk_e <| TN <| WS ?_
      obtain rfl : N5 = 0 := by omega
      obtain rfl : N3 = 0 := by omega
      obtain ⟨_, _, hda⟩ := hfm5.over (Tree.wt (hs.tree ta))
      obtain ⟨_, _, hdb⟩ := hfm3.over (Tree.wt (hs.tree tb))
      have hIa := hfm5.sure.inv
      have hIb := hfm3.sure.inv
      have hbl := hfm5.bl.trans hfm3.bl.symm
      have hlen : T5.l.length = T3.l.length := by
        have := congrArg List.length hbl
        rwa [List.length_map, List.length_map] at this
      have hTm := (Tree.wt (hs.tree ta)).most
      clear hfm5 hfm3 hfm2 hfm1 hfm hN3 hN5
      refine DW (m := 12) (fun w' => Rd w' xa 0 (shopC sa ta ja awa ksa.length cwa 1) ∧ Rd w' xb 0 (shopC sb tb jb awb ksb.length cwb 1)) [4, 8] [0, 1, 2, 5, 6, 7, 3, 8, 4, 9, 10, 11] Ty.mixed (pk_then pk_body) (fun hpk => ?_)
      replace hs := hs.drew
      generalize w.drew = w at hs hpk ⊢
      have hC : Rd w xa 0 (shopC sa ta ja awa ksa.length cwa 1) ∧ Rd w xb 0 (shopC sb tb jb awb ksb.length cwb 1) := ⟨hs.rdAll, hs.rdAll⟩
      refine DP hpk ha rfl ?_; clear ha; (try clear a); intro a ha
      iterate 5 (refine DP hpk ha rfl ?_; clear ha a; intro a ha)
      refine DL hpk ha rfl (fun w hc => hc.1 1 _ rfl) hC ?_; clear ha a; intro a ha
      refine DL hpk ha rfl (fun w hc => hc.2 1 _ rfl) hC ?_; clear ha a; intro a ha
      refine D1 rfl (st_call ha rfl Ty.c12 rfl (tree_all (hs.tree ta)) ?_); clear ha hs
      rintro e w ⟨adl, cl, rfl, hs⟩
      refine ⟨_, rfl, ?_⟩
      intro a ha
      replace hC : (fun w' => Rd w' xa 0 (shopC sa ta ja awa ksa.length cwa 1) ∧ Rd w' xb 0 (shopC sb tb jb awb ksb.length cwb 1)) w := ⟨hs.rdAll, hs.rdAll⟩
      refine ⟨fun _ => hC, ?_⟩
      refine D1 rfl (st_call ha rfl Ty.c12 rfl (tree_all (hs.tree tb)) ?_); clear ha hs
      rintro e w ⟨bdl, dl, rfl, hs⟩
      refine ⟨_, rfl, ?_⟩
      intro a ha
      refine ⟨fun h => absurd h (by decide), ?_⟩
      iterate 2 (refine DP hpk ha rfl ?_; clear ha a; intro a ha)
      refine DD <| TN <| WS <| WS <| WR ?_
      iterate 5 (refine S1 ha ?_; clear ha a; intro a ha)
      refine LN <| TN ?_
      rw [decide_eq_false (by omega)] at ha
      refine WFa ha <| WK <| TN <| WS <| WS ?_
      obtain ⟨la, hla, hla2, hs⟩ := OwnBr.open (hs.pick (OwnBr adl T5.l.length cl T5.l))
      obtain ⟨lb, hlb, hlb2, hs⟩ := OwnBr.open (hs.pick (OwnBr bdl T3.l.length dl T3.l))
      have hlal : la.length = T5.l.length := by rw [← hla, List.length_map]
      have hlbl : lb.length = T3.l.length := by rw [← hlb, List.length_map]
      refine WR ?_
      refine S1 ha ?_; clear ha a; intro a ha
      refine LN <| TN <| wp_block ?_
      refine wp_loop_ghost (fun μ a w => ∃ (j : Nat), (μ = T5.l.length - j ∧ j ≤ T5.l.length) ∧ Fr a 171 [(8, .pointer (some ⟨xa, 0, none⟩)), (9, .pointer (some ⟨xb, 0, none⟩)), (13, .slice adl T5.l.length cl), (14, .slice bdl T3.l.length dl), (15, .int .i64 j)] ∧ St W w (Sl 48 5 adl T5.l.length cl (rows brc la) :: All bro la :: Sl 48 5 bdl T3.l.length dl (rows brc lb) :: All bro lb :: blk xa 39 (shopC sa ta ja awa ksa.length cwa 1) :: Sl 22 1 awa ksa.length cwa (ptrs ksa) :: All (ownK p adO cO ta ja sa) ks5 :: Tree ta sa T5 :: Store sa ra A5 :: blk xb 39 (shopC sb tb jb awb ksb.length cwb 1) :: Sl 22 1 awb ksb.length cwb (ptrs ksb) :: All (ownK p adO cO tb jb sb) ks3 :: Tree tb sb T3 :: Store sb rb A3 :: [])) (T5.l.length) ?_ ?_
      · exact ⟨0, ⟨rfl, by omega⟩, ha.keep [8, 9, 13, 14, 15], hs.sub⟩
      ·
       clear ha hs
       rintro μ a w ⟨j, ⟨rfl, hj⟩, ha, hs⟩
       refine WS <| WS <| WR ?_
       refine S1 ha ?_; clear ha; (try clear a); intro a ha
       iterate 3 (refine S1 ha ?_; clear ha a; intro a ha)
       refine LN <| TN ?_
       refine WI ha (fun hc7 => ?_) (fun hc7 => ?_)
       ·
        obtain ⟨⟨x, ax, cx⟩, hx⟩ : ∃ x, la[j]? = some x := ⟨_, List.getElem?_eq_getElem (by omega)⟩
        obtain ⟨⟨y, ay, cy⟩, hy2⟩ : ∃ x, lb[j]? = some x := ⟨_, List.getElem?_eq_getElem (by omega)⟩
        have hxj : T5.l[j]? = some x := by rw [← hla, List.getElem?_map, hx]; rfl
        have hyj : T3.l[j]? = some y := by rw [← hlb, List.getElem?_map, hy2]; rfl
        have hxT := List.mem_of_getElem? hxj
        have hyT := List.mem_of_getElem? hyj
        have hxy : (x.id, x.press) = (y.id, y.press) := by
          have h1 := congrArg (fun l => l[j]?) hbl
          simp only [List.getElem?_map, hxj, hyj, Option.map_some] at h1
          exact Option.some.inj h1
        have hxid : x.id = y.id := congrArg Prod.fst hxy
        have hxpr : x.press = y.press := congrArg Prod.snd hxy
        have hdx := hda x hxT
        have hdy := hdb y hyT
        have hdd : x.done = y.done := by rw [hdx, hdy, hxpr]
        obtain ⟨i2, px, hpx, hpid⟩ := hIa.ofBr hxT
        obtain ⟨i3, py, hpy, hpjd⟩ := hIb.ofBr hyT
        have hgx := (hIa.brs x hxT).2 px (List.mem_of_getElem? hpx) hpid
        have hgy := (hIb.brs y hyT).2 py (List.mem_of_getElem? hpy) hpjd
        have hgg : px.g = py.g := by rw [hgx, hgy, hxpr, hdd]
        obtain ⟨bl, ol, rfl, hrl⟩ := hs.slRd adl (by omega)
        obtain ⟨bm, om, rfl, hrm⟩ := hs.slRd bdl (by omega)
        have hrx := row_rd hrl hx
        clear hrl hrm
        refine WK <| TN <| WS <| wp_block ?_
        refine wp_seq_cut (M := fun a w => ∃ b16 : Nat, Fr a 171 [(8, .pointer (some ⟨xa, 0, none⟩)), (9, .pointer (some ⟨xb, 0, none⟩)), (13, .slice (some ⟨bl, ol, none⟩) T5.l.length cl), (14, .slice (some ⟨bm, om, none⟩) T3.l.length dl), (15, .int .i64 j), (16, .pointer (some ⟨b16, 0, none⟩)), (17, .bool true)] ∧ St W w (blk b16 43 (ints .i32 32 px.g) :: Sl 48 5 (some ⟨bl, ol, none⟩) T5.l.length cl (rows brc la) :: All bro la :: Sl 48 5 (some ⟨bm, om, none⟩) T3.l.length dl (rows brc lb) :: All bro lb :: blk xa 39 (shopC sa ta ja awa ksa.length cwa 1) :: Sl 22 1 awa ksa.length cwa (ptrs ksa) :: All (ownK p adO cO ta ja sa) ks5 :: Tree ta sa T5 :: Store sa ra A5 :: blk xb 39 (shopC sb tb jb awb ksb.length cwb 1) :: Sl 22 1 awb ksb.length cwb (ptrs ksb) :: All (ownK p adO cO tb jb sb) ks3 :: Tree tb sb T3 :: Store sb rb A3 :: [])) ?_ ?_
        ·
         replace hrx : Rd w.drew bl (ol + j * 5) (brC x ax cx) := hrx
         refine DW (m := 16) (fun w' => Rd w' xa 0 (shopC sa ta ja awa ksa.length cwa 1) ∧ Rd w' bl (ol + j * 5) (brC x ax cx)) [8, 13] [0, 1, 2, 4, 5, 6, 7, 3, 8, 9, 10, 11, 12, 13, 14, 15] Ty.mixed (pk_then (pk_blk (pk_then (pk_then (pk_blk (pk_then pk_body)))))) (fun hpk => ?_)
         replace hs := hs.drew
         generalize w.drew = w at hs hpk hrx ⊢
         have hC : Rd w xa 0 (shopC sa ta ja awa ksa.length cwa 1) ∧ Rd w bl (ol + j * 5) (brC x ax cx) := ⟨hs.rdAll, hrx⟩
         refine DP hpk ha rfl ?_; clear ha; (try clear a); intro a ha
         iterate 4 (refine DP hpk ha rfl ?_; clear ha a; intro a ha)
         refine DQ hpk ha rfl rfl (fun w => ex_indexAddr ha Try.underlying40 Ty.t48 (by omega)) ?_; clear ha a; intro a ha
         refine DP hpk ha rfl ?_; clear ha a; intro a ha
         refine DL hpk ha rfl (fun w hc => hc.1 0 _ rfl) hC ?_; clear ha a; intro a ha
         refine DL hpk ha rfl (fun w hc => hc.2 4 _ rfl) hC ?_; clear ha a; intro a ha
         refine D2 (i := 9) (j := 13) [10, 11, 12, 13, 14, 15] [9, 10, 11, 12, 14, 15] (by kernel_rfl) rfl rfl ?_ ?_
         ·
          refine st_call ha rfl Ty.c13 rfl (snap_state_id (hs.store sa) hpx hpid) ?_; clear ha hs
          rintro e w ⟨rfl, hs⟩
          refine ⟨_, rfl, ?_⟩
          intro a ha
          refine ⟨fun h => absurd h (by decide), ?_⟩
          refine DP hpk ha rfl ?_; clear ha; (try clear a); intro a ha
          iterate 2 (refine DP hpk ha rfl ?_; clear ha a; intro a ha)
          refine D1 rfl (st_alloc ha rfl hs Ty.t43 rfl ?_); clear ha hs a; (try clear w); intro b16 a w ha hs ho
          (try replace hC := hC.trans ho); clear ho
          replace hC : (fun w' => Rd w' xa 0 (shopC sa ta ja awa ksa.length cwa 1) ∧ Rd w' bl (ol + j * 5) (brC x ax cx)) w := ⟨hs.rdAll, row_rd (hs.slRdAt bl ol (by omega)) hx⟩
          refine ⟨fun _ => hC, ?_⟩
          change St W w (blk b16 43 (ints .i32 32 (fun _ => 0)) :: _) at hs
          refine D1 rfl (st_storeAll ha rfl hs Ty.t43 ints_one (by rw [ints_len, ints_len]) ?_); clear ha hs a; (try clear w); intro a w ha hs
          refine ⟨fun h => absurd h (by decide), ?_⟩
          refine DP hpk ha rfl ?_; clear ha a; intro a ha
          refine DD <| TN ?_
          exact ⟨_, ha.keep [8, 9, 13, 14, 15, 16, 17], hs.sub⟩
         ·
          refine st_alloc ha rfl hs Ty.t43 rfl ?_; clear ha hs; (try clear a); (try clear w); intro b16 a w ha hs ho
          (try replace hC := hC.trans ho); clear ho
          replace hC : (fun w' => Rd w' xa 0 (shopC sa ta ja awa ksa.length cwa 1) ∧ Rd w' bl (ol + j * 5) (brC x ax cx)) w := ⟨hs.rdAll, row_rd (hs.slRdAt bl ol (by omega)) hx⟩
          refine ⟨fun _ => hC, ?_⟩
          change St W w (blk b16 43 (ints .i32 32 (fun _ => 0)) :: _) at hs
          refine D1 rfl (st_call ha rfl Ty.c13 rfl (snap_state_id (hs.store sa) hpx hpid) ?_); clear ha hs
          rintro e w ⟨rfl, hs⟩
          refine ⟨_, rfl, ?_⟩
          intro a ha
          refine ⟨fun h => absurd h (by decide), ?_⟩
          iterate 3 (refine DP hpk ha rfl ?_; clear ha a; intro a ha)
          refine D1 rfl (st_storeAll ha rfl hs Ty.t43 ints_one (by rw [ints_len, ints_len]) ?_); clear ha hs a; (try clear w); intro a w ha hs
          refine ⟨fun h => absurd h (by decide), ?_⟩
          refine DP hpk ha rfl ?_; clear ha a; intro a ha
          refine DD <| TN ?_
          exact ⟨_, ha.keep [8, 9, 13, 14, 15, 16, 17], hs.sub⟩
        ·
         clear ha; (try clear hs)
         intro a w hcut
         obtain ⟨b16, ha, hs⟩ := hcut
         refine wp_seq_cut (M := fun a w => ∃ b18 : Nat, Fr a 171 [(8, .pointer (some ⟨xa, 0, none⟩)), (9, .pointer (some ⟨xb, 0, none⟩)), (13, .slice (some ⟨bl, ol, none⟩) T5.l.length cl), (14, .slice (some ⟨bm, om, none⟩) T3.l.length dl), (15, .int .i64 j), (16, .pointer (some ⟨b16, 0, none⟩)), (17, .bool true), (18, .pointer (some ⟨b18, 0, none⟩)), (19, .bool true)] ∧ St W w (blk b18 43 (ints .i32 32 py.g) :: blk b16 43 (ints .i32 32 px.g) :: Sl 48 5 (some ⟨bl, ol, none⟩) T5.l.length cl (rows brc la) :: All bro la :: Sl 48 5 (some ⟨bm, om, none⟩) T3.l.length dl (rows brc lb) :: All bro lb :: blk xa 39 (shopC sa ta ja awa ksa.length cwa 1) :: Sl 22 1 awa ksa.length cwa (ptrs ksa) :: All (ownK p adO cO ta ja sa) ks5 :: Tree ta sa T5 :: Store sa ra A5 :: blk xb 39 (shopC sb tb jb awb ksb.length cwb 1) :: Sl 22 1 awb ksb.length cwb (ptrs ksb) :: All (ownK p adO cO tb jb sb) ks3 :: Tree tb sb T3 :: Store sb rb A3 :: [])) ?_ ?_
         ·
          have hry : Rd w.drew bm (om + j * 5) (brC y ay cy) := row_rd (hs.drew.slRdAt bm om (by omega)) hy2
          refine DW (m := 16) (fun w' => Rd w' xb 0 (shopC sb tb jb awb ksb.length cwb 1) ∧ Rd w' bm (om + j * 5) (brC y ay cy)) [8, 13] [0, 1, 2, 4, 5, 6, 7, 3, 8, 9, 10, 11, 12, 13, 14, 15] Ty.mixed (pk_then (pk_blk (pk_then (pk_then (pk_blk (pk_then pk_body)))))) (fun hpk => ?_)
          replace hs := hs.drew
          generalize w.drew = w at hs hpk hry ⊢
          have hC : Rd w xb 0 (shopC sb tb jb awb ksb.length cwb 1) ∧ Rd w bm (om + j * 5) (brC y ay cy) := ⟨hs.rdAll, hry⟩
          refine DP hpk ha rfl ?_; clear ha; (try clear a); intro a ha
          iterate 4 (refine DP hpk ha rfl ?_; clear ha a; intro a ha)
          refine DQ hpk ha rfl rfl (fun w => ex_indexAddr ha Try.underlying40 Ty.t48 (by omega)) ?_; clear ha a; intro a ha
          refine DP hpk ha rfl ?_; clear ha a; intro a ha
          refine DL hpk ha rfl (fun w hc => hc.1 0 _ rfl) hC ?_; clear ha a; intro a ha
          refine DL hpk ha rfl (fun w hc => hc.2 4 _ rfl) hC ?_; clear ha a; intro a ha
          refine D2 (i := 9) (j := 13) [10, 11, 12, 13, 14, 15] [9, 10, 11, 12, 14, 15] (by kernel_rfl) rfl rfl ?_ ?_
          ·
           refine st_call ha rfl Ty.c13 rfl (snap_state_id (hs.store sb) hpy hpjd) ?_; clear ha hs
           rintro e w ⟨rfl, hs⟩
           refine ⟨_, rfl, ?_⟩
           intro a ha
           refine ⟨fun h => absurd h (by decide), ?_⟩
           refine DP hpk ha rfl ?_; clear ha; (try clear a); intro a ha
           iterate 2 (refine DP hpk ha rfl ?_; clear ha a; intro a ha)
           refine D1 rfl (st_alloc ha rfl hs Ty.t43 rfl ?_); clear ha hs a; (try clear w); intro b18 a w ha hs ho
           (try replace hC := hC.trans ho); clear ho
           replace hC : (fun w' => Rd w' xb 0 (shopC sb tb jb awb ksb.length cwb 1) ∧ Rd w' bm (om + j * 5) (brC y ay cy)) w := ⟨hs.rdAll, row_rd (hs.slRdAt bm om (by omega)) hy2⟩
           refine ⟨fun _ => hC, ?_⟩
           change St W w (blk b18 43 (ints .i32 32 (fun _ => 0)) :: _) at hs
           refine D1 rfl (st_storeAll ha rfl hs Ty.t43 ints_one (by rw [ints_len, ints_len]) ?_); clear ha hs a; (try clear w); intro a w ha hs
           refine ⟨fun h => absurd h (by decide), ?_⟩
           refine DP hpk ha rfl ?_; clear ha a; intro a ha
           refine DD <| TN ?_
           exact ⟨_, ha.keep [8, 9, 13, 14, 15, 16, 17, 18, 19], hs.sub⟩
          ·
           refine st_alloc ha rfl hs Ty.t43 rfl ?_; clear ha hs; (try clear a); (try clear w); intro b18 a w ha hs ho
           (try replace hC := hC.trans ho); clear ho
           replace hC : (fun w' => Rd w' xb 0 (shopC sb tb jb awb ksb.length cwb 1) ∧ Rd w' bm (om + j * 5) (brC y ay cy)) w := ⟨hs.rdAll, row_rd (hs.slRdAt bm om (by omega)) hy2⟩
           refine ⟨fun _ => hC, ?_⟩
           change St W w (blk b18 43 (ints .i32 32 (fun _ => 0)) :: _) at hs
           refine D1 rfl (st_call ha rfl Ty.c13 rfl (snap_state_id (hs.store sb) hpy hpjd) ?_); clear ha hs
           rintro e w ⟨rfl, hs⟩
           refine ⟨_, rfl, ?_⟩
           intro a ha
           refine ⟨fun h => absurd h (by decide), ?_⟩
           iterate 3 (refine DP hpk ha rfl ?_; clear ha a; intro a ha)
           refine D1 rfl (st_storeAll ha rfl hs Ty.t43 ints_one (by rw [ints_len, ints_len]) ?_); clear ha hs a; (try clear w); intro a w ha hs
           refine ⟨fun h => absurd h (by decide), ?_⟩
           refine DP hpk ha rfl ?_; clear ha a; intro a ha
           refine DD <| TN ?_
           exact ⟨_, ha.keep [8, 9, 13, 14, 15, 16, 17, 18, 19], hs.sub⟩
         ·
          clear ha; (try clear hs)
          intro a w hcut
          obtain ⟨b18, ha, hs⟩ := hcut
          refine WS ?_
          have hrx2 : Rd w.drew bl (ol + j * 5) (brC x ax cx) := row_rd (hs.drew.slRdAt bl ol (by omega)) hx
          have hry2 : Rd w.drew bm (om + j * 5) (brC y ay cy) := row_rd (hs.drew.slRdAt bm om (by omega)) hy2
          refine DW (m := 37) (fun w' => Rd w' bl (ol + j * 5) (brC x ax cx) ∧ Rd w' bm (om + j * 5) (brC y ay cy) ∧ Rd w' b16 0 (ints .i32 32 px.g) ∧ Rd w' b18 0 (ints .i32 32 py.g)) [9, 21, 34] [0, 1, 2, 3, 5, 6, 7, 8, 4, 9, 10, 11, 12, 13, 14, 15, 17, 18, 19, 20, 16, 21, 22, 23, 24, 25, 26, 27, 28, 29, 30, 31, 32, 33, 34, 35, 36] Ty.mixed (pk_then (pk_blk (pk_then (pk_then (pk_blk (pk_then pk_body)))))) (fun hpk => ?_)
          replace hs := hs.drew
          generalize w.drew = w at hs hpk hrx2 hry2 ⊢
          have hC : Rd w bl (ol + j * 5) (brC x ax cx) ∧ Rd w bm (om + j * 5) (brC y ay cy) ∧ Rd w b16 0 (ints .i32 32 px.g) ∧ Rd w b18 0 (ints .i32 32 py.g) := ⟨hrx2, hry2, hs.rdAll, hs.rdAll⟩
          refine DP hpk ha rfl ?_; clear ha; (try clear a); intro a ha
          refine DP hpk ha rfl ?_; clear ha a; intro a ha
          refine DQ hpk ha rfl rfl (fun w => ex_indexAddr ha Try.underlying40 Ty.t48 (by omega)) ?_; clear ha a; intro a ha
          iterate 3 (refine DP hpk ha rfl ?_; clear ha a; intro a ha)
          refine DQ hpk ha rfl rfl (fun w => ex_indexAddr ha Try.underlying40 Ty.t48 (by omega)) ?_; clear ha a; intro a ha
          refine DP hpk ha rfl ?_; clear ha a; intro a ha
          refine DL hpk ha rfl (fun w hc => hc.1 3 _ rfl) hC ?_; clear ha a; intro a ha
          refine D1 rfl (st_set ha rfl (ex_load1 ha Try.underlying3 rfl (hC.2.1 3 _ rfl)) rfl ?_); clear ha a; intro a ha
          refine ⟨fun _ => hC, ?_⟩
          refine DP hpk ha rfl ?_; clear ha a; intro a ha
          rw [decide_eq_false (by omega)] at ha
          refine DP hpk ha rfl ?_; clear ha a; intro a ha
          iterate 2 (refine DPg (s := 145) hpk ha rfl ?_; clear ha a; intro a ha)
          refine DQ hpk ha rfl (wgT ha rfl (s := 145)) (fun w => ex_indexAddr ha Try.underlying40 Ty.t48 (by omega)) ?_; clear ha a; intro a ha
          iterate 3 (refine DPg (s := 145) hpk ha rfl ?_; clear ha a; intro a ha)
          refine DQ hpk ha rfl (wgT ha rfl (s := 145)) (fun w => ex_indexAddr ha Try.underlying40 Ty.t48 (by omega)) ?_; clear ha a; intro a ha
          refine DPg (s := 145) hpk ha rfl ?_; clear ha a; intro a ha
          refine DH hpk ha rfl (wgT ha rfl (s := 145)) (fun w hc => ex_load1 ha Try.underlying2 rfl (hc.1 0 _ rfl)) hC ?_; clear ha a; intro a ha
          refine D1 rfl (st_set ha (wgT ha rfl (s := 145)) (ex_load1 ha Try.underlying2 rfl (hC.2.1 0 _ rfl)) rfl ?_); clear ha a; intro a ha
          refine ⟨fun _ => hC, ?_⟩
          refine DPg (s := 145) hpk ha rfl ?_; clear ha a; intro a ha
          rw [decide_eq_false (by omega)] at ha
          refine DF hpk ha rfl ?_; clear ha a; intro a ha
          refine DP hpk ha rfl ?_; clear ha a; intro a ha
          iterate 2 (refine DPg (s := 158) hpk ha rfl ?_; clear ha a; intro a ha)
          rw [show (!true) = false from rfl] at ha
          refine DF hpk ha rfl ?_; clear ha a; intro a ha
          refine DP hpk ha rfl ?_; clear ha a; intro a ha
          iterate 2 (refine DPg (s := 162) hpk ha rfl ?_; clear ha a; intro a ha)
          rw [show (!true) = false from rfl] at ha
          refine DF hpk ha rfl ?_; clear ha a; intro a ha
          refine DP hpk ha rfl ?_; clear ha a; intro a ha
          refine DH hpk ha rfl (wgT ha rfl (s := 166)) (fun w hc => ex_loadN ha Try.underlying43 rfl Ty.t43 (hc.2.2.1)) hC ?_; clear ha a; intro a ha
          refine D1 rfl (st_set ha (wgT ha rfl (s := 166)) (ex_loadN ha Try.underlying43 rfl Ty.t43 (hC.2.2.2)) rfl ?_); clear ha a; intro a ha
          refine ⟨fun _ => hC, ?_⟩
          refine DQ hpk ha rfl (wgT ha rfl (s := 166)) (fun w => ex_neqA ha Try.underlying49 Try.underlying21 Ty.t21 (by kernel_rfl) Try.eqGuardType49) ?_; clear ha a; intro a ha
          rw [hgg, sameN_self, Bool.not_true] at ha
          refine DF hpk ha rfl ?_; clear ha a; intro a ha
          refine DD <| TN <| WFa ha <| WK <| BN <| TN <| WR ?_
          refine S1 ha ?_; clear ha a; intro a ha
          refine SK (st_set ha rfl (ex_addI ha (by omega) (by omega)) rfl ?_); clear ha a; intro a ha
          refine S1d ha ?_; clear ha a; intro a ha
          refine LN <| TN ?_
          exact ⟨T5.l.length - (j + 1), by omega, j + 1, ⟨rfl, by omega⟩, ha.keep [8, 9, 13, 14, 15], hs.sub⟩
       ·
        refine wp_exit <| TE <| TE <| blk_e <| TN <| WS <| WR ?_
        refine S1 ha ?_; clear ha; (try clear a); intro a ha
        refine LN <| TN <| wp_ret ?_
        refine ret1 ha rfl ?_
        exact ⟨rfl, hs.below⟩
end Go.Proofs.Ytneafbkhaooelaa

