/- WorkAll. -/
import Derived.Test.YtneafbkhaooelaaGreatWorkE
namespace Go.Proofs.YtneafbkhaooelaaGreat
open Go.RowKit
set_option linter.unusedVariables false
set_option linter.unusedSimpArgs false
set_option maxRecDepth 10000
set_option synthInstance.maxSize 4000
set_option synthInstance.maxHeartbeats 400000

theorem ArgBB.rdP {W w : World} {L : List SP} {ad : Option Addr} {zs : List BBx} (h : ArgBB W ad zs) (hs : St W w L) : RdP w ad zs := ⟨h.1.old hs, h.2⟩
theorem workAll_walk (pr : Pr) (adO : Option Addr) (cO : Nat) (a1 : Option Addr) (len1 cap1 : Nat) (a2 : Option Addr) (len2 cap2 : Nat) (z2 : List Int) (a3 : Option Addr) (len3 cap3 : Nat) (a4 : Int) (W : World) (w0 : ArgProg W pr adO cO) (w1 : len1 ≤ 9223372036854775807 ∧ ∃ ys : List BBBx, ys.length = len1 ∧ ArgBBB W a1 ys)
    (w2 : ArgInts .i64 W a2 len2 cap2 z2) (w3 : len3 ≤ 9223372036854775807 ∧ ∃ zs : List BBx, zs.length = len3 ∧ ArgBB W a3 zs) (w4 : (Lit.int .i64 a4).wf = true) :
    Calls Tryz.prog 5 #[.agg (prV pr adO cO).toArray, .slice a1 len1 cap1, .slice a2 len2 cap2, .slice a3 len3 cap3, .int .i64 a4] W fun e w' => e = .returned (.bool true) ∧ Below W.heap.size W w' := by
  have hs := St.start W
  obtain ⟨hl1, ys, rfl, hy⟩ := w1
  obtain ⟨hl3, zs, rfl, hzs⟩ := w3
  obtain ⟨vz, hvl, hvw, hvr⟩ := w2.vals
  have hl2 := w2.len_le.2
  obtain ⟨hz1, hz2⟩ := cutP_ok pr
  refine calls_enter Tryz.func5 rfl Tryz.ntmps5 (Nat.le_of_ble_eq_true rfl) ?_
  intro a ha
  replace ha : Fr a 101 [(0, _), (1, _), (2, _), (3, _), (4, _)] := ha
  refine WS <| WR ?_
  refine SK (st_box ha rfl hs rfl ?_); clear ha hs a; (try clear w); intro b5 a w ha hs ho
  clear ho
  change St W w (blk b5 24 (prV pr adO cO) :: _) at hs
  refine S1 ha ?_; clear ha a; intro a ha
  refine LN <| TN <| WS <| WR ?_
  refine SK (st_call ha rfl Ty.c8 rfl (begun25 hs) ?_); clear ha hs
  rintro e w ⟨rfl, hs⟩
  refine ⟨_, rfl, ?_⟩
  intro a ha
  refine S1 ha ?_; clear ha a; intro a ha
  refine LN <| TN <| WS <| WS <| WR ?_
  iterate 2 (refine S1 ha ?_; clear ha a; intro a ha)
  refine LN <| TN <| WFa ha <| WK <| TN <| WS <| WR ?_
  refine SK (st_set ha rfl (ex_loadN ha Tryz.underlying24 rfl Ty.t24 (hs.rdAll)) rfl ?_); clear ha a; intro a ha
  refine SK (st_call ha rfl Ty.c9 rfl (cut5_spec (K := 30) (w0.ro hs)) ?_); clear ha hs
  rintro e w ⟨rfl, hs⟩
  refine ⟨_, rfl, ?_⟩
  intro a ha
  refine S1 ha ?_; clear ha a; intro a ha
  refine SK (st_call ha rfl Ty.c17 rfl (presses_any (K := 3) hs (by decide) (fun w' h => hzs.rdP h) rfl) ?_); clear ha hs
  rintro e w ⟨adp, cp, rfl, hcp, hs⟩
  refine ⟨_, rfl, ?_⟩
  intro a ha
  rw [show min zs.length 3 = ((cutN 3 zs).map (·.2.2)).length from by rw [List.length_map, cutN_len]] at ha hs hcp
  refine SK (st_storeAll ha rfl hs Ty.t24 (prV_one _ _ _) (by rfl) ?_); clear ha hs a; (try clear w); intro a w ha hs
  refine S1d ha ?_; clear ha a; intro a ha
  refine LN <| TN <| WS <| WS ?_
  generalize cutP 30 pr = p at hs ha hz1 hz2
  refine WR ?_
  refine SK (st_set ha rfl (ex_loadN ha Tryz.underlying24 rfl Ty.t24 (hs.rdAll)) rfl ?_); clear ha a; intro a ha
  refine SK (st_call ha rfl Ty.c10 rfl (refFault_spec (hs.pick (RoP W p adO cO)) hz1 hz2) ?_); clear ha hs
  rintro e w ⟨rf, rfl, hrf, hs⟩
  refine ⟨_, rfl, ?_⟩
  intro a ha
  refine S1 ha ?_; clear ha a; intro a ha
  refine LN <| TN ?_
  refine WI ha (fun hc1 => ?_) (fun hc1 => ?_)
  ·
   refine WS <| WR ?_
   refine S1d ha ?_; clear ha; (try clear a); intro a ha
   refine LN <| TN <| wp_ret <| TR ?_
   refine ret1 ha rfl ?_
   exact ⟨rfl, hs.below⟩
  ·
   refine WK <| TN <| WS ?_
   have hpr := hrf.1 hc1
   refine WR ?_
   refine SK (st_set ha rfl (ex_loadN ha Tryz.underlying24 rfl Ty.t24 (hs.rdAll)) rfl ?_); clear ha; (try clear a); intro a ha
   refine S1 ha ?_; clear ha a; intro a ha
   refine SK (st_call ha rfl Ty.c11 rfl (made_spec (p := p) (room := 20) (nw := 3) (ys := ys) (hs.pick (RoP W p adO cO)) (fun w' h => hy.rd h) (by decide) (by decide) hl1) ?_); clear ha hs
   rintro e w ⟨xb, sq, r, tq, jq, adw, cw, ks, A, T, J, t, rfl, ⟨hkl, hap, hfr⟩, hs⟩
   refine ⟨_, rfl, ?_⟩
   intro a ha
   refine S1 ha ?_; clear ha a; intro a ha
   refine LN ?_
   have hS := hfr.sure (by omega)
   clear hfr
   refine TN <| WS <| WS <| WR ?_
   iterate 2 (refine S1 ha ?_; clear ha a; intro a ha)
   refine LN <| TN <| WFa ha <| WK <| TN <| WS <| WS <| WR ?_
   refine S1 ha ?_; clear ha a; intro a ha
   refine LN <| TN <| wp_block ?_
   refine wp_loop_ghost (fun μ a w => ∃ (i : Nat) (A2 : Sn) (T2 : Tr) (J2 : Js) (ks2 : List Kx) (c2 : Nat), (μ = len2 - i ∧ i ≤ len2 ∧ i ≤ 60 ∧ c2 ≤ i * 2 ∧ Like ks2 ks ∧ Sure p t 20 c2 A2 T2 J2 (ks2.map (·.1))) ∧ Fr a 101 [(2, .slice a2 len2 cap2), (3, .slice adp ((cutN 3 zs).map (·.2.2)).length cp), (4, .int .i64 a4), (5, .pointer (some ⟨b5, 0, none⟩)), (12, .pointer (some ⟨xb, 0, none⟩)), (13, .int .i64 i)] ∧ St W w (blk xb 38 (shopC sq tq jq adw ks.length cw 1) :: Sl 31 1 adw ks.length cw (ptrs ks) :: All (ownK p adO cO tq jq sq) ks2 :: Tree tq sq T2 :: Store sq r A2 :: Jobs jq J2 :: RoP W p adO cO :: blk b5 24 (prV p adO cO) :: Sl 47 1 adp ((cutN 3 zs).map (·.2.2)).length cp ((cutN 3 zs).map bbv) :: [])) (len2) ?_ ?_
   · exact ⟨0, A, T, J, ks, 0, ⟨rfl, by omega, by omega, by omega, Like.refl _, hS⟩, ha.keep [2, 3, 4, 5, 12, 13], hs.sub⟩
   ·
    clear ha hs
    rintro μ a w ⟨i, A2, T2, J2, ks2, c2, ⟨rfl, hi, hi6, hc2x, hlk, hS2⟩, ha, hs⟩
    refine WS <| WS <| WR ?_
    refine S1 ha ?_; clear ha; (try clear a); intro a ha
    iterate 4 (refine S1 ha ?_; clear ha a; intro a ha)
    refine ha.by (s := 37) (fun hg4 ha => ?_) (fun hg4 ha => ?_)
    ·
     refine S1g (s := 37) ha ?_; clear ha; (try clear a); intro a ha
     refine S1g (s := 37) ha ?_; clear ha a; intro a ha
     refine PT ha ?_; clear ha a; intro a ha
     refine LN <| TN ?_
     refine WI ha (fun hc3 => ?_) (fun hc3 => ?_)
     ·
      obtain ⟨bp, op, rfl, hbp, hrp⟩ := (hvr _ _ hs).resolve_left (by omega)
      obtain ⟨x0, hx0⟩ : ∃ x, vz[i]? = some x := ⟨_, List.getElem?_eq_getElem (by omega)⟩
      have hcx := hrp i _ (by rw [List.getElem?_map, hx0]; rfl)
      obtain ⟨kx, hkx, hke, hkl4, hkh4⟩ := normI 4 (by decide) x0
      refine WK <| TN <| WS <| wp_block <| WS <| WR ?_
      refine S1 ha ?_; clear ha; (try clear a); intro a ha
      refine S1 ha ?_; clear ha a; intro a ha
      refine SK (st_set ha rfl (ex_indexAddr ha Tryz.underlying49 Ty.t3 (by omega)) rfl ?_); clear ha a; intro a ha
      rw [Nat.mul_one] at ha
      refine SL ha (hcx) ?_; clear ha a; intro a ha
      refine SK (st_set ha rfl (ex_rem ha (by omega)) rfl ?_); clear ha a; intro a ha
      refine SK (st_set ha rfl (ex_addI ha (by omega) (by omega)) rfl ?_); clear ha a; intro a ha
      refine SK (st_set ha rfl (ex_rem ha (by omega)) rfl ?_); clear ha a; intro a ha
      rw [hke] at ha
      refine S1 ha ?_; clear ha a; intro a ha
      refine LN <| TN ?_
      refine wp_seq_cut (M := fun a w => ∃ (A3 : Sn) (T3 : Tr) (J3 : Js) (ks3 : List Kx) (c3 : Nat), (c3 ≤ i * 2 + 1 ∧ Like ks3 ks ∧ Sure p t 20 c3 A3 T3 J3 (ks3.map (·.1))) ∧ Fr a 101 [(2, .slice (some ⟨bp, op, none⟩) len2 cap2), (3, .slice adp ((cutN 3 zs).map (·.2.2)).length cp), (4, .int .i64 a4), (5, .pointer (some ⟨b5, 0, none⟩)), (12, .pointer (some ⟨xb, 0, none⟩)), (13, .int .i64 i)] ∧ St W w (blk xb 38 (shopC sq tq jq adw ks.length cw 1) :: Sl 31 1 adw ks.length cw (ptrs ks) :: All (ownK p adO cO tq jq sq) ks3 :: Tree tq sq T3 :: Store sq r A3 :: Jobs jq J3 :: RoP W p adO cO :: blk b5 24 (prV p adO cO) :: Sl 47 1 adp ((cutN 3 zs).map (·.2.2)).length cp ((cutN 3 zs).map bbv) :: [])) ?_ ?_
      ·
       refine WS <| WR ?_
       refine S1 ha ?_; clear ha; (try clear a); intro a ha
       refine S1 ha ?_; clear ha a; intro a ha
       refine LN <| TN ?_
       refine WI ha (fun hc4 => ?_) (fun hc4 => ?_)
       ·
        obtain ⟨k, wb, hk, hpt⟩ := hlk.at (i := kx) (by omega)
        obtain ⟨bw, ow, rfl, hrw⟩ := hs.slRd adw (by omega)
        have hcw := hrw kx _ hpt
        refine WR ?_
        refine S1 ha ?_; clear ha; (try clear a); intro a ha
        iterate 2 (refine S1 ha ?_; clear ha a; intro a ha)
        refine SL ha (hs.rd1 rfl) ?_; clear ha a; intro a ha
        refine S1 ha ?_; clear ha a; intro a ha
        refine SK (st_set ha rfl (ex_indexAddr ha Tryz.underlying35 Ty.t31 (by omega)) rfl ?_); clear ha a; intro a ha
        rw [Nat.mul_one] at ha
        refine SL ha (hcw) ?_; clear ha a; intro a ha
        refine SK (st_call ha rfl Ty.c12 rfl (sure_step (L := blk xb 38 (shopC sq tq jq (some ⟨bw, ow, none⟩) ks.length cw 1) :: Sl 31 1 (some ⟨bw, ow, none⟩) ks.length cw (ptrs ks) :: blk b5 24 (prV p adO cO) :: Sl 47 1 adp ((cutN 3 zs).map (·.2.2)).length cp ((cutN 3 zs).map bbv) :: []) (hs.sub (M := All (ownK p adO cO tq jq sq) ks2 :: Tree tq sq T2 :: Store sq r A2 :: Jobs jq J2 :: RoP W p adO cO :: blk xb 38 (shopC sq tq jq (some ⟨bw, ow, none⟩) ks.length cw 1) :: Sl 31 1 (some ⟨bw, ow, none⟩) ks.length cw (ptrs ks) :: blk b5 24 (prV p adO cO) :: Sl 47 1 adp ((cutN 3 zs).map (·.2.2)).length cp ((cutN 3 zs).map bbv) :: [])) hk hS2 hpr hz1 (by omega)) ?_); clear ha hs
        rintro e w ⟨z1, A4, T4, J4, k4, rfl, ⟨hbit, hS4, hl4⟩, hs⟩
        refine ⟨_, rfl, ?_⟩
        intro a ha
        refine LN <| TN ?_
        exact ⟨A4, T4, J4, ks2.set kx (k4, wb), c2 + 1, ⟨by omega, hlk.set hk, hS4⟩, ha.keep [2, 3, 4, 5, 12, 13], hs.sub⟩
       ·
        obtain ⟨ky, hky, hye, hyl, hyh⟩ := normI 3 (by decide) (IntKind.i64.wrap (x0.tdiv 4))
        obtain ⟨k, wb, hk, hpt⟩ := hlk.at (i := ky) (by omega)
        obtain ⟨bw, ow, rfl, hrw⟩ := hs.slRd adw (by omega)
        refine WS ?_
        replace hcx : w.drew.cell? ⟨bp, op + i, none⟩ = some (.int .i64 x0) := hcx
        refine DW (m := 15) (fun w' => Rd w' xb 0 (shopC sq tq jq (some ⟨bw, ow, none⟩) ks.length cw 1) ∧ w'.cell? ⟨bp, op + i, none⟩ = some (.int .i64 x0) ∧ Rd w' bw ow (ptrs ks)) [7, 8, 9, 10, 11] [0, 1, 2, 4, 5, 6, 3, 7, 8, 9, 10, 11, 12, 13, 14] Ty.mixed (pk_then (pk_then (pk_blk (pk_then (pk_then (pk_blk (pk_then pk_body))))))) (fun hpk => ?_)
        replace hs := hs.drew
        generalize w.drew = w at hs hpk hcx ⊢
        have hC : Rd w xb 0 (shopC sq tq jq (some ⟨bw, ow, none⟩) ks.length cw 1) ∧ w.cell? ⟨bp, op + i, none⟩ = some (.int .i64 x0) ∧ Rd w bw ow (ptrs ks) := ⟨hs.rdAll, hcx, hs.slRdAt bw ow (by omega)⟩
        refine DP hpk ha rfl ?_; clear ha; (try clear a); intro a ha
        iterate 4 (refine DP hpk ha rfl ?_; clear ha a; intro a ha)
        refine DQ hpk ha rfl rfl (fun w => ex_indexAddr ha Tryz.underlying49 Ty.t3 (by omega)) ?_; clear ha a; intro a ha
        rw [Nat.mul_one] at ha
        refine DL hpk ha rfl (fun w hc => hc.1 3 _ rfl) hC ?_; clear ha a; intro a ha
        refine D1 rfl (st_set ha rfl (ex_load1 ha Tryz.underlying3 rfl (hC.2.1)) rfl ?_); clear ha a; intro a ha
        refine ⟨fun _ => hC, ?_⟩
        refine D1 rfl (st_set ha rfl (ex_quoW ha (by decide)) rfl ?_); clear ha a; intro a ha
        refine ⟨fun _ => hC, ?_⟩
        refine D1 rfl (st_set ha rfl (ex_rem ha (by decide)) rfl ?_); clear ha a; intro a ha
        refine ⟨fun _ => hC, ?_⟩
        refine D1 rfl (st_set ha rfl (ex_addI ha (by omega) (by omega)) rfl ?_); clear ha a; intro a ha
        refine ⟨fun _ => hC, ?_⟩
        refine D1 rfl (st_set ha rfl (ex_rem ha (by decide)) rfl ?_); clear ha a; intro a ha
        refine ⟨fun _ => hC, ?_⟩
        rw [hye] at ha
        refine DQ hpk ha rfl rfl (fun w => ex_indexAddr ha Tryz.underlying35 Ty.t31 (by omega)) ?_; clear ha a; intro a ha
        rw [Nat.mul_one] at ha
        refine D1 rfl (st_set ha rfl (ex_load1 ha Tryz.underlying31 rfl (hC.2.2 ky _ hpt)) rfl ?_); clear ha a; intro a ha
        refine ⟨fun h => absurd h (by decide), ?_⟩
        refine DP hpk ha rfl ?_; clear ha a; intro a ha
        refine DD <| TN <| WS <| WR ?_
        refine S1 ha ?_; clear ha a; intro a ha
        refine SK (st_call ha rfl Ty.c16 rfl (shop_busy (hs.pick (All (ownK p adO cO tq jq sq) ks2)) hk) ?_); clear ha hs
        rintro e w ⟨rfl, hs⟩
        refine ⟨_, rfl, ?_⟩
        intro a ha
        refine S1 ha ?_; clear ha a; intro a ha
        refine LN <| TN <| WS <| WR ?_
        refine S1 ha ?_; clear ha a; intro a ha
        refine SK (st_call ha rfl Ty.c18 rfl (sure_rest (L := blk xb 38 (shopC sq tq jq (some ⟨bw, ow, none⟩) ks.length cw 1) :: Sl 31 1 (some ⟨bw, ow, none⟩) ks.length cw (ptrs ks) :: Tree tq sq T2 :: Jobs jq J2 :: RoP W p adO cO :: blk b5 24 (prV p adO cO) :: Sl 47 1 adp ((cutN 3 zs).map (·.2.2)).length cp ((cutN 3 zs).map bbv) :: []) (hs.sub (M := All (ownK p adO cO tq jq sq) ks2 :: Store sq r A2 :: blk xb 38 (shopC sq tq jq (some ⟨bw, ow, none⟩) ks.length cw 1) :: Sl 31 1 (some ⟨bw, ow, none⟩) ks.length cw (ptrs ks) :: Tree tq sq T2 :: Jobs jq J2 :: RoP W p adO cO :: blk b5 24 (prV p adO cO) :: Sl 47 1 adp ((cutN 3 zs).map (·.2.2)).length cp ((cutN 3 zs).map bbv) :: [])) hk hS2) ?_); clear ha hs
        rintro e w ⟨A4, k4, rfl, ⟨hkb, hS4⟩, hs⟩
        refine ⟨_, rfl, ?_⟩
        intro a ha
        refine S1 ha ?_; clear ha a; intro a ha
        refine LN <| TN <| WS <| WR ?_
        iterate 2 (refine S1 ha ?_; clear ha a; intro a ha)
        refine SK (st_set ha rfl (ex_neqB ha Tryz.underlying4) rfl ?_); clear ha a; intro a ha
        rw [bne_self_eq_false] at ha
        refine S1 ha ?_; clear ha a; intro a ha
        refine S1g (s := 81) ha ?_; clear ha a; intro a ha
        refine SK (st_call ha (wgT ha rfl (s := 81)) Ty.c16 rfl (shop_busy (hs.pick (All (ownK p adO cO tq jq sq) (ks2.set ky (k4, wb)))) (set_at hk)) ?_); clear ha hs
        rintro e w ⟨rfl, hs⟩
        refine ⟨_, rfl, ?_⟩
        intro a ha
        rw [hkb] at ha
        refine PF ha ?_; clear ha a; intro a ha
        refine LN <| TN <| WFa ha <| WK <| TN ?_
        exact ⟨A4, T2, J2, ks2.set ky (k4, wb), c2, ⟨by omega, hlk.set hk, hS4⟩, ha.keep [2, 3, 4, 5, 12, 13], hs.sub⟩
      ·
       clear ha; (try clear hs)
       intro a w hcut
       obtain ⟨A3, T3, J3, ks3, c3, ⟨hc3x, hlk3, hS3⟩, ha, hs⟩ := hcut
       refine wp_seq_cut (M := fun a w => ∃ (A5 : Sn) (T5 : Tr) (c5 : Nat), (c5 ≤ i * 2 + 2 ∧ Sure p t 20 c5 A5 T5 J3 (ks3.map (·.1))) ∧ Fr a 101 [(2, .slice (some ⟨bp, op, none⟩) len2 cap2), (3, .slice adp ((cutN 3 zs).map (·.2.2)).length cp), (4, .int .i64 a4), (5, .pointer (some ⟨b5, 0, none⟩)), (12, .pointer (some ⟨xb, 0, none⟩)), (13, .int .i64 i)] ∧ St W w (blk xb 38 (shopC sq tq jq adw ks.length cw 1) :: Sl 31 1 adw ks.length cw (ptrs ks) :: All (ownK p adO cO tq jq sq) ks3 :: Tree tq sq T5 :: Store sq r A5 :: RoP W p adO cO :: Jobs jq J3 :: blk b5 24 (prV p adO cO) :: Sl 47 1 adp ((cutN 3 zs).map (·.2.2)).length cp ((cutN 3 zs).map bbv) :: [])) ?_ ?_
       ·
        refine WS <| WR ?_
        refine S1 ha ?_; clear ha; (try clear a); intro a ha
        iterate 2 (refine S1 ha ?_; clear ha a; intro a ha)
        refine LN <| TN ?_
        refine WI ha (fun hc6 => ?_) (fun hc6 => ?_)
        ·
         have hA3 := (Store.facts (hs.store sq)).1
         have hep := hS3.ep
         refine WR ?_
         refine S1 ha ?_; clear ha; (try clear a); intro a ha
         iterate 2 (refine S1 ha ?_; clear ha a; intro a ha)
         refine SL ha (hs.rd1 rfl) ?_; clear ha a; intro a ha
         refine S1 ha ?_; clear ha a; intro a ha
         refine SK (st_call ha rfl Ty.c19 rfl (tree_prune (frm := 0) (ad2 := adp) (c2 := cp) (p := (cutN 3 zs).map (fun x : BBx => x.2.2)) ((hs.store sq).tree tq) (by omega) (fun w' h => by
           have h1 := (RdX.sl2 h adp (List.length_map ..).symm (cutN_rd (hzs.rdP h).1.2)).bb
           rwa [show (cutN 3 zs).length = ((cutN 3 zs).map (·.2.2)).length from (List.length_map ..).symm] at h1) hcp (cutN_ok _ (by decide))) ?_); clear ha hs
         rintro e w ⟨rfl, hs⟩
         refine ⟨_, rfl, ?_⟩
         intro a ha
         refine LN <| TN ?_
         exact ⟨A3.dropAll (T3.l.filter (pruneP 0 ((cutN 3 zs).map (fun x : BBx => x.2.2)))), T3.cut (pruneP 0 ((cutN 3 zs).map (fun x : BBx => x.2.2))), c3 + 1, ⟨by omega, hS3.cut hA3 _⟩, ha.keep [2, 3, 4, 5, 12, 13], hs.sub⟩
        ·
         refine WK <| TN ?_
         exact ⟨A3, T3, c3, ⟨by omega, hS3⟩, ha.keep [2, 3, 4, 5, 12, 13], hs.sub⟩
       ·
        clear ha; (try clear hs)
        intro a w hcut
        obtain ⟨A5, T5, c5, ⟨hc5x, hS5⟩, ha, hs⟩ := hcut
        refine WS <| WR ?_
        refine S1 ha ?_; clear ha; (try clear a); intro a ha
        refine SK (st_set ha rfl (ex_loadN ha Tryz.underlying24 rfl Ty.t24 (hs.rdAll)) rfl ?_); clear ha a; intro a ha
        refine SK (st_call ha rfl Ty.c14 rfl (right_any (ks0 := ks) hs hlk3 hS5 hpr hz1 (by omega)) ?_); clear ha hs
        rintro e w ⟨rfl, hs⟩
        refine ⟨_, rfl, ?_⟩
        intro a ha
        refine S1 ha ?_; clear ha a; intro a ha
        refine LN <| TN <| WFa ha <| WK <| BN <| TN <| WR ?_
        refine S1 ha ?_; clear ha a; intro a ha
        refine SK (st_set ha rfl (ex_addI ha (by omega) (by omega)) rfl ?_); clear ha a; intro a ha
        refine S1d ha ?_; clear ha a; intro a ha
        refine LN <| TN ?_
        exact ⟨len2 - (i + 1), by omega, i + 1, A5, T5, J3, ks3, c5, ⟨rfl, by omega, by omega, by omega, hlk3, hS5⟩, ha.keep [2, 3, 4, 5, 12, 13], hs.sub⟩
     ·
      refine wp_exit <| TE <| TE <| blk_e <| TN <| WS <| WR ?_
      refine S1 ha ?_; clear ha; (try clear a); intro a ha
      refine SK (st_set ha rfl (ex_loadN ha Tryz.underlying24 rfl Ty.t24 (hs.rdAll)) rfl ?_); clear ha a; intro a ha
      refine SK (st_call ha rfl Ty.c14 rfl (right_any (ks0 := ks) (L := Jobs jq J2 :: blk b5 24 (prV p adO cO) :: Sl 47 1 adp ((cutN 3 zs).map (·.2.2)).length cp ((cutN 3 zs).map bbv) :: []) (hs.sub (M := blk xb 38 (shopC sq tq jq adw ks.length cw 1) :: Sl 31 1 adw ks.length cw (ptrs ks) :: All (ownK p adO cO tq jq sq) ks2 :: Tree tq sq T2 :: Store sq r A2 :: RoP W p adO cO :: Jobs jq J2 :: blk b5 24 (prV p adO cO) :: Sl 47 1 adp ((cutN 3 zs).map (·.2.2)).length cp ((cutN 3 zs).map bbv) :: [])) hlk hS2 hpr hz1 (by omega)) ?_); clear ha hs
      rintro e w ⟨rfl, hs⟩
      refine ⟨_, rfl, ?_⟩
      intro a ha
      refine S1 ha ?_; clear ha a; intro a ha
      refine LN <| TN <| wp_ret ?_
      refine ret1 ha rfl ?_
      exact ⟨rfl, hs.below⟩
    ·
     refine SO (s := 37) ha ?_; clear ha; (try clear a); intro a ha
     refine SO (s := 37) ha ?_; clear ha a; intro a ha
     refine PF ha ?_; clear ha a; intro a ha
     refine LN <| TN <| WFa ha <| wp_exit <| TE <| TE <| blk_e <| TN <| WS <| WR ?_
     refine S1 ha ?_; clear ha a; intro a ha
     refine SK (st_set ha rfl (ex_loadN ha Tryz.underlying24 rfl Ty.t24 (hs.rdAll)) rfl ?_); clear ha a; intro a ha
     refine SK (st_call ha rfl Ty.c14 rfl (right_any (ks0 := ks) (L := Jobs jq J2 :: blk b5 24 (prV p adO cO) :: Sl 47 1 adp ((cutN 3 zs).map (·.2.2)).length cp ((cutN 3 zs).map bbv) :: []) (hs.sub (M := blk xb 38 (shopC sq tq jq adw ks.length cw 1) :: Sl 31 1 adw ks.length cw (ptrs ks) :: All (ownK p adO cO tq jq sq) ks2 :: Tree tq sq T2 :: Store sq r A2 :: RoP W p adO cO :: Jobs jq J2 :: blk b5 24 (prV p adO cO) :: Sl 47 1 adp ((cutN 3 zs).map (·.2.2)).length cp ((cutN 3 zs).map bbv) :: [])) hlk hS2 hpr hz1 (by omega)) ?_); clear ha hs
     rintro e w ⟨rfl, hs⟩
     refine ⟨_, rfl, ?_⟩
     intro a ha
     refine S1 ha ?_; clear ha a; intro a ha
     refine LN <| TN <| wp_ret ?_
     refine ret1 ha rfl ?_
     exact ⟨rfl, hs.below⟩
end Go.Proofs.YtneafbkhaooelaaGreat

