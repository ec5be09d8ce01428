/- WorkEnds. -/
import Derived.Test.YtneafbkhaooelaaGreatWorkG
namespace Go.Proofs.YtneafbkhaooelaaGreat
open Go.RowKit
set_option linter.unusedVariables false
set_option linter.unusedSimpArgs false
set_option maxRecDepth 10000
set_option synthInstance.maxSize 4000
set_option synthInstance.maxHeartbeats 400000

theorem cutP_ok (p : Pr) : (cutP 30 p).title.size ≤ 1000000000 ∧ (cutP 30 p).ops.length ≤ 1000000000 := by
  have := cutT_le p.title 40
  exact ⟨by simp only [cutP]; omega, by simp only [cutP, List.length_take]; omega⟩
theorem workEnds_walk (pr : Pr) (adO : Option Addr) (cO : Nat) (a1 : Option Addr) (len1 cap1 : Nat) (a2 : Int) (W : World) (w0 : ArgProg W pr adO cO) (w1 : len1 ≤ 9223372036854775807 ∧ ∃ ys : List BBBx, ys.length = len1 ∧ ArgBBB W a1 ys) (w2 : (Lit.int .i64 a2).wf = true) :
    Calls Tryz.prog 3 #[.agg (prV pr adO cO).toArray, .slice a1 len1 cap1, .int .i64 a2] W fun e w' => e = .returned (.bool true) ∧ Below W.heap.size W w' := by
  have hs := St.start W
  obtain ⟨hl1, ys, rfl, hy⟩ := w1
  obtain ⟨hz1, hz2⟩ := cutP_ok pr
  refine calls_enter Tryz.func3 rfl Tryz.ntmps3 (Nat.le_of_ble_eq_true rfl) ?_
  intro a ha
  replace ha : Fr a 92 [(0, _), (1, _), (2, _)] := ha
  refine WS <| WR ?_
  refine SK (st_box ha rfl hs rfl ?_); clear ha hs a; (try clear w); intro b3 a w ha hs ho
  clear ho
  change St W w (blk b3 24 (prV pr adO cO) :: _) at hs
  refine S1 ha ?_; clear ha a; intro a ha
  refine LN <| TN <| WS <| WR ?_
  refine SK (st_call ha rfl Ty.c8 rfl (begun25 hs) ?_); clear ha hs
  rintro e w ⟨rfl, hs⟩
  refine ⟨_, rfl, ?_⟩
  intro a ha
  refine S1 ha ?_; clear ha a; intro a ha
  refine LN <| TN <| WS <| WS <| WR ?_
  iterate 2 (refine S1 ha ?_; clear ha a; intro a ha)
  refine LN <| TN <| WFa ha <| WK <| TN <| WS <| WR ?_
  refine SK (st_set ha rfl (ex_loadN ha Tryz.underlying24 rfl Ty.t24 (hs.rdAll)) rfl ?_); clear ha a; intro a ha
  refine SK (st_call ha rfl Ty.c9 rfl (cut5_spec (K := 30) (w0.ro hs)) ?_); clear ha hs
  rintro e w ⟨rfl, hs⟩
  refine ⟨_, rfl, ?_⟩
  intro a ha
  refine SK (st_storeAll ha rfl hs Ty.t24 (prV_one _ _ _) (by rfl) ?_); clear ha hs a; (try clear w); intro a w ha hs
  refine LN <| TN <| WS <| WS ?_
  generalize cutP 30 pr = p at hs ha hz1 hz2
  refine WR ?_
  refine SK (st_set ha rfl (ex_loadN ha Tryz.underlying24 rfl Ty.t24 (hs.rdAll)) rfl ?_); clear ha a; intro a ha
  refine SK (st_call ha rfl Ty.c10 rfl (refFault_spec (hs.pick (RoP W p adO cO)) hz1 hz2) ?_); clear ha hs
  rintro e w ⟨rf, rfl, hrf, hs⟩
  refine ⟨_, rfl, ?_⟩
  intro a ha
  iterate 2 (refine S1 ha ?_; clear ha a; intro a ha)
  refine ha.by (s := 22) (fun hg3 ha => ?_) (fun hg3 ha => ?_)
  ·
   refine SO (s := 22) ha ?_; clear ha; (try clear a); intro a ha
   refine SO (s := 22) ha ?_; clear ha a; intro a ha
   refine PT ha ?_; clear ha a; intro a ha
   refine S1 ha ?_; clear ha a; intro a ha
   iterate 2 (refine SO (s := 26) ha ?_; clear ha a; intro a ha)
   refine PT ha ?_; clear ha a; intro a ha
   refine LN <| TN <| WTr ha <| WS <| WR ?_
   refine S1d ha ?_; clear ha a; intro a ha
   refine LN <| TN <| wp_ret <| TR ?_
   refine ret1 ha rfl ?_
   exact ⟨rfl, hs.below⟩
  ·
   refine S1g (s := 22) ha ?_; clear ha; (try clear a); intro a ha
   refine S1g (s := 22) ha ?_; clear ha a; intro a ha
   refine PF ha ?_; clear ha a; intro a ha
   refine S1 ha ?_; clear ha a; intro a ha
   refine ha.by (s := 26) (fun hg7 ha => ?_) (fun hg7 ha => ?_)
   ·
    refine SO (s := 26) ha ?_; clear ha; (try clear a); intro a ha
    refine SO (s := 26) ha ?_; clear ha a; intro a ha
    refine PT ha ?_; clear ha a; intro a ha
    refine LN <| TN <| WTr ha <| WS <| WR ?_
    refine S1d ha ?_; clear ha a; intro a ha
    refine LN <| TN <| wp_ret <| TR ?_
    refine ret1 ha rfl ?_
    exact ⟨rfl, hs.below⟩
   ·
    refine S1g (s := 26) ha ?_; clear ha; (try clear a); intro a ha
    refine S1g (s := 26) ha ?_; clear ha a; intro a ha
    refine PF ha ?_; clear ha a; intro a ha
    refine LN <| TN ?_
    refine WI ha (fun hc1 => ?_) (fun hc1 => ?_)
    ·
     refine WS <| WR ?_
     refine S1d ha ?_; clear ha; (try clear a); intro a ha
     refine LN <| TN <| wp_ret <| TR ?_
     refine ret1 ha rfl ?_
     exact ⟨rfl, hs.below⟩
    ·
     refine WK <| TN <| WS ?_
     have hpr := hrf.1 hg3
     obtain ⟨nw, rfl⟩ := Int.eq_ofNat_of_zero_le (show 0 ≤ a2 by omega)
     have hnw : 0 < nw := by omega
     refine WR ?_
     refine SK (st_set ha rfl (ex_loadN ha Tryz.underlying24 rfl Ty.t24 (hs.rdAll)) rfl ?_); clear ha; (try clear a); intro a ha
     iterate 2 (refine S1 ha ?_; clear ha a; intro a ha)
     refine SK (st_call ha rfl Ty.c11 rfl (made_spec (p := p) (room := 30) (nw := nw) (ys := ys) (hs.pick (RoP W p adO cO)) (fun w' h => hy.rd h) (by decide) (by omega) hl1) ?_); clear ha hs
     rintro e w ⟨xb, sq, r, tq, jq, adw, cw, ks, A, T, J, t, rfl, ⟨hkl, hap, hfr⟩, hs⟩
     refine ⟨_, rfl, ?_⟩
     intro a ha
     refine S1 ha ?_; clear ha a; intro a ha
     refine LN ?_
     obtain ⟨N, hN, hfm⟩ := hfr.firm (by omega)
     clear hfr
     subst hkl
     refine TN <| WS <| WS <| WR ?_
     iterate 2 (refine S1 ha ?_; clear ha a; intro a ha)
     refine LN <| TN <| WFa ha <| WK <| TN <| WS <| WS <| WR ?_
     refine S1 ha ?_; clear ha a; intro a ha
     refine LN <| TN <| wp_block ?_
     refine wp_loop_ghost (fun μ a w => ∃ (i : Nat) (A2 : Sn) (T2 : Tr) (J2 : Js) (ks2 : List Kx) (N2 c2 : Nat), (μ = 200 - i ∧ i ≤ 200 ∧ N2 + i ≤ 90 ∧ c2 ≤ i * 4 ∧ Like ks2 ks ∧ Firm p t 30 c2 N2 (((prs ys).take (min ys.length 6)).foldl addB []) A2 T2 J2 (ks2.map (·.1))) ∧ Fr a 92 [(2, .int .i64 ks.length), (3, .pointer (some ⟨b3, 0, none⟩)), (8, .pointer (some ⟨xb, 0, none⟩)), (9, .int .i64 i)] ∧ St W w (blk xb 38 (shopC sq tq jq adw ks.length cw 1) :: Sl 31 1 adw ks.length cw (ptrs ks) :: All (ownK p adO cO tq jq sq) ks2 :: Tree tq sq T2 :: Store sq r A2 :: Jobs jq J2 :: RoP W p adO cO :: blk b3 24 (prV p adO cO) :: [])) (200) ?_ ?_
     · exact ⟨0, A, T, J, ks, N, 0, ⟨rfl, by omega, by omega, by omega, Like.refl _, hfm⟩, ha.keep [2, 3, 8, 9], hs.sub⟩
     ·
      clear ha hs
      rintro μ a w ⟨i, A2, T2, J2, ks2, N2, c2, ⟨rfl, hi, hN2, hc2x, hlk, hfm2⟩, ha, hs⟩
      refine WS <| WS <| WR ?_
      refine S1 ha ?_; clear ha; (try clear a); intro a ha
      refine S1 ha ?_; clear ha a; intro a ha
      refine LN <| TN ?_
      refine WI ha (fun hc3 => ?_) (fun hc3 => ?_)
      ·
       refine WK <| TN <| WS <| wp_block <| WS <| WR ?_
       refine S1 ha ?_; clear ha; (try clear a); intro a ha
       refine LN <| TN <| WS <| WS <| WR ?_
       refine S1 ha ?_; clear ha a; intro a ha
       refine LN <| TN <| wp_block ?_
       refine wp_loop_ghost (fun μ a w => ∃ (m : Nat) (A3 : Sn) (T3 : Tr) (J3 : Js) (ks3 : List Kx) (z : Bool) (N3 c3 : Nat), (μ = ks.length - m ∧ m ≤ ks.length ∧ c3 = c2 + m ∧ Like ks3 ks ∧ Firm p t 30 c3 N3 (((prs ys).take (min ys.length 6)).foldl addB []) A3 T3 J3 (ks3.map (·.1)) ∧ Rnd z N2 N3 m J3 (ks3.map (·.1))) ∧ Fr a 92 [(2, .int .i64 ks.length), (3, .pointer (some ⟨b3, 0, none⟩)), (8, .pointer (some ⟨xb, 0, none⟩)), (9, .int .i64 i), (10, .bool z), (11, .int .i64 m)] ∧ St W w (blk xb 38 (shopC sq tq jq adw ks.length cw 1) :: Sl 31 1 adw ks.length cw (ptrs ks) :: All (ownK p adO cO tq jq sq) ks3 :: Tree tq sq T3 :: Store sq r A3 :: Jobs jq J3 :: RoP W p adO cO :: blk b3 24 (prV p adO cO) :: [])) (ks.length) ?_ ?_
       · exact ⟨0, A2, T2, J2, ks2, false, N2, c2, ⟨rfl, by omega, by omega, hlk, hfm2, Rnd.begin⟩, ha.keep [2, 3, 8, 9, 10, 11], hs.sub⟩
       ·
        clear ha hs
        rintro μ a w ⟨m, A3, T3, J3, ks3, z, N3, c3, ⟨rfl, hm, hc3x, hlk3, hfm3, hrd⟩, ha, hs⟩
        refine WS <| WS <| WR ?_
        refine S1 ha ?_; clear ha; (try clear a); intro a ha
        iterate 2 (refine S1 ha ?_; clear ha a; intro a ha)
        refine LN <| TN ?_
        refine WI ha (fun hc4 => ?_) (fun hc4 => ?_)
        ·
         obtain ⟨k, wb, hk, hpt⟩ := hlk3.at (i := m) (by omega)
         obtain ⟨bw, ow, rfl, hrw⟩ := hs.slRd adw (by omega)
         have hcw := hrw m _ hpt
         refine WK <| TN <| WS <| wp_block <| WR ?_
         refine S1 ha ?_; clear ha; (try clear a); intro a ha
         iterate 2 (refine S1 ha ?_; clear ha a; intro a ha)
         refine SL ha (hs.rd1 rfl) ?_; clear ha a; intro a ha
         refine S1 ha ?_; clear ha a; intro a ha
         refine SK (st_set ha rfl (ex_indexAddr ha Tryz.underlying35 Ty.t31 (by omega)) rfl ?_); clear ha a; intro a ha
         rw [Nat.mul_one] at ha
         refine SL ha (hcw) ?_; clear ha a; intro a ha
         refine SK (st_call ha rfl Ty.c12 rfl (firm_step (L := blk xb 38 (shopC sq tq jq (some ⟨bw, ow, none⟩) ks.length cw 1) :: Sl 31 1 (some ⟨bw, ow, none⟩) ks.length cw (ptrs ks) :: blk b3 24 (prV p adO cO) :: []) (hs.sub (M := All (ownK p adO cO tq jq sq) ks3 :: Tree tq sq T3 :: Store sq r A3 :: Jobs jq J3 :: RoP W p adO cO :: blk xb 38 (shopC sq tq jq (some ⟨bw, ow, none⟩) ks.length cw 1) :: Sl 31 1 (some ⟨bw, ow, none⟩) ks.length cw (ptrs ks) :: blk b3 24 (prV p adO cO) :: [])) hk hfm3 (by decide) (by rw [hlk3.1]; omega) hpr hz1 (by omega)) ?_); clear ha hs
         rintro e w ⟨z1, A4, T4, J4, k4, N4, rfl, ⟨hfm4, hd⟩, hs⟩
         refine ⟨_, rfl, ?_⟩
         intro a ha
         refine S1 ha ?_; clear ha a; intro a ha
         refine ha.by (s := 53) (fun hg8 ha => ?_) (fun hg8 ha => ?_)
         ·
          refine SO (s := 53) ha ?_; clear ha; (try clear a); intro a ha
          refine PT ha ?_; clear ha a; intro a ha
          refine S1d ha ?_; clear ha a; intro a ha
          refine LN <| BN <| TN <| WR ?_
          refine S1 ha ?_; clear ha a; intro a ha
          refine SK (st_set ha rfl (ex_addI ha (by omega) (by omega)) rfl ?_); clear ha a; intro a ha
          refine S1d ha ?_; clear ha a; intro a ha
          refine LN <| TN ?_
          exact ⟨ks.length - (m + 1), by omega, m + 1, A4, T4, J4, ks3.set m (k4, wb), true, N4, c3 + 1, ⟨rfl, by omega, by omega, hlk3.set hk, hfm4, by have := hrd.next hk hd; rw [hg8] at this; exact this⟩, ha.keep [2, 3, 8, 9, 10, 11], hs.sub⟩
         ·
          refine S1g (s := 53) ha ?_; clear ha; (try clear a); intro a ha
          refine PF ha ?_; clear ha a; intro a ha
          refine S1d ha ?_; clear ha a; intro a ha
          refine LN <| BN <| TN <| WR ?_
          refine S1 ha ?_; clear ha a; intro a ha
          refine SK (st_set ha rfl (ex_addI ha (by omega) (by omega)) rfl ?_); clear ha a; intro a ha
          refine S1d ha ?_; clear ha a; intro a ha
          refine LN <| TN ?_
          exact ⟨ks.length - (m + 1), by omega, m + 1, A4, T4, J4, ks3.set m (k4, wb), z, N4, c3 + 1, ⟨rfl, by omega, by omega, hlk3.set hk, hfm4, by have := hrd.next hk hd; rw [hg8] at this; exact this⟩, ha.keep [2, 3, 8, 9, 10, 11], hs.sub⟩
        ·
         refine wp_exit <| TE <| TE <| blk_e <| TN <| WS ?_
         obtain rfl : m = ks.length := by omega
         have hov := hrd.over hnw (by rw [List.length_map]; exact hlk3.1) hfm3 (Tree.wt (hs.tree tq))
         refine WR ?_
         refine S1 ha ?_; clear ha; (try clear a); intro a ha
         refine S1 ha ?_; clear ha a; intro a ha
         refine LN <| TN ?_
         refine WI ha (fun hc5 => ?_) (fun hc5 => ?_)
         ·
          obtain rfl : N3 = 0 := (hov.resolve_left (fun h => by rw [h.1] at hc5; cases hc5)).2
          obtain ⟨hJ3, hid, hdn⟩ := hfm3.over (Tree.wt (hs.tree tq))
          refine wp_exit <| blk_ne rfl <| TE <| TE <| blk_e <| TN <| WS <| WR ?_
          refine S1 ha ?_; clear ha; (try clear a); intro a ha
          iterate 2 (refine S1 ha ?_; clear ha a; intro a ha)
          refine SL ha (hs.rd1 rfl) ?_; clear ha a; intro a ha
          refine SK (st_call ha rfl Ty.c13 rfl (tree_all (hs.tree tq)) ?_); clear ha hs
          rintro e w ⟨adl, cl, rfl, hs⟩
          refine ⟨_, rfl, ?_⟩
          intro a ha
          refine S1 ha ?_; clear ha a; intro a ha
          refine LN <| TN <| WS <| WS ?_
          obtain ⟨xs, hx1, hx2, hs⟩ := OwnBr.open hs
          have hxl : xs.length = T3.l.length := by rw [← hx1, List.length_map]
          refine WR ?_
          refine S1 ha ?_; clear ha a; intro a ha
          refine LN ?_
          have hTm := (Tree.wt (hs.tree tq)).most
          refine TN <| wp_block ?_
          refine wp_loop_ghost (fun μ a w => ∃ (j : Nat), (μ = T3.l.length - j ∧ j ≤ T3.l.length) ∧ Fr a 92 [(3, .pointer (some ⟨b3, 0, none⟩)), (8, .pointer (some ⟨xb, 0, none⟩)), (12, .slice adl T3.l.length cl), (13, .int .i64 j)] ∧ St W w (Sl 43 5 adl T3.l.length cl (rows brc xs) :: All bro xs :: blk xb 38 (shopC sq tq jq adw ks.length cw 1) :: Sl 31 1 adw ks.length cw (ptrs ks) :: All (ownK p adO cO tq jq sq) ks3 :: Tree tq sq T3 :: Store sq r A3 :: Jobs jq J3 :: RoP W p adO cO :: blk b3 24 (prV p adO cO) :: [])) (T3.l.length) ?_ ?_
          · exact ⟨0, ⟨rfl, by omega⟩, ha.keep [3, 8, 12, 13], hs.sub⟩
          ·
           clear ha hs
           rintro μ a w ⟨j, ⟨rfl, hj⟩, ha, hs⟩
           refine WS <| WS <| WR ?_
           refine S1 ha ?_; clear ha; (try clear a); intro a ha
           iterate 3 (refine S1 ha ?_; clear ha a; intro a ha)
           refine LN <| TN ?_
           refine WI ha (fun hc6 => ?_) (fun hc6 => ?_)
           ·
            obtain ⟨⟨x, ax, cx⟩, hx⟩ : ∃ x, xs[j]? = some x := ⟨_, List.getElem?_eq_getElem (by omega)⟩
            have hxT : x ∈ T3.l := by rw [← hx1]; exact List.mem_map.2 ⟨_, List.mem_of_getElem? hx, rfl⟩
            have hdx := hdn x hxT
            obtain ⟨bl, ol, rfl, hrl⟩ := hs.slRd adl (by omega)
            have hrx := row_rd hrl hx
            clear hrl
            refine WK <| TN <| WS <| wp_block <| WS ?_
            replace hrx : Rd w.drew bl (ol + j * 5) (brC x ax cx) := hrx
            refine DW (m := 12) (fun w' => Rd w' bl (ol + j * 5) (brC x ax cx)) [9, 10] [0, 1, 2, 3, 5, 6, 7, 8, 4, 9, 10, 11] Ty.mixed (pk_then (pk_blk (pk_then (pk_then (pk_blk (pk_then pk_body)))))) (fun hpk => ?_)
            replace hs := hs.drew
            generalize w.drew = w at hs hpk hrx ⊢
            have hC : Rd w bl (ol + j * 5) (brC x ax cx) := hrx
            refine DP hpk ha rfl ?_; clear ha; (try clear a); intro a ha
            refine DP hpk ha rfl ?_; clear ha a; intro a ha
            refine DQ hpk ha rfl rfl (fun w => ex_indexAddr ha Tryz.underlying39 Ty.t43 (by omega)) ?_; clear ha a; intro a ha
            iterate 3 (refine DP hpk ha rfl ?_; clear ha a; intro a ha)
            refine DQ hpk ha rfl rfl (fun w => ex_indexAddr ha Tryz.underlying39 Ty.t43 (by omega)) ?_; clear ha a; intro a ha
            refine DP hpk ha rfl ?_; clear ha a; intro a ha
            refine DL hpk ha rfl (fun w hc => hc 3 _ rfl) hC ?_; clear ha a; intro a ha
            refine D1 rfl (st_set ha rfl (ex_load1 ha Tryz.underlying41 rfl (hC 2 _ rfl)) rfl ?_); clear ha a; intro a ha
            refine ⟨fun _ => hC, ?_⟩
            refine D1 rfl (st_set ha rfl (ex_len ha Tryz.underlying41) rfl ?_); clear ha a; intro a ha
            refine ⟨fun _ => hC, ?_⟩
            refine DP hpk ha rfl ?_; clear ha a; intro a ha
            refine DD <| TN ?_
            rw [decide_eq_false (by omega)] at ha
            refine WFa ha <| WK <| BN <| TN <| WR ?_
            refine S1 ha ?_; clear ha a; intro a ha
            refine SK (st_set ha rfl (ex_addI ha (by omega) (by omega)) rfl ?_); clear ha a; intro a ha
            refine S1d ha ?_; clear ha a; intro a ha
            refine LN <| TN ?_
            exact ⟨T3.l.length - (j + 1), by omega, j + 1, ⟨rfl, by omega⟩, ha.keep [3, 8, 12, 13], hs.sub⟩
           ·
            refine wp_exit <| TE <| TE <| blk_e <| TN <| WS <| WR ?_
            refine S1 ha ?_; clear ha; (try clear a); intro a ha
            refine SK (st_set ha rfl (ex_loadN ha Tryz.underlying24 rfl Ty.t24 (hs.rdAll)) rfl ?_); clear ha a; intro a ha
            refine SK (st_call ha rfl Ty.c14 rfl (right_any (ks0 := ks) (L := Jobs jq J3 :: blk b3 24 (prV p adO cO) :: []) (hs.sub (M := blk xb 38 (shopC sq tq jq adw ks.length cw 1) :: Sl 31 1 adw ks.length cw (ptrs ks) :: All (ownK p adO cO tq jq sq) ks3 :: Tree tq sq T3 :: Store sq r A3 :: RoP W p adO cO :: Jobs jq J3 :: blk b3 24 (prV p adO cO) :: [])) hlk3 hfm3.sure hpr hz1 (by omega)) ?_); clear ha hs
            rintro e w ⟨rfl, hs⟩
            refine ⟨_, rfl, ?_⟩
            intro a ha
            refine S1 ha ?_; clear ha a; intro a ha
            iterate 3 (refine S1g (s := 84) ha ?_; clear ha a; intro a ha)
            refine SLg (s := 84) ha (hs.rd1 rfl) ?_; clear ha a; intro a ha
            refine SK (st_call ha (wgT ha rfl (s := 84)) Ty.c15 rfl (len_jobs (hs.jobs jq)) ?_); clear ha hs
            rintro e w ⟨rfl, hs⟩
            refine ⟨_, rfl, ?_⟩
            intro a ha
            rw [hJ3] at ha
            refine S1g (s := 84) ha ?_; clear ha a; intro a ha
            rw [decide_eq_true (by rfl)] at ha
            refine PT ha ?_; clear ha a; intro a ha
            refine S1 ha ?_; clear ha a; intro a ha
            refine LN <| TN <| wp_ret ?_
            refine ret1 ha rfl ?_
            exact ⟨rfl, hs.below⟩
         ·
          have hN3 := (hov.resolve_right (fun h => by rw [h.1] at hc5; cases hc5)).2
          refine WK <| BN <| TN <| WR ?_
          refine S1 ha ?_; clear ha; (try clear a); intro a ha
          refine SK (st_set ha rfl (ex_addI ha (by omega) (by omega)) rfl ?_); clear ha a; intro a ha
          refine S1d ha ?_; clear ha a; intro a ha
          refine LN <| TN ?_
          exact ⟨200 - (i + 1), by omega, i + 1, A3, T3, J3, ks3, N3, c3, ⟨rfl, by omega, by omega, by omega, hlk3, hfm3⟩, ha.keep [2, 3, 8, 9], hs.sub⟩
      ·
       exfalso; omega
end Go.Proofs.YtneafbkhaooelaaGreat

