/- WorkGone. -/
import Derived.Test.YtneafbkhaooelaaGreatWorkR
namespace Go.Proofs.YtneafbkhaooelaaGreat
open Go.RowKit
set_option linter.unusedVariables false
set_option linter.unusedSimpArgs false
set_option maxRecDepth 10000
set_option synthInstance.maxSize 4000
set_option synthInstance.maxHeartbeats 400000

theorem workGone_walk (pr : Pr) (adO : Option Addr) (cO : Nat) (a1 : Int) (W : World) (w0 : ArgProg W pr adO cO) (w1 : (Lit.int .i64 a1).wf = true) :
    Calls Tryz.prog 7 #[.agg (prV pr adO cO).toArray, .int .i64 a1] W fun e w' => e = .returned (.bool true) ∧ Below W.heap.size W w' := by
  have hs := St.start W
  obtain ⟨hz1, hz2⟩ := cutP_ok pr
  refine calls_enter Tryz.func7 rfl Tryz.ntmps7 (Nat.le_of_ble_eq_true rfl) ?_
  intro a ha
  replace ha : Fr a 96 [(0, _), (1, _)] := ha
  refine WS <| WR ?_
  refine SK (st_box ha rfl hs rfl ?_); clear ha hs a; (try clear w); intro b2 a w ha hs ho
  clear ho
  change St W w (blk b2 24 (prV pr adO cO) :: _) at hs
  refine S1 ha ?_; clear ha a; intro a ha
  refine LN <| TN <| WS <| WR ?_
  refine SK (st_call ha rfl Ty.c8 rfl (begun25 hs) ?_); clear ha hs
  rintro e w ⟨rfl, hs⟩
  refine ⟨_, rfl, ?_⟩
  intro a ha
  refine S1 ha ?_; clear ha a; intro a ha
  refine LN <| TN <| WS <| WS <| WR ?_
  iterate 2 (refine S1 ha ?_; clear ha a; intro a ha)
  refine LN <| TN <| WFa ha <| WK <| TN <| WS <| WR ?_
  refine SK (st_set ha rfl (ex_loadN ha Tryz.underlying24 rfl Ty.t24 (hs.rdAll)) rfl ?_); clear ha a; intro a ha
  refine SK (st_call ha rfl Ty.c9 rfl (cut5_spec (K := 30) (w0.ro hs)) ?_); clear ha hs
  rintro e w ⟨rfl, hs⟩
  refine ⟨_, rfl, ?_⟩
  intro a ha
  refine SK (st_storeAll ha rfl hs Ty.t24 (prV_one _ _ _) (by rfl) ?_); clear ha hs a; (try clear w); intro a w ha hs
  refine LN <| TN <| WS <| WS ?_
  generalize cutP 30 pr = p at hs ha hz1 hz2
  refine WR ?_
  refine SK (st_set ha rfl (ex_loadN ha Tryz.underlying24 rfl Ty.t24 (hs.rdAll)) rfl ?_); clear ha a; intro a ha
  refine SK (st_call ha rfl Ty.c10 rfl (refFault_spec (hs.pick (RoP W p adO cO)) hz1 hz2) ?_); clear ha hs
  rintro e w ⟨rf, rfl, hrf, hs⟩
  refine ⟨_, rfl, ?_⟩
  intro a ha
  iterate 2 (refine S1 ha ?_; clear ha a; intro a ha)
  refine ha.by (s := 17) (fun hg3 ha => ?_) (fun hg3 ha => ?_)
  ·
   refine SO (s := 17) ha ?_; clear ha; (try clear a); intro a ha
   refine SO (s := 17) ha ?_; clear ha a; intro a ha
   refine PT ha ?_; clear ha a; intro a ha
   refine S1 ha ?_; clear ha a; intro a ha
   iterate 2 (refine SO (s := 21) ha ?_; clear ha a; intro a ha)
   refine PT ha ?_; clear ha a; intro a ha
   refine LN <| TN <| WTr ha <| WS <| WR ?_
   refine S1d ha ?_; clear ha a; intro a ha
   refine LN <| TN <| wp_ret <| TR ?_
   refine ret1 ha rfl ?_
   exact ⟨rfl, hs.below⟩
  ·
   refine S1g (s := 17) ha ?_; clear ha; (try clear a); intro a ha
   refine S1g (s := 17) ha ?_; clear ha a; intro a ha
   refine PF ha ?_; clear ha a; intro a ha
   refine S1 ha ?_; clear ha a; intro a ha
   refine ha.by (s := 21) (fun hg7 ha => ?_) (fun hg7 ha => ?_)
   ·
    refine SO (s := 21) ha ?_; clear ha; (try clear a); intro a ha
    refine SO (s := 21) ha ?_; clear ha a; intro a ha
    refine PT ha ?_; clear ha a; intro a ha
    refine LN <| TN <| WTr ha <| WS <| WR ?_
    refine S1d ha ?_; clear ha a; intro a ha
    refine LN <| TN <| wp_ret <| TR ?_
    refine ret1 ha rfl ?_
    exact ⟨rfl, hs.below⟩
   ·
    refine S1g (s := 21) ha ?_; clear ha; (try clear a); intro a ha
    refine S1g (s := 21) ha ?_; clear ha a; intro a ha
    refine PF ha ?_; clear ha a; intro a ha
    refine LN <| TN ?_
    refine WI ha (fun hc1 => ?_) (fun hc1 => ?_)
    ·
     refine WS <| WR ?_
     refine S1d ha ?_; clear ha; (try clear a); intro a ha
     refine LN <| TN <| wp_ret <| TR ?_
     refine ret1 ha rfl ?_
     exact ⟨rfl, hs.below⟩
    ·
     refine WK <| TN <| WS ?_
     have hpr := hrf.1 hg3
     obtain ⟨bits, rfl⟩ := Int.eq_ofNat_of_zero_le (show 0 ≤ a1 by omega)
     refine WR ?_
     refine SK (st_set ha rfl (ex_loadN ha Tryz.underlying24 rfl Ty.t24 (hs.rdAll)) rfl ?_); clear ha; (try clear a); intro a ha
     refine SK (st_buildSlice ha rfl hs Tryz.underlying47 Ty.t5 rfl rfl rfl rfl (by decide) (by decide) ?_); clear ha hs a; (try clear w); intro b26 a w ha hs ho
     clear ho
     refine SK (st_buildSlice ha rfl hs Tryz.underlying47 Ty.t5 rfl rfl rfl rfl (by decide) (by decide) ?_); clear ha hs a; (try clear w); intro b27 a w ha hs ho
     clear ho
     refine SK (st_buildSlice ha rfl hs Tryz.underlying41 Ty.t47 rfl rfl rfl rfl (by decide) (by decide) ?_); clear ha hs a; (try clear w); intro b28 a w ha hs ho
     clear ho
     refine SK (st_buildSlice ha rfl hs Tryz.underlying25 Ty.t41 rfl rfl rfl rfl (by decide) (by decide) ?_); clear ha hs a; (try clear w); intro b29 a w ha hs ho
     clear ho
     refine SK (st_call ha rfl Ty.c11 rfl (made_spec (p := p) (room := 10) (nw := 1) (ys := [(some ⟨b28, 0, none⟩, 2, [(some ⟨b26, 0, none⟩, 2, [1, 2]), (some ⟨b27, 0, none⟩, 2, [3, 4])])]) (ad := some ⟨b29, 0, none⟩) (c := 1) (hs.pick (RoP W p adO cO)) (fun w' h => ⟨fun _ => ⟨b29, 0, rfl, h.rdAll⟩, fun x hx => by
       simp at hx
       subst hx
       exact ⟨⟨fun _ => ⟨b28, 0, rfl, h.rdAll⟩, fun z hz => by
         simp at hz
         rcases hz with rfl | rfl
         · exact rdb_blk (b := b26) h rfl rfl
         · exact rdb_blk (b := b27) h rfl rfl⟩, by simp⟩⟩) (by decide) (by decide) (by simp)) ?_); clear ha hs
     rintro e w ⟨xb, sq, r, tq, jq, adw, cw, ks, A, T, J, t, rfl, ⟨hkl, hap, hfr⟩, hs⟩
     refine ⟨_, rfl, ?_⟩
     intro a ha
     refine S1 ha ?_; clear ha a; intro a ha
     refine LN ?_
     have hS := hfr.sure (by simp)
     clear hfr
     refine TN <| WS <| WS <| WR ?_
     iterate 2 (refine S1 ha ?_; clear ha a; intro a ha)
     refine LN <| TN <| WFa ha <| WK <| TN <| WS <| WS <| WR ?_
     refine S1 ha ?_; clear ha a; intro a ha
     refine LN <| TN <| wp_block ?_
     refine wp_loop_ghost (fun μ a w => ∃ (i : Nat) (A2 : Sn) (T2 : Tr) (J2 : Js) (ks2 : List Kx), (μ = bits - i ∧ i ≤ bits ∧ Like ks2 ks ∧ Sure p t 10 i A2 T2 J2 (ks2.map (·.1))) ∧ Fr a 96 [(1, .int .i64 bits), (6, .pointer (some ⟨xb, 0, none⟩)), (7, .int .i64 i)] ∧ St W w (blk xb 38 (shopC sq tq jq adw ks.length cw 1) :: Sl 31 1 adw ks.length cw (ptrs ks) :: All (ownK p adO cO tq jq sq) ks2 :: Tree tq sq T2 :: Store sq r A2 :: Jobs jq J2 :: RoP W p adO cO :: [])) (bits) ?_ ?_
     · exact ⟨0, A, T, J, ks, ⟨rfl, by omega, Like.refl _, hS⟩, ha.keep [1, 6, 7], hs.sub⟩
     ·
      clear ha hs
      rintro μ a w ⟨i, A2, T2, J2, ks2, ⟨rfl, hi, hlk, hS2⟩, ha, hs⟩
      refine WS <| WS <| WR ?_
      refine S1 ha ?_; clear ha; (try clear a); intro a ha
      iterate 2 (refine S1 ha ?_; clear ha a; intro a ha)
      refine LN <| TN ?_
      refine WI ha (fun hc3 => ?_) (fun hc3 => ?_)
      ·
       obtain ⟨k, wb, hk, hpt⟩ := hlk.at (i := 0) (by omega)
       obtain ⟨bw, ow, rfl, hrw⟩ := hs.slRd adw (by omega)
       have hcw := hrw 0 _ hpt
       refine WK <| TN <| WS <| wp_block <| WR ?_
       refine S1 ha ?_; clear ha; (try clear a); intro a ha
       iterate 2 (refine S1 ha ?_; clear ha a; intro a ha)
       refine SL ha (hs.rd1 rfl) ?_; clear ha a; intro a ha
       refine SK (st_set ha rfl (ex_indexAddr ha Tryz.underlying35 Ty.t31 (by omega)) rfl ?_); clear ha a; intro a ha
       rw [Nat.zero_mul] at ha
       refine SL ha (hcw) ?_; clear ha a; intro a ha
       refine SK (st_call ha rfl Ty.c12 rfl (sure_step (L := blk xb 38 (shopC sq tq jq (some ⟨bw, ow, none⟩) ks.length cw 1) :: Sl 31 1 (some ⟨bw, ow, none⟩) ks.length cw (ptrs ks) :: []) (hs.sub (M := All (ownK p adO cO tq jq sq) ks2 :: Tree tq sq T2 :: Store sq r A2 :: Jobs jq J2 :: RoP W p adO cO :: blk xb 38 (shopC sq tq jq (some ⟨bw, ow, none⟩) ks.length cw 1) :: Sl 31 1 (some ⟨bw, ow, none⟩) ks.length cw (ptrs ks) :: [])) hk hS2 hpr hz1 (by omega)) ?_); clear ha hs
       rintro e w ⟨z1, A4, T4, J4, k4, rfl, ⟨hbit, hS4, hl4⟩, hs⟩
       refine ⟨_, rfl, ?_⟩
       intro a ha
       refine LN <| BN <| TN <| WR ?_
       refine S1 ha ?_; clear ha a; intro a ha
       refine SK (st_set ha rfl (ex_addI ha (by omega) (by omega)) rfl ?_); clear ha a; intro a ha
       refine S1d ha ?_; clear ha a; intro a ha
       refine LN <| TN ?_
       exact ⟨bits - (i + 1), by omega, i + 1, A4, T4, J4, ks2.set 0 (k4, wb), ⟨rfl, by omega, hlk.set hk, hS4⟩, ha.keep [1, 6, 7], hs.sub⟩
      ·
       refine wp_exit <| TE <| TE <| blk_e <| TN <| WS ?_
       have hep := hS2.ep
       have hA2 := (Store.facts (hs.store sq)).1
       have hcut := hS2.cut hA2 (fun _ => true)
       rw [show T2.l.filter (fun _ => true) = T2.l from List.filter_eq_self.2 (fun _ _ => rfl)] at hcut
       have hTl : (T2.cut fun _ => true).l = [] := by simp [Tr.cut]
       refine WR ?_
       refine S1 ha ?_; clear ha; (try clear a); intro a ha
       iterate 2 (refine S1 ha ?_; clear ha a; intro a ha)
       refine SL ha (hs.rd1 rfl) ?_; clear ha a; intro a ha
       refine SK (st_call ha rfl Ty.c20 rfl (tree_clear ((hs.store sq).tree tq) (by omega)) ?_); clear ha hs
       rintro e w ⟨rfl, hs⟩
       refine ⟨_, rfl, ?_⟩
       intro a ha
       refine LN ?_
       generalize A2.dropAll T2.l = A5 at hs hcut
       generalize (T2.cut fun _ => true) = T5 at hs hcut hTl
       refine TN <| WS <| WS <| WR ?_
       refine S1 ha ?_; clear ha a; intro a ha
       refine LN <| TN <| wp_block ?_
       refine wp_loop_ghost (fun μ a w => ∃ (m : Nat) (A3 : Sn) (J3 : Js) (ks3 : List Kx), (μ = 3 - m ∧ m ≤ 3 ∧ Like ks3 ks ∧ Sure p t 10 (i + 1 + m) A3 T5 J3 (ks3.map (·.1)) ∧ ∀ j k, j < m → (ks3.map (·.1))[j]? = some k → k.busy = false) ∧ Fr a 96 [(6, .pointer (some ⟨xb, 0, none⟩)), (8, .int .i64 m)] ∧ St W w (blk xb 38 (shopC sq tq jq adw ks.length cw 1) :: Sl 31 1 adw ks.length cw (ptrs ks) :: All (ownK p adO cO tq jq sq) ks3 :: Tree tq sq T5 :: Store sq r A3 :: Jobs jq J3 :: RoP W p adO cO :: [])) (3) ?_ ?_
       · exact ⟨0, A5, J2, ks2, ⟨rfl, by omega, hlk, hcut, fun j k h => by omega⟩, ha.keep [6, 8], hs.sub⟩
       ·
        clear ha hs
        rintro μ a w ⟨m, A3, J3, ks3, ⟨rfl, hm, hlk3, hS3, hid⟩, ha, hs⟩
        refine WS <| WS <| WR ?_
        refine S1 ha ?_; clear ha; (try clear a); intro a ha
        refine S1 ha ?_; clear ha a; intro a ha
        refine LN <| TN ?_
        refine WI ha (fun hc4 => ?_) (fun hc4 => ?_)
        ·
         obtain ⟨k, wb, hk, hpt⟩ := hlk3.at (i := 0) (by omega)
         obtain ⟨bw, ow, rfl, hrw⟩ := hs.slRd adw (by omega)
         have hcw := hrw 0 _ hpt
         refine WK <| TN <| WS <| wp_block <| WR ?_
         refine S1 ha ?_; clear ha; (try clear a); intro a ha
         iterate 2 (refine S1 ha ?_; clear ha a; intro a ha)
         refine SL ha (hs.rd1 rfl) ?_; clear ha a; intro a ha
         refine SK (st_set ha rfl (ex_indexAddr ha Tryz.underlying35 Ty.t31 (by omega)) rfl ?_); clear ha a; intro a ha
         rw [Nat.zero_mul] at ha
         refine SL ha (hcw) ?_; clear ha a; intro a ha
         refine SK (st_call ha rfl Ty.c12 rfl (sure_step (L := blk xb 38 (shopC sq tq jq (some ⟨bw, ow, none⟩) ks.length cw 1) :: Sl 31 1 (some ⟨bw, ow, none⟩) ks.length cw (ptrs ks) :: []) (hs.sub (M := All (ownK p adO cO tq jq sq) ks3 :: Tree tq sq T5 :: Store sq r A3 :: Jobs jq J3 :: RoP W p adO cO :: blk xb 38 (shopC sq tq jq (some ⟨bw, ow, none⟩) ks.length cw 1) :: Sl 31 1 (some ⟨bw, ow, none⟩) ks.length cw (ptrs ks) :: [])) hk hS3 hpr hz1 (by omega)) ?_); clear ha hs
         rintro e w ⟨z1, A4, T4, J4, k4, rfl, ⟨hbit, hS4, hl4⟩, hs⟩
         refine ⟨_, rfl, ?_⟩
         intro a ha
         obtain ⟨hkb, rfl⟩ := hbit.none hTl
         have hid4 : ∀ j k, j < m + 1 → ((ks3.set 0 (k4, wb)).map (·.1))[j]? = some k → k.busy = false := by
           intro j k2 hj hk2
           have hjl := (List.getElem?_eq_some_iff.1 hk2).1
           rw [List.length_map, List.length_set, hlk3.1] at hjl
           obtain rfl : j = 0 := by omega
           rw [List.getElem?_map, set_at hk] at hk2
           cases hk2; exact hkb
         refine LN <| BN <| TN <| WR ?_
         refine S1 ha ?_; clear ha a; intro a ha
         refine SK (st_set ha rfl (ex_addI ha (by omega) (by omega)) rfl ?_); clear ha a; intro a ha
         refine S1d ha ?_; clear ha a; intro a ha
         refine LN <| TN ?_
         exact ⟨3 - (m + 1), by omega, m + 1, A4, J4, ks3.set 0 (k4, wb), ⟨rfl, by omega, hlk3.set hk, hS4, hid4⟩, ha.keep [6, 8], hs.sub⟩
        ·
         refine wp_exit <| TE <| TE <| blk_e <| TN <| WS ?_
         have hidl := idle_all hid (by rw [List.length_map, hlk3.1]; omega)
         obtain ⟨k, wb, hk, hpt⟩ := hlk3.at (i := 0) (by omega)
         obtain ⟨bw, ow, rfl, hrw⟩ := hs.slRd adw (by omega)
         have hcw := hrw 0 _ hpt
         have hkb := hidl k (List.mem_map.2 ⟨_, List.mem_of_getElem? hk, rfl⟩)
         obtain ⟨px, hp1, hp2, hp3, hp4⟩ := hS3.none (Store.facts (hs.store sq)).1 hTl hidl
         have hu := Store.used (hs.store sq)
         rw [hp1] at hu
         have hu4 : A3.used = 4 := by
           rw [hu]
           have h1 : pagesOf [px] = [t 0, t 1, t 2, t 3] := by rw [← hp3]; rfl
           rw [h1]; exact distinct4 hap
         refine WR ?_
         refine S1 ha ?_; clear ha; (try clear a); intro a ha
         iterate 2 (refine S1 ha ?_; clear ha a; intro a ha)
         refine SL ha (hs.rd1 rfl) ?_; clear ha a; intro a ha
         refine SK (st_set ha rfl (ex_indexAddr ha Tryz.underlying35 Ty.t31 (by omega)) rfl ?_); clear ha a; intro a ha
         rw [Nat.zero_mul] at ha
         refine SL ha (hcw) ?_; clear ha a; intro a ha
         refine SK (st_call ha rfl Ty.c16 rfl (shop_busy (i := 0) (hs.pick (All (ownK p adO cO tq jq sq) ks3)) hk) ?_); clear ha hs
         rintro e w ⟨rfl, hs⟩
         refine ⟨_, rfl, ?_⟩
         intro a ha
         rw [hkb] at ha
         refine S1 ha ?_; clear ha a; intro a ha
         rw [show (!false) = true from rfl] at ha
         refine S1 ha ?_; clear ha a; intro a ha
         iterate 3 (refine S1g (s := 69) ha ?_; clear ha a; intro a ha)
         refine SLg (s := 69) ha (hs.rd1 rfl) ?_; clear ha a; intro a ha
         refine SK (st_call ha (wgT ha rfl (s := 69)) Ty.c22 rfl (snap_live (hs.store sq)) ?_); clear ha hs
         rintro e w ⟨adv, cv, rfl, hs⟩
         refine ⟨_, rfl, ?_⟩
         intro a ha
         rw [hp1] at ha
         iterate 2 (refine S1g (s := 69) ha ?_; clear ha a; intro a ha)
         rw [decide_eq_true (by rfl)] at ha
         refine PT ha ?_; clear ha a; intro a ha
         refine S1 ha ?_; clear ha a; intro a ha
         iterate 3 (refine S1g (s := 78) ha ?_; clear ha a; intro a ha)
         refine SLg (s := 78) ha (hs.rd1 rfl) ?_; clear ha a; intro a ha
         refine SK (st_call ha (wgT ha rfl (s := 78)) Ty.c13 rfl (tree_all (hs.tree tq)) ?_); clear ha hs
         rintro e w ⟨adl, cl, rfl, hs⟩
         refine ⟨_, rfl, ?_⟩
         intro a ha
         rw [hTl] at ha
         iterate 2 (refine S1g (s := 78) ha ?_; clear ha a; intro a ha)
         rw [decide_eq_true (by rfl)] at ha
         refine PT ha ?_; clear ha a; intro a ha
         refine S1 ha ?_; clear ha a; intro a ha
         iterate 3 (refine S1g (s := 87) ha ?_; clear ha a; intro a ha)
         refine SLg (s := 87) ha (hs.rd1 rfl) ?_; clear ha a; intro a ha
         refine SK (st_call ha (wgT ha rfl (s := 87)) Ty.c23 rfl (snap_room (hs.store sq)) ?_); clear ha hs
         rintro e w ⟨rfl, hs⟩
         refine ⟨_, rfl, ?_⟩
         intro a ha
         refine SK (st_call ha (wgT ha rfl (s := 87)) Ty.c24 rfl (snap_used (hs.store sq)) ?_); clear ha hs
         rintro e w ⟨rfl, hs⟩
         refine ⟨_, rfl, ?_⟩
         intro a ha
         rw [hu4] at ha
         refine S1g (s := 87) ha ?_; clear ha a; intro a ha
         rw [decide_eq_true (by rfl)] at ha
         refine PT ha ?_; clear ha a; intro a ha
         refine S1 ha ?_; clear ha a; intro a ha
         refine LN <| TN <| wp_ret ?_
         refine ret1 ha rfl ?_
         exact ⟨rfl, hs.below⟩
end Go.Proofs.YtneafbkhaooelaaGreat

