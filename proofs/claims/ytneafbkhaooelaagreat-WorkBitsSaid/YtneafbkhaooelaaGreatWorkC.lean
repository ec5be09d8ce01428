/- WorkBits. -/
import Derived.Test.YtneafbkhaooelaaGreatWorkR
namespace Go.Proofs.YtneafbkhaooelaaGreat
open Go.RowKit
set_option linter.unusedVariables false
set_option linter.unusedSimpArgs false
set_option maxRecDepth 10000
set_option synthInstance.maxSize 4000
set_option synthInstance.maxHeartbeats 400000

theorem u8ofNat {j : Nat} (h : j < 256) : (UInt8.ofNat j).toNat = j := by rw [UInt8.toNat_ofNat']; omega
theorem wrapU8 {j : Nat} (h : j < 256) : IntKind.u8.wrap (j : Int) = ((UInt8.ofNat j).toNat : Int) := by
  rw [u8ofNat h]
  simp only [IntKind.wrap, IntKind.bits, IntKind.signed, Bool.false_and, Bool.false_eq_true, if_false]
  omega
theorem workBits_walk (pr : Pr) (adO : Option Addr) (cO : Nat) (a1 : Int) (W : World) (w0 : ArgProg W pr adO cO) (w1 : (Lit.int .i64 a1).wf = true) :
    Calls Tryz.prog 4 #[.agg (prV pr adO cO).toArray, .int .i64 a1] W fun e w' => e = .returned (.bool true) ∧ Below W.heap.size W w' := by
  have hs := St.start W
  obtain ⟨hz1, hz2⟩ := cutP_ok pr
  refine calls_enter Tryz.func4 rfl Tryz.ntmps4 (Nat.le_of_ble_eq_true rfl) ?_
  intro a ha
  replace ha : Fr a 127 [(0, _), (1, _)] := ha
  refine WS <| WR ?_
  refine SK (st_box ha rfl hs rfl ?_); clear ha hs a; (try clear w); intro b2 a w ha hs ho
  clear ho
  change St W w (blk b2 24 (prV pr adO cO) :: _) at hs
  refine S1 ha ?_; clear ha a; intro a ha
  refine LN <| TN <| WS <| WR ?_
  refine SK (st_call ha rfl Ty.c8 rfl (begun25 hs) ?_); clear ha hs
  rintro e w ⟨rfl, hs⟩
  refine ⟨_, rfl, ?_⟩
  intro a ha
  refine S1 ha ?_; clear ha a; intro a ha
  refine LN <| TN <| WS <| WS <| WR ?_
  iterate 2 (refine S1 ha ?_; clear ha a; intro a ha)
  refine LN <| TN <| WFa ha <| WK <| TN <| WS <| WR ?_
  refine SK (st_set ha rfl (ex_loadN ha Tryz.underlying24 rfl Ty.t24 (hs.rdAll)) rfl ?_); clear ha a; intro a ha
  refine SK (st_call ha rfl Ty.c9 rfl (cut5_spec (K := 30) (w0.ro hs)) ?_); clear ha hs
  rintro e w ⟨rfl, hs⟩
  refine ⟨_, rfl, ?_⟩
  intro a ha
  refine SK (st_storeAll ha rfl hs Ty.t24 (prV_one _ _ _) (by rfl) ?_); clear ha hs a; (try clear w); intro a w ha hs
  refine LN <| TN <| WS <| WS ?_
  generalize cutP 30 pr = p at hs ha hz1 hz2
  refine WR ?_
  refine SK (st_set ha rfl (ex_loadN ha Tryz.underlying24 rfl Ty.t24 (hs.rdAll)) rfl ?_); clear ha a; intro a ha
  refine SK (st_call ha rfl Ty.c10 rfl (refFault_spec (hs.pick (RoP W p adO cO)) hz1 hz2) ?_); clear ha hs
  rintro e w ⟨rf, rfl, hrf, hs⟩
  refine ⟨_, rfl, ?_⟩
  intro a ha
  iterate 2 (refine S1 ha ?_; clear ha a; intro a ha)
  refine ha.by (s := 20) (fun hg3 ha => ?_) (fun hg3 ha => ?_)
  ·
   refine SO (s := 20) ha ?_; clear ha; (try clear a); intro a ha
   refine SO (s := 20) ha ?_; clear ha a; intro a ha
   refine PT ha ?_; clear ha a; intro a ha
   refine S1 ha ?_; clear ha a; intro a ha
   iterate 2 (refine SO (s := 24) ha ?_; clear ha a; intro a ha)
   refine PT ha ?_; clear ha a; intro a ha
   refine LN <| TN <| WTr ha <| WS <| WR ?_
   refine S1d ha ?_; clear ha a; intro a ha
   refine LN <| TN <| wp_ret <| TR ?_
   refine ret1 ha rfl ?_
   exact ⟨rfl, hs.below⟩
  ·
   refine S1g (s := 20) ha ?_; clear ha; (try clear a); intro a ha
   refine S1g (s := 20) ha ?_; clear ha a; intro a ha
   refine PF ha ?_; clear ha a; intro a ha
   refine S1 ha ?_; clear ha a; intro a ha
   refine ha.by (s := 24) (fun hg7 ha => ?_) (fun hg7 ha => ?_)
   ·
    refine SO (s := 24) ha ?_; clear ha; (try clear a); intro a ha
    refine SO (s := 24) ha ?_; clear ha a; intro a ha
    refine PT ha ?_; clear ha a; intro a ha
    refine LN <| TN <| WTr ha <| WS <| WR ?_
    refine S1d ha ?_; clear ha a; intro a ha
    refine LN <| TN <| wp_ret <| TR ?_
    refine ret1 ha rfl ?_
    exact ⟨rfl, hs.below⟩
   ·
    refine S1g (s := 24) ha ?_; clear ha; (try clear a); intro a ha
    refine S1g (s := 24) ha ?_; clear ha a; intro a ha
    refine PF ha ?_; clear ha a; intro a ha
    refine LN <| TN ?_
    refine WI ha (fun hc1 => ?_) (fun hc1 => ?_)
    ·
     refine WS <| WR ?_
     refine S1d ha ?_; clear ha; (try clear a); intro a ha
     refine LN <| TN <| wp_ret <| TR ?_
     refine ret1 ha rfl ?_
     exact ⟨rfl, hs.below⟩
    ·
     refine WK <| TN <| WS ?_
     have hpr := hrf.1 hg3
     obtain ⟨n, rfl⟩ := Int.eq_ofNat_of_zero_le (show 0 ≤ a1 by omega)
     refine WR ?_
     refine S1 ha ?_; clear ha; (try clear a); intro a ha
     refine LN <| TN <| WS <| WS <| WR ?_
     refine S1 ha ?_; clear ha a; intro a ha
     refine LN <| TN <| wp_block ?_
     refine wp_loop_ghost (fun μ a w => ∃ (i : Nat) (ad3 : Option Addr) (c3 : Nat) (zs : List BBx), (μ = n - i ∧ i ≤ n ∧ zs.length = i ∧ (∀ z ∈ zs, z.2.2.length ≤ z.2.1)) ∧ Fr a 127 [(1, .int .i64 n), (2, .pointer (some ⟨b2, 0, none⟩)), (6, .slice ad3 i c3), (7, .int .i64 i)] ∧ St W w (Sl 47 1 ad3 i c3 (zs.map bbv) :: All bbo zs :: RoP W p adO cO :: blk b2 24 (prV p adO cO) :: [])) (n) ?_ ?_
     · exact ⟨0, none, 0, [], ⟨rfl, by omega, rfl, by simp⟩, ha.keep [1, 2, 6, 7], (show St W w (Sl 47 1 none 0 0 (List.map bbv []) :: All bbo [] :: RoP W p adO cO :: blk b2 24 (prV p adO cO) :: []) from ((hs.allNil (f := bbo)).sl0 47 1 none).sub (M := Sl 47 1 none 0 0 [] :: All bbo [] :: RoP W p adO cO :: blk b2 24 (prV p adO cO) :: []))⟩
     ·
      clear ha hs
      rintro μ a w ⟨i, ad3, c3, zs, ⟨rfl, hi, hzl, hzc⟩, ha, hs⟩
      refine WS <| WS <| WR ?_
      refine S1 ha ?_; clear ha; (try clear a); intro a ha
      iterate 2 (refine S1 ha ?_; clear ha a; intro a ha)
      refine LN <| TN ?_
      refine WI ha (fun hc2 => ?_) (fun hc2 => ?_)
      ·
       refine WK <| TN <| WS <| wp_block <| WR ?_
       refine S1 ha ?_; clear ha; (try clear a); intro a ha
       refine S1 ha ?_; clear ha a; intro a ha
       refine SK (st_set ha rfl (ex_convII ha Tryz.underlying3 Tryz.underlying5) rfl ?_); clear ha a; intro a ha
       rw [wrapU8 (by omega)] at ha
       refine SK (st_buildSlice ha rfl hs Tryz.underlying47 Ty.t5 rfl rfl rfl rfl (by decide) (by decide) ?_); clear ha hs a; (try clear w); intro b36 a w ha hs ho
       clear ho
       refine SK (st_buildSlice ha rfl hs Tryz.underlying41 Ty.t47 rfl rfl rfl rfl (by decide) (by decide) ?_); clear ha hs a; (try clear w); intro b37 a w ha hs ho
       clear ho
       refine SK (st_append ha rfl hs Tryz.underlying41 Ty.t47 rfl rfl hs.rdAll rfl (by simp [Value.oneCell']) (by decide) (by decide) (by omega) ?_); clear ha hs a; (try clear w); intro ad38 c38 a w ha hs
       refine S1d ha ?_; clear ha a; intro a ha
       have h1 : St W w (blk b36 5 ([] ++ bc [UInt8.ofNat i, 2] ++ []) :: All bbo zs :: Sl 47 1 ad38 (i + 1) c38 ((zs ++ ([(some ⟨b36, 0, none⟩, 2, [UInt8.ofNat i, 2])] : List BBx)).map bbv) :: RoP W p adO cO :: blk b2 24 (prV p adO cO) :: []) := by
         rw [List.map_append]
         change St W w (Sl 47 1 ad38 (i + 1) c38 (zs.map bbv ++ ([.slice (some ⟨b36, 0, none⟩) 2 2] : List Value)) :: _ :: blk b36 5 [.int .u8 ((UInt8.ofNat i).toNat : Int), .int .u8 2] :: All bbo zs :: RoP W p adO cO :: blk b2 24 (prV p adO cO) :: []) at hs
         exact hs.sub (M := blk b36 5 [.int .u8 ((UInt8.ofNat i).toNat : Int), .int .u8 2] :: All bbo zs :: Sl 47 1 ad38 (i + 1) c38 (zs.map bbv ++ ([.slice (some ⟨b36, 0, none⟩) 2 2] : List Value)) :: RoP W p adO cO :: blk b2 24 (prV p adO cO) :: [])
       have h2 := St.slShut (pre := []) (post := []) (n := 2) (c := 2) (sz := 1) (cs := bc [UInt8.ofNat i, 2]) h1 rfl (Nat.le_refl _) (Nat.zero_le _)
       have h3 := St.allPush (f := bbo) (x := (some ⟨b36, 0, none⟩, 2, [UInt8.ofNat i, 2])) (l := zs) h2
       replace hs := h3
       clear h1 h2 h3
       refine LN <| BN <| TN <| WR ?_
       refine S1 ha ?_; clear ha a; intro a ha
       refine SK (st_set ha rfl (ex_addI ha (by omega) (by omega)) rfl ?_); clear ha a; intro a ha
       refine S1d ha ?_; clear ha a; intro a ha
       refine LN <| TN ?_
       refine ⟨n - (i + 1), by omega, i + 1, ad38, c38, zs ++ [(some ⟨b36, 0, none⟩, 2, [UInt8.ofNat i, 2])], ⟨rfl, by omega, by simp [hzl], fun z hz => ?_⟩, ha.keep [1, 2, 6, 7], hs.sub⟩
       rcases List.mem_append.1 hz with hz | hz
       · exact hzc z hz
       · simp at hz; subst hz; simp
      ·
       refine wp_exit <| TE <| TE <| blk_e <| TN <| WS ?_
       obtain rfl : i = n := by omega
       subst hzl
       obtain ⟨B, hB⟩ : ∃ B, (cutN 5 zs).map (·.2.2) = B := ⟨_, rfl⟩
       have hBl : B.length = zs.length := by rw [← hB, List.length_map, cutN_len]; omega
       refine WR ?_
       refine SK (st_set ha rfl (ex_loadN ha Tryz.underlying24 rfl Ty.t24 (hs.rdAll)) rfl ?_); clear ha; (try clear a); intro a ha
       refine S1 ha ?_; clear ha a; intro a ha
       refine SK (st_buildSlice ha rfl hs Tryz.underlying25 Ty.t41 rfl rfl rfl rfl (by decide) (by decide) ?_); clear ha hs a; (try clear w); intro b41 a w ha hs ho
       clear ho
       refine SK (st_call ha rfl Ty.c11 rfl (made_spec (p := p) (room := 10) (nw := 1) (ys := [(ad3, c3, zs)]) (ad := some ⟨b41, 0, none⟩) (c := 1) (hs.pick (RoP W p adO cO)) (fun w' h => ⟨fun _ => ⟨b41, 0, rfl, h.rdAll⟩, fun x hx => by
         simp at hx
         subst hx
         exact ⟨St.rdX (m := zs.length) (c := c3) (h.sub (M := Sl 47 1 ad3 zs.length c3 (zs.map bbv) :: All bbo zs :: [])), hzc⟩⟩) (by decide) (by decide) (by simp)) ?_); clear ha hs
       rintro e w ⟨xb, sq, r, tq, jq, adw, cw, ks, A, T, J, t, rfl, ⟨hkl, hap, hfr⟩, hs⟩
       refine ⟨_, rfl, ?_⟩
       intro a ha
       refine S1 ha ?_; clear ha a; intro a ha
       refine LN ?_
       obtain ⟨⟨k, wb⟩, rfl⟩ : ∃ y, ks = [y] := by
         match ks, hkl with
         | [y], _ => exact ⟨y, rfl⟩
       obtain ⟨bw, ow, rfl, _⟩ := hs.slRd adw (by simp)
       have hal := Fresh.alone (B := B) hfr (by
         have h1 : prs [(ad3, c3, zs)] = [B] := by rw [prs, List.map_cons, List.map_nil, hB]
         have h2 : ¬ (B = [] ∨ (([] : List (Nat × List (List UInt8))).any fun y => y.2 == B) = true) := by
           rintro (h | h)
           · rw [h] at hBl; simp at hBl; omega
           · simp at h
         rw [h1]
         show addB [] B = _
         rw [addB, if_neg h2]; rfl)
       rw [hBl] at hal
       clear hfr hkl
       replace hs := hs.sub (M := blk xb 38 (shopC sq tq jq (some ⟨bw, ow, none⟩) 1 cw 1) :: Sl 31 1 (some ⟨bw, ow, none⟩) 1 cw (ptrs [(k, wb)]) :: All (ownK p adO cO tq jq sq) [(k, wb)] :: Tree tq sq T :: Store sq r A :: Jobs jq J :: RoP W p adO cO :: blk b2 24 (prV p adO cO) :: [])
       refine TN <| WS <| WS <| WR ?_
       iterate 2 (refine S1 ha ?_; clear ha a; intro a ha)
       refine LN <| TN <| WFa ha <| WK <| TN <| WS <| WS <| WR ?_
       refine S1 ha ?_; clear ha a; intro a ha
       refine LN <| TN <| wp_block ?_
       refine wp_loop_ghost (fun μ a w => ∃ (i : Nat) (A2 : Sn) (T2 : Tr) (J2 : Js) (k2 : Wk), (μ = 3 * zs.length - i ∧ i ≤ 3 * zs.length ∧ Alone p t 10 i zs.length B A2 T2 J2 k2) ∧ Fr a 127 [(1, .int .i64 zs.length), (2, .pointer (some ⟨b2, 0, none⟩)), (8, .pointer (some ⟨xb, 0, none⟩)), (9, .int .i64 i)] ∧ St W w (blk xb 38 (shopC sq tq jq (some ⟨bw, ow, none⟩) 1 cw 1) :: Sl 31 1 (some ⟨bw, ow, none⟩) 1 cw (ptrs [(k, wb)]) :: All (ownK p adO cO tq jq sq) [(k2, wb)] :: Tree tq sq T2 :: Store sq r A2 :: Jobs jq J2 :: RoP W p adO cO :: blk b2 24 (prV p adO cO) :: [])) (3 * zs.length) ?_ ?_
       · exact ⟨0, A, T, J, k, ⟨rfl, by omega, hal⟩, ha.keep [1, 2, 8, 9], hs⟩
       ·
        clear ha hs
        rintro μ a w ⟨i, A2, T2, J2, k2, ⟨rfl, hi, hal2⟩, ha, hs⟩
        refine WS <| WS <| WR ?_
        refine S1 ha ?_; clear ha; (try clear a); intro a ha
        refine S1 ha ?_; clear ha a; intro a ha
        refine SK (st_set ha rfl (ex_mulI ha (by omega) (by omega)) rfl ?_); clear ha a; intro a ha
        refine S1 ha ?_; clear ha a; intro a ha
        refine LN <| TN ?_
        refine WI ha (fun hc4 => ?_) (fun hc4 => ?_)
        ·
         refine WK <| TN <| WS <| wp_block <| WS <| WR ?_
         refine S1 ha ?_; clear ha; (try clear a); intro a ha
         iterate 2 (refine S1 ha ?_; clear ha a; intro a ha)
         refine SL ha (hs.rd1 rfl) ?_; clear ha a; intro a ha
         refine SK (st_call ha rfl Ty.c13 rfl (tree_all (hs.tree tq)) ?_); clear ha hs
         rintro e w ⟨adl, cl, rfl, hs⟩
         refine ⟨_, rfl, ?_⟩
         intro a ha
         obtain ⟨x, hTx, hxp, hxd, hbz⟩ := hal2.at (Tree.wt (hs.tree tq))
         have hTl : T2.l.length = 1 := by rw [hTx]; rfl
         rw [hTl] at ha hs
         obtain ⟨xs, hx1, hx2, hs⟩ := OwnBr.open hs
         obtain ⟨⟨x', ax, cx⟩, rfl⟩ : ∃ y, xs = [y] := by
           match xs, hx1.trans hTx with
           | [y], _ => exact ⟨y, rfl⟩
         obtain rfl : x' = x := by rw [hTx] at hx1; simpa using hx1
         obtain ⟨bl, ol, rfl, _⟩ := hs.slRd adl (by decide)
         have hbq : k2.busy = decide (((i % 3 : Nat) : Int) ≠ 0) := by rw [Bool.eq_iff_iff, hbz, decide_eq_true_iff]; omega
         refine S1 ha ?_; clear ha a; intro a ha
         refine LN <| TN <| WS <| WR ?_
         iterate 3 (refine S1 ha ?_; clear ha a; intro a ha)
         rw [show decide (((1 : Nat) : Int) ≠ 1) = false from rfl] at ha
         refine S1 ha ?_; clear ha a; intro a ha
         refine S1g (s := 59) ha ?_; clear ha a; intro a ha
         refine SK (st_set ha (wgT ha rfl (s := 59)) (ex_indexAddr ha Tryz.underlying39 Ty.t43 (by omega)) rfl ?_); clear ha a; intro a ha
         rw [Nat.zero_mul] at ha
         refine S1g (s := 59) ha ?_; clear ha a; intro a ha
         refine SLg (s := 59) ha ((hs.slRdAt bl ol (by decide) 3 _ rfl)) ?_; clear ha a; intro a ha
         refine S1g (s := 59) ha ?_; clear ha a; intro a ha
         refine SK (st_set ha (wgT ha rfl (s := 59)) (ex_quo ha (by decide) (by rw [show ((i : Nat) : Int).tdiv 3 = ((i / 3 : Nat) : Int) from quoN i 3]; exact wrap_in (by omega) (by omega))) rfl ?_); clear ha a; intro a ha
         rw [show ((i : Nat) : Int).tdiv 3 = ((i / 3 : Nat) : Int) from quoN i 3] at ha
         refine S1g (s := 59) ha ?_; clear ha a; intro a ha
         rw [decide_eq_false (by show ¬ ((x'.done : Nat) : Int) ≠ ((i / 3 : Nat) : Int); omega)] at ha
         refine PF ha ?_; clear ha a; intro a ha
         refine S1 ha ?_; clear ha a; intro a ha
         iterate 3 (refine S1g (s := 68) ha ?_; clear ha a; intro a ha)
         refine SLg (s := 68) ha (hs.rd1 rfl) ?_; clear ha a; intro a ha
         refine SK (st_set ha (wgT ha rfl (s := 68)) (ex_indexAddr ha Tryz.underlying35 Ty.t31 (by omega)) rfl ?_); clear ha a; intro a ha
         rw [Nat.zero_mul] at ha
         refine SLg (s := 68) ha ((hs.slRdAt bw ow (by decide) 0 _ rfl)) ?_; clear ha a; intro a ha
         refine SK (st_call ha (wgT ha rfl (s := 68)) Ty.c16 rfl (shop_busy (i := 0) (hs.pick (All (ownK p adO cO tq jq sq) [(k2, wb)])) rfl) ?_); clear ha hs
         rintro e w ⟨rfl, hs⟩
         refine ⟨_, rfl, ?_⟩
         intro a ha
         refine S1g (s := 68) ha ?_; clear ha a; intro a ha
         refine SK (st_set ha (wgT ha rfl (s := 68)) (ex_rem ha (by decide)) rfl ?_); clear ha a; intro a ha
         rw [show ((i : Nat) : Int).tmod 3 = ((i % 3 : Nat) : Int) from remN i 3] at ha
         refine S1g (s := 68) ha ?_; clear ha a; intro a ha
         refine SK (st_set ha (wgT ha rfl (s := 68)) (ex_neqB ha Tryz.underlying4) rfl ?_); clear ha a; intro a ha
         rw [hbq, bne_self_eq_false] at ha
         refine PF ha ?_; clear ha a; intro a ha
         refine S1 ha ?_; clear ha a; intro a ha
         iterate 3 (refine S1g (s := 81) ha ?_; clear ha a; intro a ha)
         refine SLg (s := 81) ha (hs.rd1 rfl) ?_; clear ha a; intro a ha
         refine SK (st_set ha (wgT ha rfl (s := 81)) (ex_indexAddr ha Tryz.underlying35 Ty.t31 (by omega)) rfl ?_); clear ha a; intro a ha
         rw [Nat.zero_mul] at ha
         refine SLg (s := 81) ha ((hs.slRdAt bw ow (by decide) 0 _ rfl)) ?_; clear ha a; intro a ha
         refine SK (st_call ha (wgT ha rfl (s := 81)) Ty.c12 rfl (one_step (L := blk xb 38 (shopC sq tq jq (some ⟨bw, ow, none⟩) 1 cw 1) :: Sl 31 1 (some ⟨bw, ow, none⟩) 1 cw (ptrs [(k, wb)]) :: blk b2 24 (prV p adO cO) :: []) (hs.sub (M := All (ownK p adO cO tq jq sq) [(k2, wb)] :: Tree tq sq T2 :: Store sq r A2 :: Jobs jq J2 :: RoP W p adO cO :: blk xb 38 (shopC sq tq jq (some ⟨bw, ow, none⟩) 1 cw 1) :: Sl 31 1 (some ⟨bw, ow, none⟩) 1 cw (ptrs [(k, wb)]) :: blk b2 24 (prV p adO cO) :: [])) hal2 (by decide) hpr hz1 (by omega)) ?_); clear ha hs
         rintro e w ⟨z, A4, T4, J4, k4, rfl, hor, hs⟩
         refine ⟨_, rfl, ?_⟩
         intro a ha
         obtain ⟨hze, _, hal4⟩ := hor.resolve_right (fun h => by have := h.2.1; omega)
         rw [hze] at ha
         refine S1g (s := 81) ha ?_; clear ha a; intro a ha
         rw [show (!true) = false from rfl] at ha
         refine PF ha ?_; clear ha a; intro a ha
         refine LN <| TN <| WFa ha <| WK <| BN <| TN <| WR ?_
         refine S1 ha ?_; clear ha a; intro a ha
         refine SK (st_set ha rfl (ex_addI ha (by omega) (by omega)) rfl ?_); clear ha a; intro a ha
         refine S1d ha ?_; clear ha a; intro a ha
         refine LN <| TN ?_
         exact ⟨3 * zs.length - (i + 1), by omega, i + 1, A4, T4, J4, k4, ⟨rfl, by omega, hal4⟩, ha.keep [1, 2, 8, 9], hs.sub⟩
        ·
         refine wp_exit <| TE <| TE <| blk_e <| TN <| WS <| WR ?_
         refine S1 ha ?_; clear ha; (try clear a); intro a ha
         iterate 2 (refine S1 ha ?_; clear ha a; intro a ha)
         refine SL ha (hs.rd1 rfl) ?_; clear ha a; intro a ha
         refine SK (st_call ha rfl Ty.c13 rfl (tree_all (hs.tree tq)) ?_); clear ha hs
         rintro e w ⟨adl, cl, rfl, hs⟩
         refine ⟨_, rfl, ?_⟩
         intro a ha
         obtain ⟨x, hTx, hxp, hxd, hbz⟩ := hal2.at (Tree.wt (hs.tree tq))
         have hTl : T2.l.length = 1 := by rw [hTx]; rfl
         rw [hTl] at ha hs
         obtain ⟨xs, hx1, hx2, hs⟩ := OwnBr.open hs
         obtain ⟨⟨x', ax, cx⟩, rfl⟩ : ∃ y, xs = [y] := by
           match xs, hx1.trans hTx with
           | [y], _ => exact ⟨y, rfl⟩
         obtain rfl : x' = x := by rw [hTx] at hx1; simpa using hx1
         obtain ⟨bl, ol, rfl, _⟩ := hs.slRd adl (by decide)
         have hkb : k2.busy = false := by
           cases hh : k2.busy with
           | false => rfl
           | true => have := hbz.1 hh; omega
         refine S1 ha ?_; clear ha a; intro a ha
         refine LN <| TN <| WS <| WR ?_
         refine S1 ha ?_; clear ha a; intro a ha
         refine SK (st_set ha rfl (ex_indexAddr ha Tryz.underlying39 Ty.t43 (by omega)) rfl ?_); clear ha a; intro a ha
         rw [Nat.zero_mul] at ha
         refine S1 ha ?_; clear ha a; intro a ha
         refine SL ha ((hs.slRdAt bl ol (by decide) 3 _ rfl)) ?_; clear ha a; intro a ha
         iterate 2 (refine S1 ha ?_; clear ha a; intro a ha)
         rw [decide_eq_true (by show ((x'.done : Nat) : Int) = ((zs.length : Nat) : Int); omega)] at ha
         refine S1 ha ?_; clear ha a; intro a ha
         iterate 3 (refine S1g (s := 102) ha ?_; clear ha a; intro a ha)
         refine SLg (s := 102) ha (hs.rd1 rfl) ?_; clear ha a; intro a ha
         refine SK (st_set ha (wgT ha rfl (s := 102)) (ex_indexAddr ha Tryz.underlying35 Ty.t31 (by omega)) rfl ?_); clear ha a; intro a ha
         rw [Nat.zero_mul] at ha
         refine SLg (s := 102) ha ((hs.slRdAt bw ow (by decide) 0 _ rfl)) ?_; clear ha a; intro a ha
         refine SK (st_call ha (wgT ha rfl (s := 102)) Ty.c16 rfl (shop_busy (i := 0) (hs.pick (All (ownK p adO cO tq jq sq) [(k2, wb)])) rfl) ?_); clear ha hs
         rintro e w ⟨rfl, hs⟩
         refine ⟨_, rfl, ?_⟩
         intro a ha
         rw [hkb] at ha
         refine S1g (s := 102) ha ?_; clear ha a; intro a ha
         rw [show (!false) = true from rfl] at ha
         refine PT ha ?_; clear ha a; intro a ha
         refine S1 ha ?_; clear ha a; intro a ha
         iterate 3 (refine S1g (s := 112) ha ?_; clear ha a; intro a ha)
         refine SLg (s := 112) ha (hs.rd1 rfl) ?_; clear ha a; intro a ha
         refine SK (st_set ha (wgT ha rfl (s := 112)) (ex_indexAddr ha Tryz.underlying35 Ty.t31 (by omega)) rfl ?_); clear ha a; intro a ha
         rw [Nat.zero_mul] at ha
         refine SLg (s := 112) ha ((hs.slRdAt bw ow (by decide) 0 _ rfl)) ?_; clear ha a; intro a ha
         refine SK (st_call ha (wgT ha rfl (s := 112)) Ty.c12 rfl (one_step (L := blk xb 38 (shopC sq tq jq (some ⟨bw, ow, none⟩) 1 cw 1) :: Sl 31 1 (some ⟨bw, ow, none⟩) 1 cw (ptrs [(k, wb)]) :: blk b2 24 (prV p adO cO) :: []) (hs.sub (M := All (ownK p adO cO tq jq sq) [(k2, wb)] :: Tree tq sq T2 :: Store sq r A2 :: Jobs jq J2 :: RoP W p adO cO :: blk xb 38 (shopC sq tq jq (some ⟨bw, ow, none⟩) 1 cw 1) :: Sl 31 1 (some ⟨bw, ow, none⟩) 1 cw (ptrs [(k, wb)]) :: blk b2 24 (prV p adO cO) :: [])) hal2 (by decide) hpr hz1 (by omega)) ?_); clear ha hs
         rintro e w ⟨z, A4, T4, J4, k4, rfl, hor, hs⟩
         refine ⟨_, rfl, ?_⟩
         intro a ha
         obtain ⟨hze, _, hal4⟩ := hor.resolve_left (fun h => by have := h.2.1; omega)
         rw [hze] at ha
         have hs6 : St W w (blk xb 38 (shopC sq tq jq (some ⟨bw, ow, none⟩) [(k4, wb)].length cw 1) :: Sl 31 1 (some ⟨bw, ow, none⟩) [(k4, wb)].length cw (ptrs [(k4, wb)]) :: All (ownK p adO cO tq jq sq) [(k4, wb)] :: Tree tq sq T4 :: Store sq r A4 :: RoP W p adO cO :: blk b2 24 (prV p adO cO) :: []) :=
           hs.sub (M := blk xb 38 (shopC sq tq jq (some ⟨bw, ow, none⟩) 1 cw 1) :: Sl 31 1 (some ⟨bw, ow, none⟩) 1 cw (ptrs [(k, wb)]) :: All (ownK p adO cO tq jq sq) [(k4, wb)] :: Tree tq sq T4 :: Store sq r A4 :: RoP W p adO cO :: blk b2 24 (prV p adO cO) :: [])
         replace hs := hs6
         clear hs6
         refine S1g (s := 112) ha ?_; clear ha a; intro a ha
         rw [show (!false) = true from rfl] at ha
         refine PT ha ?_; clear ha a; intro a ha
         refine S1 ha ?_; clear ha a; intro a ha
         refine S1g (s := 122) ha ?_; clear ha a; intro a ha
         refine SK (st_set ha (wgT ha rfl (s := 122)) (ex_loadN ha Tryz.underlying24 rfl Ty.t24 (hs.rdAll)) rfl ?_); clear ha a; intro a ha
         refine SK (st_call ha (wgT ha rfl (s := 122)) Ty.c14 rfl (right_spec (ks := [(k4, wb)]) hs hal4.inv hpr hz1 (by simp)) ?_); clear ha hs
         rintro e w ⟨rfl, hs⟩
         refine ⟨_, rfl, ?_⟩
         intro a ha
         refine PT ha ?_; clear ha a; intro a ha
         refine S1 ha ?_; clear ha a; intro a ha
         refine LN <| TN <| wp_ret ?_
         refine ret1 ha rfl ?_
         exact ⟨rfl, hs.below⟩
end Go.Proofs.YtneafbkhaooelaaGreat

