/- plain.New. -/
import Derived.Test.YtagpkhbkdbaigaaGreatPlainS
namespace Go.Proofs.YtagpkhbkdbaigaaGreat
open Go.RowKit
set_option linter.unusedVariables false
set_option linter.unusedSimpArgs false
set_option maxRecDepth 10000
set_option synthInstance.maxSize 4000
set_option synthInstance.maxHeartbeats 400000

theorem mayCf_nat {cf : Cf} (h : mayCf cf) : ∃ (n me delay window : Nat), cf = ⟨n, me, cf.id, delay, window, cf.guess, cf.order, cf.branches, cf.workers, cf.room⟩ := by
  obtain ⟨⟨h1, h2, h3⟩, ⟨h4, h5, h6, h7⟩, h8, h9, h10, h11⟩ := h
  simp only [inI] at *
  refine ⟨cf.n.toNat, cf.me.toNat, cf.delay.toNat, cf.window.toNat, ?_⟩
  rw [Int.toNat_of_nonneg (by omega), Int.toNat_of_nonneg (by omega), Int.toNat_of_nonneg (by omega), Int.toNat_of_nonneg (by omega)]
section
variable {W w : World} {L L' R : List SP} {c cP cT n me delay window : Nat} {ad adP adT : Option Addr} {p : Pr} {tb : List UInt8} {cf : Cf} {id guess order branches workers room : Int}
theorem plain_new_no1 (hs : St W w (RoP W p adP cP :: L)) (h : ¬ mayCf cf) (htl : tb.length ≤ 1099511627776) (hT : ∀ w', St W w' (RoP W p adP cP :: L) → RdB w' adT tb.length tb) :
    Calls Tryz.prog 12 #[.agg (cfC cf).toArray, .agg (prV p adP cP).toArray, .slice adT tb.length cT] w fun r w' => r = .returned (.tuple #[.pointer none, .int .i64 1]) ∧ St W w' (RoP W p adP cP :: L) := by
  refine calls_enter Tryz.func12 rfl Tryz.ntmps12 (Nat.le_of_ble_eq_true rfl) ?_
  intro a ha
  replace ha : Fr a 48 [(0, _), (1, _), (2, _)] := ha
  refine WS <| WR ?_
  refine SK (st_box ha rfl hs rfl ?_); clear ha hs a; (try clear w); intro b3 a w ha hs ho
  clear ho
  change St W w (blk b3 30 (cfC cf) :: _) at hs
  refine SK (st_box ha rfl hs rfl ?_); clear ha hs a; (try clear w); intro b4 a w ha hs ho
  clear ho
  change St W w (blk b4 33 (prV p adP cP) :: _) at hs
  iterate 2 (refine S1 ha ?_; clear ha a; intro a ha)
  refine LN <| TN ?_
  refine wp_seq_cut (M := fun a w => ∃ (b8 : Nat) (ad5 : Option Addr) (c5 : Nat), Fr a 48 [(3, .pointer (some ⟨b3, 0, none⟩)), (4, .pointer (some ⟨b4, 0, none⟩)), (8, .pointer (some ⟨b8, 0, none⟩))] ∧ St W w (blk b8 78 (gsC ⟨cf.guess, cf.order, tb⟩ ad5 c5) :: Sl 5 1 ad5 tb.length c5 (bc tb) :: blk b3 30 (cfC cf) :: blk b4 33 (prV p adP cP) :: RoP W p adP cP :: L)) ?_ ?_
  ·
   refine DW (m := 9) (fun w' => Rd w' b3 0 (cfC cf)) [3, 5, 7] [0, 2, 4, 1, 3, 5, 6, 7, 8] Ty.mixed (pk_then pk_body) (fun hpk => ?_)
   replace hs := hs.drew
   generalize w.drew = w at hs hpk ⊢
   have hC : Rd w b3 0 (cfC cf) := hs.rdAll (b := b3)
   refine DP hpk ha rfl ?_; clear ha; (try clear a); intro a ha
   iterate 2 (refine DP hpk ha rfl ?_; clear ha a; intro a ha)
   refine DL hpk ha rfl (fun w hc => hc 5 _ rfl) hC ?_; clear ha a; intro a ha
   refine DL hpk ha rfl (fun w hc => hc 6 _ rfl) hC ?_; clear ha a; intro a ha
   refine D2 (i := 5) (j := 7) [6, 7, 8] [5, 6, 8] (by kernel_rfl) rfl rfl ?_ ?_
   ·
    refine st_call ha rfl Ty.c35 rfl (bytes_clone (bs := tb) hs (fun w' hw => hT w' hw.sub) htl) ?_; clear ha hs
    rintro e w ⟨ad5, c5, rfl, hs⟩
    refine ⟨_, rfl, ?_⟩
    intro a ha
    replace hC : (fun w' => Rd w' b3 0 (cfC cf)) w := hs.rdAll (b := b3)
    refine ⟨fun _ => hC, ?_⟩
    refine DQ hpk ha rfl rfl (fun w => ex_build ha Ty.b78 Ty.t78 rfl) ?_; clear ha; (try clear a); intro a ha
    refine D1 rfl (st_alloc ha rfl hs Ty.t78 rfl ?_); clear ha hs a; (try clear w); intro b8 a w ha hs ho
    (try replace hC := hC.trans ho); clear ho
    replace hC : (fun w' => Rd w' b3 0 (cfC cf)) w := hs.rdAll (b := b3)
    refine ⟨fun _ => hC, ?_⟩
    refine D1 rfl (st_storeAll ha rfl hs Ty.t78 (by simp [Value.oneCell']) (by rfl) ?_); clear ha hs a; (try clear w); intro a w ha hs
    refine ⟨fun h => absurd h (by decide), ?_⟩
    refine DD <| TN ?_
    exact ⟨_, ad5, c5, ha.keep [3, 4, 8], hs.sub (M := blk b8 78 [.int .i64 cf.guess, .int .i64 cf.order, .slice ad5 tb.length c5] :: Sl 5 1 ad5 tb.length c5 (bc tb) :: blk b3 30 (cfC cf) :: blk b4 33 (prV p adP cP) :: RoP W p adP cP :: L)⟩
   ·
    refine st_alloc ha rfl hs Ty.t78 rfl ?_; clear ha hs; (try clear a); (try clear w); intro b8 a w ha hs ho
    (try replace hC := hC.trans ho); clear ho
    replace hC : (fun w' => Rd w' b3 0 (cfC cf)) w := hs.rdAll (b := b3)
    refine ⟨fun _ => hC, ?_⟩
    refine D1 rfl (st_call ha rfl Ty.c35 rfl (bytes_clone (bs := tb) hs (fun w' hw => hT w' hw.sub) htl) ?_); clear ha hs
    rintro e w ⟨ad5, c5, rfl, hs⟩
    refine ⟨_, rfl, ?_⟩
    intro a ha
    replace hC : (fun w' => Rd w' b3 0 (cfC cf)) w := hs.rdAll (b := b3)
    refine ⟨fun _ => hC, ?_⟩
    refine DQ hpk ha rfl rfl (fun w => ex_build ha Ty.b78 Ty.t78 rfl) ?_; clear ha a; intro a ha
    refine D1 rfl (st_storeAll ha rfl hs Ty.t78 (by simp [Value.oneCell']) (by rfl) ?_); clear ha hs a; (try clear w); intro a w ha hs
    refine ⟨fun h => absurd h (by decide), ?_⟩
    refine DD <| TN ?_
    exact ⟨_, ad5, c5, ha.keep [3, 4, 8], hs.sub (M := blk b8 78 [.int .i64 cf.guess, .int .i64 cf.order, .slice ad5 tb.length c5] :: Sl 5 1 ad5 tb.length c5 (bc tb) :: blk b3 30 (cfC cf) :: blk b4 33 (prV p adP cP) :: RoP W p adP cP :: L)⟩
  ·
   clear ha; (try clear hs)
   intro a w hcut
   obtain ⟨b8, ad5, c5, ha, hs⟩ := hcut
   refine WS <| WR ?_
   refine SK (st_set ha rfl (ex_loadN ha Tryz.underlying30 rfl Ty.t30 (hs.rdAll (b := b3))) rfl ?_); clear ha; (try clear a); intro a ha
   refine SK (st_call ha rfl Ty.c36 rfl (core_new_no hs h) ?_); clear ha hs
   rintro e w ⟨rfl, hs⟩
   refine ⟨_, rfl, ?_⟩
   intro a ha
   iterate 5 (refine S1 ha ?_; clear ha a; intro a ha)
   refine LN <| TN <| WS <| WS <| WR ?_
   iterate 2 (refine S1 ha ?_; clear ha a; intro a ha)
   rw [show decide ((1 : Int) ≠ 0) = true from rfl] at ha
   refine S1 ha ?_; clear ha a; intro a ha
   iterate 3 (refine SO (s := 26) ha ?_; clear ha a; intro a ha)
   refine PT ha ?_; clear ha a; intro a ha
   refine S1 ha ?_; clear ha a; intro a ha
   iterate 3 (refine SO (s := 31) ha ?_; clear ha a; intro a ha)
   refine PT ha ?_; clear ha a; intro a ha
   refine LN <| TN <| WTr ha <| WS <| WR ?_
   iterate 2 (refine S1 ha ?_; clear ha a; intro a ha)
   refine LN <| TN <| wp_ret <| TR ?_
   refine ret2 ha rfl ?_
   exact ⟨rfl, hs.sub⟩
theorem plain_new_no2 (hs : St W w (RoP W p adP cP :: L)) (hm : mayCf ⟨n, me, id, delay, window, guess, order, branches, workers, room⟩) (h : ¬ (prOk p ∧ mayGs ⟨guess, order, tb⟩)) (hsz : p.title.size ≤ 1000000000) (hol : p.ops.length ≤ 1000000000) (htl : tb.length ≤ 1099511627776) (hT : ∀ w', St W w' (RoP W p adP cP :: L) → RdB w' adT tb.length tb) :
    Calls Tryz.prog 12 #[.agg (cfC ⟨n, me, id, delay, window, guess, order, branches, workers, room⟩).toArray, .agg (prV p adP cP).toArray, .slice adT tb.length cT] w fun r w' => r = .returned (.tuple #[.pointer none, .int .i64 1]) ∧ St W w' (RoP W p adP cP :: L) := by
  obtain ⟨cf, hcf⟩ : ∃ cf : Cf, cf = ⟨n, me, id, delay, window, guess, order, branches, workers, room⟩ := ⟨_, rfl⟩
  rw [← hcf]
  have hg : cf.guess = guess ∧ cf.order = order := by rw [hcf]; exact ⟨rfl, rfl⟩
  refine calls_enter Tryz.func12 rfl Tryz.ntmps12 (Nat.le_of_ble_eq_true rfl) ?_
  intro a ha
  replace ha : Fr a 48 [(0, _), (1, _), (2, _)] := ha
  refine WS <| WR ?_
  refine SK (st_box ha rfl hs rfl ?_); clear ha hs a; (try clear w); intro b3 a w ha hs ho
  clear ho
  change St W w (blk b3 30 (cfC cf) :: _) at hs
  refine SK (st_box ha rfl hs rfl ?_); clear ha hs a; (try clear w); intro b4 a w ha hs ho
  clear ho
  change St W w (blk b4 33 (prV p adP cP) :: _) at hs
  iterate 2 (refine S1 ha ?_; clear ha a; intro a ha)
  refine LN <| TN ?_
  refine wp_seq_cut (M := fun a w => ∃ (b8 : Nat) (ad5 : Option Addr) (c5 : Nat), Fr a 48 [(3, .pointer (some ⟨b3, 0, none⟩)), (4, .pointer (some ⟨b4, 0, none⟩)), (8, .pointer (some ⟨b8, 0, none⟩))] ∧ St W w (blk b8 78 (gsC ⟨cf.guess, cf.order, tb⟩ ad5 c5) :: Sl 5 1 ad5 tb.length c5 (bc tb) :: blk b3 30 (cfC cf) :: blk b4 33 (prV p adP cP) :: RoP W p adP cP :: L)) ?_ ?_
  ·
   refine DW (m := 9) (fun w' => Rd w' b3 0 (cfC cf)) [3, 5, 7] [0, 2, 4, 1, 3, 5, 6, 7, 8] Ty.mixed (pk_then pk_body) (fun hpk => ?_)
   replace hs := hs.drew
   generalize w.drew = w at hs hpk ⊢
   have hC : Rd w b3 0 (cfC cf) := hs.rdAll (b := b3)
   refine DP hpk ha rfl ?_; clear ha; (try clear a); intro a ha
   iterate 2 (refine DP hpk ha rfl ?_; clear ha a; intro a ha)
   refine DL hpk ha rfl (fun w hc => hc 5 _ rfl) hC ?_; clear ha a; intro a ha
   refine DL hpk ha rfl (fun w hc => hc 6 _ rfl) hC ?_; clear ha a; intro a ha
   refine D2 (i := 5) (j := 7) [6, 7, 8] [5, 6, 8] (by kernel_rfl) rfl rfl ?_ ?_
   ·
    refine st_call ha rfl Ty.c35 rfl (bytes_clone (bs := tb) hs (fun w' hw => hT w' hw.sub) htl) ?_; clear ha hs
    rintro e w ⟨ad5, c5, rfl, hs⟩
    refine ⟨_, rfl, ?_⟩
    intro a ha
    replace hC : (fun w' => Rd w' b3 0 (cfC cf)) w := hs.rdAll (b := b3)
    refine ⟨fun _ => hC, ?_⟩
    refine DQ hpk ha rfl rfl (fun w => ex_build ha Ty.b78 Ty.t78 rfl) ?_; clear ha; (try clear a); intro a ha
    refine D1 rfl (st_alloc ha rfl hs Ty.t78 rfl ?_); clear ha hs a; (try clear w); intro b8 a w ha hs ho
    (try replace hC := hC.trans ho); clear ho
    replace hC : (fun w' => Rd w' b3 0 (cfC cf)) w := hs.rdAll (b := b3)
    refine ⟨fun _ => hC, ?_⟩
    refine D1 rfl (st_storeAll ha rfl hs Ty.t78 (by simp [Value.oneCell']) (by rfl) ?_); clear ha hs a; (try clear w); intro a w ha hs
    refine ⟨fun h => absurd h (by decide), ?_⟩
    refine DD <| TN ?_
    exact ⟨_, ad5, c5, ha.keep [3, 4, 8], hs.sub (M := blk b8 78 [.int .i64 cf.guess, .int .i64 cf.order, .slice ad5 tb.length c5] :: Sl 5 1 ad5 tb.length c5 (bc tb) :: blk b3 30 (cfC cf) :: blk b4 33 (prV p adP cP) :: RoP W p adP cP :: L)⟩
   ·
    refine st_alloc ha rfl hs Ty.t78 rfl ?_; clear ha hs; (try clear a); (try clear w); intro b8 a w ha hs ho
    (try replace hC := hC.trans ho); clear ho
    replace hC : (fun w' => Rd w' b3 0 (cfC cf)) w := hs.rdAll (b := b3)
    refine ⟨fun _ => hC, ?_⟩
    refine D1 rfl (st_call ha rfl Ty.c35 rfl (bytes_clone (bs := tb) hs (fun w' hw => hT w' hw.sub) htl) ?_); clear ha hs
    rintro e w ⟨ad5, c5, rfl, hs⟩
    refine ⟨_, rfl, ?_⟩
    intro a ha
    replace hC : (fun w' => Rd w' b3 0 (cfC cf)) w := hs.rdAll (b := b3)
    refine ⟨fun _ => hC, ?_⟩
    refine DQ hpk ha rfl rfl (fun w => ex_build ha Ty.b78 Ty.t78 rfl) ?_; clear ha a; intro a ha
    refine D1 rfl (st_storeAll ha rfl hs Ty.t78 (by simp [Value.oneCell']) (by rfl) ?_); clear ha hs a; (try clear w); intro a w ha hs
    refine ⟨fun h => absurd h (by decide), ?_⟩
    refine DD <| TN ?_
    exact ⟨_, ad5, c5, ha.keep [3, 4, 8], hs.sub (M := blk b8 78 [.int .i64 cf.guess, .int .i64 cf.order, .slice ad5 tb.length c5] :: Sl 5 1 ad5 tb.length c5 (bc tb) :: blk b3 30 (cfC cf) :: blk b4 33 (prV p adP cP) :: RoP W p adP cP :: L)⟩
  ·
   clear ha; (try clear hs)
   intro a w hcut
   obtain ⟨b8, ad5, c5, ha, hs⟩ := hcut
   refine WS <| WR ?_
   refine SK (st_set ha rfl (ex_loadN ha Tryz.underlying30 rfl Ty.t30 (hs.rdAll (b := b3))) rfl ?_); clear ha; (try clear a); intro a ha
   rw [hcf] at ha
   refine SK (st_call ha rfl Ty.c36 rfl (core_new hs hm) ?_); clear ha hs
   rintro e w ⟨Bc, rfl, hs⟩
   refine ⟨_, rfl, ?_⟩
   intro a ha
   iterate 5 (refine S1 ha ?_; clear ha a; intro a ha)
   refine LN <| TN <| WS <| WS <| WR ?_
   iterate 2 (refine S1 ha ?_; clear ha a; intro a ha)
   rw [show decide ((0 : Int) ≠ 0) = false from rfl] at ha
   refine S1 ha ?_; clear ha a; intro a ha
   refine SK (st_set ha (wgT ha rfl (s := 26)) (ex_loadN ha Tryz.underlying33 rfl Ty.t33 (hs.rdAll (b := b4))) rfl ?_); clear ha a; intro a ha
   refine SK (st_call ha (wgT ha rfl (s := 26)) Ty.c37 rfl (checkMay_spec (hs.pick (RoP W p adP cP)) hsz hol) ?_); clear ha hs
   rintro e w ⟨rc, rfl, hrc, hs⟩
   refine ⟨_, rfl, ?_⟩
   intro a ha
   refine S1g (s := 26) ha ?_; clear ha a; intro a ha
   refine PF ha ?_; clear ha a; intro a ha
   refine S1 ha ?_; clear ha a; intro a ha
   refine ha.by (s := 31) (fun hg7 ha => ?_) (fun hg7 ha => ?_)
   ·
    refine SO (s := 31) ha ?_; clear ha; (try clear a); intro a ha
    iterate 2 (refine SO (s := 31) ha ?_; clear ha a; intro a ha)
    refine PT ha ?_; clear ha a; intro a ha
    refine LN <| TN <| WTr ha <| WS <| WR ?_
    iterate 2 (refine S1 ha ?_; clear ha a; intro a ha)
    refine LN <| TN <| wp_ret <| TR ?_
    refine ret2 ha rfl ?_
    exact ⟨rfl, hs.sub⟩
   ·
    refine SK (st_set ha (wgT ha rfl (s := 31)) (ex_loadN ha Tryz.underlying78 rfl Ty.t78 (hs.rdAll (b := b8))) rfl ?_); clear ha; (try clear a); intro a ha
    refine SK (st_call ha (wgT ha rfl (s := 31)) Ty.c38 rfl (pred_may hs) ?_); clear ha hs
    rintro e w ⟨rp, rfl, hrp, hs⟩
    refine ⟨_, rfl, ?_⟩
    intro a ha
    refine S1g (s := 31) ha ?_; clear ha a; intro a ha
    refine PF ha ?_; clear ha a; intro a ha
    refine LN <| TN ?_
    refine WI ha (fun hc0 => ?_) (fun hc0 => ?_)
    ·
     refine WS <| WR ?_
     refine S1 ha ?_; clear ha; (try clear a); intro a ha
     refine S1 ha ?_; clear ha a; intro a ha
     refine LN <| TN <| wp_ret <| TR ?_
     refine ret2 ha rfl ?_
     exact ⟨rfl, hs.sub⟩
    ·
     exact absurd ⟨hrc.1 hg7, by have := hrp.1 hc0; rw [hg.1, hg.2] at this; exact this⟩ h
theorem plain_new (hs : St W w (RoP W p adP cP :: L)) (hm : mayCf ⟨n, me, id, delay, window, guess, order, branches, workers, room⟩) (hpr : prOk p) (hgs : mayGs ⟨guess, order, tb⟩) (hsz : p.title.size ≤ 1000000000) (hol : p.ops.length ≤ 1000000000) (htl : tb.length ≤ 1099511627776) (hT : ∀ w', St W w' (RoP W p adP cP :: L) → RdB w' adT tb.length tb) :
    Calls Tryz.prog 12 #[.agg (cfC ⟨n, me, id, delay, window, guess, order, branches, workers, room⟩).toArray, .agg (prV p adP cP).toArray, .slice adT tb.length cT] w fun r w' => ∃ B : PlB, r = .returned (.tuple #[.pointer (some ⟨B.pb, 0, none⟩), .int .i64 0]) ∧ B.gs = ⟨guess, order, tb⟩ ∧
      St W w' (PlainS W B p (newP p ⟨n, me, id, delay, window, guess, order, branches, workers, room⟩) :: RoP W p adP cP :: L) := by
  obtain ⟨cf, hcf⟩ : ∃ cf : Cf, cf = ⟨n, me, id, delay, window, guess, order, branches, workers, room⟩ := ⟨_, rfl⟩
  rw [← hcf]
  have hg : cf.guess = guess ∧ cf.order = order := by rw [hcf]; exact ⟨rfl, rfl⟩
  have hopl : 1 ≤ p.ops.length ∧ p.ops.length ≤ 64 := ⟨hpr.1.2.1, hpr.1.2.2.1⟩
  refine calls_enter Tryz.func12 rfl Tryz.ntmps12 (Nat.le_of_ble_eq_true rfl) ?_
  intro a ha
  replace ha : Fr a 48 [(0, _), (1, _), (2, _)] := ha
  refine WS <| WR ?_
  refine SK (st_box ha rfl hs rfl ?_); clear ha hs a; (try clear w); intro b3 a w ha hs ho
  clear ho
  change St W w (blk b3 30 (cfC cf) :: _) at hs
  refine SK (st_box ha rfl hs rfl ?_); clear ha hs a; (try clear w); intro b4 a w ha hs ho
  clear ho
  change St W w (blk b4 33 (prV p adP cP) :: _) at hs
  iterate 2 (refine S1 ha ?_; clear ha a; intro a ha)
  refine LN <| TN ?_
  refine wp_seq_cut (M := fun a w => ∃ (b8 : Nat) (ad5 : Option Addr) (c5 : Nat), Fr a 48 [(3, .pointer (some ⟨b3, 0, none⟩)), (4, .pointer (some ⟨b4, 0, none⟩)), (8, .pointer (some ⟨b8, 0, none⟩))] ∧ St W w (blk b8 78 (gsC ⟨cf.guess, cf.order, tb⟩ ad5 c5) :: Sl 5 1 ad5 tb.length c5 (bc tb) :: blk b3 30 (cfC cf) :: blk b4 33 (prV p adP cP) :: RoP W p adP cP :: L)) ?_ ?_
  ·
   refine DW (m := 9) (fun w' => Rd w' b3 0 (cfC cf)) [3, 5, 7] [0, 2, 4, 1, 3, 5, 6, 7, 8] Ty.mixed (pk_then pk_body) (fun hpk => ?_)
   replace hs := hs.drew
   generalize w.drew = w at hs hpk ⊢
   have hC : Rd w b3 0 (cfC cf) := hs.rdAll (b := b3)
   refine DP hpk ha rfl ?_; clear ha; (try clear a); intro a ha
   iterate 2 (refine DP hpk ha rfl ?_; clear ha a; intro a ha)
   refine DL hpk ha rfl (fun w hc => hc 5 _ rfl) hC ?_; clear ha a; intro a ha
   refine DL hpk ha rfl (fun w hc => hc 6 _ rfl) hC ?_; clear ha a; intro a ha
   refine D2 (i := 5) (j := 7) [6, 7, 8] [5, 6, 8] (by kernel_rfl) rfl rfl ?_ ?_
   ·
    refine st_call ha rfl Ty.c35 rfl (bytes_clone (bs := tb) hs (fun w' hw => hT w' hw.sub) htl) ?_; clear ha hs
    rintro e w ⟨ad5, c5, rfl, hs⟩
    refine ⟨_, rfl, ?_⟩
    intro a ha
    replace hC : (fun w' => Rd w' b3 0 (cfC cf)) w := hs.rdAll (b := b3)
    refine ⟨fun _ => hC, ?_⟩
    refine DQ hpk ha rfl rfl (fun w => ex_build ha Ty.b78 Ty.t78 rfl) ?_; clear ha; (try clear a); intro a ha
    refine D1 rfl (st_alloc ha rfl hs Ty.t78 rfl ?_); clear ha hs a; (try clear w); intro b8 a w ha hs ho
    (try replace hC := hC.trans ho); clear ho
    replace hC : (fun w' => Rd w' b3 0 (cfC cf)) w := hs.rdAll (b := b3)
    refine ⟨fun _ => hC, ?_⟩
    refine D1 rfl (st_storeAll ha rfl hs Ty.t78 (by simp [Value.oneCell']) (by rfl) ?_); clear ha hs a; (try clear w); intro a w ha hs
    refine ⟨fun h => absurd h (by decide), ?_⟩
    refine DD <| TN ?_
    exact ⟨_, ad5, c5, ha.keep [3, 4, 8], hs.sub (M := blk b8 78 [.int .i64 cf.guess, .int .i64 cf.order, .slice ad5 tb.length c5] :: Sl 5 1 ad5 tb.length c5 (bc tb) :: blk b3 30 (cfC cf) :: blk b4 33 (prV p adP cP) :: RoP W p adP cP :: L)⟩
   ·
    refine st_alloc ha rfl hs Ty.t78 rfl ?_; clear ha hs; (try clear a); (try clear w); intro b8 a w ha hs ho
    (try replace hC := hC.trans ho); clear ho
    replace hC : (fun w' => Rd w' b3 0 (cfC cf)) w := hs.rdAll (b := b3)
    refine ⟨fun _ => hC, ?_⟩
    refine D1 rfl (st_call ha rfl Ty.c35 rfl (bytes_clone (bs := tb) hs (fun w' hw => hT w' hw.sub) htl) ?_); clear ha hs
    rintro e w ⟨ad5, c5, rfl, hs⟩
    refine ⟨_, rfl, ?_⟩
    intro a ha
    replace hC : (fun w' => Rd w' b3 0 (cfC cf)) w := hs.rdAll (b := b3)
    refine ⟨fun _ => hC, ?_⟩
    refine DQ hpk ha rfl rfl (fun w => ex_build ha Ty.b78 Ty.t78 rfl) ?_; clear ha a; intro a ha
    refine D1 rfl (st_storeAll ha rfl hs Ty.t78 (by simp [Value.oneCell']) (by rfl) ?_); clear ha hs a; (try clear w); intro a w ha hs
    refine ⟨fun h => absurd h (by decide), ?_⟩
    refine DD <| TN ?_
    exact ⟨_, ad5, c5, ha.keep [3, 4, 8], hs.sub (M := blk b8 78 [.int .i64 cf.guess, .int .i64 cf.order, .slice ad5 tb.length c5] :: Sl 5 1 ad5 tb.length c5 (bc tb) :: blk b3 30 (cfC cf) :: blk b4 33 (prV p adP cP) :: RoP W p adP cP :: L)⟩
  ·
   clear ha; (try clear hs)
   intro a w hcut
   obtain ⟨b8, ad5, c5, ha, hs⟩ := hcut
   refine WS <| WR ?_
   refine SK (st_set ha rfl (ex_loadN ha Tryz.underlying30 rfl Ty.t30 (hs.rdAll (b := b3))) rfl ?_); clear ha; (try clear a); intro a ha
   rw [hcf] at ha
   refine SK (st_call ha rfl Ty.c36 rfl (core_new hs hm) ?_); clear ha hs
   rintro e w ⟨Bc, rfl, hs⟩
   refine ⟨_, rfl, ?_⟩
   intro a ha
   rw [← hcf] at hs
   iterate 5 (refine S1 ha ?_; clear ha a; intro a ha)
   refine LN <| TN <| WS <| WS <| WR ?_
   iterate 2 (refine S1 ha ?_; clear ha a; intro a ha)
   rw [show decide ((0 : Int) ≠ 0) = false from rfl] at ha
   refine S1 ha ?_; clear ha a; intro a ha
   refine SK (st_set ha (wgT ha rfl (s := 26)) (ex_loadN ha Tryz.underlying33 rfl Ty.t33 (hs.rdAll (b := b4))) rfl ?_); clear ha a; intro a ha
   refine SK (st_call ha (wgT ha rfl (s := 26)) Ty.c37 rfl (checkMay_spec (hs.pick (RoP W p adP cP)) hsz hol) ?_); clear ha hs
   rintro e w ⟨rc, rfl, hrc, hs⟩
   refine ⟨_, rfl, ?_⟩
   intro a ha
   rw [hrc.2 hpr] at ha
   refine S1g (s := 26) ha ?_; clear ha a; intro a ha
   rw [show (!true) = false from rfl] at ha
   refine PF ha ?_; clear ha a; intro a ha
   refine S1 ha ?_; clear ha a; intro a ha
   refine SK (st_set ha (wgT ha rfl (s := 31)) (ex_loadN ha Tryz.underlying78 rfl Ty.t78 (hs.rdAll (b := b8))) rfl ?_); clear ha a; intro a ha
   refine SK (st_call ha (wgT ha rfl (s := 31)) Ty.c38 rfl (pred_may hs) ?_); clear ha hs
   rintro e w ⟨rp, rfl, hrp, hs⟩
   refine ⟨_, rfl, ?_⟩
   intro a ha
   rw [hrp.2 (by rw [hg.1, hg.2]; exact hgs)] at ha
   refine S1g (s := 31) ha ?_; clear ha a; intro a ha
   refine PF ha ?_; clear ha a; intro a ha
   refine LN <| TN <| WFa ha <| WK <| TN <| WS ?_
   replace hs := hs.sl0 87 4 none
   rw [prV] at hs
   refine WR ?_
   refine S1 ha ?_; clear ha a; intro a ha
   refine SL ha (hs.rd1 rfl) ?_; clear ha a; intro a ha
   refine SK (st_appendT ha rfl hs Tryz.underlying31 Ty.t87 rfl rfl (by decide) (fun h0 => (hs.pick (RoP W p adP cP)).roRd adP h0) (by rw [rows_len opR_len]) (rows_one opR_one _) (by omega) ?_); clear ha hs a; (try clear w); intro ad38 c38 a w ha hs
   rw [List.nil_append, Nat.zero_add] at hs
   rw [Nat.zero_add] at ha
   refine S1 ha ?_; clear ha a; intro a ha
   refine SK (st_store ha rfl hs Ty.t31 rfl (by simp) ?_); clear ha hs a; (try clear w); intro a w ha hs
   refine LN ?_
   replace hs : St W w (blk b4 33 [.string p.title, .slice ad38 p.ops.length c38] :: Sl 87 4 ad38 p.ops.length c38 (rows opR p.ops) :: _) := hs
   refine TN <| WS <| WR ?_
   refine S1 ha ?_; clear ha a; intro a ha
   refine SK (st_set ha rfl (ex_loadN ha Tryz.underlying33 rfl Ty.t33 (hs.rdAll (b := b4))) rfl ?_); clear ha a; intro a ha
   refine SK (st_set ha rfl (ex_loadN ha Tryz.underlying78 rfl Ty.t78 (hs.rdAll (b := b8))) rfl ?_); clear ha a; intro a ha
   simp only [gsC] at ha
   refine SK (st_set ha rfl (ex_build ha Ty.b85 Ty.t85 rfl) rfl ?_); clear ha a; intro a ha
   refine SK (st_box ha rfl hs rfl ?_); clear ha hs a; (try clear w); intro b44 a w ha hs ho
   clear ho
   refine S1 ha ?_; clear ha a; intro a ha
   refine LN ?_
   replace hs := (hs.pick (Sl 87 4 ad38 p.ops.length c38 (rows opR p.ops))).roSl
   replace hs : St W w (blk b44 85 (plC p ⟨b44, Bc, ad38, c38, ad5, c5, ⟨cf.guess, cf.order, tb⟩⟩ zeroG) :: CoreS Bc (newK cf) :: RoP W p ad38 c38 :: Sl 5 1 ad5 tb.length c5 (bc tb) :: RoP W p adP cP :: L) := by
     have hs2 : St W w (RoP W p ad38 c38 :: _) := hs
     have hs3 := hs2.bring b44
     exact St.sub (M := _ :: CoreS Bc (newK cf) :: RoP W p ad38 c38 :: Sl 5 1 ad5 tb.length c5 (bc tb) :: RoP W p adP cP :: L) (show St W w (blk b44 85 (plC p ⟨b44, Bc, ad38, c38, ad5, c5, ⟨cf.guess, cf.order, tb⟩⟩ zeroG) :: _) from hs3)
   replace hs := PlainS.fold hs ⟨b44, Bc, ad38, c38, ad5, c5, ⟨cf.guess, cf.order, tb⟩⟩ p ⟨newK cf, zeroG⟩
   refine TN <| WS <| WR ?_
   refine S1 ha ?_; clear ha a; intro a ha
   refine SK (st_call ha rfl Ty.c39 rfl (plain_mark hs (newP_ok (by rw [hcf]; exact hm)) hpr hsz) ?_); clear ha hs
   rintro e w ⟨rfl, hs⟩
   refine ⟨_, rfl, ?_⟩
   intro a ha
   refine LN <| TN <| WS <| WR ?_
   iterate 3 (refine S1 ha ?_; clear ha a; intro a ha)
   refine LN <| TN <| wp_ret ?_
   refine ret2 ha rfl ?_
   exact ⟨⟨b44, Bc, ad38, c38, ad5, c5, ⟨cf.guess, cf.order, tb⟩⟩, rfl, by rw [hg.1, hg.2], hs⟩
end
end Go.Proofs.YtagpkhbkdbaigaaGreat

