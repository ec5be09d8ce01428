/- PlainGuess. -/
import Derived.Test.YtagpkhbkdbaigaaGreatPlSure
namespace Go.Proofs.YtagpkhbkdbaigaaGreat
open Go.RowKit
set_option linter.unusedVariables false
set_option linter.unusedSimpArgs false
set_option maxRecDepth 10000
set_option synthInstance.maxSize 4000
set_option synthInstance.maxHeartbeats 400000

def gG : Gs := ⟨3, 0, [4, 1, 3]⟩
theorem chainG_succ (i : Nat) : chainN gG [] (i + 1) = chainN gG [] i ++ [gG.table.getD (i % 3) 0] := by
  have hl : (chainN gG [] i).length = i := by rw [chainN_len]; simp
  rw [chainN, firstB, if_pos (show gG.kind = 3 from rfl), hl]
  rfl
theorem chainG_len (i : Nat) : (chainN gG [] i).length = i := by rw [chainN_len]; simp
theorem tableG (i : Nat) : ([Value.int .u8 4, .int .u8 1, .int .u8 3])[i % 3]? = some (.int .u8 ((gG.table.getD (i % 3) 0).toNat : Int)) := by
  have h : i % 3 = 0 ∨ i % 3 = 1 ∨ i % 3 = 2 := by omega
  rcases h with h | h | h <;> rw [h] <;> rfl
theorem dispG_one {P : List UInt8} {s : Pl} (t : Two sumP 16 0 [P, []] s) (h : 0 < P.length) : dispG sumP gG s = (gameB (foldI sumP 0 zeroG (jn P (chainN gG [] P.length) P.length)), P.length) := by
  have hf : frontL [P, []] = 0 := by rw [front_two]; simp
  have hh : headK s.k = P.length := t.head
  have hfk : frontK s.k = 0 := by rw [t.front, hf]
  have hg : s.g = zeroG := by rw [t.game, hf]; rfl
  rw [dispG, if_neg (by omega), hh, hfk, hg, t.ls]
  have ha : aheadL gG [P, []] P.length = jn P (chainN gG [] P.length) P.length := by
    have h1 : fullL gG [P, []] P.length = [P, chainN gG [] P.length] := by
      show [fullB gG P P.length, fullB gG [] P.length] = _
      rw [fullB, Nat.sub_self, fullB]; rfl
    rw [aheadL, h1, hf, jn]
    simp only [Nat.sub_zero, Nat.zero_add]
  rw [ha]; rfl
theorem bc_set (bs : List UInt8) (i : Nat) (x : UInt8) : (bc bs).set i (.int .u8 (x.toNat : Int)) = bc (bs.set i x) := by rw [bc, bc, List.map_set]
theorem putLn_nil (G : List UInt8) (h : G.length ≤ 1000) : putLn [] 0 G = G := by
  rw [putLn, if_neg (by simp)]
  simp only [List.length_nil, Nat.sub_zero, List.drop_zero, List.nil_append]
  exact List.take_of_length_le h
set_option maxHeartbeats 4000000 in
theorem plainGuess_walk (a0 : Option Addr) (len0 cap0 : Nat) (z0 : List Int) (a1 : Bool) (a2 : Int) (W : World) (w0 : ArgInts .u8 W a0 len0 cap0 z0) (w2 : (Lit.int .u8 a2).wf = true) :
    Calls Tryz.prog 6 #[.slice a0 len0 cap0, .bool a1, .int .u8 a2] W fun e w' => e = .returned (.bool true) ∧ Below W.heap.size W w' := by
  have hs := St.start W
  have hm0 : mayCf ⟨(2 : Nat), (0 : Nat), 0, (0 : Nat), (16 : Nat), 3, 0, 0, 0, 3⟩ := by decide
  obtain ⟨P0, hP0, hrP0⟩ := w0.bytesB
  have hcap0 := capLe w0
  obtain ⟨xb, rfl⟩ : ∃ xb : UInt8, a2 = (xb.toNat : Int) := ⟨_, u8of w2⟩
  refine calls_enter Tryz.func6 rfl Tryz.ntmps6 (Nat.le_of_ble_eq_true rfl) ?_
  intro a ha
  replace ha : Fr a 134 [(0, _), (1, _), (2, _)] := ha
  refine WS <| WR ?_
  refine S1 ha ?_; clear ha a; intro a ha
  refine LN <| TN <| WS <| WR ?_
  refine SK (st_call ha rfl Ty.c10 rfl (begun22 hs) ?_); clear ha hs
  rintro e w ⟨rfl, hs⟩
  refine ⟨_, rfl, ?_⟩
  intro a ha
  refine S1 ha ?_; clear ha a; intro a ha
  refine LN <| TN <| WS <| WS <| WR ?_
  iterate 2 (refine S1 ha ?_; clear ha a; intro a ha)
  refine LN <| TN <| WFa ha <| WK <| TN <| WS <| WR ?_
  refine S1 ha ?_; clear ha a; intro a ha
  refine SK (st_call ha rfl Ty.c11 rfl (shortN (K := 10) hs hrP0 hcap0) ?_); clear ha hs
  rintro e w ⟨aP, cP, rfl, hrP, hcP, hs⟩
  refine ⟨_, rfl, ?_⟩
  intro a ha
  refine S1d ha ?_; clear ha a; intro a ha
  refine LN ?_
  have hPl : (P0.take 10).length ≤ 10 := by rw [List.length_take]; omega
  generalize P0.take 10 = P at ha hrP hcP hPl
  refine TN <| WS <| WS <| WR ?_
  iterate 3 (refine S1 ha ?_; clear ha a; intro a ha)
  refine LN <| TN ?_
  refine WI ha (fun hc1 => ?_) (fun hc1 => ?_)
  ·
   refine WS <| WR ?_
   refine S1d ha ?_; clear ha; (try clear a); intro a ha
   refine LN <| TN <| wp_ret <| TR ?_
   refine ret1 ha rfl ?_
   exact ⟨rfl, hs.below⟩
  ·
   have hP0 : 0 < P.length := by omega
   refine WK <| TN <| WS <| WR ?_
   refine SK (st_set ha rfl (ex_build ha Ty.b30 Ty.t30 rfl) rfl ?_); clear ha; (try clear a); intro a ha
   refine SK (st_call ha rfl Ty.c13 rfl (prog22 hs) ?_); clear ha hs
   rintro e w ⟨adP, rfl, hs⟩
   refine ⟨_, rfl, ?_⟩
   intro a ha
   refine SK (st_buildSlice ha rfl hs Tryz.underlying22 Ty.t5 rfl rfl rfl rfl (by decide) (by decide) ?_); clear ha hs a; (try clear w); intro b29 a w ha hs ho
   clear ho
   refine SK (st_call ha rfl Ty.c12 rfl (plain_new (tb := [4, 1, 3]) (n := 2) (me := 0) (id := 0) (delay := 0) (window := 16) (guess := 3) (order := 0) (branches := 0) (workers := 0) (room := 3) (hs.pick (RoP W sumP adP 12)) hm0 sumP_ok (by decide) (by decide) (by decide) (by decide) (fun w' h => ⟨rfl, fun e => (by cases e), fun x hx _ => ⟨b29, 0, by cases hx; rfl, h.rdAll (b := b29)⟩⟩)) ?_); clear ha hs
   rintro e w ⟨B, rfl, hgs, hs⟩
   refine ⟨_, rfl, ?_⟩
   intro a ha
   have t0 : Two sumP 16 0 [[], []] (newP sumP _) := Two.new (id := 0) hm0 rfl
   generalize newP sumP _ = s0 at hs t0
   replace hgs : B.gs = gG := hgs
   have hgm : mayGs B.gs := by rw [hgs]; decide
   iterate 5 (refine S1 ha ?_; clear ha a; intro a ha)
   refine LN <| TN <| WS <| WS <| WR ?_
   iterate 2 (refine S1 ha ?_; clear ha a; intro a ha)
   refine LN <| TN <| WFa ha <| WK <| TN <| WS <| WR ?_
   refine S1 ha ?_; clear ha a; intro a ha
   refine LN ?_
   replace hs := hs.sl0 5 1 none
   refine TN <| WS <| WS <| WR ?_
   refine S1 ha ?_; clear ha a; intro a ha
   refine LN <| TN <| wp_block ?_
   refine wp_loop_ghost (fun μ a w => ∃ (i : Nat) (s : Pl) (adg : Option Addr) (cg : Nat), (μ = P.length - i ∧ i ≤ P.length ∧ Two sumP 16 0 [P.take i, []] s) ∧ Fr a 134 [(0, .slice aP P.length cP), (1, .bool a1), (2, .int .u8 (xb.toNat : Int)), (8, .pointer (some ⟨B.pb, 0, none⟩)), (10, .slice adg i cg), (11, .int .i64 i)] ∧ St W w (Sl 5 1 adg i cg (bc (chainN gG [] i)) :: PlainS W B sumP s :: [])) (P.length) ?_ ?_
   · exact ⟨0, s0, none, 0, ⟨rfl, Nat.zero_le _, t0⟩, ha.keep [0, 1, 2, 8, 10, 11], (show St W w (Sl 5 1 none 0 0 (bc (chainN gG [] 0)) :: _) from hs).sub⟩
   ·
    clear ha hs
    rintro μ a w ⟨i, s, adg, cg, ⟨rfl, hi, t⟩, ha, hs⟩
    refine WS <| WS <| WR ?_
    refine S1 ha ?_; clear ha; (try clear a); intro a ha
    iterate 3 (refine S1 ha ?_; clear ha a; intro a ha)
    refine LN <| TN ?_
    refine WI ha (fun hc3 => ?_) (fun hc3 => ?_)
    ·
     obtain ⟨bp, op, rfl, hrp⟩ := (hrP.old hs).get (by omega)
     have hip : i < P.length := by omega
     have htl : (P.take i).length = i := by rw [List.length_take]; omega
     refine WK <| TN <| WS <| wp_block <| WS <| WS <| WR ?_
     refine S1 ha ?_; clear ha; (try clear a); intro a ha
     iterate 2 (refine S1 ha ?_; clear ha a; intro a ha)
     refine SK (st_set ha rfl (ex_indexAddr ha Tryz.underlying22 Ty.t5 (by omega)) rfl ?_); clear ha a; intro a ha
     rw [Nat.mul_one] at ha
     refine SL ha (hrp i _ (bc_at hip)) ?_; clear ha a; intro a ha
     refine SK (st_call ha rfl Ty.c14 rfl (two_press (x := P[i]) (hs.pick (PlainS W B sumP s)) t sumP_ok (by decide) (by show (P.take i).length < 1000; omega) (by show (P.take i).length < _; omega)) ?_); clear ha hs
     rintro e w ⟨s', rfl, t2, hs⟩
     refine ⟨_, rfl, ?_⟩
     intro a ha
     refine S1 ha ?_; clear ha a; intro a ha
     refine LN <| TN <| WFa ha <| WK <| TN <| WR ?_
     refine S1 ha ?_; clear ha a; intro a ha
     refine SK (st_buildSlice ha rfl hs Tryz.underlying22 Ty.t5 rfl rfl rfl rfl (by decide) (by decide) ?_); clear ha hs a; (try clear w); intro b49 a w ha hs ho
     clear ho
     refine S1 ha ?_; clear ha a; intro a ha
     refine SK (st_set ha rfl (ex_rem ha (by decide)) rfl ?_); clear ha a; intro a ha
     rw [show ((i : Nat) : Int).tmod 3 = ((i % 3 : Nat) : Int) from remN _ 3] at ha
     refine SK (st_set ha rfl (ex_indexAddr ha Tryz.underlying22 Ty.t5 (by omega)) rfl ?_); clear ha a; intro a ha
     rw [Nat.zero_add, Nat.mul_one] at ha
     refine SL ha (hs.rd1 (b := b49) (tableG i)) ?_; clear ha a; intro a ha
     refine SK (st_buildSlice ha rfl hs Tryz.underlying22 Ty.t5 rfl rfl rfl rfl (by decide) (by decide) ?_); clear ha hs a; (try clear w); intro b54 a w ha hs ho
     clear ho
     refine SK (st_append ha rfl hs Tryz.underlying22 Ty.t5 rfl rfl hs.rdAll rfl (bc_one [gG.table.getD (i % 3) 0]) (by decide) (by decide) (by omega) ?_); clear ha hs a; (try clear w); intro ad55 c55 a w ha hs
     rw [show bc (chainN gG [] i) ++ _ = bc (chainN gG [] (i + 1)) from by rw [chainG_succ, bc_app]] at hs
     refine S1d ha ?_; clear ha a; intro a ha
     refine LN <| BN <| TN <| WR ?_
     refine S1 ha ?_; clear ha a; intro a ha
     refine SK (st_set ha rfl (ex_addI ha (by omega) (by omega)) rfl ?_); clear ha a; intro a ha
     refine S1d ha ?_; clear ha a; intro a ha
     refine LN <| TN ?_
     replace t2 : Two sumP 16 0 [P.take i ++ [P[i]], []] s' := t2
     rw [List.take_append_getElem] at t2
     exact ⟨P.length - (i + 1), by omega, i + 1, s', ad55, c55, ⟨rfl, by omega, t2⟩, ha.keep [0, 1, 2, 8, 10, 11], hs.sub⟩
    ·
     obtain rfl : i = P.length := by omega
     rw [List.take_length] at t
     have hd1 : (dispG sumP B.gs s).1 = gameB (foldI sumP 0 zeroG (jn P (chainN gG [] P.length) P.length)) := by rw [hgs, dispG_one t hP0]
     have hd2 : (dispG sumP B.gs s).2 = P.length := by rw [hgs, dispG_one t hP0]
     refine wp_exit <| TE <| TE <| blk_e <| TN <| WS <| WR ?_
     refine S1 ha ?_; clear ha; (try clear a); intro a ha
     refine SK (st_call ha rfl Ty.c23 rfl (plain_display (hs.pick (PlainS W B sumP s)) t.wf sumP_ok (by decide) hgm) ?_); clear ha hs
     rintro e w ⟨adD, cD, rfl, hs⟩
     refine ⟨_, rfl, ?_⟩
     intro a ha
     rw [hd2] at ha
     rw [hd1] at hs
     iterate 5 (refine S1 ha ?_; clear ha a; intro a ha)
     refine LN <| TN ?_
     refine wp_seq_cut (M := fun a w => ∃ (G' : List UInt8), (G'.length = P.length ∧ (a1 = true → G' = chainN gG [] P.length)) ∧ Fr a 134 [(0, .slice aP P.length cP), (1, .bool a1), (8, .pointer (some ⟨B.pb, 0, none⟩)), (10, .slice adg G'.length cg), (12, .slice adD 128 cD), (13, .int .i64 P.length)] ∧ St W w (Sl 5 1 adg G'.length cg (bc G') :: Sl 5 1 adD 128 cD (bc (gameB (foldI sumP 0 zeroG (jn P (chainN gG [] P.length) P.length)))) :: PlainS W B sumP s :: [])) ?_ ?_
     ·
      refine WS <| WR ?_
      refine S1 ha ?_; clear ha; (try clear a); intro a ha
      iterate 2 (refine S1 ha ?_; clear ha a; intro a ha)
      refine ha.by (s := 63) (fun hg2 ha => ?_) (fun hg2 ha => ?_)
      ·
       refine S1g (s := 63) ha ?_; clear ha; (try clear a); intro a ha
       refine S1g (s := 63) ha ?_; clear ha a; intro a ha
       refine PT ha ?_; clear ha a; intro a ha
       refine LN <| TN ?_
       refine WI ha (fun hc5 => ?_) (fun hc5 => ?_)
       ·
        have hr1 : a1 = false := by cases a1 <;> simp_all
        obtain ⟨bg, og, rfl, hrg⟩ := (hs.pick (Sl 5 1 adg P.length cg (bc (chainN gG [] P.length)))).slRd adg hP0
        have hlt : P.length - 1 < (chainN gG [] P.length).length := by rw [chainG_len]; omega
        refine WR ?_
        refine S1 ha ?_; clear ha; (try clear a); intro a ha
        iterate 2 (refine S1 ha ?_; clear ha a; intro a ha)
        refine SK (st_set ha rfl (ex_subI ha (by omega) (by omega)) rfl ?_); clear ha a; intro a ha
        rw [show (P.length : Int) - 1 = ((P.length - 1 : Nat) : Int) from by omega] at ha
        refine SK (st_set ha rfl (ex_indexAddr ha Tryz.underlying22 Ty.t5 (by omega)) rfl ?_); clear ha a; intro a ha
        rw [Nat.mul_one] at ha
        refine SL ha (hrg _ _ (bc_at hlt)) ?_; clear ha a; intro a ha
        refine S1 ha ?_; clear ha a; intro a ha
        refine SK (st_set ha rfl (ex_xor8 ha) rfl ?_); clear ha a; intro a ha
        refine SK (st_set ha rfl (ex_indexAddr ha Tryz.underlying22 Ty.t5 (by omega)) rfl ?_); clear ha a; intro a ha
        rw [Nat.mul_one] at ha
        refine SK (st_storeS (off := og) (k := P.length - 1) ha rfl hs Ty.t5 rfl (by omega) (by rw [bc_len, chainG_len]; omega) ?_); clear ha hs a; (try clear w); intro a w ha hs
        rw [bc_set] at hs
        refine LN <| TN ?_
        refine ⟨(chainN gG [] P.length).set (P.length - 1) ((chainN gG [] P.length)[P.length - 1] ^^^ xb), ⟨by rw [List.length_set, chainG_len], fun h => by rw [hr1] at h; cases h⟩, ?_, ?_⟩
        · rw [List.length_set, chainG_len]; exact ha.keep [0, 1, 8, 10, 12, 13]
        · rw [List.length_set, chainG_len]; exact hs.sub
       ·
        refine WK <| TN ?_
        exact ⟨chainN gG [] P.length, ⟨chainG_len _, fun _ => rfl⟩, by rw [chainG_len]; exact ha.keep [0, 1, 8, 10, 12, 13], by rw [chainG_len]; exact hs.sub⟩
      ·
       refine SO (s := 63) ha ?_; clear ha; (try clear a); intro a ha
       refine SO (s := 63) ha ?_; clear ha a; intro a ha
       refine PF ha ?_; clear ha a; intro a ha
       refine LN <| TN <| WFa ha <| WK <| TN ?_
       exact ⟨chainN gG [] P.length, ⟨chainG_len _, fun _ => rfl⟩, by rw [chainG_len]; exact ha.keep [0, 1, 8, 10, 12, 13], by rw [chainG_len]; exact hs.sub⟩
     ·
      clear ha; (try clear hs)
      intro a w hcut
      obtain ⟨G', ⟨hGl, hGr⟩, ha, hs⟩ := hcut
      refine WS <| WS <| WR ?_
      refine S1 ha ?_; clear ha; (try clear a); intro a ha
      refine S1 ha ?_; clear ha a; intro a ha
      refine SK (st_set ha rfl (ex_build ha Ty.b40 Ty.t40 rfl) rfl ?_); clear ha a; intro a ha
      refine SK (st_call ha rfl Ty.c16 rfl (refPacket_spec (p := pkT 0 G') (ad := adg) (c := cg) hs (by show 0 < 4294967296; decide) (fun w' hw => (hw.pick (Sl 5 1 adg G'.length cg (bc G'))).rdB adg G' rfl rfl)) ?_); clear ha hs
      rintro e w ⟨adE, cE, rfl, hs⟩
      refine ⟨_, rfl, ?_⟩
      intro a ha
      refine SK (st_call ha rfl Ty.c15 rfl (two_recv (me := 0) (f := 0) (bs := G') (hs.pick (PlainS W B sumP s)) t sumP_ok (by decide) (by decide) (by omega) (hs.sl adE).2 (fun w' hw => (hw.pick (Sl 5 1 adE (encO (pkT 0 G')).length cE (bc (encO (pkT 0 G'))))).rdB adE _ rfl rfl)) ?_); clear ha hs
      rintro e w ⟨s', rfl, t2, hs⟩
      refine ⟨_, rfl, ?_⟩
      intro a ha
      replace t2 : Two sumP 16 0 [P, putLn [] 0 G'] s' := t2
      rw [putLn_nil G' (by omega)] at t2
      replace hs := hs.sub (M := Sl 5 1 adg G'.length cg (bc G') :: Sl 5 1 adD 128 cD (bc (gameB (foldI sumP 0 zeroG (jn P (chainN gG [] P.length) P.length)))) :: PlainS W B sumP s' :: [])
      refine S1 ha ?_; clear ha a; intro a ha
      refine LN <| TN <| WFa ha <| WK <| TN <| WS ?_
      have hfr : frontL [P, G'] = P.length := by rw [front_two, hGl, Nat.min_self]
      have hga : gameAt sumP [P, G'] P.length = foldI sumP 0 zeroG (jn P G' P.length) := rfl
      refine WR ?_
      refine S1 ha ?_; clear ha a; intro a ha
      refine SK (st_call ha rfl Ty.c17 rfl (two_conf (hs.pick (PlainS W B sumP s')) t2) ?_); clear ha hs
      rintro e w ⟨adC, cC, rfl, hs⟩
      refine ⟨_, rfl, ?_⟩
      intro a ha
      rw [hfr] at ha hs
      rw [hga] at hs
      iterate 5 (refine S1 ha ?_; clear ha a; intro a ha)
      refine LN <| TN <| WS <| WR ?_
      refine S1 ha ?_; clear ha a; intro a ha
      refine LN ?_
      replace hs := St.sl0 (St.allNil (f := bbo) hs) 22 1 none
      refine TN <| WS <| WS <| WR ?_
      refine S1 ha ?_; clear ha a; intro a ha
      refine LN <| TN <| wp_block ?_
      refine wp_loop_ghost (fun μ a w => ∃ (j : Nat) (zs : List BBx) (adJ : Option Addr) (cJ : Nat), (μ = P.length - j ∧ j ≤ P.length ∧ prx zs = jn P G' j) ∧ Fr a 134 [(0, .slice aP P.length cP), (1, .bool a1), (8, .pointer (some ⟨B.pb, 0, none⟩)), (10, .slice adg G'.length cg), (12, .slice adD 128 cD), (13, .int .i64 P.length), (14, .slice adC 128 cC), (15, .int .i64 P.length), (16, .slice adJ j cJ), (17, .int .i64 j)] ∧ St W w (Sl 22 1 adJ j cJ (zs.map bbv) :: All bbo zs :: Sl 5 1 adC 128 cC (bc (gameB (foldI sumP 0 zeroG (jn P G' P.length)))) :: Sl 5 1 adg G'.length cg (bc G') :: Sl 5 1 adD 128 cD (bc (gameB (foldI sumP 0 zeroG (jn P (chainN gG [] P.length) P.length)))) :: PlainS W B sumP s' :: [])) (P.length) ?_ ?_
      · exact ⟨0, [], none, 0, ⟨rfl, by omega, rfl⟩, ha.keep [0, 1, 8, 10, 12, 13, 14, 15, 16, 17], (show St W w (Sl 22 1 none 0 0 (([] : List BBx).map bbv) :: All bbo [] :: _) from hs).sub⟩
      ·
       clear ha hs
       rintro μ a w ⟨j, zs, adJ, cJ, ⟨rfl, hjl, hz⟩, ha, hs⟩
       refine WS <| WS <| WR ?_
       refine S1 ha ?_; clear ha; (try clear a); intro a ha
       iterate 3 (refine S1 ha ?_; clear ha a; intro a ha)
       refine LN <| TN ?_
       refine WI ha (fun hc7 => ?_) (fun hc7 => ?_)
       ·
        have hjP : j < P.length := by omega
        have hjO : j < G'.length := by omega
        refine WK <| TN <| WS <| wp_block ?_
        obtain ⟨bp, op, rfl, hrp⟩ := (hrP.old hs.drew).get (by omega)
        obtain ⟨bo, oo, rfl, hro⟩ := ((hs.drew.pick (Sl 5 1 adg G'.length cg (bc G'))).rdB adg G' rfl rfl).get (by omega)
        refine DW (m := 13) (Old w.drew) [8] [0, 1, 2, 3, 5, 6, 7, 4, 8, 9, 10, 11, 12] Ty.mixed (pk_blk (pk_then (pk_then (pk_blk (pk_then pk_body))))) (fun hpk => ?_)
        replace hs := hs.drew
        have hC := Old.refl w.drew
        generalize w.drew = w at hs hC hpk hrp hro ⊢
        refine DP hpk ha rfl ?_; clear ha; (try clear a); intro a ha
        iterate 2 (refine DP hpk ha rfl ?_; clear ha a; intro a ha)
        refine DQ hpk ha rfl rfl (fun w => ex_indexAddr ha Tryz.underlying22 Ty.t5 (by omega)) ?_; clear ha a; intro a ha
        rw [Nat.mul_one] at ha
        iterate 2 (refine DP hpk ha rfl ?_; clear ha a; intro a ha)
        refine DQ hpk ha rfl rfl (fun w => ex_indexAddr ha Tryz.underlying22 Ty.t5 (by omega)) ?_; clear ha a; intro a ha
        rw [Nat.mul_one] at ha
        refine DL hpk ha rfl (fun w hc => hc.cell (hrp j _ (bc_at hjP))) hC ?_; clear ha a; intro a ha
        refine D1 rfl (st_set ha rfl (ex_load1 ha Tryz.underlying5 rfl (hro j _ (bc_at hjO))) rfl ?_); clear ha a; intro a ha
        refine ⟨fun _ => hC, ?_⟩
        refine D1 rfl (st_buildSlice ha rfl hs Tryz.underlying22 Ty.t5 rfl rfl rfl rfl (by decide) (by decide) ?_); clear ha hs a; (try clear w); intro b102 a w ha hs ho
        (try replace hC := hC.trans ho); clear ho
        refine ⟨fun h => absurd h (by decide), ?_⟩
        refine D1 rfl (st_buildSlice ha rfl hs Tryz.underlying41 Ty.t22 rfl rfl rfl rfl (by decide) (by decide) ?_); clear ha hs a; (try clear w); intro b103 a w ha hs ho
        (try replace hC := hC.trans ho); clear ho
        refine ⟨fun h => absurd h (by decide), ?_⟩
        refine D1 rfl (st_append ha rfl hs Tryz.underlying41 Ty.t22 rfl rfl hs.rdAll rfl (by simp [Value.oneCell']) (by decide) (by decide) (by omega) ?_); clear ha hs a; (try clear w); intro ad104 c104 a w ha hs
        refine ⟨fun h => absurd h (by decide), ?_⟩
        rw [show zs.map bbv ++ _ = (zs ++ [((some ⟨b102, 0, none⟩, 2, [P[j], G'[j]]) : BBx)]).map bbv from by rw [List.map_append]; rfl] at hs
        replace ha := ha.del 16
        refine DP hpk ha rfl ?_; clear ha a; intro a ha
        refine DD <| BN <| TN <| WR ?_
        refine S1 ha ?_; clear ha a; intro a ha
        refine SK (st_set ha rfl (ex_addI ha (by omega) (by omega)) rfl ?_); clear ha a; intro a ha
        refine S1d ha ?_; clear ha a; intro a ha
        refine LN <| TN ?_
        have hs1 : St W w (Sl 5 1 (some ⟨b102, 0, none⟩) [P[j], G'[j]].length 2 (bc [P[j], G'[j]]) :: _) := St.blkSl (k := 2) (sz := 1) (hs.bring b102) rfl
        have hs2 := St.allPush (f := bbo) (x := ((some ⟨b102, 0, none⟩, 2, [P[j], G'[j]]) : BBx)) (hs1.sub (M := Sl 5 1 (some ⟨b102, 0, none⟩) [P[j], G'[j]].length 2 (bc [P[j], G'[j]]) :: All bbo zs :: Sl 22 1 ad104 (j + 1) c104 ((zs ++ [((some ⟨b102, 0, none⟩, 2, [P[j], G'[j]]) : BBx)]).map bbv) :: Sl 5 1 adC 128 cC (bc (gameB (foldI sumP 0 zeroG (jn P G' P.length)))) :: Sl 5 1 (some ⟨bo, oo, none⟩) G'.length cg (bc G') :: Sl 5 1 adD 128 cD (bc (gameB (foldI sumP 0 zeroG (jn P (chainN gG [] P.length) P.length)))) :: PlainS W B sumP s' :: []))
        exact ⟨P.length - (j + 1), by omega, j + 1, zs ++ [((some ⟨b102, 0, none⟩, 2, [P[j], G'[j]]) : BBx)], ad104, c104, ⟨rfl, by omega, by rw [prx, List.map_append, ← prx, hz, jn_succ hjP hjO]; rfl⟩, ha.keep [0, 1, 8, 10, 12, 13, 14, 15, 16, 17], hs2.sub⟩
       ·
        obtain rfl : j = P.length := by omega
        obtain ⟨m, hm⟩ : ∃ m, m = P.length := ⟨_, rfl⟩
        refine wp_exit <| TE <| TE <| blk_e <| TN <| WS <| WS ?_
        refine DW (m := 20) (fun w' => RdB w' adC 128 (gameB (foldI sumP 0 zeroG (jn P G' P.length)))) [12, 15, 16, 17] [0, 1, 2, 3, 4, 5, 6, 7, 8, 9, 10, 13, 14, 11, 12, 15, 16, 17, 18, 19] Ty.mixed (pk_then (pk_then pk_body)) (fun hpk => ?_)
        replace hs := hs.drew
        generalize w.drew = w at hs hpk ⊢
        have hC : RdB w adC 128 (gameB (foldI sumP 0 zeroG (jn P G' P.length))) := hs.rdB adC _ rfl (gameB_len _)
        refine DP hpk ha rfl ?_; clear ha; (try clear a); intro a ha
        iterate 4 (refine DP hpk ha rfl ?_; clear ha a; intro a ha)
        rw [decide_eq_false (by omega)] at ha
        iterate 3 (refine DPg (s := 109) hpk ha rfl ?_; clear ha a; intro a ha)
        refine DF hpk ha rfl ?_; clear ha a; intro a ha
        refine DP hpk ha rfl ?_; clear ha a; intro a ha
        rw [decide_eq_false (by omega)] at ha
        refine DPg (s := 114) hpk ha rfl ?_; clear ha a; intro a ha
        refine DQ hpk ha rfl (wgT ha rfl (s := 114)) (fun w => ex_buildA0 ha Tryz.underlying46 Ty.t46 Ty.t21) ?_; clear ha a; intro a ha
        refine DPg (s := 114) hpk ha rfl ?_; clear ha a; intro a ha
        refine DH hpk ha rfl (wgT ha rfl (s := 114)) (fun w hc => ex_toString ha Tryz.underlying22 Tryz.underlying5 Tryz.underlying9 (hc)) hC ?_; clear ha a; intro a ha
        refine D1 rfl (st_call ha (wgT ha rfl (s := 114)) Ty.c13 rfl (prog22 hs) ?_); clear ha hs
        rintro e w ⟨adQ, rfl, hs⟩
        refine ⟨_, rfl, ?_⟩
        intro a ha
        replace hC : (fun w' => RdB w' adC 128 (gameB (foldI sumP 0 zeroG (jn P G' P.length)))) w := hs.rdB adC _ rfl (gameB_len _)
        refine ⟨fun _ => hC, ?_⟩
        refine D1 rfl (st_call ha (wgT ha rfl (s := 114)) Ty.c19 rfl (refFold_len (p := sumP) (P := jn P G' P.length) (zs := zs) (g := zeroG) (fr := 0) (L := Sl 22 1 adJ P.length cJ (zs.map bbv) :: All bbo zs :: Sl 5 1 adC 128 cC (bc (gameB (foldI sumP 0 zeroG (jn P G' P.length)))) :: Sl 5 1 adg G'.length cg (bc G') :: Sl 5 1 adD 128 cD (bc (gameB (foldI sumP 0 zeroG (jn P (chainN gG [] P.length) P.length)))) :: PlainS W B sumP s' :: []) hs.sub (jn_len P G' P.length) sumP_ok (by decide) zeroG_ok ⟨by rw [jn_len]; omega, jn_short⟩ hz (by decide) (fun w' hw => hw.rdX)) ?_); clear ha hs
        rintro e w ⟨rfl, hgk, hs⟩
        refine ⟨_, rfl, ?_⟩
        intro a ha
        replace hC : (fun w' => RdB w' adC 128 (gameB (foldI sumP 0 zeroG (jn P G' P.length)))) w := hs.rdB adC _ rfl (gameB_len _)
        refine ⟨fun _ => hC, ?_⟩
        refine D1 rfl (st_call ha (wgT ha rfl (s := 114)) Ty.c18 rfl (refBytes_spec hs) ?_); clear ha hs
        rintro e w ⟨adG, cG, rfl, hs⟩
        refine ⟨_, rfl, ?_⟩
        intro a ha
        replace hC : (fun w' => RdB w' adC 128 (gameB (foldI sumP 0 zeroG (jn P G' P.length)))) w := hs.rdB adC _ rfl (gameB_len _)
        refine ⟨fun _ => hC, ?_⟩
        refine D1 rfl (st_set ha (wgT ha rfl (s := 114)) (ex_toString ha Tryz.underlying22 Tryz.underlying5 Tryz.underlying9 ((hs.rdB adG (gameB (foldI sumP 0 zeroG (jn P G' P.length))) rfl (gameB_len _)))) rfl ?_); clear ha a; intro a ha
        refine ⟨fun _ => hC, ?_⟩
        refine DQ hpk ha rfl (wgT ha rfl (s := 114)) (fun w => ex_neqS ha) ?_; clear ha a; intro a ha
        rw [str_beq, beq_self_eq_true, Bool.not_true] at ha
        refine DF hpk ha rfl ?_; clear ha a; intro a ha
        refine DD <| TN <| WFa ha <| WK <| TN <| WS <| WR ?_
        iterate 3 (refine S1 ha ?_; clear ha a; intro a ha)
        refine ha.by (s := 127) (fun hg2 ha => ?_) (fun hg2 ha => ?_)
        ·
         refine SO (s := 127) ha ?_; clear ha; (try clear a); intro a ha
         iterate 4 (refine SO (s := 127) ha ?_; clear ha a; intro a ha)
         refine PT ha ?_; clear ha a; intro a ha
         refine S1 ha ?_; clear ha a; intro a ha
         refine LN <| TN <| wp_ret ?_
         refine ret1 ha rfl ?_
         exact ⟨rfl, hs.below⟩
        ·
         refine S1g (s := 127) ha ?_; clear ha; (try clear a); intro a ha
         refine SK (st_set ha (wgT ha rfl (s := 127)) (ex_toString ha Tryz.underlying22 Tryz.underlying5 Tryz.underlying9 (hs.rdB adC (gameB (foldI sumP 0 zeroG (jn P G' P.length))) rfl (gameB_len _))) rfl ?_); clear ha a; intro a ha
         refine S1g (s := 127) ha ?_; clear ha a; intro a ha
         refine SK (st_set ha (wgT ha rfl (s := 127)) (ex_toString ha Tryz.underlying22 Tryz.underlying5 Tryz.underlying9 (hs.rdB adD (gameB (foldI sumP 0 zeroG (jn P (chainN gG [] P.length) P.length))) rfl (gameB_len _))) rfl ?_); clear ha a; intro a ha
         refine SK (st_set ha (wgT ha rfl (s := 127)) (ex_eqlS ha) rfl ?_); clear ha a; intro a ha
         refine PF ha ?_; clear ha a; intro a ha
         refine S1 ha ?_; clear ha a; intro a ha
         refine LN <| TN <| wp_ret ?_
         refine ret1 ha rfl ?_
         have hr2 : a1 = true := by cases a1 <;> simp_all
         exact ⟨by rw [hGr hr2, str_beq, beq_self_eq_true], hs.below⟩
end Go.Proofs.YtagpkhbkdbaigaaGreat

