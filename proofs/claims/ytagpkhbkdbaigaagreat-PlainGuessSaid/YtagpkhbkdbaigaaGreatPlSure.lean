/- PlainSure. -/
import Derived.Test.YtagpkhbkdbaigaaGreatBeg
import Derived.Test.YtagpkhbkdbaigaaGreatArgB
namespace Go.Proofs.YtagpkhbkdbaigaaGreat
open Go.RowKit
set_option linter.unusedVariables false
set_option linter.unusedSimpArgs false
set_option maxRecDepth 10000
set_option synthInstance.maxSize 4000
set_option synthInstance.maxHeartbeats 400000

theorem putLn_one {O : List UInt8} {i : Nat} (h : i < O.length) (hi : i < 1000) : putLn (O.take i) i [O[i]] = O.take (i + 1) := by
  have hl : (O.take i).length = i := by rw [List.length_take]; omega
  rw [putLn, if_neg (by omega), hl, Nat.sub_self, List.drop_zero, List.take_of_length_le (l := [O[i]]) (by rw [List.length_singleton]; omega), List.take_append_getElem]
theorem joint_two (a b : List UInt8) (f : Nat) : jointL [a, b] f = [a.getD f 0, b.getD f 0] := rfl
/-- The frames that both have. -/
def jn (P O : List UInt8) (k : Nat) : List (List UInt8) := (List.range k).map (jointL [P, O])
theorem jn_len (P O : List UInt8) (k : Nat) : (jn P O k).length = k := by simp [jn]
theorem jn_take {P O : List UInt8} {k i : Nat} (h : k ≤ i) : (List.range k).map (jointL [P, O.take i]) = jn P O k := by
  refine List.map_congr_left fun f hf => ?_
  rw [List.mem_range] at hf
  rw [joint_two, joint_two, List.getD_eq_getElem?_getD (l := O.take i), List.getElem?_take, if_pos (by omega), ← List.getD_eq_getElem?_getD]
theorem jn_succ {P O : List UInt8} {k : Nat} (h1 : k < P.length) (h2 : k < O.length) : jn P O (k + 1) = jn P O k ++ [[P[k], O[k]]] := by
  rw [jn, List.range_succ, List.map_append, jn, List.map_singleton, joint_two, List.getD_eq_getElem?_getD, List.getElem?_eq_getElem h1, List.getD_eq_getElem?_getD, List.getElem?_eq_getElem h2]
  rfl
theorem jn_short {P O : List UInt8} {k : Nat} : ∀ b ∈ jn P O k, b.length ≤ 1099511627776 := by
  intro b hb
  rw [jn, List.mem_map] at hb
  obtain ⟨i, _, rfl⟩ := hb
  rw [joint_two]; simp
theorem _root_.Go.Proofs.YtagpkhbkdbaigaaGreat.capLe {k : IntKind} {w : World} {a : Option Addr} {len cap : Nat} {zs : List Int} (h : ArgInts k w a len cap zs) : len ≤ cap := by
  rcases h with ⟨_, rfl, rfl, _⟩ | ⟨x, _, hl, _⟩
  · exact Nat.le_refl _
  · exact hl
abbrev pkT (f : Nat) (bs : List UInt8) : Pk := ⟨1, ((1 - 0 : Nat) : Int), ((0 : Nat) : Int), 0, f, 0, 0, 0, bs⟩
set_option maxHeartbeats 4000000 in
theorem plainSure_walk (a0 : Option Addr) (len0 cap0 : Nat) (z0 : List Int) (a1 : Option Addr) (len1 cap1 : Nat) (z1 : List Int) (W : World) (w0 : ArgInts .u8 W a0 len0 cap0 z0) (w1 : ArgInts .u8 W a1 len1 cap1 z1) :
    Calls Tryz.prog 3 #[.slice a0 len0 cap0, .slice a1 len1 cap1] W fun e w' => e = .returned (.bool true) ∧ Below W.heap.size W w' := by
  have hs := St.start W
  have hm0 : mayCf ⟨(2 : Nat), (0 : Nat), 0, (0 : Nat), (16 : Nat), 2, 1, 0, 0, 3⟩ := by decide
  obtain ⟨P0, hP0, hrP0⟩ := w0.bytesB
  obtain ⟨O0, hO0, hrO0⟩ := w1.bytesB
  have hcap0 := capLe w0
  have hcap1 := capLe w1
  refine calls_enter Tryz.func3 rfl Tryz.ntmps3 (Nat.le_of_ble_eq_true rfl) ?_
  intro a ha
  replace ha : Fr a 117 [(0, _), (1, _)] := ha
  refine WS <| WR ?_
  refine S1 ha ?_; clear ha a; intro a ha
  refine LN <| TN <| WS <| WR ?_
  refine SK (st_call ha rfl Ty.c10 rfl (begun22 hs) ?_); clear ha hs
  rintro e w ⟨rfl, hs⟩
  refine ⟨_, rfl, ?_⟩
  intro a ha
  refine S1 ha ?_; clear ha a; intro a ha
  refine LN <| TN <| WS <| WS <| WR ?_
  iterate 2 (refine S1 ha ?_; clear ha a; intro a ha)
  refine LN <| TN <| WFa ha <| WK <| TN <| WS <| WR ?_
  refine S1 ha ?_; clear ha a; intro a ha
  refine SK (st_call ha rfl Ty.c11 rfl (shortN (K := 12) hs hrP0 hcap0) ?_); clear ha hs
  rintro e w ⟨aP, cP, rfl, hrP, hcP, hs⟩
  refine ⟨_, rfl, ?_⟩
  intro a ha
  refine S1 ha ?_; clear ha a; intro a ha
  refine SK (st_call ha rfl Ty.c11 rfl (shortN (K := 12) hs hrO0 hcap1) ?_); clear ha hs
  rintro e w ⟨aO, cO, rfl, hrO, hcO, hs⟩
  refine ⟨_, rfl, ?_⟩
  intro a ha
  iterate 2 (refine S1d ha ?_; clear ha a; intro a ha)
  refine LN ?_
  have hPl : (P0.take 12).length ≤ 12 := by rw [List.length_take]; omega
  have hOl : (O0.take 12).length ≤ 12 := by rw [List.length_take]; omega
  generalize P0.take 12 = P at ha hrP hcP hPl
  generalize O0.take 12 = O at ha hrO hcO hOl
  refine TN <| WS <| WR ?_
  refine SK (st_set ha rfl (ex_build ha Ty.b30 Ty.t30 rfl) rfl ?_); clear ha a; intro a ha
  refine SK (st_call ha rfl Ty.c13 rfl (prog22 hs) ?_); clear ha hs
  rintro e w ⟨adP, rfl, hs⟩
  refine ⟨_, rfl, ?_⟩
  intro a ha
  refine SK (st_call ha rfl Ty.c12 rfl (plain_new (tb := []) (n := 2) (me := 0) (id := 0) (delay := 0) (window := 16) (guess := 2) (order := 1) (branches := 0) (workers := 0) (room := 3) hs hm0 sumP_ok (by decide) (by decide) (by decide) (by decide) (fun w' h => RdB.nil)) ?_); clear ha hs
  rintro e w ⟨B, rfl, hgs, hs⟩
  refine ⟨_, rfl, ?_⟩
  intro a ha
  have t0 : Two sumP 16 0 [[], []] (newP sumP _) := Two.new (id := 0) hm0 rfl
  generalize newP sumP _ = s0 at hs t0
  iterate 5 (refine S1 ha ?_; clear ha a; intro a ha)
  refine LN <| TN <| WS <| WS <| WR ?_
  iterate 2 (refine S1 ha ?_; clear ha a; intro a ha)
  refine LN <| TN <| WFa ha <| WK <| TN <| WS <| WS <| WR ?_
  refine S1 ha ?_; clear ha a; intro a ha
  refine LN <| TN <| wp_block ?_
  refine wp_loop_ghost (fun μ a w => ∃ (i : Nat) (s : Pl), (μ = P.length - i ∧ i ≤ P.length ∧ Two sumP 16 0 [P.take i, []] s) ∧ Fr a 117 [(0, .slice aP P.length cP), (1, .slice aO O.length cO), (6, .pointer (some ⟨B.pb, 0, none⟩)), (8, .int .i64 i)] ∧ St W w (PlainS W B sumP s :: [])) (P.length) ?_ ?_
  · exact ⟨0, s0, ⟨rfl, Nat.zero_le _, t0⟩, ha.keep [0, 1, 6, 8], hs.sub⟩
  ·
   clear ha hs
   rintro μ a w ⟨i, s, ⟨rfl, hi, t⟩, ha, hs⟩
   refine WS <| WS <| WR ?_
   refine S1 ha ?_; clear ha; (try clear a); intro a ha
   iterate 3 (refine S1 ha ?_; clear ha a; intro a ha)
   refine LN <| TN ?_
   refine WI ha (fun hc2 => ?_) (fun hc2 => ?_)
   ·
    obtain ⟨bp, op, rfl, hrp⟩ := (hrP.old hs).get (by omega)
    have hip : i < P.length := by omega
    have htl : (P.take i).length = i := by rw [List.length_take]; omega
    refine WK <| TN <| WS <| wp_block <| WR ?_
    refine S1 ha ?_; clear ha; (try clear a); intro a ha
    iterate 2 (refine S1 ha ?_; clear ha a; intro a ha)
    refine SK (st_set ha rfl (ex_indexAddr ha Tryz.underlying22 Ty.t5 (by omega)) rfl ?_); clear ha a; intro a ha
    rw [Nat.mul_one] at ha
    refine SL ha (hrp i _ (bc_at hip)) ?_; clear ha a; intro a ha
    refine SK (st_call ha rfl Ty.c14 rfl (two_press (x := P[i]) hs t sumP_ok (by decide) (by show (P.take i).length < 1000; omega) (by show (P.take i).length < _; omega)) ?_); clear ha hs
    rintro e w ⟨s', rfl, t2, hs⟩
    refine ⟨_, rfl, ?_⟩
    intro a ha
    refine LN <| BN <| TN <| WR ?_
    refine S1 ha ?_; clear ha a; intro a ha
    refine SK (st_set ha rfl (ex_addI ha (by omega) (by omega)) rfl ?_); clear ha a; intro a ha
    refine S1d ha ?_; clear ha a; intro a ha
    refine LN <| TN ?_
    replace t2 : Two sumP 16 0 [P.take i ++ [P[i]], []] s' := t2
    rw [List.take_append_getElem] at t2
    exact ⟨P.length - (i + 1), by omega, i + 1, s', ⟨rfl, by omega, t2⟩, ha.keep [0, 1, 6, 8], hs⟩
   ·
    obtain rfl : i = P.length := by omega
    rw [List.take_length] at t
    refine wp_exit <| TE <| TE <| blk_e <| TN <| WS <| WR ?_
    refine S1 ha ?_; clear ha; (try clear a); intro a ha
    iterate 3 (refine S1 ha ?_; clear ha a; intro a ha)
    refine SK (st_set ha rfl (ex_min ha) rfl ?_); clear ha a; intro a ha
    rw [show min (P.length : Int) (O.length : Int) = ((min P.length O.length : Nat) : Int) from by omega] at ha
    refine S1 ha ?_; clear ha a; intro a ha
    refine LN <| TN <| WS <| WS <| WR ?_
    refine S1 ha ?_; clear ha a; intro a ha
    refine LN <| TN <| wp_block ?_
    refine wp_loop_ghost (fun μ a w => ∃ (i : Nat) (s : Pl), (μ = O.length - i ∧ i ≤ O.length ∧ Two sumP 16 0 [P, O.take i] s) ∧ Fr a 117 [(0, .slice aP P.length cP), (1, .slice aO O.length cO), (6, .pointer (some ⟨B.pb, 0, none⟩)), (9, .int .i64 (min P.length O.length : Nat)), (10, .int .i64 i)] ∧ St W w (PlainS W B sumP s :: [])) (O.length) ?_ ?_
    · exact ⟨0, s, ⟨rfl, Nat.zero_le _, t⟩, ha.keep [0, 1, 6, 9, 10], hs⟩
    ·
     clear ha hs
     rintro μ a w ⟨i, s, ⟨rfl, hi, t⟩, ha, hs⟩
     refine WS <| WS <| WR ?_
     refine S1 ha ?_; clear ha; (try clear a); intro a ha
     iterate 3 (refine S1 ha ?_; clear ha a; intro a ha)
     refine LN <| TN ?_
     refine WI ha (fun hc3 => ?_) (fun hc3 => ?_)
     ·
      have hio : i < O.length := by omega
      have hte : (O.drop i).take 1 = [O[i]] := by rw [List.drop_eq_getElem_cons hio]; rfl
      refine WK <| TN <| WS <| wp_block <| WS <| WS <| WR ?_
      refine S1 ha ?_; clear ha; (try clear a); intro a ha
      iterate 4 (refine S1 ha ?_; clear ha a; intro a ha)
      refine SK (st_set ha rfl (ex_addI ha (by omega) (by omega)) rfl ?_); clear ha a; intro a ha
      rw [show (i : Int) + 1 = ((i + 1 : Nat) : Int) from by omega] at ha
      refine SK (st_set ha rfl (ex_sliceLH ha Tryz.underlying22 Ty.t5 (by omega) (by omega)) rfl ?_); clear ha a; intro a ha
      rw [show i + 1 - i = 1 from by omega] at ha
      refine SK (st_set ha rfl (ex_build ha Ty.b40 Ty.t40 rfl) rfl ?_); clear ha a; intro a ha
      refine SK (st_call ha rfl Ty.c16 rfl (refPacket_spec (p := pkT i [O[i]]) (ad := cutAd aO i cO 1) (c := cO - i) hs (by show 0 < 4294967296; decide) (fun w' hw => by
        have h := (hrO.old hw).cutLH (c := cO) (lo := i) (n := 1) (by omega) hcO
        rw [hte] at h; exact h)) ?_); clear ha hs
      rintro e w ⟨adE, cE, rfl, hs⟩
      refine ⟨_, rfl, ?_⟩
      intro a ha
      refine SK (st_call ha rfl Ty.c15 rfl (two_recv (me := 0) (f := i) (bs := [O[i]]) (hs.pick (PlainS W B sumP s)) t sumP_ok (by decide) (by omega) (by simp) (hs.sl adE).2 (fun w' hw => (hw.pick (Sl 5 1 adE (encO (pkT i [O[i]])).length cE (bc (encO (pkT i [O[i]]))))).rdB adE _ rfl rfl)) ?_); clear ha hs
      rintro e w ⟨s', rfl, t2, hs⟩
      refine ⟨_, rfl, ?_⟩
      intro a ha
      replace t2 : Two sumP 16 0 [P, putLn (O.take i) i [O[i]]] s' := t2
      rw [putLn_one hio (by omega)] at t2
      refine S1 ha ?_; clear ha a; intro a ha
      refine LN <| TN <| WFa ha <| WK <| TN <| WS <| WR ?_
      refine S1 ha ?_; clear ha a; intro a ha
      refine LN ?_
      replace hs := St.sl0 (St.allNil (f := bbo) hs) 22 1 none
      refine TN ?_
      refine wp_seq_cut (M := fun a w => ∃ (zs : List BBx) (adJ : Option Addr) (cJ : Nat), prx zs = jn P O (min P.length (i + 1)) ∧ Fr a 117 [(0, .slice aP P.length cP), (1, .slice aO O.length cO), (6, .pointer (some ⟨B.pb, 0, none⟩)), (9, .int .i64 (min P.length O.length : Nat)), (10, .int .i64 i), (11, .slice adJ (min P.length (i + 1)) cJ)] ∧ St W w (Sl 22 1 adJ (min P.length (i + 1)) cJ (zs.map bbv) :: All bbo zs :: PlainS W B sumP s' :: [])) ?_ ?_
      ·
       refine WS <| WR ?_
       refine S1 ha ?_; clear ha; (try clear a); intro a ha
       refine LN <| TN <| wp_block ?_
       refine wp_loop_ghost (fun μ a w => ∃ (j : Nat) (zs : List BBx) (adJ : Option Addr) (cJ : Nat), (μ = i + 1 - j ∧ j ≤ i + 1 ∧ j ≤ P.length ∧ prx zs = jn P O j) ∧ Fr a 117 [(0, .slice aP P.length cP), (1, .slice aO O.length cO), (6, .pointer (some ⟨B.pb, 0, none⟩)), (9, .int .i64 (min P.length O.length : Nat)), (10, .int .i64 i), (11, .slice adJ j cJ), (12, .int .i64 j)] ∧ St W w (Sl 22 1 adJ j cJ (zs.map bbv) :: All bbo zs :: PlainS W B sumP s' :: [])) (i + 1) ?_ ?_
       · exact ⟨0, [], none, 0, ⟨rfl, by omega, by omega, rfl⟩, ha.keep [0, 1, 6, 9, 10, 11, 12], (show St W w (Sl 22 1 none 0 0 (([] : List BBx).map bbv) :: All bbo [] :: _) from hs).sub⟩
       ·
        clear ha hs
        rintro μ a w ⟨j, zs, adJ, cJ, ⟨rfl, hj, hjp, hz⟩, ha, hs⟩
        refine WS <| WS <| WR ?_
        refine S1 ha ?_; clear ha; (try clear a); intro a ha
        iterate 3 (refine S1 ha ?_; clear ha a; intro a ha)
        refine ha.by (s := 69) (fun hg3 ha => ?_) (fun hg3 ha => ?_)
        ·
         refine S1g (s := 69) ha ?_; clear ha; (try clear a); intro a ha
         iterate 3 (refine S1g (s := 69) ha ?_; clear ha a; intro a ha)
         refine PT ha ?_; clear ha a; intro a ha
         refine LN <| TN ?_
         refine WI ha (fun hc5 => ?_) (fun hc5 => ?_)
         ·
          have hjP : j < P.length := by omega
          have hjO : j < O.length := by omega
          refine WK <| TN <| WS <| wp_block ?_
          obtain ⟨bp, op, rfl, hrp⟩ := (hrP.old hs.drew).get (by omega)
          obtain ⟨bo, oo, rfl, hro⟩ := (hrO.old hs.drew).get (by omega)
          refine DW (m := 13) (Old w.drew) [8] [0, 1, 2, 3, 5, 6, 7, 4, 8, 9, 10, 11, 12] Ty.mixed (pk_blk (pk_then (pk_then (pk_blk (pk_then (pk_blk (pk_then (pk_then (pk_blk (pk_then pk_body)))))))))) (fun hpk => ?_)
          replace hs := hs.drew
          have hC := Old.refl w.drew
          generalize w.drew = w at hs hC hpk hrp hro ⊢
          refine DP hpk ha rfl ?_; clear ha; (try clear a); intro a ha
          iterate 2 (refine DP hpk ha rfl ?_; clear ha a; intro a ha)
          refine DQ hpk ha rfl rfl (fun w => ex_indexAddr ha Tryz.underlying22 Ty.t5 (by omega)) ?_; clear ha a; intro a ha
          rw [Nat.mul_one] at ha
          iterate 2 (refine DP hpk ha rfl ?_; clear ha a; intro a ha)
          refine DQ hpk ha rfl rfl (fun w => ex_indexAddr ha Tryz.underlying22 Ty.t5 (by omega)) ?_; clear ha a; intro a ha
          rw [Nat.mul_one] at ha
          refine DL hpk ha rfl (fun w hc => hc.cell (hrp j _ (bc_at hjP))) hC ?_; clear ha a; intro a ha
          refine D1 rfl (st_set ha rfl (ex_load1 ha Tryz.underlying5 rfl (hro j _ (bc_at hjO))) rfl ?_); clear ha a; intro a ha
          refine ⟨fun _ => hC, ?_⟩
          refine D1 rfl (st_buildSlice ha rfl hs Tryz.underlying22 Ty.t5 rfl rfl rfl rfl (by decide) (by decide) ?_); clear ha hs a; (try clear w); intro b86 a w ha hs ho
          (try replace hC := hC.trans ho); clear ho
          refine ⟨fun h => absurd h (by decide), ?_⟩
          refine D1 rfl (st_buildSlice ha rfl hs Tryz.underlying41 Ty.t22 rfl rfl rfl rfl (by decide) (by decide) ?_); clear ha hs a; (try clear w); intro b87 a w ha hs ho
          (try replace hC := hC.trans ho); clear ho
          refine ⟨fun h => absurd h (by decide), ?_⟩
          refine D1 rfl (st_append ha rfl hs Tryz.underlying41 Ty.t22 rfl rfl hs.rdAll rfl (by simp [Value.oneCell']) (by decide) (by decide) (by omega) ?_); clear ha hs a; (try clear w); intro ad88 c88 a w ha hs
          refine ⟨fun h => absurd h (by decide), ?_⟩
          rw [show zs.map bbv ++ _ = (zs ++ [((some ⟨b86, 0, none⟩, 2, [P[j], O[j]]) : BBx)]).map bbv from by rw [List.map_append]; rfl] at hs
          replace ha := ha.del 11
          refine DP hpk ha rfl ?_; clear ha a; intro a ha
          refine DD <| BN <| TN <| WR ?_
          refine S1 ha ?_; clear ha a; intro a ha
          refine SK (st_set ha rfl (ex_addI ha (by omega) (by omega)) rfl ?_); clear ha a; intro a ha
          refine S1d ha ?_; clear ha a; intro a ha
          refine LN <| TN ?_
          have hs1 : St W w (Sl 5 1 (some ⟨b86, 0, none⟩) [P[j], O[j]].length 2 (bc [P[j], O[j]]) :: _) := St.blkSl (k := 2) (sz := 1) (hs.bring b86) rfl
          have hs2 := St.allPush (f := bbo) (x := ((some ⟨b86, 0, none⟩, 2, [P[j], O[j]]) : BBx)) (hs1.sub (M := Sl 5 1 (some ⟨b86, 0, none⟩) [P[j], O[j]].length 2 (bc [P[j], O[j]]) :: All bbo zs :: Sl 22 1 ad88 (j + 1) c88 ((zs ++ [((some ⟨b86, 0, none⟩, 2, [P[j], O[j]]) : BBx)]).map bbv) :: PlainS W B sumP s' :: []))
          exact ⟨i + 1 - (j + 1), by omega, j + 1, zs ++ [((some ⟨b86, 0, none⟩, 2, [P[j], O[j]]) : BBx)], ad88, c88, ⟨rfl, by omega, by omega, by rw [prx, List.map_append, ← prx, hz, jn_succ hjP hjO]; rfl⟩, ha.keep [0, 1, 6, 9, 10, 11, 12], hs2.sub⟩
         ·
          refine wp_exit <| TE <| TE <| blk_e <| TN ?_
          obtain rfl : j = min P.length (i + 1) := by omega
          exact ⟨zs, adJ, cJ, hz, ha.keep [0, 1, 6, 9, 10, 11], hs⟩
        ·
         refine SO (s := 69) ha ?_; clear ha; (try clear a); intro a ha
         iterate 3 (refine SO (s := 69) ha ?_; clear ha a; intro a ha)
         refine PF ha ?_; clear ha a; intro a ha
         refine LN <| TN <| WFa ha <| wp_exit <| TE <| TE <| blk_e <| TN ?_
         obtain rfl : j = min P.length (i + 1) := by omega
         exact ⟨zs, adJ, cJ, hz, ha.keep [0, 1, 6, 9, 10, 11], hs⟩
      ·
       clear ha; (try clear hs)
       intro a w hcut
       obtain ⟨zs, adJ, cJ, hz, ha, hs⟩ := hcut
       refine WS ?_
       have hfr : frontL [P, O.take (i + 1)] = min P.length (i + 1) := by rw [front_two, List.length_take]; omega
       have hga : gameAt sumP [P, O.take (i + 1)] (min P.length (i + 1)) = foldI sumP 0 zeroG (jn P O (min P.length (i + 1))) := by rw [gameAt, jn_take (by omega)]
       generalize hmm : min P.length (i + 1) = m at ha hs hz hfr hga
       refine WR ?_
       refine S1 ha ?_; clear ha; (try clear a); intro a ha
       refine SK (st_call ha rfl Ty.c17 rfl (two_conf (hs.pick (PlainS W B sumP s')) t2) ?_); clear ha hs
       rintro e w ⟨adC, cC, rfl, hs⟩
       refine ⟨_, rfl, ?_⟩
       intro a ha
       rw [hfr] at ha hs
       rw [hga] at hs
       iterate 5 (refine S1 ha ?_; clear ha a; intro a ha)
       refine LN <| TN <| WS ?_
       refine DW (m := 15) (fun w' => RdB w' adC 128 (gameB (foldI sumP 0 zeroG (jn P O m)))) [7, 10, 11, 12] [0, 1, 2, 3, 4, 5, 8, 9, 6, 7, 10, 11, 12, 13, 14] Ty.mixed (pk_then (pk_blk (pk_then (pk_then (pk_blk (pk_then pk_body)))))) (fun hpk => ?_)
       replace hs := hs.drew
       generalize w.drew = w at hs hpk ⊢
       have hC : RdB w adC 128 (gameB (foldI sumP 0 zeroG (jn P O m))) := hs.rdB adC _ rfl (gameB_len _)
       iterate 5 (refine DP hpk ha rfl ?_; clear ha a; intro a ha)
       rw [decide_eq_false (by omega)] at ha
       refine DPg (s := 98) hpk ha rfl ?_; clear ha a; intro a ha
       refine DQ hpk ha rfl (wgT ha rfl (s := 98)) (fun w => ex_buildA0 ha Tryz.underlying46 Ty.t46 Ty.t21) ?_; clear ha a; intro a ha
       refine DPg (s := 98) hpk ha rfl ?_; clear ha a; intro a ha
       refine DH hpk ha rfl (wgT ha rfl (s := 98)) (fun w hc => ex_toString ha Tryz.underlying22 Tryz.underlying5 Tryz.underlying9 (hc)) hC ?_; clear ha a; intro a ha
       refine D1 rfl (st_call ha (wgT ha rfl (s := 98)) Ty.c13 rfl (prog22 hs) ?_); clear ha hs
       rintro e w ⟨adQ, rfl, hs⟩
       refine ⟨_, rfl, ?_⟩
       intro a ha
       replace hC : (fun w' => RdB w' adC 128 (gameB (foldI sumP 0 zeroG (jn P O m)))) w := hs.rdB adC _ rfl (gameB_len _)
       refine ⟨fun _ => hC, ?_⟩
       refine D1 rfl (st_call ha (wgT ha rfl (s := 98)) Ty.c19 rfl (refFold_len (p := sumP) (P := jn P O m) (zs := zs) (g := zeroG) (fr := 0) (L := Sl 22 1 adJ m cJ (zs.map bbv) :: All bbo zs :: Sl 5 1 adC 128 cC (bc (gameB (foldI sumP 0 zeroG (jn P O m)))) :: PlainS W B sumP s' :: []) hs.sub (jn_len P O m) sumP_ok (by decide) zeroG_ok ⟨by rw [jn_len]; omega, jn_short⟩ hz (by decide) (fun w' hw => hw.rdX)) ?_); clear ha hs
       rintro e w ⟨rfl, hgk, hs⟩
       refine ⟨_, rfl, ?_⟩
       intro a ha
       replace hC : (fun w' => RdB w' adC 128 (gameB (foldI sumP 0 zeroG (jn P O m)))) w := hs.rdB adC _ rfl (gameB_len _)
       refine ⟨fun _ => hC, ?_⟩
       refine D1 rfl (st_call ha (wgT ha rfl (s := 98)) Ty.c18 rfl (refBytes_spec hs) ?_); clear ha hs
       rintro e w ⟨adG, cG, rfl, hs⟩
       refine ⟨_, rfl, ?_⟩
       intro a ha
       replace hC : (fun w' => RdB w' adC 128 (gameB (foldI sumP 0 zeroG (jn P O m)))) w := hs.rdB adC _ rfl (gameB_len _)
       refine ⟨fun _ => hC, ?_⟩
       refine D1 rfl (st_set ha (wgT ha rfl (s := 98)) (ex_toString ha Tryz.underlying22 Tryz.underlying5 Tryz.underlying9 ((hs.rdB adG (gameB (foldI sumP 0 zeroG (jn P O m))) rfl (gameB_len _)))) rfl ?_); clear ha a; intro a ha
       refine ⟨fun _ => hC, ?_⟩
       refine DQ hpk ha rfl (wgT ha rfl (s := 98)) (fun w => ex_neqS ha) ?_; clear ha a; intro a ha
       rw [str_beq, beq_self_eq_true, Bool.not_true] at ha
       refine DF hpk ha rfl ?_; clear ha a; intro a ha
       refine DD <| TN <| WFa ha <| WK <| BN <| TN <| WR ?_
       refine S1 ha ?_; clear ha a; intro a ha
       refine SK (st_set ha rfl (ex_addI ha (by omega) (by omega)) rfl ?_); clear ha a; intro a ha
       refine S1d ha ?_; clear ha a; intro a ha
       refine LN <| TN ?_
       exact ⟨O.length - (i + 1), by omega, i + 1, s', ⟨rfl, by omega, t2⟩, ha.keep [0, 1, 6, 9, 10], hs.sub⟩
     ·
      obtain rfl : i = O.length := by omega
      rw [List.take_length] at t
      refine wp_exit <| TE <| TE <| blk_e <| TN <| WS <| WR ?_
      refine S1 ha ?_; clear ha; (try clear a); intro a ha
      refine SK (st_call ha rfl Ty.c17 rfl (two_conf hs t) ?_); clear ha hs
      rintro e w ⟨adK, cK, rfl, hs⟩
      refine ⟨_, rfl, ?_⟩
      intro a ha
      rw [front_two] at ha
      iterate 5 (refine S1 ha ?_; clear ha a; intro a ha)
      refine LN <| TN <| WS <| WR ?_
      iterate 4 (refine S1 ha ?_; clear ha a; intro a ha)
      refine LN <| TN <| wp_ret ?_
      refine ret1 ha rfl ?_
      exact ⟨by simp, hs.below⟩
end Go.Proofs.YtagpkhbkdbaigaaGreat

