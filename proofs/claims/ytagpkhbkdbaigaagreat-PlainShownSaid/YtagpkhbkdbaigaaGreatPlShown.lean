/- PlainShown. -/
import Derived.Test.YtagpkhbkdbaigaaGreatArgC
namespace Go.Proofs.YtagpkhbkdbaigaaGreat
open Go.RowKit
set_option linter.unusedVariables false
set_option linter.unusedSimpArgs false
set_option maxRecDepth 10000
set_option synthInstance.maxSize 4000
set_option synthInstance.maxHeartbeats 400000

theorem putLn_nil2 (G : List UInt8) (h : G.length ≤ 1000) : putLn [] 0 G = G := by
  rw [putLn, if_neg (by simp)]
  simp only [List.length_nil, Nat.sub_zero, List.drop_zero, List.nil_append]
  exact List.take_of_length_le h
theorem jn_succ2 (P O : List UInt8) (k : Nat) : jn P O (k + 1) = jn P O k ++ [jointL [P, O] k] := by
  rw [jn, List.range_succ, List.map_append, jn, List.map_singleton]
abbrev pkU (bs : List UInt8) : Pk := ⟨1, ((1 - 1 : Nat) : Int), ((1 : Nat) : Int), 0, ((0 : Nat) : Int), 0, 0, 0, bs⟩
/-- Others' presses and the own ones as the law lays them. -/
theorem rdx_two {W w : World} {L R : List SP} {e b : Nat} {aO aM : Option Addr} {cO cM : Nat} {O M : List UInt8} (hs : St W w L) [kk : Blk L b e [.slice aO O.length cO, .slice aM M.length cM] R] (h1 : RdB W aO O.length O) (h2 : RdB W aM M.length M) : RdX w (some ⟨b, 0, none⟩) [(aO, cO, O), (aM, cM, M)] := by
  refine ⟨fun _ => ⟨b, 0, rfl, hs.rdAll (b := b)⟩, fun x hx => ?_⟩
  simp at hx
  rcases hx with rfl | rfl
  · exact h1.old hs
  · exact h2.old hs
theorem ahead_short {b : Gs} {ls : List (List UInt8)} {to : Nat} (h : ls.length ≤ 8) : ∀ x ∈ aheadL b ls to, x.length ≤ 1099511627776 := by
  intro x hx
  rw [aheadL, List.mem_map] at hx
  obtain ⟨i, _, rfl⟩ := hx
  rw [jointL_len, fullL, List.length_map]; omega
set_option maxHeartbeats 8000000 in
theorem plainShown_walk (pr0 : Pr) (ado0 : Option Addr) (co0 : Nat) (kd1 od1 : Int) (a1 : Option Addr) (len1 cap1 : Nat) (z1 : List Int) (a2 : Option Addr) (len2 cap2 : Nat) (z2 : List Int) (a3 : Option Addr) (len3 cap3 : Nat) (z3 : List Int) (W : World) (w0 : ArgProg W pr0 ado0 co0) (w1 : ArgInts .u8 W a1 len1 cap1 z1) (w2 : ArgInts .u8 W a2 len2 cap2 z2) (w3 : ArgInts .u8 W a3 len3 cap3 z3) :
    Calls Tryz.prog 4 #[.agg (prV pr0 ado0 co0).toArray, .agg #[.int .i64 kd1, .int .i64 od1, .slice a1 len1 cap1], .slice a2 len2 cap2, .slice a3 len3 cap3] W fun e w' => e = .returned (.bool true) ∧ Below W.heap.size W w' := by
  have hs := St.start W
  obtain ⟨T0, hT0, hrT0⟩ := w1.bytesB
  obtain ⟨M0, hM0, hrM0⟩ := w2.bytesB
  obtain ⟨O0, hO0, hrO0⟩ := w3.bytesB
  have hcap1 := capLe w1
  have hcap2 := capLe w2
  have hcap3 := capLe w3
  obtain ⟨hz1, hz2⟩ := cutP_ok (K := 40) (by decide) pr0
  by_cases hma : mayAll ⟨2, 1, 0, 0, 16, kd1, od1, 0, 0, 3⟩ (cutP 40 pr0) (T0.take 30)
  ·
    refine calls_enter Tryz.func4 rfl Tryz.ntmps4 (Nat.le_of_ble_eq_true rfl) ?_
    intro a ha
    replace ha : Fr a 151 [(0, _), (1, _), (2, _), (3, _)] := ha
    refine WS <| WR ?_
    refine SK (st_box ha rfl hs rfl ?_); clear ha hs a; (try clear w); intro b4 a w ha hs ho
    clear ho
    change St W w (blk b4 33 (prV pr0 ado0 co0) :: _) at hs
    refine SK (st_box ha rfl hs rfl ?_); clear ha hs a; (try clear w); intro b5 a w ha hs ho
    clear ho
    change St W w (blk b5 50 [.int .i64 kd1, .int .i64 od1, .slice a1 len1 cap1] :: _) at hs
    refine S1 ha ?_; clear ha a; intro a ha
    refine LN <| TN <| WS <| WR ?_
    refine SK (st_call ha rfl Ty.c10 rfl (begun22 hs) ?_); clear ha hs
    rintro e w ⟨rfl, hs⟩
    refine ⟨_, rfl, ?_⟩
    intro a ha
    refine S1 ha ?_; clear ha a; intro a ha
    refine LN <| TN <| WS <| WS <| WR ?_
    iterate 2 (refine S1 ha ?_; clear ha a; intro a ha)
    refine LN <| TN <| WFa ha <| WK <| TN <| WS <| WR ?_
    refine SK (st_set ha rfl (ex_loadN ha Tryz.underlying33 rfl Ty.t33 (hs.rdAll (b := b4))) rfl ?_); clear ha a; intro a ha
    refine SK (st_call ha rfl Ty.c20 rfl (cut5_spec (K := 40) (w0.ro hs)) ?_); clear ha hs
    rintro e w ⟨rfl, hs⟩
    refine ⟨_, rfl, ?_⟩
    intro a ha
    refine S1 ha ?_; clear ha a; intro a ha
    refine SK (st_call ha rfl Ty.c11 rfl (shortN (K := 10) hs hrM0 hcap2) ?_); clear ha hs
    rintro e w ⟨aM, cM, rfl, hrM, hcM, hs⟩
    refine ⟨_, rfl, ?_⟩
    intro a ha
    refine S1 ha ?_; clear ha a; intro a ha
    refine SK (st_call ha rfl Ty.c11 rfl (shortN (K := 10) hs hrO0 hcap3) ?_); clear ha hs
    rintro e w ⟨aO, cO, rfl, hrO, hcO, hs⟩
    refine ⟨_, rfl, ?_⟩
    intro a ha
    refine SK (st_storeAll ha rfl hs Ty.t33 (prV_one _ _ _) (by rfl) ?_); clear ha hs a; (try clear w); intro a w ha hs
    iterate 2 (refine S1d ha ?_; clear ha a; intro a ha)
    refine LN ?_
    have hMl : (M0.take 10).length ≤ 10 := by rw [List.length_take]; omega
    have hOl : (O0.take 10).length ≤ 10 := by rw [List.length_take]; omega
    generalize M0.take 10 = M at ha hrM hcM hMl
    generalize O0.take 10 = O at ha hrO hcO hOl
    generalize cutP 40 pr0 = p at hs ha hz1 hz2 hma
    refine TN <| WS <| WR ?_
    refine S1 ha ?_; clear ha a; intro a ha
    refine SL ha (hs.rd1 (b := b5) rfl) ?_; clear ha a; intro a ha
    refine SK (st_call ha rfl Ty.c11 rfl (shortN (K := 30) hs hrT0 hcap1) ?_); clear ha hs
    rintro e w ⟨aT, cT, rfl, hrT, hcT, hs⟩
    refine ⟨_, rfl, ?_⟩
    intro a ha
    have hTl : (T0.take 30).length ≤ 30 := by rw [List.length_take]; omega
    generalize T0.take 30 = T at ha hrT hcT hTl hma
    refine S1 ha ?_; clear ha a; intro a ha
    refine SK (st_store ha rfl hs Ty.t22 rfl (by simp) ?_); clear ha hs a; (try clear w); intro a w ha hs
    change St W w (blk b5 50 (gsC ⟨kd1, od1, T⟩ aT cT) :: _) at hs
    refine LN <| TN <| WS <| WR ?_
    refine S1 ha ?_; clear ha a; intro a ha
    refine SL ha (hs.rd1 (b := b5) rfl) ?_; clear ha a; intro a ha
    refine S1 ha ?_; clear ha a; intro a ha
    refine SL ha (hs.rd1 (b := b5) rfl) ?_; clear ha a; intro a ha
    refine SK (st_set ha rfl (ex_build ha Ty.b30 Ty.t30 rfl) rfl ?_); clear ha a; intro a ha
    refine SK (st_alloc ha rfl hs Ty.t30 rfl ?_); clear ha hs a; (try clear w); intro b10 a w ha hs ho
    clear ho
    refine SK (st_storeAll ha rfl hs Ty.t30 (by simp [Value.oneCell']) (by rfl) ?_); clear ha hs a; (try clear w); intro a w ha hs
    change St W w (blk b10 30 (cfC ⟨2, 1, 0, 0, 16, kd1, od1, 0, 0, 3⟩) :: _) at hs
    refine LN <| TN <| WS <| WR ?_
    refine SK (st_set ha rfl (ex_loadN ha Tryz.underlying30 rfl Ty.t30 (hs.rdAll (b := b10))) rfl ?_); clear ha a; intro a ha
    refine SK (st_set ha rfl (ex_loadN ha Tryz.underlying33 rfl Ty.t33 (hs.rdAll (b := b4))) rfl ?_); clear ha a; intro a ha
    refine S1 ha ?_; clear ha a; intro a ha
    refine SL ha (hs.rd1 (b := b5) rfl) ?_; clear ha a; intro a ha
    refine SK (st_call ha rfl Ty.c12 rfl (plain_newY hma (hs.pick (RoP W p ado0 co0)) rfl hz1 hz2 (by omega) (fun w' h => hrT.old h)) ?_); clear ha hs
    rintro e w ⟨B, rfl, hgs, hs⟩
    refine ⟨_, rfl, ?_⟩
    intro a ha
    have t0 : Two p 16 1 [[], []] (newP p _) := Two.new (id := 0) hma.1 rfl
    generalize newP p _ = s0 at hs t0
    replace hgs : B.gs = ⟨kd1, od1, T⟩ := hgs
    have hgm : mayGs (⟨kd1, od1, T⟩ : Gs) := hma.2.2
    have hgm2 : mayGs B.gs := by rw [hgs]; exact hgm
    have hpr : prOk p := hma.2.1
    iterate 5 (refine S1 ha ?_; clear ha a; intro a ha)
    refine LN <| TN <| WS <| WS <| WR ?_
    iterate 2 (refine S1 ha ?_; clear ha a; intro a ha)
    refine LN <| TN <| WFa ha <| WK <| TN <| WS <| WS <| WR ?_
    refine S1 ha ?_; clear ha a; intro a ha
    refine LN <| TN <| wp_block ?_
    refine wp_loop_ghost (fun μ a w => ∃ (i : Nat) (s : Pl), (μ = M.length - i ∧ i ≤ M.length ∧ Two p 16 1 [[], M.take i] s) ∧ Fr a 151 [(2, .slice aM M.length cM), (3, .slice aO O.length cO), (4, .pointer (some ⟨b4, 0, none⟩)), (5, .pointer (some ⟨b5, 0, none⟩)), (11, .pointer (some ⟨B.pb, 0, none⟩)), (13, .int .i64 i)] ∧ St W w (PlainS W B p s :: RoP W p ado0 co0 :: blk b4 33 (prV p ado0 co0) :: blk b5 50 (gsC ⟨kd1, od1, T⟩ aT cT) :: [])) (M.length) ?_ ?_
    · exact ⟨0, s0, ⟨rfl, Nat.zero_le _, t0⟩, ha.keep [2, 3, 4, 5, 11, 13], hs.sub⟩
    ·
     clear ha hs
     rintro μ a w ⟨i, s, ⟨rfl, hi, t⟩, ha, hs⟩
     refine WS <| WS <| WR ?_
     refine S1 ha ?_; clear ha; (try clear a); intro a ha
     iterate 3 (refine S1 ha ?_; clear ha a; intro a ha)
     refine LN <| TN ?_
     refine WI ha (fun hc2 => ?_) (fun hc2 => ?_)
     ·
      obtain ⟨bp, op, rfl, hrp⟩ := (hrM.old hs).get (by omega)
      have hip : i < M.length := by omega
      have htl : (M.take i).length = i := by rw [List.length_take]; omega
      refine WK <| TN <| WS <| wp_block <| WR ?_
      refine S1 ha ?_; clear ha; (try clear a); intro a ha
      iterate 2 (refine S1 ha ?_; clear ha a; intro a ha)
      refine SK (st_set ha rfl (ex_indexAddr ha Tryz.underlying22 Ty.t5 (by omega)) rfl ?_); clear ha a; intro a ha
      rw [Nat.mul_one] at ha
      refine SL ha (hrp i _ (bc_at hip)) ?_; clear ha a; intro a ha
      refine SK (st_call ha rfl Ty.c14 rfl (two_press (x := M[i]) hs t hpr hz1 (by show (M.take i).length < 1000; omega) (by show (M.take i).length < _; omega)) ?_); clear ha hs
      rintro e w ⟨s', rfl, t2, hs⟩
      refine ⟨_, rfl, ?_⟩
      intro a ha
      refine LN <| BN <| TN <| WR ?_
      refine S1 ha ?_; clear ha a; intro a ha
      refine SK (st_set ha rfl (ex_addI ha (by omega) (by omega)) rfl ?_); clear ha a; intro a ha
      refine S1d ha ?_; clear ha a; intro a ha
      refine LN <| TN ?_
      replace t2 : Two p 16 1 [[], M.take i ++ [M[i]]] s' := t2
      rw [List.take_append_getElem] at t2
      exact ⟨M.length - (i + 1), by omega, i + 1, s', ⟨rfl, by omega, t2⟩, ha.keep [2, 3, 4, 5, 11, 13], hs⟩
     ·
      obtain rfl : i = M.length := by omega
      rw [List.take_length] at t
      refine wp_exit <| TE <| TE <| blk_e <| TN <| WS <| WR ?_
      refine S1 ha ?_; clear ha; (try clear a); intro a ha
      refine S1 ha ?_; clear ha a; intro a ha
      refine SK (st_set ha rfl (ex_build ha Ty.b40 Ty.t40 rfl) rfl ?_); clear ha a; intro a ha
      refine SK (st_call ha rfl Ty.c16 rfl (refPacket_spec (p := pkU O) (ad := aO) (c := cO) hs (by show 0 < 4294967296; decide) (fun w' hw => hrO.old hw)) ?_); clear ha hs
      rintro e w ⟨adE, cE, rfl, hs⟩
      refine ⟨_, rfl, ?_⟩
      intro a ha
      refine SK (st_call ha rfl Ty.c15 rfl (two_recv (me := 1) (f := 0) (bs := O) (hs.pick (PlainS W B p s)) t hpr hz1 (by decide) (by omega) (hs.sl adE).2 (fun w' hw => (hw.pick (Sl 5 1 adE (encO (pkU O)).length cE (bc (encO (pkU O))))).rdB adE _ rfl rfl)) ?_); clear ha hs
      rintro e w ⟨s', rfl, t2, hs⟩
      refine ⟨_, rfl, ?_⟩
      intro a ha
      replace t2 : Two p 16 1 [putLn [] 0 O, M] s' := t2
      rw [putLn_nil2 O (by omega)] at t2
      replace hs := hs.sub (M := PlainS W B p s' :: RoP W p ado0 co0 :: blk b4 33 (prV p ado0 co0) :: blk b5 50 (gsC ⟨kd1, od1, T⟩ aT cT) :: [])
      refine LN <| TN <| WS <| WR ?_
      refine S1 ha ?_; clear ha a; intro a ha
      refine SK (st_set ha rfl (ex_build ha Ty.b54 Ty.t54 rfl) rfl ?_); clear ha a; intro a ha
      refine S1 ha ?_; clear ha a; intro a ha
      refine SK (st_set ha rfl (ex_build ha Ty.b54 Ty.t54 rfl) rfl ?_); clear ha a; intro a ha
      refine SK (st_buildSlice ha rfl hs Tryz.underlying55 Ty.t54 rfl rfl rfl rfl (by decide) (by decide) ?_); clear ha hs a; (try clear w); intro b80 a w ha hs ho
      clear ho
      change St W w (blk b80 54 [.slice aO O.length cO, .slice aM M.length cM] :: _) at hs
      refine S1 ha ?_; clear ha a; intro a ha
      refine LN ?_
      have hfr : frontL [O, M] = min O.length M.length := front_two O M
      refine TN <| WS <| WR ?_
      iterate 4 (refine S1 ha ?_; clear ha a; intro a ha)
      refine SK (st_set ha rfl (ex_min ha) rfl ?_); clear ha a; intro a ha
      rw [show min (M.length : Int) (O.length : Int) = ((min O.length M.length : Nat) : Int) from by omega] at ha
      generalize hnn : min O.length M.length = n at ha hfr
      refine S1 ha ?_; clear ha a; intro a ha
      refine LN <| TN <| WS <| WR ?_
      refine S1 ha ?_; clear ha a; intro a ha
      refine LN ?_
      replace hs := St.sl0 (St.allNil (f := bbo) hs) 22 1 none
      refine TN <| WS <| WS <| WR ?_
      refine S1 ha ?_; clear ha a; intro a ha
      refine LN <| TN <| wp_block ?_
      refine wp_loop_ghost (fun μ a w => ∃ (j : Nat) (zs : List BBx) (adJ : Option Addr) (cJ : Nat), (μ = n - j ∧ j ≤ n ∧ prx zs = jn O M j) ∧ Fr a 151 [(2, .slice aM M.length cM), (4, .pointer (some ⟨b4, 0, none⟩)), (5, .pointer (some ⟨b5, 0, none⟩)), (11, .pointer (some ⟨B.pb, 0, none⟩)), (14, .slice (some ⟨b80, 0, none⟩) 2 2), (15, .int .i64 n), (16, .slice adJ j cJ), (17, .int .i64 j)] ∧ St W w (Sl 22 1 adJ j cJ (zs.map bbv) :: All bbo zs :: blk b80 54 [.slice aO O.length cO, .slice aM M.length cM] :: PlainS W B p s' :: RoP W p ado0 co0 :: blk b4 33 (prV p ado0 co0) :: blk b5 50 (gsC ⟨kd1, od1, T⟩ aT cT) :: [])) (n) ?_ ?_
      · exact ⟨0, [], none, 0, ⟨rfl, by omega, rfl⟩, ha.keep [2, 4, 5, 11, 14, 15, 16, 17], (show St W w (Sl 22 1 none 0 0 (([] : List BBx).map bbv) :: All bbo [] :: _) from hs).sub⟩
      ·
       clear ha hs
       rintro μ a w ⟨j, zs, adJ, cJ, ⟨rfl, hj, hz⟩, ha, hs⟩
       refine WS <| WS <| WR ?_
       refine S1 ha ?_; clear ha; (try clear a); intro a ha
       iterate 2 (refine S1 ha ?_; clear ha a; intro a ha)
       refine LN <| TN ?_
       refine WI ha (fun hc3 => ?_) (fun hc3 => ?_)
       ·
        refine WK <| TN <| WS <| wp_block <| WR ?_
        refine S1 ha ?_; clear ha; (try clear a); intro a ha
        iterate 2 (refine S1 ha ?_; clear ha a; intro a ha)
        refine SK (st_call ha rfl Ty.c22 rfl (ref_joint (xs := [(aO, cO, O), (aM, cM, M)]) (f := j) hs (by simp) (by simp) (fun w' hw => rdx_two (b := b80) hw hrO hrM) (by show j < frontL [O, M]; omega)) ?_); clear ha hs
        rintro e w ⟨adj, cj, rfl, hs⟩
        refine ⟨_, rfl, ?_⟩
        intro a ha
        replace hs : St W w (Sl 5 1 adj (jointL [O, M] j).length cj (bc (jointL [O, M] j)) :: _) := hs
        refine SK (st_buildSlice ha rfl hs Tryz.underlying41 Ty.t22 rfl rfl rfl rfl (by decide) (by decide) ?_); clear ha hs a; (try clear w); intro b95 a w ha hs ho
        clear ho
        refine SK (st_append ha rfl hs Tryz.underlying41 Ty.t22 rfl rfl hs.rdAll rfl (by simp [Value.oneCell']) (by decide) (by decide) (by omega) ?_); clear ha hs a; (try clear w); intro ad96 c96 a w ha hs
        rw [show zs.map bbv ++ _ = (zs ++ [((adj, cj, jointL [O, M] j) : BBx)]).map bbv from by rw [List.map_append]; rfl] at hs
        refine S1d ha ?_; clear ha a; intro a ha
        refine LN <| BN <| TN <| WR ?_
        refine S1 ha ?_; clear ha a; intro a ha
        refine SK (st_set ha rfl (ex_addI ha (by omega) (by omega)) rfl ?_); clear ha a; intro a ha
        refine S1d ha ?_; clear ha a; intro a ha
        refine LN <| TN ?_
        have hs2 := St.allPush (f := bbo) (x := (adj, cj, jointL [O, M] j)) (hs.sub (M := Sl 5 1 adj (jointL [O, M] j).length cj (bc (jointL [O, M] j)) :: All bbo zs :: Sl 22 1 ad96 (j + 1) c96 ((zs ++ [((adj, cj, jointL [O, M] j) : BBx)]).map bbv) :: blk b80 54 [.slice aO O.length cO, .slice aM M.length cM] :: PlainS W B p s' :: RoP W p ado0 co0 :: blk b4 33 (prV p ado0 co0) :: blk b5 50 (gsC ⟨kd1, od1, T⟩ aT cT) :: []))
        exact ⟨n - (j + 1), by omega, j + 1, zs ++ [((adj, cj, jointL [O, M] j) : BBx)], ad96, c96, ⟨rfl, by omega, by rw [prx, List.map_append, ← prx, hz, jn_succ2]; rfl⟩, ha.keep [2, 4, 5, 11, 14, 15, 16, 17], hs2.sub⟩
       ·
        obtain rfl : j = n := by omega
        have hga : gameAt p [O, M] j = foldI p 0 zeroG (jn O M j) := rfl
        generalize hg1d : foldI p 0 zeroG (jn O M j) = g1 at hga
        refine wp_exit <| TE <| TE <| blk_e <| TN <| WS <| WR ?_
        refine SK (st_set ha rfl (ex_loadN ha Tryz.underlying33 rfl Ty.t33 (hs.rdAll (b := b4))) rfl ?_); clear ha; (try clear a); intro a ha
        refine SK (st_set ha rfl (ex_buildA0 ha Tryz.underlying46 Ty.t46 Ty.t21) rfl ?_); clear ha a; intro a ha
        refine S1 ha ?_; clear ha a; intro a ha
        refine SK (st_call ha rfl Ty.c19 rfl (refFold_len (p := p) (P := jn O M j) (zs := zs) (g := zeroG) (fr := 0) (L := Sl 22 1 adJ j cJ (zs.map bbv) :: All bbo zs :: blk b80 54 [.slice aO O.length cO, .slice aM M.length cM] :: PlainS W B p s' :: blk b4 33 (prV p ado0 co0) :: blk b5 50 (gsC ⟨kd1, od1, T⟩ aT cT) :: []) hs.sub (jn_len O M j) hpr hz1 zeroG_ok ⟨by rw [jn_len]; omega, jn_short⟩ hz (by decide) (fun w' hw => hw.rdX)) ?_); clear ha hs
        rintro e w ⟨rfl, hgk, hs⟩
        refine ⟨_, rfl, ?_⟩
        intro a ha
        rw [hg1d] at ha hgk
        refine SK (st_alloc ha rfl hs Ty.t46 rfl ?_); clear ha hs a; (try clear w); intro b18 a w ha hs ho
        clear ho
        refine SK (st_storeAll ha rfl hs Ty.t46 ints_one (by rfl) ?_); clear ha hs a; (try clear w); intro a w ha hs
        refine LN <| TN <| WS <| WR ?_
        refine S1 ha ?_; clear ha a; intro a ha
        refine SK (st_call ha rfl Ty.c17 rfl (two_conf (hs.pick (PlainS W B p s')) t2) ?_); clear ha hs
        rintro e w ⟨adC, cC, rfl, hs⟩
        refine ⟨_, rfl, ?_⟩
        intro a ha
        rw [hfr] at ha hs
        rw [hga] at hs
        iterate 5 (refine S1 ha ?_; clear ha a; intro a ha)
        refine LN <| TN <| WS <| WR ?_
        refine S1 ha ?_; clear ha a; intro a ha
        refine SK (st_call ha rfl Ty.c23 rfl (plain_display (hs.pick (PlainS W B p s')) t2.wf hpr hz1 hgm2) ?_); clear ha hs
        rintro e w ⟨adD, cD, rfl, hs⟩
        refine ⟨_, rfl, ?_⟩
        intro a ha
        iterate 5 (refine S1 ha ?_; clear ha a; intro a ha)
        refine LN <| TN <| WS <| WR ?_
        refine SK (st_set ha rfl (ex_loadN ha Tryz.underlying46 rfl Ty.t46 (hs.rdAll (b := b18))) rfl ?_); clear ha a; intro a ha
        refine SK (st_alloc ha rfl hs Ty.t46 rfl ?_); clear ha hs a; (try clear w); intro b23 a w ha hs ho
        clear ho
        refine SK (st_storeAll ha rfl hs Ty.t46 ints_one (by rfl) ?_); clear ha hs a; (try clear w); intro a w ha hs
        refine LN ?_
        have hh : headK s'.k = M.length := t2.head
        have hfk : frontK s'.k = j := by rw [t2.front, hfr]
        have hsg : s'.g = g1 := by rw [t2.game, hfr, hga]
        refine TN <| WS <| WR ?_
        iterate 2 (refine S1 ha ?_; clear ha a; intro a ha)
        refine LN <| TN ?_
        refine wp_seq_cut (M := fun a w => ∃ (head : Nat) (g2 : Nat → Int), Fr a 151 [(15, .int .i64 j), (18, .pointer (some ⟨b18, 0, none⟩)), (19, .slice adC 128 cC), (20, .int .i64 j), (21, .slice adD 128 cD), (22, .int .i64 head), (23, .pointer (some ⟨b23, 0, none⟩)), (24, .int .i64 head)] ∧ St W w (blk b23 46 (ints .i32 32 g2) :: blk b18 46 (ints .i32 32 g1) :: Sl 5 1 adD 128 cD (bc (gameB g2)) :: Sl 5 1 adC 128 cC (bc (gameB g1)) :: [])) ?_ ?_
        ·
         refine WS <| WR ?_
         refine S1 ha ?_; clear ha; (try clear a); intro a ha
         iterate 3 (refine S1 ha ?_; clear ha a; intro a ha)
         refine LN <| TN ?_
         refine WI ha (fun hc4 => ?_) (fun hc4 => ?_)
         ·
          have hd : dispG p B.gs s' = (gameB (foldI p j g1 (aheadL ⟨kd1, od1, T⟩ [O, M] M.length)), M.length) := by rw [dispG, if_neg (by omega), hh, hfk, hsg, t2.ls, hgs]
          have hd1 : (dispG p B.gs s').1 = gameB (foldI p j g1 (aheadL ⟨kd1, od1, T⟩ [O, M] M.length)) := by rw [hd]
          rw [hd1] at hs
          rw [show (dispG p B.gs s').2 = M.length from by rw [hd]] at ha
          have hal : (aheadL ⟨kd1, od1, T⟩ [O, M] M.length).length = M.length - j := by rw [aheadL_len, hfr]
          refine WS <| WR ?_
          refine S1 ha ?_; clear ha; (try clear a); intro a ha
          refine S1 ha ?_; clear ha a; intro a ha
          refine S1d ha ?_; clear ha a; intro a ha
          refine LN <| TN ?_
          refine DW (m := 9) (fun w' => Rd w' b4 0 (prV p ado0 co0) ∧ Rd w' b18 0 (ints .i32 32 g1)) [1, 4, 6] [2, 3, 5, 0, 1, 4, 6, 7, 8] Ty.mixed (pk_then pk_body) (fun hpk => ?_)
          replace hs := hs.drew
          generalize w.drew = w at hs hpk ⊢
          have hC : Rd w b4 0 (prV p ado0 co0) ∧ Rd w b18 0 (ints .i32 32 g1) := ⟨hs.rdAll (b := b4), hs.rdAll (b := b18)⟩
          iterate 3 (refine DP hpk ha rfl ?_; clear ha a; intro a ha)
          refine DH hpk ha rfl rfl (fun w hc => ex_loadN ha Tryz.underlying33 rfl Ty.t33 (hc.1)) hC ?_; clear ha a; intro a ha
          refine DH hpk ha rfl rfl (fun w hc => ex_loadN ha Tryz.underlying46 rfl Ty.t46 (hc.2)) hC ?_; clear ha a; intro a ha
          refine D1 rfl (st_set ha rfl (ex_loadN ha Tryz.underlying50 rfl Ty.t50 (hs.rdAll (b := b5))) rfl ?_); clear ha a; intro a ha
          refine ⟨fun _ => hC, ?_⟩
          refine D1 rfl (st_call ha rfl Ty.c24 rfl (ref_aheadG (xs := [(aO, cO, O), (aM, cM, M)]) (b := ⟨kd1, od1, T⟩) (r := 0) (to := M.length) (by decide) hs hgm (by simp) (by simp) (fun l hl => by simp [prx] at hl; rcases hl with rfl | rfl <;> omega) (by omega) (fun w' hw => rdx_two (b := b80) hw hrO hrM) (fun w' hw => hrT.old hw)) ?_); clear ha hs
          rintro e w ⟨adA, cA, X, rfl, ⟨hFX, hX⟩, hs⟩
          refine ⟨_, rfl, ?_⟩
          intro a ha
          replace hC : (fun w' => Rd w' b4 0 (prV p ado0 co0) ∧ Rd w' b18 0 (ints .i32 32 g1)) w := ⟨hs.rdAll (b := b4), hs.rdAll (b := b18)⟩
          refine ⟨fun _ => hC, ?_⟩
          have hXf := hX rfl
          subst hXf
          rw [aheadX_full] at hs
          replace hs : St W w (OwnBB adA (M.length - frontL [O, M]) cA (aheadL ⟨kd1, od1, T⟩ [O, M] M.length) :: _) := hs
          rw [hfr] at hs
          obtain ⟨ys, hy1, hy2, hs⟩ := OwnBB.open hs
          replace ha : Fr _ _ ((_, .slice adA (M.length - frontL [O, M]) cA) :: _) := ha
          rw [hfr] at ha
          refine D1 rfl (st_call ha rfl Ty.c19 rfl (refFold_len (p := p) (P := aheadL ⟨kd1, od1, T⟩ [O, M] M.length) (zs := ys) (g := g1) (fr := j) (L := Sl 22 1 adA (M.length - j) cA (ys.map bbv) :: All bbo ys :: blk b23 46 (ints .i32 32 g1) :: blk b18 46 (ints .i32 32 g1) :: Sl 5 1 adD 128 cD (bc (gameB (foldI p j g1 (aheadL ⟨kd1, od1, T⟩ [O, M] M.length)))) :: Sl 5 1 adC 128 cC (bc (gameB g1)) :: blk b4 33 (prV p ado0 co0) :: []) hs.sub hal hpr hz1 hgk ⟨by omega, ahead_short (by simp)⟩ hy1 (by omega) (fun w' hw => hw.rdX)) ?_); clear ha hs
          rintro e w ⟨rfl, hgk2, hs⟩
          refine ⟨_, rfl, ?_⟩
          intro a ha
          refine ⟨fun h => absurd h (by decide), ?_⟩
          refine D1 rfl (st_storeAll ha rfl hs Ty.t46 ints_one (by rfl) ?_); clear ha hs a; (try clear w); intro a w ha hs
          refine ⟨fun h => absurd h (by decide), ?_⟩
          refine DD <| TN ?_
          exact ⟨M.length, foldI p (j : Int) g1 (aheadL ⟨kd1, od1, T⟩ [O, M] M.length), ha.keep [15, 18, 19, 20, 21, 22, 23, 24], hs.sub⟩
         ·
          refine WK <| TN ?_
          have hd : dispG p B.gs s' = (gameB g1, j) := by rw [dispG, if_pos (by omega), confP, hsg, hfk]
          rw [show (dispG p B.gs s').2 = j from by rw [hd]] at ha
          rw [show (dispG p B.gs s').1 = gameB g1 from by rw [hd]] at hs
          refine ⟨j, g1, ha.keep [15, 18, 19, 20, 21, 22, 23, 24], ?_⟩
          exact hs.sub (M := blk b23 46 (ints .i32 32 g1) :: blk b18 46 (ints .i32 32 g1) :: Sl 5 1 adD 128 cD (bc (gameB g1)) :: Sl 5 1 adC 128 cC (bc (gameB g1)) :: [])
        ·
         clear ha; (try clear hs)
         intro a w hcut
         obtain ⟨head, g2, ha, hs⟩ := hcut
         refine WS ?_
         refine DW (m := 25) (fun w' => RdB w' adC 128 (gameB g1) ∧ RdB w' adD 128 (gameB g2)) [11, 12, 13, 19, 20, 21] [0, 1, 2, 3, 4, 5, 6, 7, 8, 9, 10, 11, 12, 13, 14, 15, 16, 17, 18, 19, 20, 21, 22, 23, 24] Ty.mixed (pk_then pk_body) (fun hpk => ?_)
         replace hs := hs.drew
         generalize w.drew = w at hs hpk ⊢
         have hC : RdB w adC 128 (gameB g1) ∧ RdB w adD 128 (gameB g2) := ⟨hs.rdB adC _ rfl (gameB_len _), hs.rdB adD _ rfl (gameB_len _)⟩
         refine DP hpk ha rfl ?_; clear ha; (try clear a); intro a ha
         iterate 3 (refine DP hpk ha rfl ?_; clear ha a; intro a ha)
         rw [decide_eq_true (by omega)] at ha
         iterate 3 (refine DPg (s := 130) hpk ha rfl ?_; clear ha a; intro a ha)
         refine DT hpk ha rfl ?_; clear ha a; intro a ha
         refine DP hpk ha rfl ?_; clear ha a; intro a ha
         rw [decide_eq_true (by omega)] at ha
         refine DPg (s := 135) hpk ha rfl ?_; clear ha a; intro a ha
         refine DH hpk ha rfl (wgT ha rfl (s := 135)) (fun w hc => ex_toString ha Tryz.underlying22 Tryz.underlying5 Tryz.underlying9 (hc.1)) hC ?_; clear ha a; intro a ha
         refine D1 rfl (st_set ha (wgT ha rfl (s := 135)) (ex_loadN ha Tryz.underlying46 rfl Ty.t46 (hs.rdAll (b := b18))) rfl ?_); clear ha a; intro a ha
         refine ⟨fun _ => hC, ?_⟩
         refine D1 rfl (st_call ha (wgT ha rfl (s := 135)) Ty.c18 rfl (refBytes_spec hs) ?_); clear ha hs
         rintro e w ⟨adG, cG, rfl, hs⟩
         refine ⟨_, rfl, ?_⟩
         intro a ha
         replace hC : (fun w' => RdB w' adC 128 (gameB g1) ∧ RdB w' adD 128 (gameB g2)) w := ⟨hs.rdB adC _ rfl (gameB_len _), hs.rdB adD _ rfl (gameB_len _)⟩
         refine ⟨fun _ => hC, ?_⟩
         refine D1 rfl (st_set ha (wgT ha rfl (s := 135)) (ex_toString ha Tryz.underlying22 Tryz.underlying5 Tryz.underlying9 ((hs.rdB adG (gameB g1) rfl (gameB_len _)))) rfl ?_); clear ha a; intro a ha
         refine ⟨fun _ => hC, ?_⟩
         refine DQ hpk ha rfl (wgT ha rfl (s := 135)) (fun w => ex_eqlS ha) ?_; clear ha a; intro a ha
         rw [str_beq, beq_self_eq_true] at ha
         refine DT hpk ha rfl ?_; clear ha a; intro a ha
         refine DP hpk ha rfl ?_; clear ha a; intro a ha
         refine DPg (s := 143) hpk ha rfl ?_; clear ha a; intro a ha
         refine DH hpk ha rfl (wgT ha rfl (s := 143)) (fun w hc => ex_toString ha Tryz.underlying22 Tryz.underlying5 Tryz.underlying9 (hc.2)) hC ?_; clear ha a; intro a ha
         refine D1 rfl (st_set ha (wgT ha rfl (s := 143)) (ex_loadN ha Tryz.underlying46 rfl Ty.t46 (hs.rdAll (b := b23))) rfl ?_); clear ha a; intro a ha
         refine ⟨fun _ => hC, ?_⟩
         refine D1 rfl (st_call ha (wgT ha rfl (s := 143)) Ty.c18 rfl (refBytes_spec hs) ?_); clear ha hs
         rintro e w ⟨adH, cH, rfl, hs⟩
         refine ⟨_, rfl, ?_⟩
         intro a ha
         replace hC : (fun w' => RdB w' adC 128 (gameB g1) ∧ RdB w' adD 128 (gameB g2)) w := ⟨hs.rdB adC _ rfl (gameB_len _), hs.rdB adD _ rfl (gameB_len _)⟩
         refine ⟨fun _ => hC, ?_⟩
         refine D1 rfl (st_set ha (wgT ha rfl (s := 143)) (ex_toString ha Tryz.underlying22 Tryz.underlying5 Tryz.underlying9 ((hs.rdB adH (gameB g2) rfl (gameB_len _)))) rfl ?_); clear ha a; intro a ha
         refine ⟨fun _ => hC, ?_⟩
         refine DQ hpk ha rfl (wgT ha rfl (s := 143)) (fun w => ex_eqlS ha) ?_; clear ha a; intro a ha
         refine DT hpk ha rfl ?_; clear ha a; intro a ha
         refine DP hpk ha rfl ?_; clear ha a; intro a ha
         refine DD <| TN <| wp_ret ?_
         refine ret1 ha rfl ?_
         exact ⟨by rw [str_beq, beq_self_eq_true], hs.below⟩
  ·
    refine calls_enter Tryz.func4 rfl Tryz.ntmps4 (Nat.le_of_ble_eq_true rfl) ?_
    intro a ha
    replace ha : Fr a 151 [(0, _), (1, _), (2, _), (3, _)] := ha
    refine WS <| WR ?_
    refine SK (st_box ha rfl hs rfl ?_); clear ha hs a; (try clear w); intro b4 a w ha hs ho
    clear ho
    change St W w (blk b4 33 (prV pr0 ado0 co0) :: _) at hs
    refine SK (st_box ha rfl hs rfl ?_); clear ha hs a; (try clear w); intro b5 a w ha hs ho
    clear ho
    change St W w (blk b5 50 [.int .i64 kd1, .int .i64 od1, .slice a1 len1 cap1] :: _) at hs
    refine S1 ha ?_; clear ha a; intro a ha
    refine LN <| TN <| WS <| WR ?_
    refine SK (st_call ha rfl Ty.c10 rfl (begun22 hs) ?_); clear ha hs
    rintro e w ⟨rfl, hs⟩
    refine ⟨_, rfl, ?_⟩
    intro a ha
    refine S1 ha ?_; clear ha a; intro a ha
    refine LN <| TN <| WS <| WS <| WR ?_
    iterate 2 (refine S1 ha ?_; clear ha a; intro a ha)
    refine LN <| TN <| WFa ha <| WK <| TN <| WS <| WR ?_
    refine SK (st_set ha rfl (ex_loadN ha Tryz.underlying33 rfl Ty.t33 (hs.rdAll (b := b4))) rfl ?_); clear ha a; intro a ha
    refine SK (st_call ha rfl Ty.c20 rfl (cut5_spec (K := 40) (w0.ro hs)) ?_); clear ha hs
    rintro e w ⟨rfl, hs⟩
    refine ⟨_, rfl, ?_⟩
    intro a ha
    refine S1 ha ?_; clear ha a; intro a ha
    refine SK (st_call ha rfl Ty.c11 rfl (shortN (K := 10) hs hrM0 hcap2) ?_); clear ha hs
    rintro e w ⟨aM, cM, rfl, hrM, hcM, hs⟩
    refine ⟨_, rfl, ?_⟩
    intro a ha
    refine S1 ha ?_; clear ha a; intro a ha
    refine SK (st_call ha rfl Ty.c11 rfl (shortN (K := 10) hs hrO0 hcap3) ?_); clear ha hs
    rintro e w ⟨aO, cO, rfl, hrO, hcO, hs⟩
    refine ⟨_, rfl, ?_⟩
    intro a ha
    refine SK (st_storeAll ha rfl hs Ty.t33 (prV_one _ _ _) (by rfl) ?_); clear ha hs a; (try clear w); intro a w ha hs
    iterate 2 (refine S1d ha ?_; clear ha a; intro a ha)
    refine LN ?_
    have hMl : (M0.take 10).length ≤ 10 := by rw [List.length_take]; omega
    have hOl : (O0.take 10).length ≤ 10 := by rw [List.length_take]; omega
    generalize M0.take 10 = M at ha hrM hcM hMl
    generalize O0.take 10 = O at ha hrO hcO hOl
    generalize cutP 40 pr0 = p at hs ha hz1 hz2 hma
    refine TN <| WS <| WR ?_
    refine S1 ha ?_; clear ha a; intro a ha
    refine SL ha (hs.rd1 (b := b5) rfl) ?_; clear ha a; intro a ha
    refine SK (st_call ha rfl Ty.c11 rfl (shortN (K := 30) hs hrT0 hcap1) ?_); clear ha hs
    rintro e w ⟨aT, cT, rfl, hrT, hcT, hs⟩
    refine ⟨_, rfl, ?_⟩
    intro a ha
    have hTl : (T0.take 30).length ≤ 30 := by rw [List.length_take]; omega
    generalize T0.take 30 = T at ha hrT hcT hTl hma
    refine S1 ha ?_; clear ha a; intro a ha
    refine SK (st_store ha rfl hs Ty.t22 rfl (by simp) ?_); clear ha hs a; (try clear w); intro a w ha hs
    change St W w (blk b5 50 (gsC ⟨kd1, od1, T⟩ aT cT) :: _) at hs
    refine LN <| TN <| WS <| WR ?_
    refine S1 ha ?_; clear ha a; intro a ha
    refine SL ha (hs.rd1 (b := b5) rfl) ?_; clear ha a; intro a ha
    refine S1 ha ?_; clear ha a; intro a ha
    refine SL ha (hs.rd1 (b := b5) rfl) ?_; clear ha a; intro a ha
    refine SK (st_set ha rfl (ex_build ha Ty.b30 Ty.t30 rfl) rfl ?_); clear ha a; intro a ha
    refine SK (st_alloc ha rfl hs Ty.t30 rfl ?_); clear ha hs a; (try clear w); intro b10 a w ha hs ho
    clear ho
    refine SK (st_storeAll ha rfl hs Ty.t30 (by simp [Value.oneCell']) (by rfl) ?_); clear ha hs a; (try clear w); intro a w ha hs
    change St W w (blk b10 30 (cfC ⟨2, 1, 0, 0, 16, kd1, od1, 0, 0, 3⟩) :: _) at hs
    refine LN <| TN <| WS <| WR ?_
    refine SK (st_set ha rfl (ex_loadN ha Tryz.underlying30 rfl Ty.t30 (hs.rdAll (b := b10))) rfl ?_); clear ha a; intro a ha
    refine SK (st_set ha rfl (ex_loadN ha Tryz.underlying33 rfl Ty.t33 (hs.rdAll (b := b4))) rfl ?_); clear ha a; intro a ha
    refine S1 ha ?_; clear ha a; intro a ha
    refine SL ha (hs.rd1 (b := b5) rfl) ?_; clear ha a; intro a ha
    refine SK (st_call ha rfl Ty.c12 rfl (plain_newN hma (hs.pick (RoP W p ado0 co0)) rfl hz1 hz2 (by omega) (fun w' h => hrT.old h)) ?_); clear ha hs
    rintro e w ⟨rfl, hs⟩
    refine ⟨_, rfl, ?_⟩
    intro a ha
    iterate 5 (refine S1 ha ?_; clear ha a; intro a ha)
    refine LN <| TN <| WS <| WS <| WR ?_
    iterate 2 (refine S1 ha ?_; clear ha a; intro a ha)
    refine LN <| TN <| WTr ha <| WS <| WR ?_
    refine SK (st_set ha rfl (ex_loadN ha Tryz.underlying30 rfl Ty.t30 (hs.rdAll (b := b10))) rfl ?_); clear ha a; intro a ha
    refine SK (st_set ha rfl (ex_loadN ha Tryz.underlying33 rfl Ty.t33 (hs.rdAll (b := b4))) rfl ?_); clear ha a; intro a ha
    refine S1 ha ?_; clear ha a; intro a ha
    refine SL ha (hs.rd1 (b := b5) rfl) ?_; clear ha a; intro a ha
    refine SK (st_call ha rfl Ty.c21 rfl (refMayAll (cf := ⟨2, 1, 0, 0, 16, kd1, od1, 0, 0, 3⟩) (tb := T) (hs.pick (RoP W p ado0 co0)) hz1 hz2 rfl) ?_); clear ha hs
    rintro e w ⟨rr, rfl, hrr, hs⟩
    refine ⟨_, rfl, ?_⟩
    intro a ha
    rw [show rr = false from Bool.eq_false_iff.2 fun h => hma (hrr.1 h)] at ha
    refine S1 ha ?_; clear ha a; intro a ha
    refine S1d ha ?_; clear ha a; intro a ha
    refine LN <| TN <| wp_ret <| TR ?_
    refine ret1 ha rfl ?_
    exact ⟨rfl, hs.below⟩
end Go.Proofs.YtagpkhbkdbaigaaGreat

