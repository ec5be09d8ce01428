/- BranchAll: the law's own list of branches, and its check of it. -/
import Derived.Test.YtkjmmchmanofkaaBranchE
namespace Go.Proofs.Ytkjmmchmanofkaa
open Go.RowKit
set_option linter.unusedVariables false
set_option linter.unusedSimpArgs false
set_option maxRecDepth 10000
set_option synthInstance.maxSize 4000
set_option synthInstance.maxHeartbeats 400000

section
variable {P : Program} {ops : Array Oper} {Q : Exit → Act → World → Prop} {C : World → Prop} {need : List Nat} {a : Act} {w : World}
/-- Two operations that act may come, each first. -/
theorem nt_two {i j fuel : Nat} {listed li lj : Array Bool} (hli : listed.setIfInBounds i true = li) (hlj : listed.setIfInBounds j true = lj) {o o' : Oper} (hr : Region.ready .any ops listed = [i, j]) (hi : ops[i]? = some o) (hj : ops[j]? = some o')
    (h1 : StepK P ops Q o (fun a' w' => (need.contains i = true → C w') ∧ wpN P ops Q C need fuel li a' w') a w) (h2 : StepK P ops Q o' (fun a' w' => (need.contains j = true → C w') ∧ wpN P ops Q C need fuel lj a' w') a w) : wpN P ops Q C need (fuel + 1) listed a w := by
  subst hli; subst hlj
  refine ⟨fun h0 => (by rw [hr] at h0; cases h0), fun k hk => ?_⟩
  rw [hr] at hk
  rcases List.mem_cons.1 hk with rfl | hk
  · simp only [wpOp, hi]; exact h1
  · obtain rfl := List.mem_singleton.1 hk
    simp only [wpOp, hj]; exact h2
end

/-- A branch in the law's own list: its presses lie in a row of the call's own; their bytes came in. -/
abbrev Tw := Br × Option Addr × Nat × List BBx
def tc (x : Tw) : List Value := brC x.1 x.2.1 x.2.2.1
def two (x : Tw) : SP := Sl 48 1 x.2.1 x.1.press.length x.2.2.1 (x.2.2.2.map bbv)
def TwOk (W : World) (ys : List Tw) : Prop := ∀ x ∈ ys, x.2.2.2.map (·.2.2) = x.1.press ∧ ∀ z ∈ x.2.2.2, RdB W z.1 z.2.2.length z.2.2
theorem tc_len (x : Tw) : (tc x).length = 5 := rfl
theorem tc_one (x : Tw) : ∀ v ∈ tc x, v.oneCell' = true := brC_one x.1 x.2.1 x.2.2.1
section
variable {W w : World} {L L' R : List SP} {tq sq q r n c k m i : Nat} {ad : Option Addr} {A : Sn} {T : Tr} {x y : Br} {ys : List Tw} {p : List (List UInt8)}
theorem tw_rd {b off : Nat} (hr : Rd w b off (rows tc ys)) {y : Tw} (hx : ys[k]? = some y) : Rd w b (off + k * 5) (brC y.1 y.2.1 y.2.2.1) := by
  obtain ⟨hi, he⟩ := List.getElem?_eq_some_iff.1 hx
  have := hr.part (k * 5) 5
  rw [rows_at tc_len ys k hi, he] at this
  exact this
theorem tw_bb (hs : St W w (All two ys :: L)) (ho : TwOk W ys) {y : Tw} (hx : ys[k]? = some y) : RdBB w y.2.1 y.1.press.length y.1.press ∧ y.1.press.length ≤ y.2.2.1 := by
  obtain ⟨hi, he⟩ := List.getElem?_eq_some_iff.1 hx
  have h := hs.allOut hi
  rw [he] at h
  have h2 : St W w (Sl 48 1 y.2.1 y.1.press.length y.2.2.1 (y.2.2.2.map bbv) :: All two (ys.eraseIdx k) :: L) := h
  obtain ⟨h3, h4⟩ := ho y (List.mem_of_getElem? hx)
  refine ⟨(RdX.sl h2 y.2.1 (by rw [← h3, List.length_map]) h4).bbP h3, (h2.sl y.2.1).2⟩
/-- The law's own check: the tree holds the listed branches, the store the first picture and theirs. -/
theorem same_spec (hs : St W w (Tree tq q T :: Store q r A :: Sl 68 5 ad n c (rows tc ys) :: All two ys :: L)) (hy : ys.map (·.1) = T.l) (ho : TwOk W ys) (hA : A.pics.length = T.l.length + 1)
    (hp : ∀ x ∈ T.l, ∃ (i : Nat) (px : Pic), A.pics[i]? = some px ∧ px.id = x.snap ∧ px.refs = 1) :
    Calls Try.prog 31 #[.pointer (some ⟨q, 0, none⟩), .pointer (some ⟨tq, 0, none⟩), .slice ad n c] w fun e w' => e = .returned (.bool true) ∧ St W w' (Tree tq q T :: Store q r A :: Sl 68 5 ad n c (rows tc ys) :: All two ys :: L) := by
  have hyl : ys.length = T.l.length := by rw [← hy, List.length_map]
  have hw := Tree.wt hs
  have hT := hw.most
  obtain rfl : n = T.l.length := by
    have := (hs.sl ad).1
    rw [rows_len tc_len] at this
    omega
  refine calls_enter Try.func31 rfl Try.ntmps31 (Nat.le_of_ble_eq_true rfl) ?_
  intro a ha
  replace ha : Fr a 118 [(0, _), (1, _), (2, _)] := ha
  refine wp_seq ?_
  refine wp_region_lit ?_
  refine wpList_k (st_set ha rfl (ex_assign ha) rfl ?_); clear ha; (try clear a); intro a ha
  refine wpList_nil ?_
  refine then_n ?_
  refine wp_seq ?_
  refine wp_region_lit ?_
  refine wpList_k (st_set ha rfl (ex_move ha) rfl ?_); clear ha; (try clear a); intro a ha
  refine wpList_k (st_call ha rfl Ty.c15 rfl (tree_all (hs.tree tq)) ?_); clear ha hs
  rintro e w ⟨ada, ca, rfl, hs⟩
  refine ⟨_, rfl, ?_⟩
  intro a ha
  refine wpList_k (st_set ha rfl (ex_assign ha) rfl ?_); clear ha; (try clear a); intro a ha
  refine wpList_nil ?_
  refine then_n ?_
  refine wp_seq ?_
  refine wp_seq ?_
  refine wp_region_lit ?_
  refine wpList_k (st_set ha rfl (ex_move ha) rfl ?_); clear ha; (try clear a); intro a ha
  refine wpList_k (st_set ha rfl (ex_len ha Try.underlying37) rfl ?_); clear ha; (try clear a); intro a ha
  refine wpList_k (st_set ha rfl (ex_move ha) rfl ?_); clear ha; (try clear a); intro a ha
  refine wpList_k (st_set ha rfl (ex_len ha Try.underlying64) rfl ?_); clear ha; (try clear a); intro a ha
  refine wpList_k (st_set ha rfl (ex_neq ha) rfl ?_); clear ha; (try clear a); intro a ha
  refine wpList_k (st_set ha rfl (ex_move ha) rfl ?_); clear ha; (try clear a); intro a ha
  rw [decide_eq_false (by simp)] at ha
  refine wpList_k (st_set ha (wgT ha rfl (s := 22)) (ex_move ha) rfl ?_); clear ha; (try clear a); intro a ha
  refine wpList_k (st_call ha (wgT ha rfl (s := 22)) Ty.c18 rfl (snap_live (hs.store q)) ?_); clear ha hs
  rintro e w ⟨adl, cl, rfl, hs⟩
  refine ⟨_, rfl, ?_⟩
  intro a ha
  refine wpList_k (st_set ha (wgT ha rfl (s := 22)) (ex_len ha Try.underlying43) rfl ?_); clear ha; (try clear a); intro a ha
  refine wpList_k (st_set ha (wgT ha rfl (s := 22)) (ex_move ha) rfl ?_); clear ha; (try clear a); intro a ha
  refine wpList_k (st_set ha (wgT ha rfl (s := 22)) (ex_len ha Try.underlying64) rfl ?_); clear ha; (try clear a); intro a ha
  refine wpList_k (st_set ha (wgT ha rfl (s := 22)) (ex_addI ha (by omega) (by omega)) rfl ?_); clear ha; (try clear a); intro a ha
  refine wpList_k (st_set ha (wgT ha rfl (s := 22)) (ex_neq ha) rfl ?_); clear ha; (try clear a); intro a ha
  refine wpList_k (st_set ha rfl (ex_pickF ha) rfl ?_); clear ha; (try clear a); intro a ha
  refine wpList_nil ?_
  refine then_n ?_
  rw [decide_eq_false (by rw [hA]; simp)] at ha
  refine wp_ifF ha ?_
  refine wp_skip ?_
  refine then_n ?_
  refine wp_seq ?_
  refine wp_seq ?_
  obtain ⟨xa, hx1, hx2, hs⟩ := OwnBr.open (hs.pick (OwnBr ada T.l.length ca T.l))
  have hxl : xa.length = T.l.length := by rw [← hx1, List.length_map]
  refine wp_region_lit ?_
  refine wpList_k (st_set ha rfl (ex_assign ha) rfl ?_); clear ha; (try clear a); intro a ha
  refine wpList_nil ?_
  refine then_n ?_
  refine wp_block ?_
  refine wp_loop_ghost (fun μ a w => ∃ i : Nat, (μ = T.l.length - i ∧ i ≤ T.l.length) ∧ Fr a 118 [(0, .pointer (some ⟨q, 0, none⟩)), (1, .pointer (some ⟨tq, 0, none⟩)), (2, .slice ad T.l.length c), (7, .slice ada T.l.length ca), (8, .int .i64 i)] ∧ St W w (Sl 42 5 ada T.l.length ca (rows brc xa) :: All bro xa :: Tree tq q T :: Store q r A :: Sl 68 5 ad T.l.length c (rows tc ys) :: All two ys :: L)) (T.l.length) ?_ ?_
  · exact ⟨0, ⟨by simp, by simp⟩, ha.keep [0, 1, 2, 7, 8], hs.sub⟩
  ·
    clear ha hs
    rintro μ a w ⟨i, ⟨rfl, hi⟩, ha, hs⟩
    refine wp_seq ?_
    refine wp_seq ?_
    refine wp_region_lit ?_
    refine wpList_k (st_set ha rfl (ex_move ha) rfl ?_); clear ha; (try clear a); intro a ha
    refine wpList_k (st_set ha rfl (ex_move ha) rfl ?_); clear ha; (try clear a); intro a ha
    refine wpList_k (st_set ha rfl (ex_len ha Try.underlying64) rfl ?_); clear ha; (try clear a); intro a ha
    refine wpList_k (st_set ha rfl (ex_lss ha) rfl ?_); clear ha; (try clear a); intro a ha
    refine wpList_nil ?_
    refine then_n ?_
    refine wp_if ha (fun hc1 => ?_) (fun hc1 => ?_)
    ·
      try simp only [decide_eq_true_eq, decide_eq_false_iff_not, Bool.not_eq_true', Bool.not_eq_false', Int.not_lt, Int.not_le, ne_eq, Decidable.not_not] at hc1
      obtain ⟨⟨x, ax, cx⟩, hxx⟩ : ∃ y, xa[i]? = some y := ⟨_, List.getElem?_eq_getElem (by omega)⟩
      obtain ⟨⟨x', ay, cy, zs⟩, hyy⟩ : ∃ y, ys[i]? = some y := ⟨_, List.getElem?_eq_getElem (by omega)⟩
      have hTx : T.l[i]? = some x := by rw [← hx1, List.getElem?_map, hxx]; rfl
      obtain rfl : x' = x := by
        have : T.l[i]? = some x' := by rw [← hy, List.getElem?_map, hyy]; rfl
        rw [this] at hTx; cases hTx; rfl
      have hox := (hw.ok _ (List.mem_of_getElem? hTx)).1
      refine wp_skip ?_
      refine then_n ?_
      refine wp_seq ?_
      refine wp_block ?_
      refine wp_seq_cut (M := fun a w => ∃ b9 b10 : Nat, Fr a 118 [(0, .pointer (some ⟨q, 0, none⟩)), (1, .pointer (some ⟨tq, 0, none⟩)), (2, .slice ad T.l.length c), (7, .slice ada T.l.length ca), (8, .int .i64 i), (9, .pointer (some ⟨b9, 0, none⟩)), (10, .pointer (some ⟨b10, 0, none⟩))] ∧ St W w (blk b9 42 (brC x' ax cx) :: blk b10 68 (brC x' ay cy) :: Sl 42 5 ada T.l.length ca (rows brc xa) :: All bro xa :: Tree tq q T :: Store q r A :: Sl 68 5 ad T.l.length c (rows tc ys) :: All two ys :: L)) ?_ ?_
      ·
        obtain ⟨ba, oa, rfl, hra⟩ := hs.drew.slRd ada (by omega)
        obtain ⟨bt, ot, rfl, hrt⟩ := hs.drew.slRd ad (by omega)
        have hka := row_rd hra hxx
        have hkt := tw_rd hrt hyy
        refine wp_draw (m := 12) (l0 := lb 12 0) (fun w' => Rd w' ba (oa + i * 5) (brC x' ax cx) ∧ Rd w' bt (ot + i * 5) (brC x' ay cy)) [7, 8, 9, 10] Ty.mixed (by kernel_rfl) (by kernel_rfl) (pk_then (pk_blk (pk_then (pk_then (pk_blk (pk_then pk_body)))))) (fun hpk => ?_)
        replace hs := hs.drew
        generalize w.drew = w at hs hpk hka hkt ⊢
        have hC := And.intro hka hkt
        refine nt_pure (i := 0) (listed' := lb 12 1) (by kernel_rfl) rfl (by kernel_rfl) (by decide) hpk ha rfl (fun w => ex_move ha) rfl ?_; clear ha; (try clear a); intro a ha
        refine nt_pure (i := 1) (listed' := lb 12 3) (by kernel_rfl) rfl (by kernel_rfl) (by decide) hpk ha rfl (fun w => ex_move ha) rfl ?_; clear ha; (try clear a); intro a ha
        refine nt_pure (i := 2) (listed' := lb 12 7) (by kernel_rfl) rfl (by kernel_rfl) (by decide) hpk ha rfl (fun w => ex_indexAddr ha Try.underlying37 Ty.t42 (by omega)) rfl ?_; clear ha; (try clear a); intro a ha
        refine nt_pure (i := 4) (listed' := lb 12 23) (by kernel_rfl) rfl (by kernel_rfl) (by decide) hpk ha rfl (fun w => ex_move ha) rfl ?_; clear ha; (try clear a); intro a ha
        refine nt_pure (i := 5) (listed' := lb 12 55) (by kernel_rfl) rfl (by kernel_rfl) (by decide) hpk ha rfl (fun w => ex_move ha) rfl ?_; clear ha; (try clear a); intro a ha
        refine nt_pure (i := 6) (listed' := lb 12 119) (by kernel_rfl) rfl (by kernel_rfl) (by decide) hpk ha rfl (fun w => ex_indexAddr ha Try.underlying64 Ty.t68 (by omega)) rfl ?_; clear ha; (try clear a); intro a ha
        refine nt_held (i := 3) (listed' := lb 12 127) (by kernel_rfl) rfl (by kernel_rfl) hpk ha rfl (fun w hc => ex_loadN ha Try.underlying42 rfl Ty.t42 (hc.1)) hC rfl ?_; clear ha; (try clear a); intro a ha
        refine nt_held (i := 7) (listed' := lb 12 255) (by kernel_rfl) rfl (by kernel_rfl) hpk ha rfl (fun w hc => ex_loadN ha Try.underlying68 rfl Ty.t68 (hc.2)) hC rfl ?_; clear ha; (try clear a); intro a ha
        refine nt_two (i := 8) (j := 9) (li := (lb 12 511)) (lj := (lb 12 767)) (by kernel_rfl) (by kernel_rfl) (by kernel_rfl) rfl rfl ?_ ?_
        ·
          refine st_alloc ha rfl hs Ty.t42 rfl ?_; clear ha hs; (try clear a); (try clear w); intro b9 a w ha hs ho
          (try replace hC := hC.trans ho); clear ho
          replace hC : (fun w' => Rd w' ba (oa + i * 5) (brC x' ax cx) ∧ Rd w' bt (ot + i * 5) (brC x' ay cy)) w := And.intro (row_rd (hs.slRdAt ba oa (by omega)) hxx) (tw_rd (hs.slRdAt bt ot (by omega)) hyy)
          refine ⟨fun _ => hC, ?_⟩
          refine nt_one (i := 9) (listed' := lb 12 1023) (by kernel_rfl) (by kernel_rfl) rfl (st_alloc ha rfl hs Ty.t68 rfl ?_); clear ha hs; (try clear a); (try clear w); intro b10 a w ha hs ho
          (try replace hC := hC.trans ho); clear ho
          replace hC : (fun w' => Rd w' ba (oa + i * 5) (brC x' ax cx) ∧ Rd w' bt (ot + i * 5) (brC x' ay cy)) w := And.intro (row_rd (hs.slRdAt ba oa (by omega)) hxx) (tw_rd (hs.slRdAt bt ot (by omega)) hyy)
          refine ⟨fun _ => hC, ?_⟩
          refine nt_one (i := 10) (listed' := lb 12 2047) (by kernel_rfl) (by kernel_rfl) rfl (st_storeAll ha rfl hs Ty.t42 (brC_one x' ax cx) (by rfl) ?_); clear ha hs; (try clear a); (try clear w); intro a w ha hs
          replace hC : (fun w' => Rd w' ba (oa + i * 5) (brC x' ax cx) ∧ Rd w' bt (ot + i * 5) (brC x' ay cy)) w := And.intro (row_rd (hs.slRdAt ba oa (by omega)) hxx) (tw_rd (hs.slRdAt bt ot (by omega)) hyy)
          refine ⟨fun _ => hC, ?_⟩
          refine nt_one (i := 11) (listed' := lb 12 4095) (by kernel_rfl) (by kernel_rfl) rfl (st_storeAll ha rfl hs Ty.t68 (brC_one x' ay cy) (by rfl) ?_); clear ha hs; (try clear a); (try clear w); intro a w ha hs
          refine ⟨fun h => absurd h (by decide), ?_⟩
          refine nt_done (by kernel_rfl) ?_ _
          refine then_n ?_
          exact ⟨_, _, ha.keep [0, 1, 2, 7, 8, 9, 10], hs.sub⟩
        ·
          refine st_alloc ha rfl hs Ty.t68 rfl ?_; clear ha hs; (try clear a); (try clear w); intro b10 a w ha hs ho
          (try replace hC := hC.trans ho); clear ho
          replace hC : (fun w' => Rd w' ba (oa + i * 5) (brC x' ax cx) ∧ Rd w' bt (ot + i * 5) (brC x' ay cy)) w := And.intro (row_rd (hs.slRdAt ba oa (by omega)) hxx) (tw_rd (hs.slRdAt bt ot (by omega)) hyy)
          refine ⟨fun _ => hC, ?_⟩
          refine nt_one (i := 8) (listed' := lb 12 1023) (by kernel_rfl) (by kernel_rfl) rfl (st_alloc ha rfl hs Ty.t42 rfl ?_); clear ha hs; (try clear a); (try clear w); intro b9 a w ha hs ho
          (try replace hC := hC.trans ho); clear ho
          replace hC : (fun w' => Rd w' ba (oa + i * 5) (brC x' ax cx) ∧ Rd w' bt (ot + i * 5) (brC x' ay cy)) w := And.intro (row_rd (hs.slRdAt ba oa (by omega)) hxx) (tw_rd (hs.slRdAt bt ot (by omega)) hyy)
          refine ⟨fun _ => hC, ?_⟩
          refine nt_one (i := 10) (listed' := lb 12 2047) (by kernel_rfl) (by kernel_rfl) rfl (st_storeAll ha rfl hs Ty.t42 (brC_one x' ax cx) (by rfl) ?_); clear ha hs; (try clear a); (try clear w); intro a w ha hs
          replace hC : (fun w' => Rd w' ba (oa + i * 5) (brC x' ax cx) ∧ Rd w' bt (ot + i * 5) (brC x' ay cy)) w := And.intro (row_rd (hs.slRdAt ba oa (by omega)) hxx) (tw_rd (hs.slRdAt bt ot (by omega)) hyy)
          refine ⟨fun _ => hC, ?_⟩
          refine nt_one (i := 11) (listed' := lb 12 4095) (by kernel_rfl) (by kernel_rfl) rfl (st_storeAll ha rfl hs Ty.t68 (brC_one x' ay cy) (by rfl) ?_); clear ha hs; (try clear a); (try clear w); intro a w ha hs
          refine ⟨fun h => absurd h (by decide), ?_⟩
          refine nt_done (by kernel_rfl) ?_ _
          refine then_n ?_
          exact ⟨_, _, ha.keep [0, 1, 2, 7, 8, 9, 10], hs.sub⟩
      · clear ha; (try clear hs)
        intro a w hcut
        obtain ⟨b9, b10, ha, hs⟩ := hcut
        refine wp_seq ?_
        refine wp_region_lit ?_
        refine wpList_k (st_set ha rfl (ex_move ha) rfl ?_); clear ha; (try clear a); intro a ha
        refine wpList_k (st_set ha rfl (ex_fieldAddr (k := 0) ha Try.underlying68 rfl Ty.t2 rfl) rfl ?_); clear ha; (try clear a); intro a ha
        refine wpList_k (st_set ha rfl (ex_load1 ha Try.underlying2 rfl (hs.rd1 rfl)) rfl ?_); clear ha; (try clear a); intro a ha
        refine wpList_k (st_call ha rfl Ty.c26 rfl (tree_get (k := i) (x := x') (hs.tree tq) hTx) ?_); clear ha hs
        rintro e w ⟨adg, cg, rfl, hs⟩
        refine ⟨_, rfl, ?_⟩
        intro a ha
        refine wpList_k (st_set ha rfl (ex_move ha) rfl ?_); clear ha; (try clear a); intro a ha
        refine wpList_k (st_set ha rfl (ex_extract ha rfl) rfl ?_); clear ha; (try clear a); intro a ha
        refine wpList_k (st_set ha rfl (ex_extract ha rfl) rfl ?_); clear ha; (try clear a); intro a ha
        refine wpList_k (st_alloc ha rfl hs Ty.t42 rfl ?_); clear ha hs; (try clear a); (try clear w); intro b11 a w ha hs ho
        clear ho
        refine wpList_k (st_storeAll ha rfl hs Ty.t42 (brC_one x' adg cg) (by rfl) ?_); clear ha hs; (try clear a); (try clear w); intro a w ha hs
        refine wpList_k (st_set ha rfl (ex_assign ha) rfl ?_); clear ha; (try clear a); intro a ha
        refine wpList_nil ?_
        refine then_n ?_
        refine wp_seq ?_
        refine wp_region_lit ?_
        refine wpList_k (st_set ha rfl (ex_fieldAddr (k := 0) ha Try.underlying42 rfl Ty.t2 rfl) rfl ?_); clear ha; (try clear a); intro a ha
        refine wpList_k (st_set ha rfl (ex_load1 ha Try.underlying2 rfl (hs.rd1 rfl)) rfl ?_); clear ha; (try clear a); intro a ha
        refine wpList_k (st_set ha rfl (ex_fieldAddr (k := 0) ha Try.underlying68 rfl Ty.t2 rfl) rfl ?_); clear ha; (try clear a); intro a ha
        refine wpList_k (st_set ha rfl (ex_load1 ha Try.underlying2 rfl (hs.rd1 rfl)) rfl ?_); clear ha; (try clear a); intro a ha
        refine wpList_k (st_set ha rfl (ex_neq ha) rfl ?_); clear ha; (try clear a); intro a ha
        refine wpList_k (st_set ha rfl (ex_move ha) rfl ?_); clear ha; (try clear a); intro a ha
        rw [decide_eq_false (by simp)] at ha
        refine wpList_k (st_set ha (wgT ha rfl (s := 57)) (ex_fieldAddr (k := 1) ha Try.underlying42 rfl Ty.t3 rfl) rfl ?_); clear ha; (try clear a); intro a ha
        refine wpList_k (st_set ha (wgT ha rfl (s := 57)) (ex_load1 ha Try.underlying3 rfl (hs.rd1 rfl)) rfl ?_); clear ha; (try clear a); intro a ha
        refine wpList_k (st_set ha (wgT ha rfl (s := 57)) (ex_fieldAddr (k := 1) ha Try.underlying68 rfl Ty.t3 rfl) rfl ?_); clear ha; (try clear a); intro a ha
        refine wpList_k (st_set ha (wgT ha rfl (s := 57)) (ex_load1 ha Try.underlying3 rfl (hs.rd1 rfl)) rfl ?_); clear ha; (try clear a); intro a ha
        refine wpList_k (st_set ha (wgT ha rfl (s := 57)) (ex_neq ha) rfl ?_); clear ha; (try clear a); intro a ha
        refine wpList_k (st_set ha rfl (ex_pickF ha) rfl ?_); clear ha; (try clear a); intro a ha
        refine wpList_k (st_set ha rfl (ex_move ha) rfl ?_); clear ha; (try clear a); intro a ha
        rw [decide_eq_false (by simp)] at ha
        refine wpList_k (st_set ha (wgT ha rfl (s := 64)) (ex_fieldAddr (k := 2) ha Try.underlying42 rfl Ty.t23 rfl) rfl ?_); clear ha; (try clear a); intro a ha
        refine wpList_k (st_set ha (wgT ha rfl (s := 64)) (ex_load1 ha Try.underlying23 rfl (hs.rd1 rfl)) rfl ?_); clear ha; (try clear a); intro a ha
        refine wpList_k (st_set ha (wgT ha rfl (s := 64)) (ex_fieldAddr (k := 2) ha Try.underlying68 rfl Ty.t23 rfl) rfl ?_); clear ha; (try clear a); intro a ha
        refine wpList_k (st_set ha (wgT ha rfl (s := 64)) (ex_load1 ha Try.underlying23 rfl (hs.rd1 rfl)) rfl ?_); clear ha; (try clear a); intro a ha
        refine wpList_k (st_call ha (wgT ha rfl (s := 64)) Ty.c27 rfl (whole_spec (u := x'.press) (v := x'.press) hs (by have := hox.1; omega) (fun w' h => (All.rdBB (h.pick (All bro xa)) hxx).1) (fun w' h => (tw_bb (h.pick (All two ys)) ho hyy).1)) ?_); clear ha hs
        rintro e w ⟨rfl, hs⟩
        refine ⟨_, rfl, ?_⟩
        intro a ha
        rw [decide_eq_true rfl] at ha
        refine wpList_k (st_set ha (wgT ha rfl (s := 64)) (ex_not ha) rfl ?_); clear ha; (try clear a); intro a ha
        refine wpList_k (st_set ha rfl (ex_pickF ha) rfl ?_); clear ha; (try clear a); intro a ha
        refine wpList_k (st_set ha rfl (ex_move ha) rfl ?_); clear ha; (try clear a); intro a ha
        refine wpList_k (st_set ha (wgT ha rfl (s := 72)) (ex_fieldAddr (k := 3) ha Try.underlying42 rfl Ty.t3 rfl) rfl ?_); clear ha; (try clear a); intro a ha
        refine wpList_k (st_set ha (wgT ha rfl (s := 72)) (ex_load1 ha Try.underlying3 rfl (hs.rd1 rfl)) rfl ?_); clear ha; (try clear a); intro a ha
        refine wpList_k (st_set ha (wgT ha rfl (s := 72)) (ex_fieldAddr (k := 3) ha Try.underlying68 rfl Ty.t3 rfl) rfl ?_); clear ha; (try clear a); intro a ha
        refine wpList_k (st_set ha (wgT ha rfl (s := 72)) (ex_load1 ha Try.underlying3 rfl (hs.rd1 rfl)) rfl ?_); clear ha; (try clear a); intro a ha
        refine wpList_k (st_set ha (wgT ha rfl (s := 72)) (ex_neq ha) rfl ?_); clear ha; (try clear a); intro a ha
        refine wpList_k (st_set ha rfl (ex_pickF ha) rfl ?_); clear ha; (try clear a); intro a ha
        refine wpList_k (st_set ha rfl (ex_move ha) rfl ?_); clear ha; (try clear a); intro a ha
        rw [decide_eq_false (by simp)] at ha
        refine wpList_k (st_set ha (wgT ha rfl (s := 79)) (ex_fieldAddr (k := 4) ha Try.underlying42 rfl Ty.t30 rfl) rfl ?_); clear ha; (try clear a); intro a ha
        refine wpList_k (st_set ha (wgT ha rfl (s := 79)) (ex_load1 ha Try.underlying30 rfl (hs.rd1 rfl)) rfl ?_); clear ha; (try clear a); intro a ha
        refine wpList_k (st_set ha (wgT ha rfl (s := 79)) (ex_fieldAddr (k := 4) ha Try.underlying68 rfl Ty.t30 rfl) rfl ?_); clear ha; (try clear a); intro a ha
        refine wpList_k (st_set ha (wgT ha rfl (s := 79)) (ex_load1 ha Try.underlying30 rfl (hs.rd1 rfl)) rfl ?_); clear ha; (try clear a); intro a ha
        refine wpList_k (st_set ha (wgT ha rfl (s := 79)) (ex_neq ha) rfl ?_); clear ha; (try clear a); intro a ha
        refine wpList_k (st_set ha rfl (ex_pickF ha) rfl ?_); clear ha; (try clear a); intro a ha
        refine wpList_k (st_set ha rfl (ex_move ha) rfl ?_); clear ha; (try clear a); intro a ha
        rw [decide_eq_false (by simp)] at ha
        refine wpList_k (st_set ha (wgT ha rfl (s := 86)) (ex_move ha) rfl ?_); clear ha; (try clear a); intro a ha
        refine wpList_k (st_set ha (wgT ha rfl (s := 86)) (ex_fieldAddr (k := 4) ha Try.underlying68 rfl Ty.t30 rfl) rfl ?_); clear ha; (try clear a); intro a ha
        refine wpList_k (st_set ha (wgT ha rfl (s := 86)) (ex_load1 ha Try.underlying30 rfl (hs.rd1 rfl)) rfl ?_); clear ha; (try clear a); intro a ha
        obtain ⟨ip, px, hpx, hpi, hpr⟩ := hp _ (List.mem_of_getElem? hTx)
        refine wpList_k (st_call ha (wgT ha rfl (s := 86)) Ty.c49 rfl (hpi ▸ snap_refs (i := ip) (x := px) (hs.store q) hpx) ?_); clear ha hs
        rintro e w ⟨rfl, hs⟩
        refine ⟨_, rfl, ?_⟩
        intro a ha
        rw [hpr] at ha
        refine wpList_k (st_set ha (wgT ha rfl (s := 86)) (ex_neq ha) rfl ?_); clear ha; (try clear a); intro a ha
        refine wpList_k (st_set ha rfl (ex_pickF ha) rfl ?_); clear ha; (try clear a); intro a ha
        refine wpList_k (st_set ha rfl (ex_move ha) rfl ?_); clear ha; (try clear a); intro a ha
        rw [decide_eq_false (by simp)] at ha
        refine wpList_k (st_set ha (wgT ha rfl (s := 93)) (ex_move ha) rfl ?_); clear ha; (try clear a); intro a ha
        refine wpList_k (st_set ha (wgT ha rfl (s := 93)) (ex_not ha) rfl ?_); clear ha; (try clear a); intro a ha
        refine wpList_k (st_set ha rfl (ex_pickF ha) rfl ?_); clear ha; (try clear a); intro a ha
        refine wpList_k (st_set ha rfl (ex_move ha) rfl ?_); clear ha; (try clear a); intro a ha
        refine wpList_k (st_set ha (wgT ha rfl (s := 97)) (ex_fieldAddr (k := 0) ha Try.underlying42 rfl Ty.t2 rfl) rfl ?_); clear ha; (try clear a); intro a ha
        refine wpList_k (st_set ha (wgT ha rfl (s := 97)) (ex_load1 ha Try.underlying2 rfl (hs.rd1 rfl)) rfl ?_); clear ha; (try clear a); intro a ha
        refine wpList_k (st_set ha (wgT ha rfl (s := 97)) (ex_fieldAddr (k := 0) ha Try.underlying68 rfl Ty.t2 rfl) rfl ?_); clear ha; (try clear a); intro a ha
        refine wpList_k (st_set ha (wgT ha rfl (s := 97)) (ex_load1 ha Try.underlying2 rfl (hs.rd1 rfl)) rfl ?_); clear ha; (try clear a); intro a ha
        refine wpList_k (st_set ha (wgT ha rfl (s := 97)) (ex_neq ha) rfl ?_); clear ha; (try clear a); intro a ha
        refine wpList_k (st_set ha rfl (ex_pickF ha) rfl ?_); clear ha; (try clear a); intro a ha
        refine wpList_k (st_set ha rfl (ex_move ha) rfl ?_); clear ha; (try clear a); intro a ha
        rw [decide_eq_false (by simp)] at ha
        refine wpList_k (st_set ha (wgT ha rfl (s := 104)) (ex_fieldAddr (k := 4) ha Try.underlying42 rfl Ty.t30 rfl) rfl ?_); clear ha; (try clear a); intro a ha
        refine wpList_k (st_set ha (wgT ha rfl (s := 104)) (ex_load1 ha Try.underlying30 rfl (hs.rd1 rfl)) rfl ?_); clear ha; (try clear a); intro a ha
        refine wpList_k (st_set ha (wgT ha rfl (s := 104)) (ex_fieldAddr (k := 4) ha Try.underlying68 rfl Ty.t30 rfl) rfl ?_); clear ha; (try clear a); intro a ha
        refine wpList_k (st_set ha (wgT ha rfl (s := 104)) (ex_load1 ha Try.underlying30 rfl (hs.rd1 rfl)) rfl ?_); clear ha; (try clear a); intro a ha
        refine wpList_k (st_set ha (wgT ha rfl (s := 104)) (ex_neq ha) rfl ?_); clear ha; (try clear a); intro a ha
        refine wpList_k (st_set ha rfl (ex_pickF ha) rfl ?_); clear ha; (try clear a); intro a ha
        refine wpList_nil ?_
        refine then_n ?_
        rw [decide_eq_false (by simp)] at ha
        refine wp_ifF ha ?_
        refine wp_skip ?_
        refine blk_n <| then_n ?_
        refine wp_region_lit ?_
        refine wpList_k (st_set ha rfl (ex_move ha) rfl ?_); clear ha; (try clear a); intro a ha
        refine wpList_k (st_set ha rfl (ex_addI ha (by omega) (by omega)) rfl ?_); clear ha; (try clear a); intro a ha
        replace ha := ha.del 8
        refine wpList_k (st_set ha rfl (ex_assign ha) rfl ?_); clear ha; (try clear a); intro a ha
        refine wpList_nil ?_
        refine then_n ?_
        exact ⟨T.l.length - (i + 1), by omega, i + 1, ⟨rfl, by omega⟩, ha.keep [0, 1, 2, 7, 8], hs.sub⟩
    ·
      try simp only [decide_eq_true_eq, decide_eq_false_iff_not, Bool.not_eq_true', Bool.not_eq_false', Int.not_lt, Int.not_le, ne_eq, Decidable.not_not] at hc1
      refine wp_exit ?_
      refine then_e <| then_e <| blk_e ?_
      refine then_n ?_
      refine wp_seq ?_
      refine wp_region_lit ?_
      refine wpList_k (st_set ha rfl (ex_move ha) rfl ?_); clear ha; (try clear a); intro a ha
      refine wpList_k (st_call ha rfl Ty.c26 rfl (tree_get_no (id := 0) (hs.tree tq) (fun y hy => by have := (hw.ok y hy).2.2.1; omega)) ?_); clear ha hs
      rintro e w ⟨rfl, hs⟩
      refine ⟨_, rfl, ?_⟩
      intro a ha
      refine wpList_k (st_set ha rfl (ex_move ha) rfl ?_); clear ha; (try clear a); intro a ha
      refine wpList_k (st_set ha rfl (ex_extract ha rfl) rfl ?_); clear ha; (try clear a); intro a ha
      refine wpList_k (st_set ha rfl (ex_extract ha rfl) rfl ?_); clear ha; (try clear a); intro a ha
      refine wpList_k (st_alloc ha rfl hs Ty.t42 rfl ?_); clear ha hs; (try clear a); (try clear w); intro b13 a w ha hs ho
      clear ho
      refine wpList_k (st_storeAll ha rfl hs Ty.t42 (brC_one ⟨0, 0, [], 0, 0⟩ none 0) (by rfl) ?_); clear ha hs; (try clear a); (try clear w); intro a w ha hs
      refine wpList_k (st_set ha rfl (ex_assign ha) rfl ?_); clear ha; (try clear a); intro a ha
      refine wpList_nil ?_
      refine then_n ?_
      refine wp_seq ?_
      refine wp_region_lit ?_
      refine wpList_k (st_set ha rfl (ex_move ha) rfl ?_); clear ha; (try clear a); intro a ha
      refine wpList_k (st_set ha rfl (ex_not ha) rfl ?_); clear ha; (try clear a); intro a ha
      refine wpList_k (st_set ha rfl (ex_assign ha) rfl ?_); clear ha; (try clear a); intro a ha
      refine wpList_nil ?_
      refine then_n ?_
      refine wp_ret ?_
      refine ret1 ha rfl ?_
      exact ⟨rfl, hs.sub⟩
end
end Go.Proofs.Ytkjmmchmanofkaa

