/- BranchBest. -/
import Derived.Test.YtkjmmchmanofkaaBranchO
namespace Go.Proofs.Ytkjmmchmanofkaa
open Go.RowKit
set_option linter.unusedVariables false
set_option linter.unusedSimpArgs false
set_option maxRecDepth 10000
set_option synthInstance.maxSize 4000
set_option synthInstance.maxHeartbeats 400000

section
variable {W w : World} {L L' R : List SP} {tq sq q r n c k m i : Nat} {ad : Option Addr} {A : Sn} {T : Tr} {x y : Br} {xs zs : List BBx} {p : List (List UInt8)} {t : Nat → Nat} {last rm nn : Nat} {l : List Br}
theorem norm5 (x : Int) : ∃ c : Nat, c < 5 ∧ (x.tmod 5 + 5).tmod 5 = c ∧ -5 < x.tmod 5 ∧ x.tmod 5 < 5 := by
  have h1 := Int.tmod_lt_of_pos x (b := 5) (by decide)
  have h2 := Int.lt_tmod_of_pos x (b := 5) (by decide)
  have h3 : (0 : Int) ≤ x.tmod 5 + 5 := by omega
  have h4 := Int.tmod_nonneg (5 : Int) h3
  have h5 := Int.tmod_lt_of_pos (x.tmod 5 + 5) (b := 5) (by decide)
  exact ⟨((x.tmod 5 + 5).tmod 5).toNat, by omega, by omega, by omega, by omega⟩
theorem u8nat {j : Nat} (h : j < 256) : (UInt8.ofNat j).toNat = j := by rw [UInt8.toNat_ofNat']; omega
theorem wrapB8 {j : Nat} (h : j < 256) : IntKind.u8.wrap (j : Int) = ((UInt8.ofNat j).toNat : Int) := by
  rw [u8nat h]
  simp only [IntKind.wrap, IntKind.bits, IntKind.signed, Bool.false_and, Bool.false_eq_true, if_false]
  omega
/-- The presses of the i-th branch. -/
def pr (i : Nat) : List (List UInt8) := [[0], [UInt8.ofNat (i % 3)], [0], [UInt8.ofNat i]]
theorem pr_inj {i j : Nat} (hi : i < 8) (hj : j < 8) (h : pr i = pr j) : i = j := by
  simp only [pr, List.cons.injEq] at h
  have h2 := congrArg UInt8.toNat h.2.2.2.1.1
  rw [u8nat (by omega), u8nat (by omega)] at h2
  exact h2
theorem pr_one {i : Nat} : ∀ b ∈ pr i, b.length = 1 := by
  intro b hb
  simp [pr] at hb
  rcases hb with rfl | rfl | rfl | rfl <;> rfl
theorem pr_ok (i : Nat) : OkP (pr i) := ⟨by simp [pr], fun b hb => by rw [pr_one b hb]; decide⟩
/-- Four presses of one byte each. -/
def pz (b1 b2 b3 b4 i : Nat) : List BBx := [(some ⟨b1, 0, none⟩, 1, [0]), (some ⟨b2, 0, none⟩, 1, [UInt8.ofNat (i % 3)]), (some ⟨b3, 0, none⟩, 1, [0]), (some ⟨b4, 0, none⟩, 1, [UInt8.ofNat i])]
def Four (b b1 b2 b3 b4 i : Nat) : List SP := [blk b 48 ((pz b1 b2 b3 b4 i).map bbv), blk b4 5 (bc [UInt8.ofNat i]), blk b3 5 (bc [0]), blk b2 5 (bc [UInt8.ofNat (i % 3)]), blk b1 5 (bc [0])]
theorem rdx4 {b b1 b2 b3 b4 : Nat} (hs : St W w (Four b b1 b2 b3 b4 i ++ L)) : RdX w (some ⟨b, 0, none⟩) (pz b1 b2 b3 b4 i) := by
  have hs2 : St W w (blk b 48 ((pz b1 b2 b3 b4 i).map bbv) :: blk b4 5 (bc [UInt8.ofNat i]) :: blk b3 5 (bc [0]) :: blk b2 5 (bc [UInt8.ofNat (i % 3)]) :: blk b1 5 (bc [0]) :: L) := hs
  refine ⟨fun _ => ⟨b, 0, rfl, hs2.rdAll⟩, fun x hx => ?_⟩
  simp [pz] at hx
  rcases hx with rfl | rfl | rfl | rfl
  · have hs3 := hs2.tail.tail.tail.tail; exact rdb_blk hs3 b1 rfl rfl
  · have hs3 := hs2.tail.tail.tail; exact rdb_blk hs3 b2 rfl rfl
  · have hs3 := hs2.tail.tail; exact rdb_blk hs3 b3 rfl rfl
  · have hs3 := hs2.tail; exact rdb_blk hs3 b4 rfl rfl
theorem dropId_head {id : Nat} {b0 : Pic} (h : A.pics[0]? = some b0) (hn : b0.id ≠ id) : (A.dropId id).pics[0]? = some b0 ∧ (A.dropId id).n = A.n := by
  rw [Sn.dropId]
  split
  · rename_i j hj
    split
    · rename_i x hx
      have hj0 : j ≠ 0 := by
        intro e; subst e
        rw [h] at hx; cases hx
        have := (List.findIdx?_eq_some_iff_getElem.1 hj).2.1
        rw [List.getElem?_eq_some_iff] at h
        obtain ⟨_, h2⟩ := h
        rw [h2] at this
        simp at this
        exact hn this
      refine ⟨?_, by simp [Sn.drop]⟩
      simp only [Sn.drop]
      split
      · rw [List.getElem?_eraseIdx_of_lt (by omega)]; exact h
      · rw [List.getElem?_set_ne (by omega)]; exact h
    · exact ⟨h, rfl⟩
  · exact ⟨h, rfl⟩
def fitD (D i : Nat) (Cs : List (List UInt8)) (k : Nat) : Bool := decide (0 < D ∧ D ≤ Cs.length) && ((pr i).take k == Cs.take k)
theorem fitD_up {D i k : Nat} {Cs : List (List UInt8)} (hk : k ≤ D) (h : fitD D i Cs k = false) : fitD D i Cs D = false := by
  rw [Bool.eq_false_iff] at h ⊢
  intro e
  apply h
  simp only [fitD, Bool.and_eq_true, beq_iff_eq] at e ⊢
  refine ⟨e.1, ?_⟩
  have := congrArg (List.take k) e.2
  rwa [List.take_take, List.take_take, Nat.min_eq_left hk] at this
theorem best_pr {D i s : Nat} {Cs : List (List UInt8)} {B : Br} (hD : D < 5) : bestStep 2 Cs B ⟨i + 1, 2, pr i, D, s⟩ = if fitD D i Cs D = true ∧ B.done < D then ⟨i + 1, 2, pr i, D, s⟩ else B := by
  have hp : (pr i).length = 4 := rfl
  rw [bestStep]
  by_cases h1 : B.done < D
  · by_cases h2 : D ≤ Cs.length
    · have h3 : alikeP ((pr i).take D) Cs = fitD D i Cs D := by
        rw [alikeP, fitD, List.length_take, hp, Nat.min_eq_left (show D ≤ 4 by omega), Nat.min_eq_left h2, List.take_take, Nat.min_self, decide_eq_true ⟨by omega, h2⟩, Bool.true_and]
      simp only [h3, h1, h2, true_and, and_true]
    · have h3 : fitD D i Cs D = false := by rw [fitD, decide_eq_false (fun e => h2 e.2), Bool.false_and]
      simp [h1, h2, h3]
  · simp [h1]
theorem best_other {Cs : List (List UInt8)} : ∀ (l : List Br) (B : Br), (∀ x ∈ l, x.frm = 2) → l.foldl (bestStep 3 Cs) B = B := by
  intro l
  induction l with
  | nil => intro B _; rfl
  | cons x l ih =>
    intro B h
    have h1 : bestStep 3 Cs B x = B := by rw [bestStep, if_neg]; intro e; have := h x (List.mem_cons_self ..); omega
    rw [List.foldl_cons, h1]
    exact ih B fun y hy => h y (List.mem_cons_of_mem _ hy)
/-- One byte of a row that can be read. -/
theorem one_rd {C : List UInt8} {cap j : Nat} (h : RdB W ad C.length C) (hj : j < C.length) (hc : C.length ≤ cap) : RdB W (cutAd ad j cap 1) [C.getD j 0].length [C.getD j 0] := by
  obtain ⟨h1, h2, h3⟩ := h
  obtain ⟨a, rfl⟩ : ∃ a, ad = some a := by
    cases ad with
    | none => have := h2 rfl; omega
    | some a => exact ⟨a, rfl⟩
  obtain ⟨b, off, rfl, hr⟩ := h3 a rfl (by omega)
  rw [cutAd_some (by omega)]
  refine ⟨rfl, fun e => (by cases e), fun x hx _ => ?_⟩
  cases hx
  refine ⟨b, off + j * 1, rfl, fun z v hz => ?_⟩
  have hz0 : z = 0 := by
    have := (List.getElem?_eq_some_iff.1 hz).1
    simp [bc] at this; omega
  subst hz0
  simp [bc] at hz
  subst hz
  have := hr j (.int .u8 ((C[j]).toNat : Int)) (by simp [bc, hj])
  rw [Nat.mul_one, Nat.add_zero, this]
  simp [hj]
/-- The bytes that came, each a row of its own. -/
def oneY (ad : Option Addr) (cap : Nat) (C : List UInt8) (j : Nat) : BBx := (cutAd ad j cap 1, cap - j, [C.getD j 0])
theorem oneY_map (ad : Option Addr) (cap : Nat) (C : List UInt8) : ((List.range C.length).map (oneY ad cap C)).map (·.2.2) = C.map (fun b => [b]) := by
  apply List.ext_getElem (by simp)
  intro j h1 h2
  simp at h1
  simp [oneY, h1]
theorem oneY_rd {C : List UInt8} {cap : Nat} (h : RdB W ad C.length C) (hc : C.length ≤ cap) : ∀ x ∈ (List.range C.length).map (oneY ad cap C), RdB W x.1 x.2.2.length x.2.2 := by
  intro x hx
  obtain ⟨j, hj, rfl⟩ := List.mem_map.1 hx
  exact one_rd h (List.mem_range.1 hj) hc
theorem branchBest_walk (a0 : Option Addr) (len0 cap0 : Nat) (z0 : List Int) (a1 : Option Addr) (len1 cap1 : Nat) (z1 : List Int) (W : World) (w0 : ArgInts .i64 W a0 len0 cap0 z0) (w1 : ArgInts .u8 W a1 len1 cap1 z1) :
    Calls Try.prog 4 #[.slice a0 len0 cap0, .slice a1 len1 cap1] W fun e w' => e = .returned (.bool true) ∧ Below W.heap.size W w' := by
  have hs := St.start W
  have hl0 := w0.len_le
  obtain ⟨ds, hdl, hdw, hdr⟩ := w0.vals
  subst hdl
  have hc1 : len1 ≤ cap1 ∧ len1 ≤ 9223372036854775807 := by
    refine ⟨?_, w1.len_le.2⟩
    rcases w1 with ⟨_, h, h', _⟩ | ⟨_, _, h, _⟩ <;> omega
  obtain ⟨bs, hbl, hbr⟩ := w1.bytesB
  obtain ⟨C, hC⟩ : ∃ C, bs.take 5 = C := ⟨_, rfl⟩
  have hCl : C.length = min len1 5 := by rw [← hC, List.length_take]; omega
  have hCr : RdB W a1 C.length C := by rw [← hC]; exact hbr.take 5
  have hCc : C.length ≤ cap1 := by omega
  obtain ⟨Cs, hCs⟩ : ∃ Cs, C.map (fun b => [b]) = Cs := ⟨_, rfl⟩
  have hCsl : Cs.length = C.length := by rw [← hCs, List.length_map]
  have hCok : OkP Cs := by
    refine ⟨by omega, fun b hb => ?_⟩
    rw [← hCs] at hb
    obtain ⟨y, _, rfl⟩ := List.mem_map.1 hb
    simp
  refine calls_enter Try.func4 rfl Try.ntmps4 (Nat.le_of_ble_eq_true rfl) ?_
  intro a ha
  replace ha : Fr a 169 [(0, _), (1, _)] := ha
  refine wp_seq ?_
  refine wp_region_lit ?_
  refine wpList_k (st_set ha rfl (ex_assign ha) rfl ?_); clear ha; (try clear a); intro a ha
  refine wpList_nil ?_
  refine then_n ?_
  refine wp_seq ?_
  refine wp_region_lit ?_
  refine wpList_k (st_call ha rfl Ty.c9 rfl (begun23 hs) ?_); clear ha hs
  rintro e w ⟨rfl, hs⟩
  refine ⟨_, rfl, ?_⟩
  intro a ha
  refine wpList_k (st_set ha rfl (ex_assign ha) rfl ?_); clear ha; (try clear a); intro a ha
  refine wpList_nil ?_
  refine then_n ?_
  refine wp_seq ?_
  refine wp_seq ?_
  refine wp_region_lit ?_
  refine wpList_k (st_set ha rfl (ex_move ha) rfl ?_); clear ha; (try clear a); intro a ha
  refine wpList_k (st_set ha rfl (ex_not ha) rfl ?_); clear ha; (try clear a); intro a ha
  refine wpList_nil ?_
  refine then_n ?_
  refine wp_ifF ha ?_
  refine wp_skip ?_
  refine then_n ?_
  refine wp_seq ?_
  refine wp_region_lit ?_
  refine wpList_k (st_call ha rfl Ty.c11 rfl (snap_new (n := 30) hs (by decide)) ?_); clear ha hs
  rintro e w ⟨q, r, rfl, hs⟩
  refine ⟨_, rfl, ?_⟩
  intro a ha
  refine wpList_k (st_set ha rfl (ex_assign ha) rfl ?_); clear ha; (try clear a); intro a ha
  refine wpList_nil ?_
  refine then_n ?_
  refine wp_seq ?_
  refine wp_region_lit ?_
  refine wpList_k (st_set ha rfl (ex_move ha) rfl ?_); clear ha; (try clear a); intro a ha
  refine wpList_k (st_call ha rfl Ty.c12 rfl (tree_new (m := 8) hs) ?_); clear ha hs
  rintro e w ⟨tq, rfl, hs⟩
  refine ⟨_, rfl, ?_⟩
  intro a ha
  change St W w (Tree tq q ⟨8, [], 0, 0⟩ :: _) at hs
  refine wpList_k (st_set ha rfl (ex_assign ha) rfl ?_); clear ha; (try clear a); intro a ha
  refine wpList_nil ?_
  refine then_n ?_
  refine wp_seq ?_
  refine wp_region_lit ?_
  refine wpList_k (st_set ha rfl (ex_move ha) rfl ?_); clear ha; (try clear a); intro a ha
  refine wpList_k (st_set ha rfl (ex_buildA0 ha Try.underlying34 Ty.t34 Ty.t21) rfl ?_); clear ha; (try clear a); intro a ha
  change Fr a 169 ((35, .agg (ints .i32 32 (fun _ => 0)).toArray) :: _) at ha
  refine wpList_k (st_call ha rfl Ty.c13 rfl (snap_make (hs.store q) (by decide) (by decide)) ?_); clear ha hs
  rintro e w ⟨t, rfl, ⟨ht1, ht2⟩, hs⟩
  refine ⟨_, rfl, ?_⟩
  intro a ha
  change St W w (Store q r ⟨1, 120, 1, [⟨1, 1, fun _ => 0, t⟩]⟩ :: _) at hs
  refine wpList_k (st_set ha rfl (ex_move ha) rfl ?_); clear ha; (try clear a); intro a ha
  refine wpList_k (st_set ha rfl (ex_extract ha rfl) rfl ?_); clear ha; (try clear a); intro a ha
  refine wpList_k (st_set ha rfl (ex_extract ha rfl) rfl ?_); clear ha; (try clear a); intro a ha
  refine wpList_k (st_set ha rfl (ex_assign ha) rfl ?_); clear ha; (try clear a); intro a ha
  refine wpList_k (st_set ha rfl (ex_assign ha) rfl ?_); clear ha; (try clear a); intro a ha
  refine wpList_nil ?_
  refine then_n ?_
  refine wp_seq_cut (M := fun a w => Fr a 169 [(0, .slice a0 ds.length cap0), (1, .slice a1 C.length cap1), (6, .pointer (some ⟨q, 0, none⟩)), (7, .pointer (some ⟨tq, 0, none⟩)), (8, .int .i64 ((1 : Nat) : Int))] ∧ St W w [Tree tq q ⟨8, [], 0, 0⟩, Store q r ⟨1, 120, 1, [⟨1, 1, fun _ => 0, t⟩]⟩]) ?_ ?_
  ·
    refine wp_seq ?_
    refine wp_region_lit ?_
    refine wpList_k (st_set ha rfl (ex_move ha) rfl ?_); clear ha; (try clear a); intro a ha
    refine wpList_k (st_set ha rfl (ex_len ha Try.underlying48) rfl ?_); clear ha; (try clear a); intro a ha
    refine wpList_k (st_set ha rfl (ex_gtr ha) rfl ?_); clear ha; (try clear a); intro a ha
    refine wpList_nil ?_
    refine then_n ?_
    refine wp_if ha (fun hc1 => ?_) (fun hc1 => ?_)
    ·
      try simp only [decide_eq_true_eq, decide_eq_false_iff_not, Bool.not_eq_true', Bool.not_eq_false', Int.not_lt, Int.not_le, ne_eq, Decidable.not_not] at hc1
      refine wp_region_lit ?_
      refine wpList_k (st_set ha rfl (ex_move ha) rfl ?_); clear ha; (try clear a); intro a ha
      refine wpList_k (st_set ha rfl (ex_sliceH ha Try.underlying48 Ty.t5 (by omega)) rfl ?_); clear ha; (try clear a); intro a ha
      rw [cutAd_zero, Nat.sub_zero, Nat.sub_zero] at ha
      replace ha := ha.del 1
      refine wpList_k (st_set ha rfl (ex_assign ha) rfl ?_); clear ha; (try clear a); intro a ha
      refine wpList_nil ?_
      refine then_n ?_
      have h5 : C.length = 5 := by omega
      exact ⟨by rw [h5]; exact ha.keep [0, 1, 6, 7, 8], hs.sub⟩
    ·
      try simp only [decide_eq_true_eq, decide_eq_false_iff_not, Bool.not_eq_true', Bool.not_eq_false', Int.not_lt, Int.not_le, ne_eq, Decidable.not_not] at hc1
      refine wp_skip ?_
      refine then_n ?_
      have h5 : C.length = len1 := by omega
      exact ⟨by rw [h5]; exact ha.keep [0, 1, 6, 7, 8], hs.sub⟩
  · clear ha; (try clear hs)
    intro a w hcut
    obtain ⟨ha, hs⟩ := hcut
    refine wp_seq ?_
    refine wp_region_lit ?_
    refine wpList_k (st_set ha rfl (ex_assign ha) rfl ?_); clear ha; (try clear a); intro a ha
    refine wpList_k (st_set ha rfl (ex_assign ha) rfl ?_); clear ha; (try clear a); intro a ha
    refine wpList_nil ?_
    refine then_n ?_
    refine wp_seq ?_
    refine wp_seq ?_
    refine wp_region_lit ?_
    refine wpList_k (st_set ha rfl (ex_assign ha) rfl ?_); clear ha; (try clear a); intro a ha
    refine wpList_nil ?_
    refine then_n ?_
    refine wp_block ?_
    refine wp_loop_ghost (fun μ a w => ∃ (i : Nat) (l : List Br) (A : Sn) (B : Br), (μ = min ds.length 8 - i ∧ i ≤ min ds.length 8 ∧ l.length = i ∧ (A.pics[0]? = some ⟨1, 1, fun _ => 0, t⟩ ∧ A.n ≤ 2 * i + 1) ∧ (∀ j x, l[j]? = some x → x.frm = 2 ∧ x.press = pr j) ∧ l.foldl (bestStep 2 Cs) br0 = B) ∧ Fr a 169 [(0, .slice a0 ds.length cap0), (1, .slice a1 C.length cap1), (6, .pointer (some ⟨q, 0, none⟩)), (7, .pointer (some ⟨tq, 0, none⟩)), (8, .int .i64 ((1 : Nat) : Int)), (10, .int .i64 B.done), (11, .int .i64 B.id), (12, .int .i64 i)] ∧ St W w [Tree tq q ⟨8, l, i, 0⟩, Store q r A]) (min ds.length 8) ?_ ?_
    · exact ⟨0, [], ⟨1, 120, 1, [⟨1, 1, fun _ => 0, t⟩]⟩, br0, ⟨by simp, by simp, rfl, ⟨rfl, by simp⟩, by simp, rfl⟩, ha.keep [0, 1, 6, 7, 8, 10, 11, 12], hs.sub⟩
    ·
      clear ha hs
      rintro μ a w ⟨i, l, A, B, ⟨rfl, hi, hl, ⟨hA0, hAn⟩, hlp, hB⟩, ha, hs⟩
      refine wp_seq ?_
      refine wp_seq ?_
      refine wp_region_lit ?_
      refine wpList_k (st_set ha rfl (ex_move ha) rfl ?_); clear ha; (try clear a); intro a ha
      refine wpList_k (st_set ha rfl (ex_move ha) rfl ?_); clear ha; (try clear a); intro a ha
      refine wpList_k (st_set ha rfl (ex_len ha Try.underlying47) rfl ?_); clear ha; (try clear a); intro a ha
      refine wpList_k (st_set ha rfl (ex_lss ha) rfl ?_); clear ha; (try clear a); intro a ha
      refine wpList_k (st_set ha rfl (ex_move ha) rfl ?_); clear ha; (try clear a); intro a ha
      refine ha.bool (s := 48) (fun hg4 ha => ?_) (fun hg4 ha => ?_)
      ·
        try simp only [decide_eq_true_eq, decide_eq_false_iff_not, Bool.not_eq_true', Bool.not_eq_false', Int.not_lt, Int.not_le, ne_eq, Decidable.not_not] at hg4
        refine wpList_k (st_set ha (wgT ha rfl (s := 48)) (ex_move ha) rfl ?_); clear ha; (try clear a); intro a ha
        refine wpList_k (st_set ha (wgT ha rfl (s := 48)) (ex_lss ha) rfl ?_); clear ha; (try clear a); intro a ha
        refine wpList_k (st_set ha rfl (ex_pickT ha) rfl ?_); clear ha; (try clear a); intro a ha
        refine wpList_nil ?_
        refine then_n ?_
        refine wp_if ha (fun hc2 => ?_) (fun hc2 => ?_)
        ·
          try simp only [decide_eq_true_eq, decide_eq_false_iff_not, Bool.not_eq_true', Bool.not_eq_false', Int.not_lt, Int.not_le, ne_eq, Decidable.not_not] at hc2
          refine wp_skip ?_
          refine then_n ?_
          refine wp_seq ?_
          refine wp_block ?_
          refine wp_seq ?_
          refine wp_region_lit ?_
          refine wpList_k (st_buildSlice ha rfl hs Try.underlying48 Ty.t5 rfl rfl rfl rfl (by decide) (by decide) ?_); clear ha hs; (try clear a); (try clear w); intro b54 a w ha hs ho
          clear ho
          refine wpList_k (st_set ha rfl (ex_move ha) rfl ?_); clear ha; (try clear a); intro a ha
          refine wpList_k (st_set ha rfl (ex_rem ha (by decide)) rfl ?_); clear ha; (try clear a); intro a ha
          rw [show ((i : Nat) : Int).tmod 3 = ((i % 3 : Nat) : Int) from remN i 3] at ha
          refine wpList_k (st_set ha rfl (ex_convII ha Try.underlying3 Try.underlying5) rfl ?_); clear ha; (try clear a); intro a ha
          rw [wrapB8 (by omega)] at ha
          refine wpList_k (st_buildSlice ha rfl hs Try.underlying48 Ty.t5 rfl rfl rfl rfl (by decide) (by decide) ?_); clear ha hs; (try clear a); (try clear w); intro b58 a w ha hs ho
          clear ho
          refine wpList_k (st_buildSlice ha rfl hs Try.underlying48 Ty.t5 rfl rfl rfl rfl (by decide) (by decide) ?_); clear ha hs; (try clear a); (try clear w); intro b59 a w ha hs ho
          clear ho
          refine wpList_k (st_set ha rfl (ex_move ha) rfl ?_); clear ha; (try clear a); intro a ha
          refine wpList_k (st_set ha rfl (ex_convII ha Try.underlying3 Try.underlying5) rfl ?_); clear ha; (try clear a); intro a ha
          rw [wrapB8 (by omega)] at ha
          refine wpList_k (st_buildSlice ha rfl hs Try.underlying48 Ty.t5 rfl rfl rfl rfl (by decide) (by decide) ?_); clear ha hs; (try clear a); (try clear w); intro b62 a w ha hs ho
          clear ho
          refine wpList_k (st_buildSlice ha rfl hs Try.underlying23 Ty.t48 rfl rfl rfl rfl (by decide) (by decide) ?_); clear ha hs; (try clear a); (try clear w); intro b63 a w ha hs ho
          clear ho
          refine wpList_k (st_set ha rfl (ex_assign ha) rfl ?_); clear ha; (try clear a); intro a ha
          change St W w (blk b63 48 ((pz b54 b58 b59 b62 i).map bbv) :: blk b62 5 (bc [UInt8.ofNat i]) :: blk b59 5 (bc [0]) :: blk b58 5 (bc [UInt8.ofNat (i % 3)]) :: blk b54 5 (bc [0]) :: _) at hs
          refine wpList_nil ?_
          refine then_n ?_
          refine wp_seq ?_
          refine wp_region_lit ?_
          refine wpList_k (st_set ha rfl (ex_move ha) rfl ?_); clear ha; (try clear a); intro a ha
          refine wpList_k (st_set ha rfl (ex_move ha) rfl ?_); clear ha; (try clear a); intro a ha
          refine wpList_k (st_set ha rfl (ex_move ha) rfl ?_); clear ha; (try clear a); intro a ha
          replace hs : St W w (Tree tq q ⟨8, l, i, 0⟩ :: Store q r A :: (Four b63 b54 b58 b59 b62 i ++ [])) := hs.sub (M := [Tree tq q ⟨8, l, i, 0⟩, Store q r A, blk b63 48 ((pz b54 b58 b59 b62 i).map bbv), blk b62 5 (bc [UInt8.ofNat i]), blk b59 5 (bc [0]), blk b58 5 (bc [UInt8.ofNat (i % 3)]), blk b54 5 (bc [0])])
          have hwa := (Store.facts (hs.pick (Store q r A))).1
          have hA1 := hwa.pic _ (List.mem_of_getElem? hA0)
          refine wpList_k (st_call ha rfl Ty.c14 rfl (add_ok (T := ⟨8, l, i, 0⟩) (A := A) (px := ⟨1, 1, fun _ => 0, t⟩) (i := 0) (zs := pz b54 b58 b59 b62 i) (p := pr i) hs (fun w' h => rdx4 h) rfl (by show 4 ≤ 4; omega) (pr_ok i) hA0 (by omega) (by simp only; omega) (fun y hy his => by
            obtain ⟨j, hj⟩ := List.mem_iff_getElem?.1 hy
            have hj2 := (List.getElem?_eq_some_iff.1 hj).1
            simp only at hj2
            have := pr_inj (by omega) (by omega) ((hlp j y hj).2.symm.trans his.2)
            omega) (by simp only; omega) (by show 0 < 4; omega)) ?_); clear ha hs
          rintro e w ⟨rfl, hs⟩
          refine ⟨_, rfl, ?_⟩
          intro a ha
          obtain ⟨A1, hA1d⟩ : ∃ A1, A.add (fun _ => 0) t = A1 := ⟨_, rfl⟩
          have hA1n : A1.n = A.n + 1 := by rw [← hA1d]; rfl
          have hA10 : A1.pics[0]? = some ⟨1, 1, fun _ => 0, t⟩ := by
            rw [← hA1d]; simp only [Sn.add]
            rw [List.getElem?_append_left (List.getElem?_eq_some_iff.1 hA0).1]; exact hA0
          obtain ⟨s, hsd⟩ : ∃ s, A.last + 1 = s := ⟨_, rfl⟩
          have hs2 : 2 ≤ s := by have := hA1.2.1; simp only at this; omega
          replace hs : St W w (Tree tq q ⟨8, l ++ [⟨i + 1, 2, pr i, 0, s⟩], i + 1, 0⟩ :: Store q r A1 :: (Four b63 b54 b58 b59 b62 i ++ [])) := by rw [← hA1d, ← hsd]; exact hs
          clear hA1
          refine wpList_k (st_set ha rfl (ex_move ha) rfl ?_); clear ha; (try clear a); intro a ha
          refine wpList_k (st_set ha rfl (ex_extract ha rfl) rfl ?_); clear ha; (try clear a); intro a ha
          refine wpList_k (st_set ha rfl (ex_extract ha rfl) rfl ?_); clear ha; (try clear a); intro a ha
          refine wpList_k (st_set ha rfl (ex_assign ha) rfl ?_); clear ha; (try clear a); intro a ha
          refine wpList_k (st_set ha rfl (ex_assign ha) rfl ?_); clear ha; (try clear a); intro a ha
          refine wpList_nil ?_
          refine then_n ?_
          refine wp_seq ?_
          refine wp_seq ?_
          refine wp_region_lit ?_
          refine wpList_k (st_set ha rfl (ex_move ha) rfl ?_); clear ha; (try clear a); intro a ha
          refine wpList_k (st_set ha rfl (ex_not ha) rfl ?_); clear ha; (try clear a); intro a ha
          refine wpList_nil ?_
          refine then_n ?_
          refine wp_ifF ha ?_
          refine wp_skip ?_
          refine then_n ?_
          refine wp_seq ?_
          obtain ⟨bb, off, rfl, hbb, hrd⟩ := (hdr w _ hs).resolve_left (by omega)
          have hcell := hrd i (.int .i64 (ds.getD i 0)) (by rw [List.getElem?_map, List.getElem?_eq_getElem (by omega), List.getD_eq_getElem?_getD, List.getElem?_eq_getElem (by omega)]; rfl)
          obtain ⟨D, hD5, hDe, hb1, hb2⟩ := norm5 (ds.getD i 0)
          refine wp_region_lit ?_
          refine wpList_k (st_set ha rfl (ex_move ha) rfl ?_); clear ha; (try clear a); intro a ha
          refine wpList_k (st_set ha rfl (ex_move ha) rfl ?_); clear ha; (try clear a); intro a ha
          refine wpList_k (st_set ha rfl (ex_indexAddr ha Try.underlying47 Ty.t3 (by omega)) rfl ?_); clear ha; (try clear a); intro a ha
          rw [Nat.mul_one] at ha
          refine wpList_k (st_set ha rfl (ex_load1 ha Try.underlying3 rfl (hcell)) rfl ?_); clear ha; (try clear a); intro a ha
          refine wpList_k (st_set ha rfl (ex_rem ha (by decide)) rfl ?_); clear ha; (try clear a); intro a ha
          refine wpList_k (st_set ha rfl (ex_addI ha (by omega) (by omega)) rfl ?_); clear ha; (try clear a); intro a ha
          refine wpList_k (st_set ha rfl (ex_rem ha (by decide)) rfl ?_); clear ha; (try clear a); intro a ha
          rw [hDe] at ha
          refine wpList_k (st_set ha rfl (ex_assign ha) rfl ?_); clear ha; (try clear a); intro a ha
          refine wpList_nil ?_
          refine then_n ?_
          refine wp_seq_cut (M := fun a w => ∃ (A2 : Sn) (s2 : Nat), (A2.pics[0]? = some ⟨1, 1, fun _ => 0, t⟩ ∧ A2.n ≤ 2 * i + 3) ∧ Fr a 169 [(0, .slice (some ⟨bb, off, none⟩) ds.length cap0), (1, .slice a1 C.length cap1), (6, .pointer (some ⟨q, 0, none⟩)), (7, .pointer (some ⟨tq, 0, none⟩)), (8, .int .i64 ((1 : Nat) : Int)), (10, .int .i64 B.done), (11, .int .i64 B.id), (12, .int .i64 i), (13, .slice (some ⟨b63, 0, none⟩) 4 4), (14, .int .i64 ((i + 1 : Nat) : Int)), (16, .int .i64 D)] ∧ St W w (Tree tq q ⟨8, l ++ [⟨i + 1, 2, pr i, D, s2⟩], i + 1, 0⟩ :: Store q r A2 :: (Four b63 b54 b58 b59 b62 i ++ []))) ?_ ?_
          ·
            refine wp_seq ?_
            refine wp_region_lit ?_
            refine wpList_k (st_set ha rfl (ex_move ha) rfl ?_); clear ha; (try clear a); intro a ha
            refine wpList_k (st_set ha rfl (ex_gtr ha) rfl ?_); clear ha; (try clear a); intro a ha
            refine wpList_nil ?_
            refine then_n ?_
            refine wp_if ha (fun hc4 => ?_) (fun hc4 => ?_)
            ·
              try simp only [decide_eq_true_eq, decide_eq_false_iff_not, Bool.not_eq_true', Bool.not_eq_false', Int.not_lt, Int.not_le, ne_eq, Decidable.not_not] at hc4
              refine wp_seq ?_
              refine wp_region_lit ?_
              refine wpList_k (st_set ha rfl (ex_move ha) rfl ?_); clear ha; (try clear a); intro a ha
              refine wpList_k (st_set ha rfl (ex_move ha) rfl ?_); clear ha; (try clear a); intro a ha
              refine wpList_k (st_call ha rfl Ty.c20 rfl (snap_fork (i := 0) (x := ⟨1, 1, fun _ => 0, t⟩) (hs.store q) hA10 (by omega)) ?_); clear ha hs
              rintro e w ⟨rfl, hs⟩
              refine ⟨_, rfl, ?_⟩
              intro a ha
              obtain ⟨A3, hA3d⟩ : ∃ A3, A1.add (fun _ => 0) t = A3 := ⟨_, rfl⟩
              have hA3n : A3.n = A1.n + 1 := by rw [← hA3d]; rfl
              have hA30 : A3.pics[0]? = some ⟨1, 1, fun _ => 0, t⟩ := by
                rw [← hA3d]; simp only [Sn.add]
                rw [List.getElem?_append_left (List.getElem?_eq_some_iff.1 hA10).1]; exact hA10
              have hA3x : A3.pics[A1.pics.length]? = some ⟨A1.last + 1, 1, fun _ => 0, t⟩ := by rw [← hA3d]; simp [Sn.add]
              change St W w (Store q r (A1.add (fun _ => 0) t) :: _) at hs
              rw [hA3d] at hs
              refine wpList_k (st_set ha rfl (ex_move ha) rfl ?_); clear ha; (try clear a); intro a ha
              refine wpList_k (st_set ha rfl (ex_extract ha rfl) rfl ?_); clear ha; (try clear a); intro a ha
              refine wpList_k (st_set ha rfl (ex_extract ha rfl) rfl ?_); clear ha; (try clear a); intro a ha
              refine wpList_k (st_set ha rfl (ex_assign ha) rfl ?_); clear ha; (try clear a); intro a ha
              refine wpList_k (st_set ha rfl (ex_assign ha) rfl ?_); clear ha; (try clear a); intro a ha
              refine wpList_nil ?_
              refine then_n ?_
              refine wp_seq ?_
              refine wp_region_lit ?_
              refine wpList_k (st_set ha rfl (ex_move ha) rfl ?_); clear ha; (try clear a); intro a ha
              refine wpList_k (st_set ha rfl (ex_move ha) rfl ?_); clear ha; (try clear a); intro a ha
              refine wpList_k (st_set ha rfl (ex_move ha) rfl ?_); clear ha; (try clear a); intro a ha
              refine wpList_k (st_set ha rfl (ex_move ha) rfl ?_); clear ha; (try clear a); intro a ha
              refine wpList_k (st_call ha rfl Ty.c21 rfl (publish_ok (k := i) (x := ⟨i + 1, 2, pr i, 0, s⟩) (d := D) (i := A1.pics.length) (px := ⟨A1.last + 1, 1, fun _ => 0, t⟩) ((hs.store q).tree tq) (by simp [← hl]) (by simp only; omega) (by show D ≤ 4; omega) hA3x) ?_); clear ha hs
              rintro e w ⟨rfl, hs⟩
              refine ⟨_, rfl, ?_⟩
              intro a ha
              have hset : (l ++ [(⟨i + 1, 2, pr i, 0, s⟩ : Br)]).set i ⟨i + 1, 2, pr i, D, A1.last + 1⟩ = l ++ [⟨i + 1, 2, pr i, D, A1.last + 1⟩] := by simp [List.set_append, hl]
              have hdr2 := dropId_head (id := s) hA30 (by simp only; omega)
              replace hs : St W w (Tree tq q ⟨8, l ++ [⟨i + 1, 2, pr i, D, A1.last + 1⟩], i + 1, 0⟩ :: Store q r (A3.dropId s) :: (Four b63 b54 b58 b59 b62 i ++ [])) := by rw [← hset]; exact hs
              refine wpList_k (st_set ha rfl (ex_not ha) rfl ?_); clear ha; (try clear a); intro a ha
              refine wpList_nil ?_
              refine then_n ?_
              refine wp_ifF ha ?_
              refine wp_skip ?_
              refine then_n ?_
              exact ⟨A3.dropId s, A1.last + 1, ⟨hdr2.1, by rw [hdr2.2]; omega⟩, ha.keep [0, 1, 6, 7, 8, 10, 11, 12, 13, 14, 16], hs⟩
            ·
              try simp only [decide_eq_true_eq, decide_eq_false_iff_not, Bool.not_eq_true', Bool.not_eq_false', Int.not_lt, Int.not_le, ne_eq, Decidable.not_not] at hc4
              refine wp_skip ?_
              refine then_n ?_
              obtain rfl : D = 0 := by omega
              exact ⟨A1, s, ⟨hA10, by omega⟩, ha.keep [0, 1, 6, 7, 8, 10, 11, 12, 13, 14, 16], hs⟩
          · clear ha; (try clear hs)
            intro a w hcut
            obtain ⟨A2, s2, ⟨hA20, hA2n⟩, ha, hs⟩ := hcut
            refine wp_seq_cut (M := fun a w => Fr a 169 [(0, .slice (some ⟨bb, off, none⟩) ds.length cap0), (1, .slice a1 C.length cap1), (6, .pointer (some ⟨q, 0, none⟩)), (7, .pointer (some ⟨tq, 0, none⟩)), (8, .int .i64 ((1 : Nat) : Int)), (10, .int .i64 B.done), (11, .int .i64 B.id), (12, .int .i64 i), (13, .slice (some ⟨b63, 0, none⟩) 4 4), (14, .int .i64 ((i + 1 : Nat) : Int)), (16, .int .i64 D), (19, .bool (fitD D i Cs 0))] ∧ St W w (Tree tq q ⟨8, l ++ [⟨i + 1, 2, pr i, D, s2⟩], i + 1, 0⟩ :: Store q r A2 :: (Four b63 b54 b58 b59 b62 i ++ []))) ?_ ?_
            ·
              refine wp_region_lit ?_
              refine wpList_k (st_set ha rfl (ex_move ha) rfl ?_); clear ha; (try clear a); intro a ha
              refine wpList_k (st_set ha rfl (ex_gtr ha) rfl ?_); clear ha; (try clear a); intro a ha
              refine wpList_k (st_set ha rfl (ex_move ha) rfl ?_); clear ha; (try clear a); intro a ha
              refine ha.bool (s := 96) (fun hg2 ha => ?_) (fun hg2 ha => ?_)
              ·
                try simp only [decide_eq_true_eq, decide_eq_false_iff_not, Bool.not_eq_true', Bool.not_eq_false', Int.not_lt, Int.not_le, ne_eq, Decidable.not_not] at hg2
                refine wpList_k (st_set ha (wgT ha rfl (s := 96)) (ex_move ha) rfl ?_); clear ha; (try clear a); intro a ha
                refine wpList_k (st_set ha (wgT ha rfl (s := 96)) (ex_move ha) rfl ?_); clear ha; (try clear a); intro a ha
                refine wpList_k (st_set ha (wgT ha rfl (s := 96)) (ex_len ha Try.underlying48) rfl ?_); clear ha; (try clear a); intro a ha
                refine wpList_k (st_set ha (wgT ha rfl (s := 96)) (ex_leq ha) rfl ?_); clear ha; (try clear a); intro a ha
                refine wpList_k (st_set ha rfl (ex_pickT ha) rfl ?_); clear ha; (try clear a); intro a ha
                refine wpList_k (st_set ha rfl (ex_assign ha) rfl ?_); clear ha; (try clear a); intro a ha
                refine wpList_nil ?_
                refine then_n ?_
                have h9 : fitD D i Cs 0 = decide ((D : Int) ≤ (C.length : Int)) := by
                  rw [fitD, Bool.eq_iff_iff]; simp; omega
                exact ⟨by rw [h9]; exact ha.keep [0, 1, 6, 7, 8, 10, 11, 12, 13, 14, 16, 19], hs⟩
              ·
                try simp only [decide_eq_true_eq, decide_eq_false_iff_not, Bool.not_eq_true', Bool.not_eq_false', Int.not_lt, Int.not_le, ne_eq, Decidable.not_not] at hg2
                refine wpList_k (st_off ha (wgF ha rfl (s := 96) rfl) rfl ?_); clear ha; (try clear a); intro a ha
                refine wpList_k (st_off ha (wgF ha rfl (s := 96) rfl) rfl ?_); clear ha; (try clear a); intro a ha
                refine wpList_k (st_off ha (wgF ha rfl (s := 96) rfl) rfl ?_); clear ha; (try clear a); intro a ha
                refine wpList_k (st_off ha (wgF ha rfl (s := 96) rfl) rfl ?_); clear ha; (try clear a); intro a ha
                refine wpList_k (st_set ha rfl (ex_pickF ha) rfl ?_); clear ha; (try clear a); intro a ha
                refine wpList_k (st_set ha rfl (ex_assign ha) rfl ?_); clear ha; (try clear a); intro a ha
                refine wpList_nil ?_
                refine then_n ?_
                have h9 : fitD D i Cs 0 = false := by
                  rw [fitD, decide_eq_false (by omega), Bool.false_and]
                exact ⟨by rw [h9]; exact ha.keep [0, 1, 6, 7, 8, 10, 11, 12, 13, 14, 16, 19], hs⟩
            · clear ha; (try clear hs)
              intro a w hcut
              obtain ⟨ha, hs⟩ := hcut
              refine wp_seq ?_
              refine wp_seq ?_
              refine wp_region_lit ?_
              refine wpList_k (st_set ha rfl (ex_assign ha) rfl ?_); clear ha; (try clear a); intro a ha
              refine wpList_nil ?_
              refine then_n ?_
              refine wp_block ?_
              refine wp_loop_ghost (fun μ a w => ∃ (k : Nat) (f : Bool), (μ = D - k ∧ k ≤ D ∧ fitD D i Cs k = f) ∧ Fr a 169 [(0, .slice (some ⟨bb, off, none⟩) ds.length cap0), (1, .slice a1 C.length cap1), (6, .pointer (some ⟨q, 0, none⟩)), (7, .pointer (some ⟨tq, 0, none⟩)), (8, .int .i64 ((1 : Nat) : Int)), (10, .int .i64 B.done), (11, .int .i64 B.id), (12, .int .i64 i), (13, .slice (some ⟨b63, 0, none⟩) 4 4), (14, .int .i64 ((i + 1 : Nat) : Int)), (16, .int .i64 D), (19, .bool f), (20, .int .i64 k)] ∧ St W w (Tree tq q ⟨8, l ++ [⟨i + 1, 2, pr i, D, s2⟩], i + 1, 0⟩ :: Store q r A2 :: (Four b63 b54 b58 b59 b62 i ++ []))) (D) ?_ ?_
              · exact ⟨0, _, ⟨by simp, by simp, rfl⟩, ha.keep [0, 1, 6, 7, 8, 10, 11, 12, 13, 14, 16, 19, 20], hs⟩
              ·
                clear ha hs
                rintro μ a w ⟨k, f, ⟨rfl, hk, hf⟩, ha, hs⟩
                refine wp_seq ?_
                refine wp_seq ?_
                refine wp_region_lit ?_
                refine wpList_k (st_set ha rfl (ex_move ha) rfl ?_); clear ha; (try clear a); intro a ha
                refine wpList_k (st_set ha rfl (ex_move ha) rfl ?_); clear ha; (try clear a); intro a ha
                refine wpList_k (st_set ha rfl (ex_lss ha) rfl ?_); clear ha; (try clear a); intro a ha
                refine wpList_k (st_set ha rfl (ex_move ha) rfl ?_); clear ha; (try clear a); intro a ha
                refine ha.bool (s := 105) (fun hg3 ha => ?_) (fun hg3 ha => ?_)
                ·
                  try simp only [decide_eq_true_eq, decide_eq_false_iff_not, Bool.not_eq_true', Bool.not_eq_false', Int.not_lt, Int.not_le, ne_eq, Decidable.not_not] at hg3
                  refine wpList_k (st_set ha (wgT ha rfl (s := 105)) (ex_move ha) rfl ?_); clear ha; (try clear a); intro a ha
                  refine wpList_k (st_set ha rfl (ex_pickT ha) rfl ?_); clear ha; (try clear a); intro a ha
                  refine wpList_nil ?_
                  refine then_n ?_
                  refine wp_if ha (fun hc6 => ?_) (fun hc6 => ?_)
                  ·
                    try simp only [decide_eq_true_eq, decide_eq_false_iff_not, Bool.not_eq_true', Bool.not_eq_false', Int.not_lt, Int.not_le, ne_eq, Decidable.not_not] at hc6
                    refine wp_skip ?_
                    refine then_n ?_
                    refine wp_seq ?_
                    refine wp_block ?_
                    have hft : fitD D i Cs k = true := by rw [hf]; exact hc6
                    simp only [fitD, Bool.and_eq_true, decide_eq_true_eq, beq_iff_eq] at hft
                    obtain ⟨⟨hD0, hDC⟩, hkt⟩ := hft
                    have hX := rdx4 (w := w.drew) (L := []) hs.drew.tail.tail
                    obtain ⟨b9, o9, hb9, hr9⟩ := hX.1 (by show 0 < 4; omega)
                    cases hb9
                    obtain ⟨⟨ax, cx, bx⟩, hx⟩ : ∃ y, (pz b54 b58 b59 b62 i)[k]? = some y := ⟨_, List.getElem?_eq_getElem (by show k < 4; omega)⟩
                    have hpx : (pr i)[k]? = some bx := by
                      rw [show pr i = (pz b54 b58 b59 b62 i).map (·.2.2) from rfl, List.getElem?_map, hx]; rfl
                    obtain ⟨u, rfl⟩ : ∃ u, bx = [u] := List.length_eq_one_iff.1 (pr_one bx (List.mem_of_getElem? hpx))
                    have hcell : w.drew.cell? ⟨b63, 0 + k, none⟩ = some (.slice ax 1 cx) := hr9 k _ (by rw [List.getElem?_map, hx]; rfl)
                    obtain ⟨_, h7, h8⟩ := hX.2 _ (List.mem_of_getElem? hx)
                    obtain ⟨x', rfl⟩ : ∃ x', ax = some x' := by
                      cases ax with
                      | none => exact absurd (h7 rfl) (by simp)
                      | some x' => exact ⟨x', rfl⟩
                    obtain ⟨b8, o8, rfl, hr8⟩ := h8 _ rfl (by simp)
                    have hcu : w.drew.cell? ⟨b8, o8 + 0, none⟩ = some (.int .u8 ((u.toNat : Nat) : Int)) := hr8 0 _ rfl
                    obtain ⟨_, g7, g8⟩ := hCr.old hs.drew
                    obtain ⟨x', rfl⟩ : ∃ x', a1 = some x' := by
                      cases a1 with
                      | none => have := g7 rfl; omega
                      | some x' => exact ⟨x', rfl⟩
                    obtain ⟨b7, o7, rfl, hr7⟩ := g8 _ rfl (by omega)
                    have hk9 : k < C.length := by omega
                    have hcc : w.drew.cell? ⟨b7, o7 + k, none⟩ = some (.int .u8 (((C[k]'hk9).toNat : Nat) : Int)) := hr7 k _ (by rw [bc, List.getElem?_map, List.getElem?_eq_getElem hk9]; rfl)
                    have hy : (C.map (fun b => [b]))[k]? = some [C[k]'hk9] := by rw [List.getElem?_map, List.getElem?_eq_getElem hk9]; rfl
                    rw [hCs] at hy
                    have hiff := take_eq_succ hkt hpx hy
                    refine wp_draw (m := 12) (l0 := lb 12 0) (fun w' => (w'.cell? ⟨b63, 0 + k, none⟩ = some (.slice (some ⟨b8, o8, none⟩) 1 cx) ∧ w'.cell? ⟨b8, o8 + 0, none⟩ = some (.int .u8 ((u.toNat : Nat) : Int))) ∧ w'.cell? ⟨b7, o7 + k, none⟩ = some (.int .u8 (((C[k]'hk9).toNat : Nat) : Int))) [9] Ty.mixed (by kernel_rfl) (by kernel_rfl) (pk_blk (pk_then (pk_then (pk_blk (pk_then (pk_blk (pk_then (pk_then (pk_blk (pk_then pk_body)))))))))) (fun hpk => ?_)
                    replace hs := hs.drew
                    generalize w.drew = w at hs hpk hcell hcu hcc ⊢
                    have hC := And.intro (And.intro hcell hcu) hcc
                    refine nt_pure (i := 0) (listed' := lb 12 1) (by kernel_rfl) rfl (by kernel_rfl) (by decide) hpk ha rfl (fun w => ex_move ha) rfl ?_; clear ha; (try clear a); intro a ha
                    refine nt_pure (i := 1) (listed' := lb 12 3) (by kernel_rfl) rfl (by kernel_rfl) (by decide) hpk ha rfl (fun w => ex_move ha) rfl ?_; clear ha; (try clear a); intro a ha
                    refine nt_pure (i := 2) (listed' := lb 12 7) (by kernel_rfl) rfl (by kernel_rfl) (by decide) hpk ha rfl (fun w => ex_indexAddr ha Try.underlying23 Ty.t48 (by omega)) rfl ?_; clear ha; (try clear a); intro a ha
                    rw [Nat.mul_one] at ha
                    refine nt_pure (i := 6) (listed' := lb 12 71) (by kernel_rfl) rfl (by kernel_rfl) (by decide) hpk ha rfl (fun w => ex_move ha) rfl ?_; clear ha; (try clear a); intro a ha
                    refine nt_pure (i := 7) (listed' := lb 12 199) (by kernel_rfl) rfl (by kernel_rfl) (by decide) hpk ha rfl (fun w => ex_move ha) rfl ?_; clear ha; (try clear a); intro a ha
                    refine nt_pure (i := 8) (listed' := lb 12 455) (by kernel_rfl) rfl (by kernel_rfl) (by decide) hpk ha rfl (fun w => ex_indexAddr ha Try.underlying48 Ty.t5 (by omega)) rfl ?_; clear ha; (try clear a); intro a ha
                    rw [Nat.mul_one] at ha
                    refine nt_held (i := 3) (listed' := lb 12 463) (by kernel_rfl) rfl (by kernel_rfl) hpk ha rfl (fun w hc => ex_load1 ha Try.underlying48 rfl (hc.1.1)) hC rfl ?_; clear ha; (try clear a); intro a ha
                    refine nt_pure (i := 4) (listed' := lb 12 479) (by kernel_rfl) rfl (by kernel_rfl) (by decide) hpk ha rfl (fun w => ex_indexAddr ha Try.underlying48 Ty.t5 (by omega)) rfl ?_; clear ha; (try clear a); intro a ha
                    rw [Nat.zero_mul] at ha
                    refine nt_held (i := 5) (listed' := lb 12 511) (by kernel_rfl) rfl (by kernel_rfl) hpk ha rfl (fun w hc => ex_load1 ha Try.underlying5 rfl (hc.1.2)) hC rfl ?_; clear ha; (try clear a); intro a ha
                    refine nt_one (i := 9) (listed' := lb 12 1023) (by kernel_rfl) (by kernel_rfl) rfl (st_set ha rfl (ex_load1 ha Try.underlying5 rfl (hcc)) rfl ?_); clear ha; (try clear a); intro a ha
                    refine ⟨fun _ => hC, ?_⟩
                    refine nt_pure (i := 10) (listed' := lb 12 2047) (by kernel_rfl) rfl (by kernel_rfl) (by decide) hpk ha rfl (fun w => ex_eql ha) rfl ?_; clear ha; (try clear a); intro a ha
                    replace ha := ha.del 19
                    refine nt_pure (i := 11) (listed' := lb 12 4095) (by kernel_rfl) rfl (by kernel_rfl) (by decide) hpk ha rfl (fun w => ex_assign ha) rfl ?_; clear ha; (try clear a); intro a ha
                    refine nt_done (by kernel_rfl) ?_ _
                    refine blk_n <| then_n ?_
                    refine wp_region_lit ?_
                    refine wpList_k (st_set ha rfl (ex_move ha) rfl ?_); clear ha; (try clear a); intro a ha
                    refine wpList_k (st_set ha rfl (ex_addI ha (by omega) (by omega)) rfl ?_); clear ha; (try clear a); intro a ha
                    replace ha := ha.del 20
                    refine wpList_k (st_set ha rfl (ex_assign ha) rfl ?_); clear ha; (try clear a); intro a ha
                    refine wpList_nil ?_
                    refine then_n ?_
                    have hnew : fitD D i Cs (k + 1) = decide ((u.toNat : Int) = ((C[k]'hk9).toNat : Int)) := by
                      rw [fitD, decide_eq_true ⟨hD0, hDC⟩, Bool.true_and, Bool.eq_iff_iff, beq_iff_eq, hiff, decide_eq_true_eq]
                      constructor
                      · intro e; simp at e; rw [e]
                      · intro e; have e2 : u.toNat = (C[k]'hk9).toNat := by omega
                        rw [UInt8.toNat_inj.1 e2]
                    exact ⟨D - (k + 1), by omega, k + 1, _, ⟨rfl, by omega, hnew⟩, ha.keep [0, 1, 6, 7, 8, 10, 11, 12, 13, 14, 16, 19, 20], hs⟩
                  ·
                    try simp only [decide_eq_true_eq, decide_eq_false_iff_not, Bool.not_eq_true', Bool.not_eq_false', Int.not_lt, Int.not_le, ne_eq, Decidable.not_not] at hc6
                    have hfin : fitD D i Cs D = f := by rw [hc6] at hf ⊢; exact fitD_up hk hf
                    refine wp_exit ?_
                    refine then_e <| then_e <| blk_e ?_
                    refine then_n ?_
                    refine wp_seq ?_
                    have hB2 : (l ++ [(⟨i + 1, 2, pr i, D, s2⟩ : Br)]).foldl (bestStep 2 Cs) br0 = if fitD D i Cs D = true ∧ B.done < D then ⟨i + 1, 2, pr i, D, s2⟩ else B := by rw [List.foldl_append, hB, ← best_pr hD5]; rfl
                    have hlp2 : ∀ j x, (l ++ [(⟨i + 1, 2, pr i, D, s2⟩ : Br)])[j]? = some x → x.frm = 2 ∧ x.press = pr j := by
                      intro j x hx
                      rw [List.getElem?_append] at hx
                      split at hx
                      · exact hlp j x hx
                      · have h4 := (List.getElem?_eq_some_iff.1 hx).1
                        simp at h4
                        obtain rfl : j = i := by omega
                        rw [hl, Nat.sub_self] at hx
                        simp at hx; subst hx
                        exact ⟨rfl, rfl⟩
                    refine wp_region_lit ?_
                    refine wpList_k (st_set ha rfl (ex_move ha) rfl ?_); clear ha; (try clear a); intro a ha
                    refine wpList_k (st_set ha rfl (ex_move ha) rfl ?_); clear ha; (try clear a); intro a ha
                    refine ha.bool (s := 122) (fun hg1 ha => ?_) (fun hg1 ha => ?_)
                    ·
                      try simp only [decide_eq_true_eq, decide_eq_false_iff_not, Bool.not_eq_true', Bool.not_eq_false', Int.not_lt, Int.not_le, ne_eq, Decidable.not_not] at hg1
                      refine wpList_k (st_set ha (wgT ha rfl (s := 122)) (ex_move ha) rfl ?_); clear ha; (try clear a); intro a ha
                      refine wpList_k (st_set ha (wgT ha rfl (s := 122)) (ex_move ha) rfl ?_); clear ha; (try clear a); intro a ha
                      refine wpList_k (st_set ha (wgT ha rfl (s := 122)) (ex_gtr ha) rfl ?_); clear ha; (try clear a); intro a ha
                      refine wpList_k (st_set ha rfl (ex_pickT ha) rfl ?_); clear ha; (try clear a); intro a ha
                      refine wpList_nil ?_
                      refine then_n ?_
                      refine wp_if ha (fun hc7 => ?_) (fun hc7 => ?_)
                      ·
                        try simp only [decide_eq_true_eq, decide_eq_false_iff_not, Bool.not_eq_true', Bool.not_eq_false', Int.not_lt, Int.not_le, ne_eq, Decidable.not_not] at hc7
                        refine wp_region_lit ?_
                        refine wpList_k (st_set ha rfl (ex_move ha) rfl ?_); clear ha; (try clear a); intro a ha
                        refine wpList_k (st_set ha rfl (ex_move ha) rfl ?_); clear ha; (try clear a); intro a ha
                        replace ha := ha.del 10
                        refine wpList_k (st_set ha rfl (ex_assign ha) rfl ?_); clear ha; (try clear a); intro a ha
                        replace ha := ha.del 11
                        refine wpList_k (st_set ha rfl (ex_assign ha) rfl ?_); clear ha; (try clear a); intro a ha
                        refine wpList_nil ?_
                        refine blk_n <| then_n ?_
                        refine wp_region_lit ?_
                        refine wpList_k (st_set ha rfl (ex_move ha) rfl ?_); clear ha; (try clear a); intro a ha
                        refine wpList_k (st_set ha rfl (ex_addI ha (by omega) (by omega)) rfl ?_); clear ha; (try clear a); intro a ha
                        replace ha := ha.del 12
                        refine wpList_k (st_set ha rfl (ex_assign ha) rfl ?_); clear ha; (try clear a); intro a ha
                        refine wpList_nil ?_
                        refine then_n ?_
                        exact ⟨min ds.length 8 - (i + 1), by omega, i + 1, _, A2, ⟨i + 1, 2, pr i, D, s2⟩, ⟨rfl, by omega, by simp [hl], ⟨hA20, by omega⟩, hlp2, by rw [hB2, if_pos ⟨hfin.trans hg1, by omega⟩]⟩, ha.keep [0, 1, 6, 7, 8, 10, 11, 12], hs.sub⟩
                      ·
                        try simp only [decide_eq_true_eq, decide_eq_false_iff_not, Bool.not_eq_true', Bool.not_eq_false', Int.not_lt, Int.not_le, ne_eq, Decidable.not_not] at hc7
                        refine wp_skip ?_
                        refine blk_n <| then_n ?_
                        refine wp_region_lit ?_
                        refine wpList_k (st_set ha rfl (ex_move ha) rfl ?_); clear ha; (try clear a); intro a ha
                        refine wpList_k (st_set ha rfl (ex_addI ha (by omega) (by omega)) rfl ?_); clear ha; (try clear a); intro a ha
                        replace ha := ha.del 12
                        refine wpList_k (st_set ha rfl (ex_assign ha) rfl ?_); clear ha; (try clear a); intro a ha
                        refine wpList_nil ?_
                        refine then_n ?_
                        exact ⟨min ds.length 8 - (i + 1), by omega, i + 1, _, A2, B, ⟨rfl, by omega, by simp [hl], ⟨hA20, by omega⟩, hlp2, by rw [hB2, if_neg (fun e => (by first | omega | (rw [hfin] at e; simp_all)))]⟩, ha.keep [0, 1, 6, 7, 8, 10, 11, 12], hs.sub⟩
                    ·
                      try simp only [decide_eq_true_eq, decide_eq_false_iff_not, Bool.not_eq_true', Bool.not_eq_false', Int.not_lt, Int.not_le, ne_eq, Decidable.not_not] at hg1
                      refine wpList_k (st_off ha (wgF ha rfl (s := 122) rfl) rfl ?_); clear ha; (try clear a); intro a ha
                      refine wpList_k (st_off ha (wgF ha rfl (s := 122) rfl) rfl ?_); clear ha; (try clear a); intro a ha
                      refine wpList_k (st_off ha (wgF ha rfl (s := 122) rfl) rfl ?_); clear ha; (try clear a); intro a ha
                      refine wpList_k (st_set ha rfl (ex_pickF ha) rfl ?_); clear ha; (try clear a); intro a ha
                      refine wpList_nil ?_
                      refine then_n ?_
                      refine wp_ifF ha ?_
                      refine wp_skip ?_
                      refine blk_n <| then_n ?_
                      refine wp_region_lit ?_
                      refine wpList_k (st_set ha rfl (ex_move ha) rfl ?_); clear ha; (try clear a); intro a ha
                      refine wpList_k (st_set ha rfl (ex_addI ha (by omega) (by omega)) rfl ?_); clear ha; (try clear a); intro a ha
                      replace ha := ha.del 12
                      refine wpList_k (st_set ha rfl (ex_assign ha) rfl ?_); clear ha; (try clear a); intro a ha
                      refine wpList_nil ?_
                      refine then_n ?_
                      exact ⟨min ds.length 8 - (i + 1), by omega, i + 1, _, A2, B, ⟨rfl, by omega, by simp [hl], ⟨hA20, by omega⟩, hlp2, by rw [hB2, if_neg (fun e => (by first | omega | (rw [hfin] at e; simp_all)))]⟩, ha.keep [0, 1, 6, 7, 8, 10, 11, 12], hs.sub⟩
                ·
                  try simp only [decide_eq_true_eq, decide_eq_false_iff_not, Bool.not_eq_true', Bool.not_eq_false', Int.not_lt, Int.not_le, ne_eq, Decidable.not_not] at hg3
                  have hfin : fitD D i Cs D = f := by
                    obtain rfl : k = D := by omega
                    exact hf
                  refine wpList_k (st_off ha (wgF ha rfl (s := 105) rfl) rfl ?_); clear ha; (try clear a); intro a ha
                  refine wpList_k (st_set ha rfl (ex_pickF ha) rfl ?_); clear ha; (try clear a); intro a ha
                  refine wpList_nil ?_
                  refine then_n ?_
                  refine wp_ifF ha ?_
                  refine wp_exit ?_
                  refine then_e <| then_e <| blk_e ?_
                  refine then_n ?_
                  refine wp_seq ?_
                  have hB2 : (l ++ [(⟨i + 1, 2, pr i, D, s2⟩ : Br)]).foldl (bestStep 2 Cs) br0 = if fitD D i Cs D = true ∧ B.done < D then ⟨i + 1, 2, pr i, D, s2⟩ else B := by rw [List.foldl_append, hB, ← best_pr hD5]; rfl
                  have hlp2 : ∀ j x, (l ++ [(⟨i + 1, 2, pr i, D, s2⟩ : Br)])[j]? = some x → x.frm = 2 ∧ x.press = pr j := by
                    intro j x hx
                    rw [List.getElem?_append] at hx
                    split at hx
                    · exact hlp j x hx
                    · have h4 := (List.getElem?_eq_some_iff.1 hx).1
                      simp at h4
                      obtain rfl : j = i := by omega
                      rw [hl, Nat.sub_self] at hx
                      simp at hx; subst hx
                      exact ⟨rfl, rfl⟩
                  refine wp_region_lit ?_
                  refine wpList_k (st_set ha rfl (ex_move ha) rfl ?_); clear ha; (try clear a); intro a ha
                  refine wpList_k (st_set ha rfl (ex_move ha) rfl ?_); clear ha; (try clear a); intro a ha
                  refine ha.bool (s := 122) (fun hg1 ha => ?_) (fun hg1 ha => ?_)
                  ·
                    try simp only [decide_eq_true_eq, decide_eq_false_iff_not, Bool.not_eq_true', Bool.not_eq_false', Int.not_lt, Int.not_le, ne_eq, Decidable.not_not] at hg1
                    refine wpList_k (st_set ha (wgT ha rfl (s := 122)) (ex_move ha) rfl ?_); clear ha; (try clear a); intro a ha
                    refine wpList_k (st_set ha (wgT ha rfl (s := 122)) (ex_move ha) rfl ?_); clear ha; (try clear a); intro a ha
                    refine wpList_k (st_set ha (wgT ha rfl (s := 122)) (ex_gtr ha) rfl ?_); clear ha; (try clear a); intro a ha
                    refine wpList_k (st_set ha rfl (ex_pickT ha) rfl ?_); clear ha; (try clear a); intro a ha
                    refine wpList_nil ?_
                    refine then_n ?_
                    refine wp_if ha (fun hc7 => ?_) (fun hc7 => ?_)
                    ·
                      try simp only [decide_eq_true_eq, decide_eq_false_iff_not, Bool.not_eq_true', Bool.not_eq_false', Int.not_lt, Int.not_le, ne_eq, Decidable.not_not] at hc7
                      refine wp_region_lit ?_
                      refine wpList_k (st_set ha rfl (ex_move ha) rfl ?_); clear ha; (try clear a); intro a ha
                      refine wpList_k (st_set ha rfl (ex_move ha) rfl ?_); clear ha; (try clear a); intro a ha
                      replace ha := ha.del 10
                      refine wpList_k (st_set ha rfl (ex_assign ha) rfl ?_); clear ha; (try clear a); intro a ha
                      replace ha := ha.del 11
                      refine wpList_k (st_set ha rfl (ex_assign ha) rfl ?_); clear ha; (try clear a); intro a ha
                      refine wpList_nil ?_
                      refine blk_n <| then_n ?_
                      refine wp_region_lit ?_
                      refine wpList_k (st_set ha rfl (ex_move ha) rfl ?_); clear ha; (try clear a); intro a ha
                      refine wpList_k (st_set ha rfl (ex_addI ha (by omega) (by omega)) rfl ?_); clear ha; (try clear a); intro a ha
                      replace ha := ha.del 12
                      refine wpList_k (st_set ha rfl (ex_assign ha) rfl ?_); clear ha; (try clear a); intro a ha
                      refine wpList_nil ?_
                      refine then_n ?_
                      exact ⟨min ds.length 8 - (i + 1), by omega, i + 1, _, A2, ⟨i + 1, 2, pr i, D, s2⟩, ⟨rfl, by omega, by simp [hl], ⟨hA20, by omega⟩, hlp2, by rw [hB2, if_pos ⟨hfin.trans hg1, by omega⟩]⟩, ha.keep [0, 1, 6, 7, 8, 10, 11, 12], hs.sub⟩
                    ·
                      try simp only [decide_eq_true_eq, decide_eq_false_iff_not, Bool.not_eq_true', Bool.not_eq_false', Int.not_lt, Int.not_le, ne_eq, Decidable.not_not] at hc7
                      refine wp_skip ?_
                      refine blk_n <| then_n ?_
                      refine wp_region_lit ?_
                      refine wpList_k (st_set ha rfl (ex_move ha) rfl ?_); clear ha; (try clear a); intro a ha
                      refine wpList_k (st_set ha rfl (ex_addI ha (by omega) (by omega)) rfl ?_); clear ha; (try clear a); intro a ha
                      replace ha := ha.del 12
                      refine wpList_k (st_set ha rfl (ex_assign ha) rfl ?_); clear ha; (try clear a); intro a ha
                      refine wpList_nil ?_
                      refine then_n ?_
                      exact ⟨min ds.length 8 - (i + 1), by omega, i + 1, _, A2, B, ⟨rfl, by omega, by simp [hl], ⟨hA20, by omega⟩, hlp2, by rw [hB2, if_neg (fun e => (by first | omega | (rw [hfin] at e; simp_all)))]⟩, ha.keep [0, 1, 6, 7, 8, 10, 11, 12], hs.sub⟩
                  ·
                    try simp only [decide_eq_true_eq, decide_eq_false_iff_not, Bool.not_eq_true', Bool.not_eq_false', Int.not_lt, Int.not_le, ne_eq, Decidable.not_not] at hg1
                    refine wpList_k (st_off ha (wgF ha rfl (s := 122) rfl) rfl ?_); clear ha; (try clear a); intro a ha
                    refine wpList_k (st_off ha (wgF ha rfl (s := 122) rfl) rfl ?_); clear ha; (try clear a); intro a ha
                    refine wpList_k (st_off ha (wgF ha rfl (s := 122) rfl) rfl ?_); clear ha; (try clear a); intro a ha
                    refine wpList_k (st_set ha rfl (ex_pickF ha) rfl ?_); clear ha; (try clear a); intro a ha
                    refine wpList_nil ?_
                    refine then_n ?_
                    refine wp_ifF ha ?_
                    refine wp_skip ?_
                    refine blk_n <| then_n ?_
                    refine wp_region_lit ?_
                    refine wpList_k (st_set ha rfl (ex_move ha) rfl ?_); clear ha; (try clear a); intro a ha
                    refine wpList_k (st_set ha rfl (ex_addI ha (by omega) (by omega)) rfl ?_); clear ha; (try clear a); intro a ha
                    replace ha := ha.del 12
                    refine wpList_k (st_set ha rfl (ex_assign ha) rfl ?_); clear ha; (try clear a); intro a ha
                    refine wpList_nil ?_
                    refine then_n ?_
                    exact ⟨min ds.length 8 - (i + 1), by omega, i + 1, _, A2, B, ⟨rfl, by omega, by simp [hl], ⟨hA20, by omega⟩, hlp2, by rw [hB2, if_neg (fun e => (by first | omega | (rw [hfin] at e; simp_all)))]⟩, ha.keep [0, 1, 6, 7, 8, 10, 11, 12], hs.sub⟩
        ·
          try simp only [decide_eq_true_eq, decide_eq_false_iff_not, Bool.not_eq_true', Bool.not_eq_false', Int.not_lt, Int.not_le, ne_eq, Decidable.not_not] at hc2
          refine wp_exit ?_
          refine then_e <| then_e <| blk_e ?_
          refine then_n ?_
          refine wp_seq ?_
          replace hs := hs.sl0 48 1 none
          have hfr : ∀ x ∈ l, x.frm = 2 := fun x hx => by
            obtain ⟨j, hj⟩ := List.mem_iff_getElem?.1 hx
            exact (hlp j x hj).1
          refine wp_region_lit ?_
          refine wpList_k (st_set ha rfl (ex_assign ha) rfl ?_); clear ha; (try clear a); intro a ha
          refine wpList_nil ?_
          refine then_n ?_
          refine wp_seq ?_
          refine wp_seq ?_
          refine wp_region_lit ?_
          refine wpList_k (st_set ha rfl (ex_assign ha) rfl ?_); clear ha; (try clear a); intro a ha
          refine wpList_nil ?_
          refine then_n ?_
          refine wp_block ?_
          refine wp_loop_ghost (fun μ a w => ∃ (k : Nat) (adm : Option Addr) (cm : Nat), (μ = C.length - k ∧ k ≤ C.length ∧ k ≤ cm) ∧ Fr a 169 [(1, .slice a1 C.length cap1), (7, .pointer (some ⟨tq, 0, none⟩)), (10, .int .i64 B.done), (11, .int .i64 B.id), (21, .slice adm k cm), (22, .int .i64 k)] ∧ St W w [Sl 48 1 adm k cm (((List.range k).map (oneY a1 cap1 C)).map bbv), Tree tq q ⟨8, l, i, 0⟩]) (C.length) ?_ ?_
          · exact ⟨0, none, 0, ⟨by simp, by simp, by simp⟩, ha.keep [1, 7, 10, 11, 21, 22], hs.sub (M := [Sl 48 1 none 0 0 [], Tree tq q ⟨8, l, i, 0⟩])⟩
          ·
            clear ha hs
            rintro μ a w ⟨k, adm, cm, ⟨rfl, hk, hkm⟩, ha, hs⟩
            refine wp_seq ?_
            refine wp_seq ?_
            refine wp_region_lit ?_
            refine wpList_k (st_set ha rfl (ex_move ha) rfl ?_); clear ha; (try clear a); intro a ha
            refine wpList_k (st_set ha rfl (ex_move ha) rfl ?_); clear ha; (try clear a); intro a ha
            refine wpList_k (st_set ha rfl (ex_len ha Try.underlying48) rfl ?_); clear ha; (try clear a); intro a ha
            refine wpList_k (st_set ha rfl (ex_lss ha) rfl ?_); clear ha; (try clear a); intro a ha
            refine wpList_nil ?_
            refine then_n ?_
            refine wp_if ha (fun hc8 => ?_) (fun hc8 => ?_)
            ·
              try simp only [decide_eq_true_eq, decide_eq_false_iff_not, Bool.not_eq_true', Bool.not_eq_false', Int.not_lt, Int.not_le, ne_eq, Decidable.not_not] at hc8
              refine wp_skip ?_
              refine then_n ?_
              refine wp_seq ?_
              refine wp_block ?_
              refine wp_region_lit ?_
              refine wpList_k (st_set ha rfl (ex_move ha) rfl ?_); clear ha; (try clear a); intro a ha
              refine wpList_k (st_set ha rfl (ex_move ha) rfl ?_); clear ha; (try clear a); intro a ha
              refine wpList_k (st_set ha rfl (ex_move ha) rfl ?_); clear ha; (try clear a); intro a ha
              refine wpList_k (st_set ha rfl (ex_move ha) rfl ?_); clear ha; (try clear a); intro a ha
              refine wpList_k (st_set ha rfl (ex_addI ha (by omega) (by omega)) rfl ?_); clear ha; (try clear a); intro a ha
              refine wpList_k (st_set ha rfl (ex_sliceLH ha Try.underlying48 Ty.t5 (by omega) (by omega)) rfl ?_); clear ha; (try clear a); intro a ha
              rw [show k + 1 - k = 1 from by omega] at ha
              refine wpList_k (st_buildSlice ha rfl hs Try.underlying23 Ty.t48 rfl rfl rfl rfl (by decide) (by decide) ?_); clear ha hs; (try clear a); (try clear w); intro b141 a w ha hs ho
              clear ho
              refine wpList_k (st_append ha rfl hs Try.underlying23 Ty.t48 rfl rfl hs.rdAll rfl (by simp [Value.oneCell']) (by decide) (by decide) (by omega) ?_); clear ha hs; (try clear a); (try clear w); intro ad142 c142 a w ha hs
              have hval : ((List.range k).map (oneY a1 cap1 C)).map bbv ++ [[.slice (cutAd a1 k cap1 1) 1 (cap1 - k)]].flatten = ((List.range (k + 1)).map (oneY a1 cap1 C)).map bbv := by simp [List.range_succ, oneY, bbv]
              rw [hval] at hs
              have hc142 := (hs.sl ad142).2
              replace ha := ha.del 21
              refine wpList_k (st_set ha rfl (ex_assign ha) rfl ?_); clear ha; (try clear a); intro a ha
              refine wpList_nil ?_
              refine blk_n <| then_n ?_
              refine wp_region_lit ?_
              refine wpList_k (st_set ha rfl (ex_move ha) rfl ?_); clear ha; (try clear a); intro a ha
              refine wpList_k (st_set ha rfl (ex_addI ha (by omega) (by omega)) rfl ?_); clear ha; (try clear a); intro a ha
              replace ha := ha.del 22
              refine wpList_k (st_set ha rfl (ex_assign ha) rfl ?_); clear ha; (try clear a); intro a ha
              refine wpList_nil ?_
              refine then_n ?_
              exact ⟨C.length - (k + 1), by omega, k + 1, _, _, ⟨rfl, by omega, by omega⟩, ha.keep [1, 7, 10, 11, 21, 22], hs.sub⟩
            ·
              try simp only [decide_eq_true_eq, decide_eq_false_iff_not, Bool.not_eq_true', Bool.not_eq_false', Int.not_lt, Int.not_le, ne_eq, Decidable.not_not] at hc8
              refine wp_exit ?_
              refine then_e <| then_e <| blk_e ?_
              refine then_n ?_
              refine wp_seq ?_
              obtain rfl : k = C.length := by omega
              rw [← hCsl] at ha
              refine wp_region_lit ?_
              refine wpList_k (st_set ha rfl (ex_move ha) rfl ?_); clear ha; (try clear a); intro a ha
              refine wpList_k (st_set ha rfl (ex_move ha) rfl ?_); clear ha; (try clear a); intro a ha
              refine wpList_k (st_call ha rfl Ty.c22 rfl (tree_best (frm := 2) (p := Cs) (hs.tree tq) (fun w' h => (RdX.sl h adm (by simp) (oneY_rd hCr hCc)).bbP ((oneY_map a1 cap1 C).trans hCs)) (by omega) hCok) ?_); clear ha hs
              rintro e w ⟨adb, cb, rfl, hs⟩
              refine ⟨_, rfl, ?_⟩
              intro a ha
              rw [show Tr.best ⟨8, l, i, 0⟩ 2 Cs = B from hB] at ha
              refine wpList_k (st_set ha rfl (ex_move ha) rfl ?_); clear ha; (try clear a); intro a ha
              refine wpList_k (st_set ha rfl (ex_extract ha rfl) rfl ?_); clear ha; (try clear a); intro a ha
              refine wpList_k (st_set ha rfl (ex_extract ha rfl) rfl ?_); clear ha; (try clear a); intro a ha
              refine wpList_k (st_alloc ha rfl hs Ty.t42 rfl ?_); clear ha hs; (try clear a); (try clear w); intro b23 a w ha hs ho
              clear ho
              refine wpList_k (st_storeAll ha rfl hs Ty.t42 (brC_one B adb cb) (by rfl) ?_); clear ha hs; (try clear a); (try clear w); intro a w ha hs
              refine wpList_k (st_set ha rfl (ex_assign ha) rfl ?_); clear ha; (try clear a); intro a ha
              refine wpList_nil ?_
              refine then_n ?_
              refine wp_seq ?_
              refine wp_region_lit ?_
              refine wpList_k (st_set ha rfl (ex_move ha) rfl ?_); clear ha; (try clear a); intro a ha
              refine wpList_k (st_set ha rfl (ex_move ha) rfl ?_); clear ha; (try clear a); intro a ha
              refine wpList_k (st_call ha rfl Ty.c22 rfl (tree_best (frm := 3) (p := Cs) (hs.tree tq) (fun w' h => (RdX.sl h adm (by simp) (oneY_rd hCr hCc)).bbP ((oneY_map a1 cap1 C).trans hCs)) (by omega) hCok) ?_); clear ha hs
              rintro e w ⟨adn, cn, rfl, hs⟩
              refine ⟨_, rfl, ?_⟩
              intro a ha
              rw [show Tr.best ⟨8, l, i, 0⟩ 3 Cs = br0 from best_other l br0 hfr] at ha
              refine wpList_k (st_set ha rfl (ex_move ha) rfl ?_); clear ha; (try clear a); intro a ha
              refine wpList_k (st_set ha rfl (ex_extract ha rfl) rfl ?_); clear ha; (try clear a); intro a ha
              refine wpList_k (st_set ha rfl (ex_extract ha rfl) rfl ?_); clear ha; (try clear a); intro a ha
              refine wpList_k (st_alloc ha rfl hs Ty.t42 rfl ?_); clear ha hs; (try clear a); (try clear w); intro b25 a w ha hs ho
              clear ho
              refine wpList_k (st_storeAll ha rfl hs Ty.t42 (brC_one br0 adn cn) (by rfl) ?_); clear ha hs; (try clear a); (try clear w); intro a w ha hs
              refine wpList_k (st_set ha rfl (ex_assign ha) rfl ?_); clear ha; (try clear a); intro a ha
              refine wpList_nil ?_
              refine then_n ?_
              refine wp_seq ?_
              refine wp_region_lit ?_
              refine wpList_k (st_set ha rfl (ex_move ha) rfl ?_); clear ha; (try clear a); intro a ha
              refine wpList_k (st_set ha rfl (ex_move ha) rfl ?_); clear ha; (try clear a); intro a ha
              refine wpList_k (st_set ha rfl (ex_gtr ha) rfl ?_); clear ha; (try clear a); intro a ha
              refine wpList_k (st_set ha rfl (ex_eqlB ha Try.underlying4) rfl ?_); clear ha; (try clear a); intro a ha
              rw [show (decide (0 < B.done) == decide ((B.done : Int) > 0)) = true from by simp] at ha
              refine wpList_k (st_set ha rfl (ex_move ha) rfl ?_); clear ha; (try clear a); intro a ha
              refine wpList_k (st_set ha (wgT ha rfl (s := 159)) (ex_fieldAddr (k := 0) ha Try.underlying42 rfl Ty.t2 rfl) rfl ?_); clear ha; (try clear a); intro a ha
              refine wpList_k (st_set ha (wgT ha rfl (s := 159)) (ex_load1 ha Try.underlying2 rfl (hs.rd1 rfl)) rfl ?_); clear ha; (try clear a); intro a ha
              refine wpList_k (st_set ha (wgT ha rfl (s := 159)) (ex_move ha) rfl ?_); clear ha; (try clear a); intro a ha
              refine wpList_k (st_set ha (wgT ha rfl (s := 159)) (ex_eql ha) rfl ?_); clear ha; (try clear a); intro a ha
              refine wpList_k (st_set ha rfl (ex_pickT ha) rfl ?_); clear ha; (try clear a); intro a ha
              refine wpList_k (st_set ha rfl (ex_move ha) rfl ?_); clear ha; (try clear a); intro a ha
              refine ha.bool (s := 165) (fun hg10 ha => ?_) (fun hg10 ha => ?_)
              ·
                try simp only [decide_eq_true_eq, decide_eq_false_iff_not, Bool.not_eq_true', Bool.not_eq_false', Int.not_lt, Int.not_le, ne_eq, Decidable.not_not] at hg10
                refine wpList_k (st_set ha (wgT ha rfl (s := 165)) (ex_move ha) rfl ?_); clear ha; (try clear a); intro a ha
                refine wpList_k (st_set ha (wgT ha rfl (s := 165)) (ex_not ha) rfl ?_); clear ha; (try clear a); intro a ha
                refine wpList_k (st_set ha rfl (ex_pickT ha) rfl ?_); clear ha; (try clear a); intro a ha
                refine wpList_k (st_set ha rfl (ex_assign ha) rfl ?_); clear ha; (try clear a); intro a ha
                refine wpList_nil ?_
                refine then_n ?_
                refine wp_ret ?_
                refine ret1 ha rfl ?_
                first
                  | exact absurd trivial hg10
                  | (refine ⟨?_, hs.below⟩
                     simp [br0])
              ·
                try simp only [decide_eq_true_eq, decide_eq_false_iff_not, Bool.not_eq_true', Bool.not_eq_false', Int.not_lt, Int.not_le, ne_eq, Decidable.not_not] at hg10
                refine wpList_k (st_off ha (wgF ha rfl (s := 165) rfl) rfl ?_); clear ha; (try clear a); intro a ha
                refine wpList_k (st_off ha (wgF ha rfl (s := 165) rfl) rfl ?_); clear ha; (try clear a); intro a ha
                refine wpList_k (st_set ha rfl (ex_pickF ha) rfl ?_); clear ha; (try clear a); intro a ha
                refine wpList_k (st_set ha rfl (ex_assign ha) rfl ?_); clear ha; (try clear a); intro a ha
                refine wpList_nil ?_
                refine then_n ?_
                refine wp_ret ?_
                refine ret1 ha rfl ?_
                first
                  | exact absurd trivial hg10
                  | (refine ⟨?_, hs.below⟩
                     simp [br0])
      ·
        try simp only [decide_eq_true_eq, decide_eq_false_iff_not, Bool.not_eq_true', Bool.not_eq_false', Int.not_lt, Int.not_le, ne_eq, Decidable.not_not] at hg4
        refine wpList_k (st_off ha (wgF ha rfl (s := 48) rfl) rfl ?_); clear ha; (try clear a); intro a ha
        refine wpList_k (st_off ha (wgF ha rfl (s := 48) rfl) rfl ?_); clear ha; (try clear a); intro a ha
        refine wpList_k (st_set ha rfl (ex_pickF ha) rfl ?_); clear ha; (try clear a); intro a ha
        refine wpList_nil ?_
        refine then_n ?_
        refine wp_ifF ha ?_
        refine wp_exit ?_
        refine then_e <| then_e <| blk_e ?_
        refine then_n ?_
        refine wp_seq ?_
        replace hs := hs.sl0 48 1 none
        have hfr : ∀ x ∈ l, x.frm = 2 := fun x hx => by
          obtain ⟨j, hj⟩ := List.mem_iff_getElem?.1 hx
          exact (hlp j x hj).1
        refine wp_region_lit ?_
        refine wpList_k (st_set ha rfl (ex_assign ha) rfl ?_); clear ha; (try clear a); intro a ha
        refine wpList_nil ?_
        refine then_n ?_
        refine wp_seq ?_
        refine wp_seq ?_
        refine wp_region_lit ?_
        refine wpList_k (st_set ha rfl (ex_assign ha) rfl ?_); clear ha; (try clear a); intro a ha
        refine wpList_nil ?_
        refine then_n ?_
        refine wp_block ?_
        refine wp_loop_ghost (fun μ a w => ∃ (k : Nat) (adm : Option Addr) (cm : Nat), (μ = C.length - k ∧ k ≤ C.length ∧ k ≤ cm) ∧ Fr a 169 [(1, .slice a1 C.length cap1), (7, .pointer (some ⟨tq, 0, none⟩)), (10, .int .i64 B.done), (11, .int .i64 B.id), (21, .slice adm k cm), (22, .int .i64 k)] ∧ St W w [Sl 48 1 adm k cm (((List.range k).map (oneY a1 cap1 C)).map bbv), Tree tq q ⟨8, l, i, 0⟩]) (C.length) ?_ ?_
        · exact ⟨0, none, 0, ⟨by simp, by simp, by simp⟩, ha.keep [1, 7, 10, 11, 21, 22], hs.sub (M := [Sl 48 1 none 0 0 [], Tree tq q ⟨8, l, i, 0⟩])⟩
        ·
          clear ha hs
          rintro μ a w ⟨k, adm, cm, ⟨rfl, hk, hkm⟩, ha, hs⟩
          refine wp_seq ?_
          refine wp_seq ?_
          refine wp_region_lit ?_
          refine wpList_k (st_set ha rfl (ex_move ha) rfl ?_); clear ha; (try clear a); intro a ha
          refine wpList_k (st_set ha rfl (ex_move ha) rfl ?_); clear ha; (try clear a); intro a ha
          refine wpList_k (st_set ha rfl (ex_len ha Try.underlying48) rfl ?_); clear ha; (try clear a); intro a ha
          refine wpList_k (st_set ha rfl (ex_lss ha) rfl ?_); clear ha; (try clear a); intro a ha
          refine wpList_nil ?_
          refine then_n ?_
          refine wp_if ha (fun hc8 => ?_) (fun hc8 => ?_)
          ·
            try simp only [decide_eq_true_eq, decide_eq_false_iff_not, Bool.not_eq_true', Bool.not_eq_false', Int.not_lt, Int.not_le, ne_eq, Decidable.not_not] at hc8
            refine wp_skip ?_
            refine then_n ?_
            refine wp_seq ?_
            refine wp_block ?_
            refine wp_region_lit ?_
            refine wpList_k (st_set ha rfl (ex_move ha) rfl ?_); clear ha; (try clear a); intro a ha
            refine wpList_k (st_set ha rfl (ex_move ha) rfl ?_); clear ha; (try clear a); intro a ha
            refine wpList_k (st_set ha rfl (ex_move ha) rfl ?_); clear ha; (try clear a); intro a ha
            refine wpList_k (st_set ha rfl (ex_move ha) rfl ?_); clear ha; (try clear a); intro a ha
            refine wpList_k (st_set ha rfl (ex_addI ha (by omega) (by omega)) rfl ?_); clear ha; (try clear a); intro a ha
            refine wpList_k (st_set ha rfl (ex_sliceLH ha Try.underlying48 Ty.t5 (by omega) (by omega)) rfl ?_); clear ha; (try clear a); intro a ha
            rw [show k + 1 - k = 1 from by omega] at ha
            refine wpList_k (st_buildSlice ha rfl hs Try.underlying23 Ty.t48 rfl rfl rfl rfl (by decide) (by decide) ?_); clear ha hs; (try clear a); (try clear w); intro b141 a w ha hs ho
            clear ho
            refine wpList_k (st_append ha rfl hs Try.underlying23 Ty.t48 rfl rfl hs.rdAll rfl (by simp [Value.oneCell']) (by decide) (by decide) (by omega) ?_); clear ha hs; (try clear a); (try clear w); intro ad142 c142 a w ha hs
            have hval : ((List.range k).map (oneY a1 cap1 C)).map bbv ++ [[.slice (cutAd a1 k cap1 1) 1 (cap1 - k)]].flatten = ((List.range (k + 1)).map (oneY a1 cap1 C)).map bbv := by simp [List.range_succ, oneY, bbv]
            rw [hval] at hs
            have hc142 := (hs.sl ad142).2
            replace ha := ha.del 21
            refine wpList_k (st_set ha rfl (ex_assign ha) rfl ?_); clear ha; (try clear a); intro a ha
            refine wpList_nil ?_
            refine blk_n <| then_n ?_
            refine wp_region_lit ?_
            refine wpList_k (st_set ha rfl (ex_move ha) rfl ?_); clear ha; (try clear a); intro a ha
            refine wpList_k (st_set ha rfl (ex_addI ha (by omega) (by omega)) rfl ?_); clear ha; (try clear a); intro a ha
            replace ha := ha.del 22
            refine wpList_k (st_set ha rfl (ex_assign ha) rfl ?_); clear ha; (try clear a); intro a ha
            refine wpList_nil ?_
            refine then_n ?_
            exact ⟨C.length - (k + 1), by omega, k + 1, _, _, ⟨rfl, by omega, by omega⟩, ha.keep [1, 7, 10, 11, 21, 22], hs.sub⟩
          ·
            try simp only [decide_eq_true_eq, decide_eq_false_iff_not, Bool.not_eq_true', Bool.not_eq_false', Int.not_lt, Int.not_le, ne_eq, Decidable.not_not] at hc8
            refine wp_exit ?_
            refine then_e <| then_e <| blk_e ?_
            refine then_n ?_
            refine wp_seq ?_
            obtain rfl : k = C.length := by omega
            rw [← hCsl] at ha
            refine wp_region_lit ?_
            refine wpList_k (st_set ha rfl (ex_move ha) rfl ?_); clear ha; (try clear a); intro a ha
            refine wpList_k (st_set ha rfl (ex_move ha) rfl ?_); clear ha; (try clear a); intro a ha
            refine wpList_k (st_call ha rfl Ty.c22 rfl (tree_best (frm := 2) (p := Cs) (hs.tree tq) (fun w' h => (RdX.sl h adm (by simp) (oneY_rd hCr hCc)).bbP ((oneY_map a1 cap1 C).trans hCs)) (by omega) hCok) ?_); clear ha hs
            rintro e w ⟨adb, cb, rfl, hs⟩
            refine ⟨_, rfl, ?_⟩
            intro a ha
            rw [show Tr.best ⟨8, l, i, 0⟩ 2 Cs = B from hB] at ha
            refine wpList_k (st_set ha rfl (ex_move ha) rfl ?_); clear ha; (try clear a); intro a ha
            refine wpList_k (st_set ha rfl (ex_extract ha rfl) rfl ?_); clear ha; (try clear a); intro a ha
            refine wpList_k (st_set ha rfl (ex_extract ha rfl) rfl ?_); clear ha; (try clear a); intro a ha
            refine wpList_k (st_alloc ha rfl hs Ty.t42 rfl ?_); clear ha hs; (try clear a); (try clear w); intro b23 a w ha hs ho
            clear ho
            refine wpList_k (st_storeAll ha rfl hs Ty.t42 (brC_one B adb cb) (by rfl) ?_); clear ha hs; (try clear a); (try clear w); intro a w ha hs
            refine wpList_k (st_set ha rfl (ex_assign ha) rfl ?_); clear ha; (try clear a); intro a ha
            refine wpList_nil ?_
            refine then_n ?_
            refine wp_seq ?_
            refine wp_region_lit ?_
            refine wpList_k (st_set ha rfl (ex_move ha) rfl ?_); clear ha; (try clear a); intro a ha
            refine wpList_k (st_set ha rfl (ex_move ha) rfl ?_); clear ha; (try clear a); intro a ha
            refine wpList_k (st_call ha rfl Ty.c22 rfl (tree_best (frm := 3) (p := Cs) (hs.tree tq) (fun w' h => (RdX.sl h adm (by simp) (oneY_rd hCr hCc)).bbP ((oneY_map a1 cap1 C).trans hCs)) (by omega) hCok) ?_); clear ha hs
            rintro e w ⟨adn, cn, rfl, hs⟩
            refine ⟨_, rfl, ?_⟩
            intro a ha
            rw [show Tr.best ⟨8, l, i, 0⟩ 3 Cs = br0 from best_other l br0 hfr] at ha
            refine wpList_k (st_set ha rfl (ex_move ha) rfl ?_); clear ha; (try clear a); intro a ha
            refine wpList_k (st_set ha rfl (ex_extract ha rfl) rfl ?_); clear ha; (try clear a); intro a ha
            refine wpList_k (st_set ha rfl (ex_extract ha rfl) rfl ?_); clear ha; (try clear a); intro a ha
            refine wpList_k (st_alloc ha rfl hs Ty.t42 rfl ?_); clear ha hs; (try clear a); (try clear w); intro b25 a w ha hs ho
            clear ho
            refine wpList_k (st_storeAll ha rfl hs Ty.t42 (brC_one br0 adn cn) (by rfl) ?_); clear ha hs; (try clear a); (try clear w); intro a w ha hs
            refine wpList_k (st_set ha rfl (ex_assign ha) rfl ?_); clear ha; (try clear a); intro a ha
            refine wpList_nil ?_
            refine then_n ?_
            refine wp_seq ?_
            refine wp_region_lit ?_
            refine wpList_k (st_set ha rfl (ex_move ha) rfl ?_); clear ha; (try clear a); intro a ha
            refine wpList_k (st_set ha rfl (ex_move ha) rfl ?_); clear ha; (try clear a); intro a ha
            refine wpList_k (st_set ha rfl (ex_gtr ha) rfl ?_); clear ha; (try clear a); intro a ha
            refine wpList_k (st_set ha rfl (ex_eqlB ha Try.underlying4) rfl ?_); clear ha; (try clear a); intro a ha
            rw [show (decide (0 < B.done) == decide ((B.done : Int) > 0)) = true from by simp] at ha
            refine wpList_k (st_set ha rfl (ex_move ha) rfl ?_); clear ha; (try clear a); intro a ha
            refine wpList_k (st_set ha (wgT ha rfl (s := 159)) (ex_fieldAddr (k := 0) ha Try.underlying42 rfl Ty.t2 rfl) rfl ?_); clear ha; (try clear a); intro a ha
            refine wpList_k (st_set ha (wgT ha rfl (s := 159)) (ex_load1 ha Try.underlying2 rfl (hs.rd1 rfl)) rfl ?_); clear ha; (try clear a); intro a ha
            refine wpList_k (st_set ha (wgT ha rfl (s := 159)) (ex_move ha) rfl ?_); clear ha; (try clear a); intro a ha
            refine wpList_k (st_set ha (wgT ha rfl (s := 159)) (ex_eql ha) rfl ?_); clear ha; (try clear a); intro a ha
            refine wpList_k (st_set ha rfl (ex_pickT ha) rfl ?_); clear ha; (try clear a); intro a ha
            refine wpList_k (st_set ha rfl (ex_move ha) rfl ?_); clear ha; (try clear a); intro a ha
            refine ha.bool (s := 165) (fun hg10 ha => ?_) (fun hg10 ha => ?_)
            ·
              try simp only [decide_eq_true_eq, decide_eq_false_iff_not, Bool.not_eq_true', Bool.not_eq_false', Int.not_lt, Int.not_le, ne_eq, Decidable.not_not] at hg10
              refine wpList_k (st_set ha (wgT ha rfl (s := 165)) (ex_move ha) rfl ?_); clear ha; (try clear a); intro a ha
              refine wpList_k (st_set ha (wgT ha rfl (s := 165)) (ex_not ha) rfl ?_); clear ha; (try clear a); intro a ha
              refine wpList_k (st_set ha rfl (ex_pickT ha) rfl ?_); clear ha; (try clear a); intro a ha
              refine wpList_k (st_set ha rfl (ex_assign ha) rfl ?_); clear ha; (try clear a); intro a ha
              refine wpList_nil ?_
              refine then_n ?_
              refine wp_ret ?_
              refine ret1 ha rfl ?_
              first
                | exact absurd trivial hg10
                | (refine ⟨?_, hs.below⟩
                   simp [br0])
            ·
              try simp only [decide_eq_true_eq, decide_eq_false_iff_not, Bool.not_eq_true', Bool.not_eq_false', Int.not_lt, Int.not_le, ne_eq, Decidable.not_not] at hg10
              refine wpList_k (st_off ha (wgF ha rfl (s := 165) rfl) rfl ?_); clear ha; (try clear a); intro a ha
              refine wpList_k (st_off ha (wgF ha rfl (s := 165) rfl) rfl ?_); clear ha; (try clear a); intro a ha
              refine wpList_k (st_set ha rfl (ex_pickF ha) rfl ?_); clear ha; (try clear a); intro a ha
              refine wpList_k (st_set ha rfl (ex_assign ha) rfl ?_); clear ha; (try clear a); intro a ha
              refine wpList_nil ?_
              refine then_n ?_
              refine wp_ret ?_
              refine ret1 ha rfl ?_
              first
                | exact absurd trivial hg10
                | (refine ⟨?_, hs.below⟩
                   simp [br0])
end
end Go.Proofs.Ytkjmmchmanofkaa

