/- NetSpoil. -/
import Derived.Test.YtjaiojfmcpbkbaaNetOrd
import Derived.DataShut
namespace Go.Proofs.Ytjaiojfmcpbkbaa
open Go.RowKit
set_option linter.unusedVariables false
set_option linter.unusedSimpArgs false
set_option maxRecDepth 10000
set_option synthInstance.maxSize 4000
set_option synthInstance.maxHeartbeats 400000

/-- Is there such a byte? -/
def inn (bs : List UInt8) (at' : Int) : Bool := decide (0 ≤ at') && decide (at' < bs.length)
def sp (bs : List UInt8) (at' : Int) (x : UInt8) : List UInt8 := if inn bs at' then bs.set at'.toNat (bs.getD at'.toNat 0 ^^^ x) else bs
theorem sp_len (bs : List UInt8) (at' : Int) (x : UInt8) : (sp bs at' x).length = bs.length := by unfold sp; split <;> simp
theorem inn_sp (bs : List UInt8) (at' : Int) (x : UInt8) : inn (sp bs at' x) at' = inn bs at' := by simp only [inn, sp_len]
theorem sp_at (bs : List UInt8) (A : Nat) (x : UInt8) (h : A < bs.length) : (sp bs A x).getD A 0 = bs.getD A 0 ^^^ x := by
  have hi : inn bs A = true := by simp [inn]; omega
  rw [sp, hi, if_pos rfl, Int.toNat_natCast]
  simp [List.getD_eq_getElem?_getD, h]
theorem sp_sp (bs : List UInt8) (at' : Int) (x : UInt8) : sp (sp bs at' x) at' x = bs := by
  rw [sp, inn_sp]
  by_cases h : inn bs at' = true
  · rw [if_pos h]
    simp only [inn, Bool.and_eq_true, decide_eq_true_eq] at h
    obtain ⟨A, rfl⟩ : ∃ A : Nat, at' = A := ⟨at'.toNat, by omega⟩
    have hA : A < bs.length := by omega
    rw [Int.toNat_natCast, sp_at bs A x hA, UInt8.xor_assoc, UInt8.xor_self, UInt8.xor_zero]
    have hi : inn bs A = true := by simp [inn]; omega
    rw [sp, hi, if_pos rfl, Int.toNat_natCast, List.set_set, List.getD_eq_getElem?_getD, List.getElem?_eq_getElem hA, Option.getD_some, List.set_getElem_self]
  · rw [if_neg h, sp, if_neg h]

theorem look_at {W w : World} {L : List SP} {q : Nat} {ms : List Mm} {i : Nat} {f t : Int} {bs : List UInt8} (hs : St W w (Net q ms :: L)) (h : ms[i]? = some (f, t, bs)) :
    Calls Try.prog 12 #[.pointer (some ⟨q, 0, none⟩), .int .i64 i] w fun e w' => ∃ ad c, e = .returned (.tuple #[.agg #[.int .i64 f, .int .i64 t, .slice ad bs.length c], .bool true]) ∧ St W w' (Sl 5 1 ad bs.length c (bc bs) :: Net q ms :: L) := by
  obtain ⟨hi, he⟩ := List.getElem?_eq_some_iff.1 h
  have := look_in (i := i) hs hi
  rw [he] at this
  exact this
theorem take_at {W w : World} {L : List SP} {q : Nat} {ms : List Mm} {i : Nat} {f t : Int} {bs : List UInt8} (hs : St W w (Net q ms :: L)) (h : ms[i]? = some (f, t, bs)) :
    Calls Try.prog 13 #[.pointer (some ⟨q, 0, none⟩), .int .i64 i] w fun e w' => ∃ ad c, e = .returned (.tuple #[.agg #[.int .i64 f, .int .i64 t, .slice ad bs.length c], .bool true]) ∧ St W w' (Sl 5 1 ad bs.length c (bc bs) :: Net q (ms.eraseIdx i) :: L) := by
  obtain ⟨hi, he⟩ := List.getElem?_eq_some_iff.1 h
  have := take_in (i := i) hs hi
  rw [he] at this
  exact this
theorem spoil_at {W w : World} {L : List SP} {q : Nat} {ms : List Mm} {i : Nat} {f t at' : Int} {bs : List UInt8} {x : UInt8} (hs : St W w (Net q ms :: L)) (h : ms[i]? = some (f, t, bs)) :
    Calls Try.prog 16 #[.pointer (some ⟨q, 0, none⟩), .int .i64 i, .int .i64 at', .int .u8 (x.toNat : Int)] w fun e w' => e = .returned (.bool (inn bs at')) ∧ St W w' (Net q (ms.set i (f, t, sp bs at' x)) :: L) := by
  obtain ⟨hi, he⟩ := List.getElem?_eq_some_iff.1 h
  have := spoil_in (i := i) (at' := at') (x := x) hs hi
  rw [he] at this
  refine this.mono fun e w' ⟨h1, hs⟩ => ⟨h1, ?_⟩
  by_cases hh : inn bs at' = true
  · rw [sp, if_pos hh]
    have hs2 : St W w' (Net q (if inn bs at' = true then ms.set i (f, t, bs.set at'.toNat (bs.getD at'.toNat 0 ^^^ x)) else ms) :: L) := hs
    rw [if_pos hh] at hs2
    exact hs2
  · rw [sp, if_neg hh, ← he, List.set_getElem_self]
    have hs2 : St W w' (Net q (if inn bs at' = true then ms.set i (f, t, bs.set at'.toNat (bs.getD at'.toNat 0 ^^^ x)) else ms) :: L) := hs
    rw [if_neg hh] at hs2
    exact hs2

theorem u8of {x : Int} (h : (Lit.int .u8 x).wf = true) : x = ((UInt8.ofNat x.toNat).toNat : Int) := by
  have hr := (Lit.wf_int_iff .u8 x).1 h
  have h1 : IntKind.u8.min = 0 := by decide
  have h2 : IntKind.u8.max = 255 := by decide
  rw [h1, h2] at hr
  rw [UInt8.toNat_ofNat']
  omega
/-- Bytes that came in. -/
theorem ArgInts.bytes {W : World} {a : Option Addr} {len cap : Nat} {z : List Int} (h : ArgInts .u8 W a len cap z) : ∃ bs : List UInt8, bs.length = len ∧ ∀ w L, St W w L → RdB w a len bs := by
  refine ⟨(z.take len).map (fun n => UInt8.ofNat n.toNat), ?_, fun w L hs => ?_⟩
  · have := h.len_le; simp; omega
  · have hl := h.len_le
    have hz : ∀ n ∈ z, (Lit.int .u8 n).wf = true := by
      rcases h with ⟨_, _, _, rfl⟩ | ⟨x, _, _, _, _, _, hw⟩
      · intro n hn; cases hn
      · exact hw
    refine ⟨by simp; omega, fun e => ?_, fun x hx hp => ?_⟩
    · rcases h with ⟨_, h, _, _⟩ | ⟨x, rfl, _⟩
      · exact h
      · cases e
    · obtain ⟨b, off, rfl, hb, _, hc⟩ := h.get hp
      refine ⟨b, off, by cases hx; rfl, fun j v hj => ?_⟩
      have hj2 := (List.getElem?_eq_some_iff.1 hj).1
      rw [bc_len, List.length_map, List.length_take] at hj2
      rw [hs.old hb]
      have := hc j (by omega)
      rw [Nat.mul_one] at this
      rw [this, ← hj]
      have hzj : z.getD j 0 ∈ z := by rw [List.getD_eq_getElem?_getD, List.getElem?_eq_getElem (by omega), Option.getD_some]; exact List.getElem_mem _
      have hw := hz _ hzj
      have hu := u8of hw
      simp only [bc, List.getElem?_map, List.getElem?_take]
      rw [if_pos (by omega), List.getElem?_eq_getElem (by omega)]
      simp only [Option.map_some]
      rw [List.getD_eq_getElem?_getD, List.getElem?_eq_getElem (by omega), Option.getD_some] at hu ⊢
      rw [← hu]
theorem RdB.at {w : World} {a : Option Addr} {len : Nat} {bs : List UInt8} (h : RdB w a len bs) {A : Nat} (hA : A < len) : ∃ b off, a = some ⟨b, off, none⟩ ∧ w.cell? ⟨b, off + A * 1, none⟩ = some (.int .u8 ((bs.getD A 0).toNat : Int)) := by
  obtain ⟨h1, h2, h3⟩ := h
  cases a with
  | none => have := h2 rfl; omega
  | some x =>
    obtain ⟨b, off, rfl, hr⟩ := h3 x rfl (by omega)
    refine ⟨b, off, rfl, ?_⟩
    have := hr A (.int .u8 ((bs.getD A 0).toNat : Int)) (by simp [bc, List.getD_eq_getElem?_getD, List.getElem?_eq_getElem (show A < bs.length by omega)])
    rw [Nat.mul_one]; exact this

theorem netSpoil_walk (a : Option Addr) (la ca : Nat) (za : List Int) (b : Option Addr) (lb cb : Nat) (zb : List Int) (at' x : Int) (W : World) (w0 : ArgInts .u8 W a la ca za) (w1 : ArgInts .u8 W b lb cb zb) (w2 : (Lit.int .i64 at').wf = true) (w3 : (Lit.int .u8 x).wf = true) :
    Calls Try.prog 7 #[.slice a la ca, .slice b lb cb, .int .i64 at', .int .u8 x] W fun e w' => e = .returned (.bool true) ∧ Below W.heap.size W w' := by
  have hs := St.start W
  obtain ⟨av, hal, har⟩ := w0.bytes
  obtain ⟨bs, hbl, hbr⟩ := w1.bytes
  obtain ⟨x, rfl⟩ : ∃ y : UInt8, x = (y.toNat : Int) := ⟨_, u8of w3⟩
  refine calls_enter Try.func7 rfl Try.ntmps7 (Nat.le_of_ble_eq_true rfl) ?_
  intro a ha
  replace ha : Fr a 108 [(0, _), (1, _), (2, _), (3, _)] := ha
  refine wp_seq ?_
  refine wp_region_lit ?_
  refine wpList_k (st_set ha rfl (ex_assign ha) rfl ?_); clear ha; (try clear a); intro a ha
  refine wpList_nil ?_
  refine then_n ?_
  refine wp_seq ?_
  refine wp_region_lit ?_
  refine wpList_k (st_call ha rfl Ty.c8 rfl (begun16 hs) ?_); clear ha hs
  rintro e w ⟨rfl, hs⟩
  refine ⟨_, rfl, ?_⟩
  intro a ha
  refine wpList_k (st_set ha rfl (ex_assign ha) rfl ?_); clear ha; (try clear a); intro a ha
  refine wpList_nil ?_
  refine then_n ?_
  refine wp_seq ?_
  refine wp_seq ?_
  refine wp_region_lit ?_
  refine wpList_k (st_set ha rfl (ex_move ha) rfl ?_); clear ha; (try clear a); intro a ha
  refine wpList_k (st_set ha rfl (ex_not ha) rfl ?_); clear ha; (try clear a); intro a ha
  refine wpList_nil ?_
  refine then_n ?_
  refine wp_ifF ha ?_
  refine wp_skip ?_
  refine then_n ?_
  refine wp_seq ?_
  refine wp_seq ?_
  refine wp_region_lit ?_
  refine wpList_k (st_set ha rfl (ex_move ha) rfl ?_); clear ha; (try clear a); intro a ha
  refine wpList_k (st_set ha rfl (ex_len ha Try.underlying27) rfl ?_); clear ha; (try clear a); intro a ha
  refine wpList_k (st_set ha rfl (ex_gtr ha) rfl ?_); clear ha; (try clear a); intro a ha
  refine wpList_k (st_set ha rfl (ex_move ha) rfl ?_); clear ha; (try clear a); intro a ha
  refine ha.bool (s := 24) (fun hg3 ha => ?_) (fun hg3 ha => ?_)
  ·
    try simp only [decide_eq_true_eq, decide_eq_false_iff_not, Bool.not_eq_true', Bool.not_eq_false', Int.not_lt, Int.not_le, ne_eq, Decidable.not_not] at hg3
    skip
    refine wpList_k (st_off ha (wgF ha rfl (s := 24) rfl) rfl ?_); clear ha; (try clear a); intro a ha
    refine wpList_k (st_off ha (wgF ha rfl (s := 24) rfl) rfl ?_); clear ha; (try clear a); intro a ha
    refine wpList_k (st_off ha (wgF ha rfl (s := 24) rfl) rfl ?_); clear ha; (try clear a); intro a ha
    refine wpList_k (st_set ha rfl (ex_pickT ha) rfl ?_); clear ha; (try clear a); intro a ha
    refine wpList_nil ?_
    refine then_n ?_
    refine wp_ifT ha ?_
    refine wp_seq ?_
    refine wp_region_lit ?_
    replace ha := ha.del 8
    refine wpList_k (st_set ha rfl (ex_assign ha) rfl ?_); clear ha; (try clear a); intro a ha
    refine wpList_nil ?_
    refine then_n ?_
    refine wp_ret <| then_r ?_
    refine ret1 ha rfl ?_
    exact ⟨rfl, hs.below⟩
  ·
    try simp only [decide_eq_true_eq, decide_eq_false_iff_not, Bool.not_eq_true', Bool.not_eq_false', Int.not_lt, Int.not_le, ne_eq, Decidable.not_not] at hg3
    refine wpList_k (st_set ha (wgT ha rfl (s := 24)) (ex_move ha) rfl ?_); clear ha; (try clear a); intro a ha
    refine wpList_k (st_set ha (wgT ha rfl (s := 24)) (ex_len ha Try.underlying27) rfl ?_); clear ha; (try clear a); intro a ha
    refine wpList_k (st_set ha (wgT ha rfl (s := 24)) (ex_gtr ha) rfl ?_); clear ha; (try clear a); intro a ha
    refine wpList_k (st_set ha rfl (ex_pickF ha) rfl ?_); clear ha; (try clear a); intro a ha
    refine wpList_nil ?_
    refine then_n ?_
    refine wp_if ha (fun hc1 => ?_) (fun hc1 => ?_)
    ·
      try simp only [decide_eq_true_eq, decide_eq_false_iff_not, Bool.not_eq_true', Bool.not_eq_false', Int.not_lt, Int.not_le, ne_eq, Decidable.not_not] at hc1
      refine wp_seq ?_
      refine wp_region_lit ?_
      replace ha := ha.del 8
      refine wpList_k (st_set ha rfl (ex_assign ha) rfl ?_); clear ha; (try clear a); intro a ha
      refine wpList_nil ?_
      refine then_n ?_
      refine wp_ret <| then_r ?_
      refine ret1 ha rfl ?_
      exact ⟨rfl, hs.below⟩
    ·
      try simp only [decide_eq_true_eq, decide_eq_false_iff_not, Bool.not_eq_true', Bool.not_eq_false', Int.not_lt, Int.not_le, ne_eq, Decidable.not_not] at hc1
      refine wp_skip ?_
      refine then_n ?_
      refine wp_seq ?_
      refine wp_region_lit ?_
      refine wpList_k (st_call ha rfl Ty.c9 rfl (new_spec hs) ?_); clear ha hs
      rintro e w ⟨q, rfl, hs⟩
      refine ⟨_, rfl, ?_⟩
      intro a ha
      refine wpList_k (st_set ha rfl (ex_assign ha) rfl ?_); clear ha; (try clear a); intro a ha
      refine wpList_nil ?_
      refine then_n ?_
      refine wp_seq ?_
      refine wp_region_lit ?_
      refine wpList_k (st_set ha rfl (ex_move ha) rfl ?_); clear ha; (try clear a); intro a ha
      refine wpList_k (st_set ha rfl (ex_move ha) rfl ?_); clear ha; (try clear a); intro a ha
      refine wpList_k (st_set ha rfl (ex_build ha Ty.b29 Ty.t29 rfl) rfl ?_); clear ha; (try clear a); intro a ha
      refine wpList_k (st_call ha rfl Ty.c11 rfl (send_spec (bs := av) (hs.net q) (fun w' h => har w' _ h)) ?_); clear ha hs
      rintro e w ⟨rfl, hs⟩
      refine ⟨_, rfl, ?_⟩
      intro a ha
      rw [show maySend [] la = true from by simp only [maySend, List.length_nil, Bool.and_eq_true, decide_eq_true_eq]; omega] at hs
      change St W w (Net q [(1, 0, av)] :: _) at hs
      refine wpList_nil ?_
      refine then_n ?_
      refine wp_seq ?_
      refine wp_region_lit ?_
      refine wpList_k (st_set ha rfl (ex_move ha) rfl ?_); clear ha; (try clear a); intro a ha
      refine wpList_k (st_set ha rfl (ex_move ha) rfl ?_); clear ha; (try clear a); intro a ha
      refine wpList_k (st_set ha rfl (ex_build ha Ty.b29 Ty.t29 rfl) rfl ?_); clear ha; (try clear a); intro a ha
      refine wpList_k (st_call ha rfl Ty.c11 rfl (send_spec (bs := bs) (hs.net q) (fun w' h => hbr w' _ h)) ?_); clear ha hs
      rintro e w ⟨rfl, hs⟩
      refine ⟨_, rfl, ?_⟩
      intro a ha
      rw [show maySend [(1, 0, av)] lb = true from by simp only [maySend, List.length_cons, List.length_nil, Bool.and_eq_true, decide_eq_true_eq]; omega] at hs
      change St W w (Net q [(1, 0, av), (2, 0, bs)] :: _) at hs
      refine wpList_nil ?_
      refine then_n ?_
      refine wp_seq ?_
      refine wp_region_lit ?_
      refine wpList_k (st_set ha rfl (ex_move ha) rfl ?_); clear ha; (try clear a); intro a ha
      refine wpList_k (st_set ha rfl (ex_geq ha) rfl ?_); clear ha; (try clear a); intro a ha
      refine wpList_k (st_set ha rfl (ex_move ha) rfl ?_); clear ha; (try clear a); intro a ha
      refine ha.bool (s := 40) (fun hg2 ha => ?_) (fun hg2 ha => ?_)
      ·
        try simp only [decide_eq_true_eq, decide_eq_false_iff_not, Bool.not_eq_true', Bool.not_eq_false', Int.not_lt, Int.not_le, ne_eq, Decidable.not_not] at hg2
        refine wpList_k (st_set ha (wgT ha rfl (s := 40)) (ex_move ha) rfl ?_); clear ha; (try clear a); intro a ha
        refine wpList_k (st_set ha (wgT ha rfl (s := 40)) (ex_move ha) rfl ?_); clear ha; (try clear a); intro a ha
        refine wpList_k (st_set ha (wgT ha rfl (s := 40)) (ex_len ha Try.underlying27) rfl ?_); clear ha; (try clear a); intro a ha
        refine wpList_k (st_set ha (wgT ha rfl (s := 40)) (ex_lss ha) rfl ?_); clear ha; (try clear a); intro a ha
        refine wpList_k (st_set ha rfl (ex_pickT ha) rfl ?_); clear ha; (try clear a); intro a ha
        refine wpList_k (st_set ha rfl (ex_assign ha) rfl ?_); clear ha; (try clear a); intro a ha
        refine wpList_nil ?_
        rw [show decide (at' < (la : Int)) = inn av at' from by rw [inn, hal, decide_eq_true (p := 0 ≤ at') (by omega), Bool.true_and]] at ha
        refine then_n ?_
        refine wp_seq ?_
        refine wp_seq ?_
        refine wp_region_lit ?_
        refine wpList_k (st_set ha rfl (ex_move ha) rfl ?_); clear ha; (try clear a); intro a ha
        refine wpList_k (st_set ha rfl (ex_move ha) rfl ?_); clear ha; (try clear a); intro a ha
        refine wpList_k (st_set ha rfl (ex_move ha) rfl ?_); clear ha; (try clear a); intro a ha
        refine wpList_k (st_call ha rfl Ty.c16 rfl (spoil_at (i := 0) (hs.net q) rfl) ?_); clear ha hs
        rintro e w ⟨rfl, hs⟩
        refine ⟨_, rfl, ?_⟩
        intro a ha
        try rw [hin] at ha
        change St W w (Net q [(1, 0, sp av at' x), (2, 0, bs)] :: _) at hs
        refine wpList_k (st_set ha rfl (ex_move ha) rfl ?_); clear ha; (try clear a); intro a ha
        refine wpList_k (st_set ha rfl (ex_neqB ha Try.underlying4) rfl ?_); clear ha; (try clear a); intro a ha
        rw [bne_self_eq_false] at ha
        refine wpList_nil ?_
        refine then_n ?_
        refine wp_ifF ha ?_
        refine wp_skip ?_
        refine then_n ?_
        refine wp_seq ?_
        refine wp_region_lit ?_
        refine wpList_k (st_set ha rfl (ex_move ha) rfl ?_); clear ha; (try clear a); intro a ha
        refine wpList_k (st_call ha rfl Ty.c12 rfl (look_at (i := 0) (hs.net q) rfl) ?_); clear ha hs
        rintro e w ⟨ad1, c1, rfl, hs⟩
        refine ⟨_, rfl, ?_⟩
        intro a ha
        rw [sp_len] at ha hs
        refine wpList_k (st_set ha rfl (ex_move ha) rfl ?_); clear ha; (try clear a); intro a ha
        refine wpList_k (st_set ha rfl (ex_extract ha rfl) rfl ?_); clear ha; (try clear a); intro a ha
        refine wpList_k (st_set ha rfl (ex_extract ha rfl) rfl ?_); clear ha; (try clear a); intro a ha
        refine wpList_k (st_alloc ha rfl hs Ty.t29 rfl ?_); clear ha hs; (try clear a); (try clear w); intro b12 a w ha hs ho
        clear ho
        refine wpList_k (st_storeAll ha rfl hs Ty.t29 (by simp [Value.oneCell']) (by rfl) ?_); clear ha hs; (try clear a); (try clear w); intro a w ha hs
        refine wpList_k (st_set ha rfl (ex_assign ha) rfl ?_); clear ha; (try clear a); intro a ha
        refine wpList_nil ?_
        refine then_n ?_
        refine wp_seq ?_
        refine wp_seq ?_
        refine wp_draw (m := 27) (l0 := #[false, false, false, false, false, false, false, false, false, false, false, false, false, false, false, false, false, false, false, false, false, false, false, false, false, false, false]) (Old w.drew) [10, 12] Ty.mixed (by kernel_rfl) (by kernel_rfl) ?_
        replace hs := hs.drew
        have hC := Old.refl w.drew
        generalize w.drew = w at hs hC ⊢
        refine nt_pure (i := 0) (listed' := #[true, false, false, false, false, false, false, false, false, false, false, false, false, false, false, false, false, false, false, false, false, false, false, false, false, false, false]) (by kernel_rfl) rfl (by kernel_rfl) (by decide) (pk_then (pk_then pk_body)) ha rfl (fun w => ex_move ha) rfl ?_; clear ha; (try clear a); intro a ha
        refine nt_pure (i := 1) (listed' := #[true, true, false, false, false, false, false, false, false, false, false, false, false, false, false, false, false, false, false, false, false, false, false, false, false, false, false]) (by kernel_rfl) rfl (by kernel_rfl) (by decide) (pk_then (pk_then pk_body)) ha rfl (fun w => ex_move ha) rfl ?_; clear ha; (try clear a); intro a ha
        refine ha.bool (s := 58) (fun hg1 ha => ?_) (fun hg1 ha => ?_)
        ·
          try simp only [decide_eq_true_eq, decide_eq_false_iff_not, Bool.not_eq_true', Bool.not_eq_false', Int.not_lt, Int.not_le, ne_eq, Decidable.not_not] at hg1
          obtain ⟨A, rfl⟩ : ∃ A : Nat, at' = A := ⟨at'.toNat, by simp [inn] at hg1; omega⟩
          have hA : A < av.length := by simp [inn] at hg1; omega
          obtain ⟨b', off', rfl, h6⟩ := (hs.rdB ad1 (sp av A x) rfl (sp_len _ _ _)).at (A := A) hA
          obtain ⟨ba, offa, rfl, h10⟩ := (har _ _ hs).at (A := A) (by omega)
          rw [sp_at av A x hA] at h6
          refine nt_pure (i := 2) (listed' := #[true, true, true, false, false, false, false, false, false, false, false, false, false, false, false, false, false, false, false, false, false, false, false, false, false, false, false]) (by kernel_rfl) rfl (by kernel_rfl) (by decide) (pk_then (pk_then pk_body)) ha (wgT ha rfl (s := 58)) (fun w => ex_fieldAddr ha Try.underlying29 rfl Ty.t27 rfl) rfl ?_; clear ha; (try clear a); intro a ha
          refine nt_pure (i := 4) (listed' := #[true, true, true, false, true, false, false, false, false, false, false, false, false, false, false, false, false, false, false, false, false, false, false, false, false, false, false]) (by kernel_rfl) rfl (by kernel_rfl) (by decide) (pk_then (pk_then pk_body)) ha (wgT ha rfl (s := 58)) (fun w => ex_move ha) rfl ?_; clear ha; (try clear a); intro a ha
          refine nt_pure (i := 7) (listed' := #[true, true, true, false, true, false, false, true, false, false, false, false, false, false, false, false, false, false, false, false, false, false, false, false, false, false, false]) (by kernel_rfl) rfl (by kernel_rfl) (by decide) (pk_then (pk_then pk_body)) ha (wgT ha rfl (s := 58)) (fun w => ex_move ha) rfl ?_; clear ha; (try clear a); intro a ha
          refine nt_pure (i := 8) (listed' := #[true, true, true, false, true, false, false, true, true, false, false, false, false, false, false, false, false, false, false, false, false, false, false, false, false, false, false]) (by kernel_rfl) rfl (by kernel_rfl) (by decide) (pk_then (pk_then pk_body)) ha (wgT ha rfl (s := 58)) (fun w => ex_move ha) rfl ?_; clear ha; (try clear a); intro a ha
          refine nt_pure (i := 9) (listed' := #[true, true, true, false, true, false, false, true, true, true, false, false, false, false, false, false, false, false, false, false, false, false, false, false, false, false, false]) (by kernel_rfl) rfl (by kernel_rfl) (by decide) (pk_then (pk_then pk_body)) ha (wgT ha rfl (s := 58)) (fun w => ex_indexAddr ha Try.underlying27 Ty.t5 (by omega)) rfl ?_; clear ha; (try clear a); intro a ha
          refine nt_pure (i := 11) (listed' := #[true, true, true, false, true, false, false, true, true, true, false, true, false, false, false, false, false, false, false, false, false, false, false, false, false, false, false]) (by kernel_rfl) rfl (by kernel_rfl) (by decide) (pk_then (pk_then pk_body)) ha (wgT ha rfl (s := 58)) (fun w => ex_move ha) rfl ?_; clear ha; (try clear a); intro a ha
          refine nt_held (i := 3) (listed' := #[true, true, true, true, true, false, false, true, true, true, false, true, false, false, false, false, false, false, false, false, false, false, false, false, false, false, false]) (by kernel_rfl) rfl (by kernel_rfl) (pk_then (pk_then pk_body)) ha (wgT ha rfl (s := 58)) (fun w hc => ex_load1 ha Try.underlying27 rfl (hc.cell (hs.rd1 rfl))) hC rfl ?_; clear ha; (try clear a); intro a ha
          refine nt_pure (i := 5) (listed' := #[true, true, true, true, true, true, false, true, true, true, false, true, false, false, false, false, false, false, false, false, false, false, false, false, false, false, false]) (by kernel_rfl) rfl (by kernel_rfl) (by decide) (pk_then (pk_then pk_body)) ha (wgT ha rfl (s := 58)) (fun w => ex_indexAddr ha Try.underlying27 Ty.t5 (by omega)) rfl ?_; clear ha; (try clear a); intro a ha
          refine nt_held (i := 6) (listed' := #[true, true, true, true, true, true, true, true, true, true, false, true, false, false, false, false, false, false, false, false, false, false, false, false, false, false, false]) (by kernel_rfl) rfl (by kernel_rfl) (pk_then (pk_then pk_body)) ha (wgT ha rfl (s := 58)) (fun w hc => ex_load1 ha Try.underlying5 rfl (hc.cell (h6))) hC rfl ?_; clear ha; (try clear a); intro a ha
          refine nt_one (i := 10) (listed' := #[true, true, true, true, true, true, true, true, true, true, true, true, false, false, false, false, false, false, false, false, false, false, false, false, false, false, false]) (by kernel_rfl) (by kernel_rfl) rfl (st_set ha (wgT ha rfl (s := 58)) (ex_load1 ha Try.underlying5 rfl (h10)) rfl ?_); clear ha; (try clear a); intro a ha
          refine ⟨fun _ => hC, ?_⟩
          refine nt_one (i := 12) (listed' := #[true, true, true, true, true, true, true, true, true, true, true, true, true, false, false, false, false, false, false, false, false, false, false, false, false, false, false]) (by kernel_rfl) (by kernel_rfl) rfl (st_set ha (wgT ha rfl (s := 58)) (ex_xor8 ha) rfl ?_); clear ha; (try clear a); intro a ha
          refine ⟨fun _ => hC, ?_⟩
          refine nt_pure (i := 13) (listed' := #[true, true, true, true, true, true, true, true, true, true, true, true, true, true, false, false, false, false, false, false, false, false, false, false, false, false, false]) (by kernel_rfl) rfl (by kernel_rfl) (by decide) (pk_then (pk_then pk_body)) ha (wgT ha rfl (s := 58)) (fun w => ex_neq ha) rfl ?_; clear ha; (try clear a); intro a ha
          rw [dneI] at ha
          refine nt_pure (i := 14) (listed' := #[true, true, true, true, true, true, true, true, true, true, true, true, true, true, true, false, false, false, false, false, false, false, false, false, false, false, false]) (by kernel_rfl) rfl (by kernel_rfl) (by decide) (pk_then (pk_then pk_body)) ha rfl (fun w => ex_pickT ha) rfl ?_; clear ha; (try clear a); intro a ha
          refine nt_pure (i := 15) (listed' := #[true, true, true, true, true, true, true, true, true, true, true, true, true, true, true, true, false, false, false, false, false, false, false, false, false, false, false]) (by kernel_rfl) rfl (by kernel_rfl) (by decide) (pk_then (pk_then pk_body)) ha rfl (fun w => ex_move ha) rfl ?_; clear ha; (try clear a); intro a ha
          refine nt_pure (i := 16) (listed' := #[true, true, true, true, true, true, true, true, true, true, true, true, true, true, true, true, true, false, false, false, false, false, false, false, false, false, false]) (by kernel_rfl) rfl (by kernel_rfl) (by decide) (pk_then (pk_then pk_body)) ha (wgT ha rfl (s := 72)) (fun w => ex_move ha) rfl ?_; clear ha; (try clear a); intro a ha
          refine nt_pure (i := 17) (listed' := #[true, true, true, true, true, true, true, true, true, true, true, true, true, true, true, true, true, true, false, false, false, false, false, false, false, false, false]) (by kernel_rfl) rfl (by kernel_rfl) (by decide) (pk_then (pk_then pk_body)) ha (wgT ha rfl (s := 72)) (fun w => ex_move ha) rfl ?_; clear ha; (try clear a); intro a ha
          refine nt_pure (i := 18) (listed' := #[true, true, true, true, true, true, true, true, true, true, true, true, true, true, true, true, true, true, true, false, false, false, false, false, false, false, false]) (by kernel_rfl) rfl (by kernel_rfl) (by decide) (pk_then (pk_then pk_body)) ha (wgT ha rfl (s := 72)) (fun w => ex_move ha) rfl ?_; clear ha; (try clear a); intro a ha
          refine nt_pure (i := 20) (listed' := #[true, true, true, true, true, true, true, true, true, true, true, true, true, true, true, true, true, true, true, false, true, false, false, false, false, false, false]) (by kernel_rfl) rfl (by kernel_rfl) (by decide) (pk_then (pk_then pk_body)) ha (wgT ha rfl (s := 72)) (fun w => ex_move ha) rfl ?_; clear ha; (try clear a); intro a ha
          refine nt_one (i := 19) (listed' := #[true, true, true, true, true, true, true, true, true, true, true, true, true, true, true, true, true, true, true, true, true, false, false, false, false, false, false]) (by kernel_rfl) (by kernel_rfl) rfl (st_call ha (wgT ha rfl (s := 72)) Ty.c16 rfl (spoil_at (i := 0) (hs.net q) rfl) ?_); clear ha hs
          rintro e w ⟨rfl, hs⟩
          refine ⟨_, rfl, ?_⟩
          intro a ha
          refine ⟨fun h => absurd h (by decide), ?_⟩
          rw [inn_sp] at ha
          simp only [List.set_cons_zero] at hs
          rw [sp_sp] at hs
          refine nt_pure (i := 21) (listed' := #[true, true, true, true, true, true, true, true, true, true, true, true, true, true, true, true, true, true, true, true, true, true, false, false, false, false, false]) (by kernel_rfl) rfl (by kernel_rfl) (by decide) (pk_then (pk_then pk_body)) ha (wgT ha rfl (s := 72)) (fun w => ex_neqB ha Try.underlying4) rfl ?_; clear ha; (try clear a); intro a ha
          rw [bne_self_eq_false] at ha
          refine nt_pure (i := 22) (listed' := #[true, true, true, true, true, true, true, true, true, true, true, true, true, true, true, true, true, true, true, true, true, true, true, false, false, false, false]) (by kernel_rfl) rfl (by kernel_rfl) (by decide) (pk_then (pk_then pk_body)) ha rfl (fun w => ex_pickF ha) rfl ?_; clear ha; (try clear a); intro a ha
          refine nt_pure (i := 23) (listed' := #[true, true, true, true, true, true, true, true, true, true, true, true, true, true, true, true, true, true, true, true, true, true, true, true, false, false, false]) (by kernel_rfl) rfl (by kernel_rfl) (by decide) (pk_then (pk_then pk_body)) ha rfl (fun w => ex_move ha) rfl ?_; clear ha; (try clear a); intro a ha
          refine nt_pure (i := 24) (listed' := #[true, true, true, true, true, true, true, true, true, true, true, true, true, true, true, true, true, true, true, true, true, true, true, true, true, false, false]) (by kernel_rfl) rfl (by kernel_rfl) (by decide) (pk_then (pk_then pk_body)) ha (wgT ha rfl (s := 80)) (fun w => ex_move ha) rfl ?_; clear ha; (try clear a); intro a ha
          refine nt_one (i := 25) (listed' := #[true, true, true, true, true, true, true, true, true, true, true, true, true, true, true, true, true, true, true, true, true, true, true, true, true, true, false]) (by kernel_rfl) (by kernel_rfl) rfl (st_call ha (wgT ha rfl (s := 80)) Ty.c16 rfl (spoil_out (x := 1) (hs.net q) (by simp)) ?_); clear ha hs
          rintro e w ⟨rfl, hs⟩
          refine ⟨_, rfl, ?_⟩
          intro a ha
          refine ⟨fun h => absurd h (by decide), ?_⟩
          refine nt_pure (i := 26) (listed' := #[true, true, true, true, true, true, true, true, true, true, true, true, true, true, true, true, true, true, true, true, true, true, true, true, true, true, true]) (by kernel_rfl) rfl (by kernel_rfl) (by decide) (pk_then (pk_then pk_body)) ha rfl (fun w => ex_pickF ha) rfl ?_; clear ha; (try clear a); intro a ha
          refine nt_done (by kernel_rfl) ?_ _
          refine then_n ?_
          refine wp_ifF ha ?_
          refine wp_skip ?_
          refine then_n ?_
          refine wp_seq ?_
          refine wp_region_lit ?_
          refine wpList_k (st_set ha rfl (ex_move ha) rfl ?_); clear ha; (try clear a); intro a ha
          refine wpList_k (st_call ha rfl Ty.c12 rfl (look_at (i := 0) (hs.net q) rfl) ?_); clear ha hs
          rintro e w ⟨ad2, c2, rfl, hs⟩
          refine ⟨_, rfl, ?_⟩
          intro a ha
          refine wpList_k (st_set ha rfl (ex_move ha) rfl ?_); clear ha; (try clear a); intro a ha
          refine wpList_k (st_set ha rfl (ex_extract ha rfl) rfl ?_); clear ha; (try clear a); intro a ha
          refine wpList_k (st_set ha rfl (ex_extract ha rfl) rfl ?_); clear ha; (try clear a); intro a ha
          refine wpList_k (st_alloc ha rfl hs Ty.t29 rfl ?_); clear ha hs; (try clear a); (try clear w); intro b14 a w ha hs ho
          clear ho
          refine wpList_k (st_storeAll ha rfl hs Ty.t29 (by simp [Value.oneCell']) (by rfl) ?_); clear ha hs; (try clear a); (try clear w); intro a w ha hs
          refine wpList_k (st_set ha rfl (ex_assign ha) rfl ?_); clear ha; (try clear a); intro a ha
          refine wpList_nil ?_
          refine then_n ?_
          refine wp_seq ?_
          refine wp_region_lit ?_
          refine wpList_k (st_set ha rfl (ex_move ha) rfl ?_); clear ha; (try clear a); intro a ha
          refine wpList_k (st_call ha rfl Ty.c12 rfl (look_at (i := 1) (hs.net q) rfl) ?_); clear ha hs
          rintro e w ⟨ad3, c3, rfl, hs⟩
          refine ⟨_, rfl, ?_⟩
          intro a ha
          refine wpList_k (st_set ha rfl (ex_move ha) rfl ?_); clear ha; (try clear a); intro a ha
          refine wpList_k (st_set ha rfl (ex_extract ha rfl) rfl ?_); clear ha; (try clear a); intro a ha
          refine wpList_k (st_set ha rfl (ex_extract ha rfl) rfl ?_); clear ha; (try clear a); intro a ha
          refine wpList_k (st_alloc ha rfl hs Ty.t29 rfl ?_); clear ha hs; (try clear a); (try clear w); intro b16 a w ha hs ho
          clear ho
          refine wpList_k (st_storeAll ha rfl hs Ty.t29 (by simp [Value.oneCell']) (by rfl) ?_); clear ha hs; (try clear a); (try clear w); intro a w ha hs
          refine wpList_k (st_set ha rfl (ex_assign ha) rfl ?_); clear ha; (try clear a); intro a ha
          refine wpList_nil ?_
          refine then_n ?_
          refine wp_seq ?_
          refine wp_region_lit ?_
          refine wpList_k (st_set ha rfl (ex_fieldAddr ha Try.underlying29 rfl Ty.t27 rfl) rfl ?_); clear ha; (try clear a); intro a ha
          refine wpList_k (st_set ha rfl (ex_load1 ha Try.underlying27 rfl (hs.rd1 rfl)) rfl ?_); clear ha; (try clear a); intro a ha
          refine wpList_k (st_set ha rfl (ex_toString ha Try.underlying27 Try.underlying5 Try.underlying9 (hs.rdB ad2 av rfl rfl)) rfl ?_); clear ha; (try clear a); intro a ha
          refine wpList_k (st_set ha rfl (ex_move ha) rfl ?_); clear ha; (try clear a); intro a ha
          refine wpList_k (st_set ha rfl (ex_toString ha Try.underlying27 Try.underlying5 Try.underlying9 (har _ _ hs)) rfl ?_); clear ha; (try clear a); intro a ha
          refine wpList_k (st_set ha rfl (ex_eqlS ha) rfl ?_); clear ha; (try clear a); intro a ha
          rw [beq_self_eq_true] at ha
          refine wpList_k (st_set ha rfl (ex_move ha) rfl ?_); clear ha; (try clear a); intro a ha
          refine wpList_k (st_set ha (wgT ha rfl (s := 100)) (ex_fieldAddr ha Try.underlying29 rfl Ty.t27 rfl) rfl ?_); clear ha; (try clear a); intro a ha
          refine wpList_k (st_set ha (wgT ha rfl (s := 100)) (ex_load1 ha Try.underlying27 rfl (hs.rd1 rfl)) rfl ?_); clear ha; (try clear a); intro a ha
          refine wpList_k (st_set ha (wgT ha rfl (s := 100)) (ex_toString ha Try.underlying27 Try.underlying5 Try.underlying9 (hs.rdB ad3 bs rfl rfl)) rfl ?_); clear ha; (try clear a); intro a ha
          refine wpList_k (st_set ha (wgT ha rfl (s := 100)) (ex_move ha) rfl ?_); clear ha; (try clear a); intro a ha
          refine wpList_k (st_set ha (wgT ha rfl (s := 100)) (ex_toString ha Try.underlying27 Try.underlying5 Try.underlying9 (hbr _ _ hs)) rfl ?_); clear ha; (try clear a); intro a ha
          refine wpList_k (st_set ha (wgT ha rfl (s := 100)) (ex_eqlS ha) rfl ?_); clear ha; (try clear a); intro a ha
          rw [beq_self_eq_true] at ha
          refine wpList_k (st_set ha rfl (ex_pickT ha) rfl ?_); clear ha; (try clear a); intro a ha
          replace ha := ha.del 8
          refine wpList_k (st_set ha rfl (ex_assign ha) rfl ?_); clear ha; (try clear a); intro a ha
          refine wpList_nil ?_
          refine then_n ?_
          refine wp_ret ?_
          refine ret1 ha rfl ?_
          exact ⟨rfl, hs.below⟩
        ·
          try simp only [decide_eq_true_eq, decide_eq_false_iff_not, Bool.not_eq_true', Bool.not_eq_false', Int.not_lt, Int.not_le, ne_eq, Decidable.not_not] at hg1
          have hin : inn av at' = false := hg1
          refine nt_off (i := 2) (listed' := #[true, true, true, false, false, false, false, false, false, false, false, false, false, false, false, false, false, false, false, false, false, false, false, false, false, false, false]) (by kernel_rfl) rfl (by kernel_rfl) (by decide) (pk_then (pk_then pk_body)) ha (wgF ha rfl (s := 58) rfl) rfl ?_; clear ha; (try clear a); intro a ha
          refine nt_off (i := 4) (listed' := #[true, true, true, false, true, false, false, false, false, false, false, false, false, false, false, false, false, false, false, false, false, false, false, false, false, false, false]) (by kernel_rfl) rfl (by kernel_rfl) (by decide) (pk_then (pk_then pk_body)) ha (wgF ha rfl (s := 58) rfl) rfl ?_; clear ha; (try clear a); intro a ha
          refine nt_off (i := 7) (listed' := #[true, true, true, false, true, false, false, true, false, false, false, false, false, false, false, false, false, false, false, false, false, false, false, false, false, false, false]) (by kernel_rfl) rfl (by kernel_rfl) (by decide) (pk_then (pk_then pk_body)) ha (wgF ha rfl (s := 58) rfl) rfl ?_; clear ha; (try clear a); intro a ha
          refine nt_off (i := 8) (listed' := #[true, true, true, false, true, false, false, true, true, false, false, false, false, false, false, false, false, false, false, false, false, false, false, false, false, false, false]) (by kernel_rfl) rfl (by kernel_rfl) (by decide) (pk_then (pk_then pk_body)) ha (wgF ha rfl (s := 58) rfl) rfl ?_; clear ha; (try clear a); intro a ha
          refine nt_off (i := 9) (listed' := #[true, true, true, false, true, false, false, true, true, true, false, false, false, false, false, false, false, false, false, false, false, false, false, false, false, false, false]) (by kernel_rfl) rfl (by kernel_rfl) (by decide) (pk_then (pk_then pk_body)) ha (wgF ha rfl (s := 58) rfl) rfl ?_; clear ha; (try clear a); intro a ha
          refine nt_off (i := 11) (listed' := #[true, true, true, false, true, false, false, true, true, true, false, true, false, false, false, false, false, false, false, false, false, false, false, false, false, false, false]) (by kernel_rfl) rfl (by kernel_rfl) (by decide) (pk_then (pk_then pk_body)) ha (wgF ha rfl (s := 58) rfl) rfl ?_; clear ha; (try clear a); intro a ha
          refine nt_offH (i := 3) (listed' := #[true, true, true, true, true, false, false, true, true, true, false, true, false, false, false, false, false, false, false, false, false, false, false, false, false, false, false]) (by kernel_rfl) rfl (by kernel_rfl) (pk_then (pk_then pk_body)) ha (wgF ha rfl (s := 58) rfl) hC rfl ?_; clear ha; (try clear a); intro a ha
          refine nt_off (i := 5) (listed' := #[true, true, true, true, true, true, false, true, true, true, false, true, false, false, false, false, false, false, false, false, false, false, false, false, false, false, false]) (by kernel_rfl) rfl (by kernel_rfl) (by decide) (pk_then (pk_then pk_body)) ha (wgF ha rfl (s := 58) rfl) rfl ?_; clear ha; (try clear a); intro a ha
          refine nt_offH (i := 6) (listed' := #[true, true, true, true, true, true, true, true, true, true, false, true, false, false, false, false, false, false, false, false, false, false, false, false, false, false, false]) (by kernel_rfl) rfl (by kernel_rfl) (pk_then (pk_then pk_body)) ha (wgF ha rfl (s := 58) rfl) hC rfl ?_; clear ha; (try clear a); intro a ha
          refine nt_offH (i := 10) (listed' := #[true, true, true, true, true, true, true, true, true, true, true, true, false, false, false, false, false, false, false, false, false, false, false, false, false, false, false]) (by kernel_rfl) rfl (by kernel_rfl) (pk_then (pk_then pk_body)) ha (wgF ha rfl (s := 58) rfl) hC rfl ?_; clear ha; (try clear a); intro a ha
          refine nt_offH (i := 12) (listed' := #[true, true, true, true, true, true, true, true, true, true, true, true, true, false, false, false, false, false, false, false, false, false, false, false, false, false, false]) (by kernel_rfl) rfl (by kernel_rfl) (pk_then (pk_then pk_body)) ha (wgF ha rfl (s := 58) rfl) hC rfl ?_; clear ha; (try clear a); intro a ha
          refine nt_off (i := 13) (listed' := #[true, true, true, true, true, true, true, true, true, true, true, true, true, true, false, false, false, false, false, false, false, false, false, false, false, false, false]) (by kernel_rfl) rfl (by kernel_rfl) (by decide) (pk_then (pk_then pk_body)) ha (wgF ha rfl (s := 58) rfl) rfl ?_; clear ha; (try clear a); intro a ha
          refine nt_pure (i := 14) (listed' := #[true, true, true, true, true, true, true, true, true, true, true, true, true, true, true, false, false, false, false, false, false, false, false, false, false, false, false]) (by kernel_rfl) rfl (by kernel_rfl) (by decide) (pk_then (pk_then pk_body)) ha rfl (fun w => ex_pickF ha) rfl ?_; clear ha; (try clear a); intro a ha
          refine nt_pure (i := 15) (listed' := #[true, true, true, true, true, true, true, true, true, true, true, true, true, true, true, true, false, false, false, false, false, false, false, false, false, false, false]) (by kernel_rfl) rfl (by kernel_rfl) (by decide) (pk_then (pk_then pk_body)) ha rfl (fun w => ex_move ha) rfl ?_; clear ha; (try clear a); intro a ha
          refine nt_pure (i := 16) (listed' := #[true, true, true, true, true, true, true, true, true, true, true, true, true, true, true, true, true, false, false, false, false, false, false, false, false, false, false]) (by kernel_rfl) rfl (by kernel_rfl) (by decide) (pk_then (pk_then pk_body)) ha (wgT ha rfl (s := 72)) (fun w => ex_move ha) rfl ?_; clear ha; (try clear a); intro a ha
          refine nt_pure (i := 17) (listed' := #[true, true, true, true, true, true, true, true, true, true, true, true, true, true, true, true, true, true, false, false, false, false, false, false, false, false, false]) (by kernel_rfl) rfl (by kernel_rfl) (by decide) (pk_then (pk_then pk_body)) ha (wgT ha rfl (s := 72)) (fun w => ex_move ha) rfl ?_; clear ha; (try clear a); intro a ha
          refine nt_pure (i := 18) (listed' := #[true, true, true, true, true, true, true, true, true, true, true, true, true, true, true, true, true, true, true, false, false, false, false, false, false, false, false]) (by kernel_rfl) rfl (by kernel_rfl) (by decide) (pk_then (pk_then pk_body)) ha (wgT ha rfl (s := 72)) (fun w => ex_move ha) rfl ?_; clear ha; (try clear a); intro a ha
          refine nt_pure (i := 20) (listed' := #[true, true, true, true, true, true, true, true, true, true, true, true, true, true, true, true, true, true, true, false, true, false, false, false, false, false, false]) (by kernel_rfl) rfl (by kernel_rfl) (by decide) (pk_then (pk_then pk_body)) ha (wgT ha rfl (s := 72)) (fun w => ex_move ha) rfl ?_; clear ha; (try clear a); intro a ha
          refine nt_one (i := 19) (listed' := #[true, true, true, true, true, true, true, true, true, true, true, true, true, true, true, true, true, true, true, true, true, false, false, false, false, false, false]) (by kernel_rfl) (by kernel_rfl) rfl (st_call ha (wgT ha rfl (s := 72)) Ty.c16 rfl (spoil_at (i := 0) (hs.net q) rfl) ?_); clear ha hs
          rintro e w ⟨rfl, hs⟩
          refine ⟨_, rfl, ?_⟩
          intro a ha
          refine ⟨fun h => absurd h (by decide), ?_⟩
          rw [inn_sp] at ha
          simp only [List.set_cons_zero] at hs
          rw [sp_sp] at hs
          refine nt_pure (i := 21) (listed' := #[true, true, true, true, true, true, true, true, true, true, true, true, true, true, true, true, true, true, true, true, true, true, false, false, false, false, false]) (by kernel_rfl) rfl (by kernel_rfl) (by decide) (pk_then (pk_then pk_body)) ha (wgT ha rfl (s := 72)) (fun w => ex_neqB ha Try.underlying4) rfl ?_; clear ha; (try clear a); intro a ha
          rw [bne_self_eq_false] at ha
          refine nt_pure (i := 22) (listed' := #[true, true, true, true, true, true, true, true, true, true, true, true, true, true, true, true, true, true, true, true, true, true, true, false, false, false, false]) (by kernel_rfl) rfl (by kernel_rfl) (by decide) (pk_then (pk_then pk_body)) ha rfl (fun w => ex_pickF ha) rfl ?_; clear ha; (try clear a); intro a ha
          refine nt_pure (i := 23) (listed' := #[true, true, true, true, true, true, true, true, true, true, true, true, true, true, true, true, true, true, true, true, true, true, true, true, false, false, false]) (by kernel_rfl) rfl (by kernel_rfl) (by decide) (pk_then (pk_then pk_body)) ha rfl (fun w => ex_move ha) rfl ?_; clear ha; (try clear a); intro a ha
          refine nt_pure (i := 24) (listed' := #[true, true, true, true, true, true, true, true, true, true, true, true, true, true, true, true, true, true, true, true, true, true, true, true, true, false, false]) (by kernel_rfl) rfl (by kernel_rfl) (by decide) (pk_then (pk_then pk_body)) ha (wgT ha rfl (s := 80)) (fun w => ex_move ha) rfl ?_; clear ha; (try clear a); intro a ha
          refine nt_one (i := 25) (listed' := #[true, true, true, true, true, true, true, true, true, true, true, true, true, true, true, true, true, true, true, true, true, true, true, true, true, true, false]) (by kernel_rfl) (by kernel_rfl) rfl (st_call ha (wgT ha rfl (s := 80)) Ty.c16 rfl (spoil_out (x := 1) (hs.net q) (by simp)) ?_); clear ha hs
          rintro e w ⟨rfl, hs⟩
          refine ⟨_, rfl, ?_⟩
          intro a ha
          refine ⟨fun h => absurd h (by decide), ?_⟩
          refine nt_pure (i := 26) (listed' := #[true, true, true, true, true, true, true, true, true, true, true, true, true, true, true, true, true, true, true, true, true, true, true, true, true, true, true]) (by kernel_rfl) rfl (by kernel_rfl) (by decide) (pk_then (pk_then pk_body)) ha rfl (fun w => ex_pickF ha) rfl ?_; clear ha; (try clear a); intro a ha
          refine nt_done (by kernel_rfl) ?_ _
          refine then_n ?_
          refine wp_ifF ha ?_
          refine wp_skip ?_
          refine then_n ?_
          refine wp_seq ?_
          refine wp_region_lit ?_
          refine wpList_k (st_set ha rfl (ex_move ha) rfl ?_); clear ha; (try clear a); intro a ha
          refine wpList_k (st_call ha rfl Ty.c12 rfl (look_at (i := 0) (hs.net q) rfl) ?_); clear ha hs
          rintro e w ⟨ad2, c2, rfl, hs⟩
          refine ⟨_, rfl, ?_⟩
          intro a ha
          refine wpList_k (st_set ha rfl (ex_move ha) rfl ?_); clear ha; (try clear a); intro a ha
          refine wpList_k (st_set ha rfl (ex_extract ha rfl) rfl ?_); clear ha; (try clear a); intro a ha
          refine wpList_k (st_set ha rfl (ex_extract ha rfl) rfl ?_); clear ha; (try clear a); intro a ha
          refine wpList_k (st_alloc ha rfl hs Ty.t29 rfl ?_); clear ha hs; (try clear a); (try clear w); intro b14 a w ha hs ho
          clear ho
          refine wpList_k (st_storeAll ha rfl hs Ty.t29 (by simp [Value.oneCell']) (by rfl) ?_); clear ha hs; (try clear a); (try clear w); intro a w ha hs
          refine wpList_k (st_set ha rfl (ex_assign ha) rfl ?_); clear ha; (try clear a); intro a ha
          refine wpList_nil ?_
          refine then_n ?_
          refine wp_seq ?_
          refine wp_region_lit ?_
          refine wpList_k (st_set ha rfl (ex_move ha) rfl ?_); clear ha; (try clear a); intro a ha
          refine wpList_k (st_call ha rfl Ty.c12 rfl (look_at (i := 1) (hs.net q) rfl) ?_); clear ha hs
          rintro e w ⟨ad3, c3, rfl, hs⟩
          refine ⟨_, rfl, ?_⟩
          intro a ha
          refine wpList_k (st_set ha rfl (ex_move ha) rfl ?_); clear ha; (try clear a); intro a ha
          refine wpList_k (st_set ha rfl (ex_extract ha rfl) rfl ?_); clear ha; (try clear a); intro a ha
          refine wpList_k (st_set ha rfl (ex_extract ha rfl) rfl ?_); clear ha; (try clear a); intro a ha
          refine wpList_k (st_alloc ha rfl hs Ty.t29 rfl ?_); clear ha hs; (try clear a); (try clear w); intro b16 a w ha hs ho
          clear ho
          refine wpList_k (st_storeAll ha rfl hs Ty.t29 (by simp [Value.oneCell']) (by rfl) ?_); clear ha hs; (try clear a); (try clear w); intro a w ha hs
          refine wpList_k (st_set ha rfl (ex_assign ha) rfl ?_); clear ha; (try clear a); intro a ha
          refine wpList_nil ?_
          refine then_n ?_
          refine wp_seq ?_
          refine wp_region_lit ?_
          refine wpList_k (st_set ha rfl (ex_fieldAddr ha Try.underlying29 rfl Ty.t27 rfl) rfl ?_); clear ha; (try clear a); intro a ha
          refine wpList_k (st_set ha rfl (ex_load1 ha Try.underlying27 rfl (hs.rd1 rfl)) rfl ?_); clear ha; (try clear a); intro a ha
          refine wpList_k (st_set ha rfl (ex_toString ha Try.underlying27 Try.underlying5 Try.underlying9 (hs.rdB ad2 av rfl rfl)) rfl ?_); clear ha; (try clear a); intro a ha
          refine wpList_k (st_set ha rfl (ex_move ha) rfl ?_); clear ha; (try clear a); intro a ha
          refine wpList_k (st_set ha rfl (ex_toString ha Try.underlying27 Try.underlying5 Try.underlying9 (har _ _ hs)) rfl ?_); clear ha; (try clear a); intro a ha
          refine wpList_k (st_set ha rfl (ex_eqlS ha) rfl ?_); clear ha; (try clear a); intro a ha
          rw [beq_self_eq_true] at ha
          refine wpList_k (st_set ha rfl (ex_move ha) rfl ?_); clear ha; (try clear a); intro a ha
          refine wpList_k (st_set ha (wgT ha rfl (s := 100)) (ex_fieldAddr ha Try.underlying29 rfl Ty.t27 rfl) rfl ?_); clear ha; (try clear a); intro a ha
          refine wpList_k (st_set ha (wgT ha rfl (s := 100)) (ex_load1 ha Try.underlying27 rfl (hs.rd1 rfl)) rfl ?_); clear ha; (try clear a); intro a ha
          refine wpList_k (st_set ha (wgT ha rfl (s := 100)) (ex_toString ha Try.underlying27 Try.underlying5 Try.underlying9 (hs.rdB ad3 bs rfl rfl)) rfl ?_); clear ha; (try clear a); intro a ha
          refine wpList_k (st_set ha (wgT ha rfl (s := 100)) (ex_move ha) rfl ?_); clear ha; (try clear a); intro a ha
          refine wpList_k (st_set ha (wgT ha rfl (s := 100)) (ex_toString ha Try.underlying27 Try.underlying5 Try.underlying9 (hbr _ _ hs)) rfl ?_); clear ha; (try clear a); intro a ha
          refine wpList_k (st_set ha (wgT ha rfl (s := 100)) (ex_eqlS ha) rfl ?_); clear ha; (try clear a); intro a ha
          rw [beq_self_eq_true] at ha
          refine wpList_k (st_set ha rfl (ex_pickT ha) rfl ?_); clear ha; (try clear a); intro a ha
          replace ha := ha.del 8
          refine wpList_k (st_set ha rfl (ex_assign ha) rfl ?_); clear ha; (try clear a); intro a ha
          refine wpList_nil ?_
          refine then_n ?_
          refine wp_ret ?_
          refine ret1 ha rfl ?_
          exact ⟨rfl, hs.below⟩
      ·
        try simp only [decide_eq_true_eq, decide_eq_false_iff_not, Bool.not_eq_true', Bool.not_eq_false', Int.not_lt, Int.not_le, ne_eq, Decidable.not_not] at hg2
        refine wpList_k (st_off ha (wgF ha rfl (s := 40) rfl) rfl ?_); clear ha; (try clear a); intro a ha
        refine wpList_k (st_off ha (wgF ha rfl (s := 40) rfl) rfl ?_); clear ha; (try clear a); intro a ha
        refine wpList_k (st_off ha (wgF ha rfl (s := 40) rfl) rfl ?_); clear ha; (try clear a); intro a ha
        refine wpList_k (st_off ha (wgF ha rfl (s := 40) rfl) rfl ?_); clear ha; (try clear a); intro a ha
        refine wpList_k (st_set ha rfl (ex_pickF ha) rfl ?_); clear ha; (try clear a); intro a ha
        refine wpList_k (st_set ha rfl (ex_assign ha) rfl ?_); clear ha; (try clear a); intro a ha
        refine wpList_nil ?_
        have hin : inn av at' = false := by rw [inn, decide_eq_false (p := 0 ≤ at') (by omega), Bool.false_and]
        refine then_n ?_
        refine wp_seq ?_
        refine wp_seq ?_
        refine wp_region_lit ?_
        refine wpList_k (st_set ha rfl (ex_move ha) rfl ?_); clear ha; (try clear a); intro a ha
        refine wpList_k (st_set ha rfl (ex_move ha) rfl ?_); clear ha; (try clear a); intro a ha
        refine wpList_k (st_set ha rfl (ex_move ha) rfl ?_); clear ha; (try clear a); intro a ha
        refine wpList_k (st_call ha rfl Ty.c16 rfl (spoil_at (i := 0) (hs.net q) rfl) ?_); clear ha hs
        rintro e w ⟨rfl, hs⟩
        refine ⟨_, rfl, ?_⟩
        intro a ha
        try rw [hin] at ha
        change St W w (Net q [(1, 0, sp av at' x), (2, 0, bs)] :: _) at hs
        refine wpList_k (st_set ha rfl (ex_move ha) rfl ?_); clear ha; (try clear a); intro a ha
        refine wpList_k (st_set ha rfl (ex_neqB ha Try.underlying4) rfl ?_); clear ha; (try clear a); intro a ha
        rw [bne_self_eq_false] at ha
        refine wpList_nil ?_
        refine then_n ?_
        refine wp_ifF ha ?_
        refine wp_skip ?_
        refine then_n ?_
        refine wp_seq ?_
        refine wp_region_lit ?_
        refine wpList_k (st_set ha rfl (ex_move ha) rfl ?_); clear ha; (try clear a); intro a ha
        refine wpList_k (st_call ha rfl Ty.c12 rfl (look_at (i := 0) (hs.net q) rfl) ?_); clear ha hs
        rintro e w ⟨ad1, c1, rfl, hs⟩
        refine ⟨_, rfl, ?_⟩
        intro a ha
        rw [sp_len] at ha hs
        refine wpList_k (st_set ha rfl (ex_move ha) rfl ?_); clear ha; (try clear a); intro a ha
        refine wpList_k (st_set ha rfl (ex_extract ha rfl) rfl ?_); clear ha; (try clear a); intro a ha
        refine wpList_k (st_set ha rfl (ex_extract ha rfl) rfl ?_); clear ha; (try clear a); intro a ha
        refine wpList_k (st_alloc ha rfl hs Ty.t29 rfl ?_); clear ha hs; (try clear a); (try clear w); intro b12 a w ha hs ho
        clear ho
        refine wpList_k (st_storeAll ha rfl hs Ty.t29 (by simp [Value.oneCell']) (by rfl) ?_); clear ha hs; (try clear a); (try clear w); intro a w ha hs
        refine wpList_k (st_set ha rfl (ex_assign ha) rfl ?_); clear ha; (try clear a); intro a ha
        refine wpList_nil ?_
        refine then_n ?_
        refine wp_seq ?_
        refine wp_seq ?_
        refine wp_draw (m := 27) (l0 := #[false, false, false, false, false, false, false, false, false, false, false, false, false, false, false, false, false, false, false, false, false, false, false, false, false, false, false]) (Old w.drew) [10, 12] Ty.mixed (by kernel_rfl) (by kernel_rfl) ?_
        replace hs := hs.drew
        have hC := Old.refl w.drew
        generalize w.drew = w at hs hC ⊢
        refine nt_pure (i := 0) (listed' := #[true, false, false, false, false, false, false, false, false, false, false, false, false, false, false, false, false, false, false, false, false, false, false, false, false, false, false]) (by kernel_rfl) rfl (by kernel_rfl) (by decide) (pk_then (pk_then pk_body)) ha rfl (fun w => ex_move ha) rfl ?_; clear ha; (try clear a); intro a ha
        refine nt_pure (i := 1) (listed' := #[true, true, false, false, false, false, false, false, false, false, false, false, false, false, false, false, false, false, false, false, false, false, false, false, false, false, false]) (by kernel_rfl) rfl (by kernel_rfl) (by decide) (pk_then (pk_then pk_body)) ha rfl (fun w => ex_move ha) rfl ?_; clear ha; (try clear a); intro a ha
        refine nt_off (i := 2) (listed' := #[true, true, true, false, false, false, false, false, false, false, false, false, false, false, false, false, false, false, false, false, false, false, false, false, false, false, false]) (by kernel_rfl) rfl (by kernel_rfl) (by decide) (pk_then (pk_then pk_body)) ha (wgF ha rfl (s := 58) rfl) rfl ?_; clear ha; (try clear a); intro a ha
        refine nt_off (i := 4) (listed' := #[true, true, true, false, true, false, false, false, false, false, false, false, false, false, false, false, false, false, false, false, false, false, false, false, false, false, false]) (by kernel_rfl) rfl (by kernel_rfl) (by decide) (pk_then (pk_then pk_body)) ha (wgF ha rfl (s := 58) rfl) rfl ?_; clear ha; (try clear a); intro a ha
        refine nt_off (i := 7) (listed' := #[true, true, true, false, true, false, false, true, false, false, false, false, false, false, false, false, false, false, false, false, false, false, false, false, false, false, false]) (by kernel_rfl) rfl (by kernel_rfl) (by decide) (pk_then (pk_then pk_body)) ha (wgF ha rfl (s := 58) rfl) rfl ?_; clear ha; (try clear a); intro a ha
        refine nt_off (i := 8) (listed' := #[true, true, true, false, true, false, false, true, true, false, false, false, false, false, false, false, false, false, false, false, false, false, false, false, false, false, false]) (by kernel_rfl) rfl (by kernel_rfl) (by decide) (pk_then (pk_then pk_body)) ha (wgF ha rfl (s := 58) rfl) rfl ?_; clear ha; (try clear a); intro a ha
        refine nt_off (i := 9) (listed' := #[true, true, true, false, true, false, false, true, true, true, false, false, false, false, false, false, false, false, false, false, false, false, false, false, false, false, false]) (by kernel_rfl) rfl (by kernel_rfl) (by decide) (pk_then (pk_then pk_body)) ha (wgF ha rfl (s := 58) rfl) rfl ?_; clear ha; (try clear a); intro a ha
        refine nt_off (i := 11) (listed' := #[true, true, true, false, true, false, false, true, true, true, false, true, false, false, false, false, false, false, false, false, false, false, false, false, false, false, false]) (by kernel_rfl) rfl (by kernel_rfl) (by decide) (pk_then (pk_then pk_body)) ha (wgF ha rfl (s := 58) rfl) rfl ?_; clear ha; (try clear a); intro a ha
        refine nt_offH (i := 3) (listed' := #[true, true, true, true, true, false, false, true, true, true, false, true, false, false, false, false, false, false, false, false, false, false, false, false, false, false, false]) (by kernel_rfl) rfl (by kernel_rfl) (pk_then (pk_then pk_body)) ha (wgF ha rfl (s := 58) rfl) hC rfl ?_; clear ha; (try clear a); intro a ha
        refine nt_off (i := 5) (listed' := #[true, true, true, true, true, true, false, true, true, true, false, true, false, false, false, false, false, false, false, false, false, false, false, false, false, false, false]) (by kernel_rfl) rfl (by kernel_rfl) (by decide) (pk_then (pk_then pk_body)) ha (wgF ha rfl (s := 58) rfl) rfl ?_; clear ha; (try clear a); intro a ha
        refine nt_offH (i := 6) (listed' := #[true, true, true, true, true, true, true, true, true, true, false, true, false, false, false, false, false, false, false, false, false, false, false, false, false, false, false]) (by kernel_rfl) rfl (by kernel_rfl) (pk_then (pk_then pk_body)) ha (wgF ha rfl (s := 58) rfl) hC rfl ?_; clear ha; (try clear a); intro a ha
        refine nt_offH (i := 10) (listed' := #[true, true, true, true, true, true, true, true, true, true, true, true, false, false, false, false, false, false, false, false, false, false, false, false, false, false, false]) (by kernel_rfl) rfl (by kernel_rfl) (pk_then (pk_then pk_body)) ha (wgF ha rfl (s := 58) rfl) hC rfl ?_; clear ha; (try clear a); intro a ha
        refine nt_offH (i := 12) (listed' := #[true, true, true, true, true, true, true, true, true, true, true, true, true, false, false, false, false, false, false, false, false, false, false, false, false, false, false]) (by kernel_rfl) rfl (by kernel_rfl) (pk_then (pk_then pk_body)) ha (wgF ha rfl (s := 58) rfl) hC rfl ?_; clear ha; (try clear a); intro a ha
        refine nt_off (i := 13) (listed' := #[true, true, true, true, true, true, true, true, true, true, true, true, true, true, false, false, false, false, false, false, false, false, false, false, false, false, false]) (by kernel_rfl) rfl (by kernel_rfl) (by decide) (pk_then (pk_then pk_body)) ha (wgF ha rfl (s := 58) rfl) rfl ?_; clear ha; (try clear a); intro a ha
        refine nt_pure (i := 14) (listed' := #[true, true, true, true, true, true, true, true, true, true, true, true, true, true, true, false, false, false, false, false, false, false, false, false, false, false, false]) (by kernel_rfl) rfl (by kernel_rfl) (by decide) (pk_then (pk_then pk_body)) ha rfl (fun w => ex_pickF ha) rfl ?_; clear ha; (try clear a); intro a ha
        refine nt_pure (i := 15) (listed' := #[true, true, true, true, true, true, true, true, true, true, true, true, true, true, true, true, false, false, false, false, false, false, false, false, false, false, false]) (by kernel_rfl) rfl (by kernel_rfl) (by decide) (pk_then (pk_then pk_body)) ha rfl (fun w => ex_move ha) rfl ?_; clear ha; (try clear a); intro a ha
        refine nt_pure (i := 16) (listed' := #[true, true, true, true, true, true, true, true, true, true, true, true, true, true, true, true, true, false, false, false, false, false, false, false, false, false, false]) (by kernel_rfl) rfl (by kernel_rfl) (by decide) (pk_then (pk_then pk_body)) ha (wgT ha rfl (s := 72)) (fun w => ex_move ha) rfl ?_; clear ha; (try clear a); intro a ha
        refine nt_pure (i := 17) (listed' := #[true, true, true, true, true, true, true, true, true, true, true, true, true, true, true, true, true, true, false, false, false, false, false, false, false, false, false]) (by kernel_rfl) rfl (by kernel_rfl) (by decide) (pk_then (pk_then pk_body)) ha (wgT ha rfl (s := 72)) (fun w => ex_move ha) rfl ?_; clear ha; (try clear a); intro a ha
        refine nt_pure (i := 18) (listed' := #[true, true, true, true, true, true, true, true, true, true, true, true, true, true, true, true, true, true, true, false, false, false, false, false, false, false, false]) (by kernel_rfl) rfl (by kernel_rfl) (by decide) (pk_then (pk_then pk_body)) ha (wgT ha rfl (s := 72)) (fun w => ex_move ha) rfl ?_; clear ha; (try clear a); intro a ha
        refine nt_pure (i := 20) (listed' := #[true, true, true, true, true, true, true, true, true, true, true, true, true, true, true, true, true, true, true, false, true, false, false, false, false, false, false]) (by kernel_rfl) rfl (by kernel_rfl) (by decide) (pk_then (pk_then pk_body)) ha (wgT ha rfl (s := 72)) (fun w => ex_move ha) rfl ?_; clear ha; (try clear a); intro a ha
        refine nt_one (i := 19) (listed' := #[true, true, true, true, true, true, true, true, true, true, true, true, true, true, true, true, true, true, true, true, true, false, false, false, false, false, false]) (by kernel_rfl) (by kernel_rfl) rfl (st_call ha (wgT ha rfl (s := 72)) Ty.c16 rfl (spoil_at (i := 0) (hs.net q) rfl) ?_); clear ha hs
        rintro e w ⟨rfl, hs⟩
        refine ⟨_, rfl, ?_⟩
        intro a ha
        refine ⟨fun h => absurd h (by decide), ?_⟩
        rw [inn_sp, hin] at ha
        simp only [List.set_cons_zero] at hs
        rw [sp_sp] at hs
        refine nt_pure (i := 21) (listed' := #[true, true, true, true, true, true, true, true, true, true, true, true, true, true, true, true, true, true, true, true, true, true, false, false, false, false, false]) (by kernel_rfl) rfl (by kernel_rfl) (by decide) (pk_then (pk_then pk_body)) ha (wgT ha rfl (s := 72)) (fun w => ex_neqB ha Try.underlying4) rfl ?_; clear ha; (try clear a); intro a ha
        rw [bne_self_eq_false] at ha
        refine nt_pure (i := 22) (listed' := #[true, true, true, true, true, true, true, true, true, true, true, true, true, true, true, true, true, true, true, true, true, true, true, false, false, false, false]) (by kernel_rfl) rfl (by kernel_rfl) (by decide) (pk_then (pk_then pk_body)) ha rfl (fun w => ex_pickF ha) rfl ?_; clear ha; (try clear a); intro a ha
        refine nt_pure (i := 23) (listed' := #[true, true, true, true, true, true, true, true, true, true, true, true, true, true, true, true, true, true, true, true, true, true, true, true, false, false, false]) (by kernel_rfl) rfl (by kernel_rfl) (by decide) (pk_then (pk_then pk_body)) ha rfl (fun w => ex_move ha) rfl ?_; clear ha; (try clear a); intro a ha
        refine nt_pure (i := 24) (listed' := #[true, true, true, true, true, true, true, true, true, true, true, true, true, true, true, true, true, true, true, true, true, true, true, true, true, false, false]) (by kernel_rfl) rfl (by kernel_rfl) (by decide) (pk_then (pk_then pk_body)) ha (wgT ha rfl (s := 80)) (fun w => ex_move ha) rfl ?_; clear ha; (try clear a); intro a ha
        refine nt_one (i := 25) (listed' := #[true, true, true, true, true, true, true, true, true, true, true, true, true, true, true, true, true, true, true, true, true, true, true, true, true, true, false]) (by kernel_rfl) (by kernel_rfl) rfl (st_call ha (wgT ha rfl (s := 80)) Ty.c16 rfl (spoil_out (x := 1) (hs.net q) (by simp)) ?_); clear ha hs
        rintro e w ⟨rfl, hs⟩
        refine ⟨_, rfl, ?_⟩
        intro a ha
        refine ⟨fun h => absurd h (by decide), ?_⟩
        refine nt_pure (i := 26) (listed' := #[true, true, true, true, true, true, true, true, true, true, true, true, true, true, true, true, true, true, true, true, true, true, true, true, true, true, true]) (by kernel_rfl) rfl (by kernel_rfl) (by decide) (pk_then (pk_then pk_body)) ha rfl (fun w => ex_pickF ha) rfl ?_; clear ha; (try clear a); intro a ha
        refine nt_done (by kernel_rfl) ?_ _
        refine then_n ?_
        refine wp_ifF ha ?_
        refine wp_skip ?_
        refine then_n ?_
        refine wp_seq ?_
        refine wp_region_lit ?_
        refine wpList_k (st_set ha rfl (ex_move ha) rfl ?_); clear ha; (try clear a); intro a ha
        refine wpList_k (st_call ha rfl Ty.c12 rfl (look_at (i := 0) (hs.net q) rfl) ?_); clear ha hs
        rintro e w ⟨ad2, c2, rfl, hs⟩
        refine ⟨_, rfl, ?_⟩
        intro a ha
        refine wpList_k (st_set ha rfl (ex_move ha) rfl ?_); clear ha; (try clear a); intro a ha
        refine wpList_k (st_set ha rfl (ex_extract ha rfl) rfl ?_); clear ha; (try clear a); intro a ha
        refine wpList_k (st_set ha rfl (ex_extract ha rfl) rfl ?_); clear ha; (try clear a); intro a ha
        refine wpList_k (st_alloc ha rfl hs Ty.t29 rfl ?_); clear ha hs; (try clear a); (try clear w); intro b14 a w ha hs ho
        clear ho
        refine wpList_k (st_storeAll ha rfl hs Ty.t29 (by simp [Value.oneCell']) (by rfl) ?_); clear ha hs; (try clear a); (try clear w); intro a w ha hs
        refine wpList_k (st_set ha rfl (ex_assign ha) rfl ?_); clear ha; (try clear a); intro a ha
        refine wpList_nil ?_
        refine then_n ?_
        refine wp_seq ?_
        refine wp_region_lit ?_
        refine wpList_k (st_set ha rfl (ex_move ha) rfl ?_); clear ha; (try clear a); intro a ha
        refine wpList_k (st_call ha rfl Ty.c12 rfl (look_at (i := 1) (hs.net q) rfl) ?_); clear ha hs
        rintro e w ⟨ad3, c3, rfl, hs⟩
        refine ⟨_, rfl, ?_⟩
        intro a ha
        refine wpList_k (st_set ha rfl (ex_move ha) rfl ?_); clear ha; (try clear a); intro a ha
        refine wpList_k (st_set ha rfl (ex_extract ha rfl) rfl ?_); clear ha; (try clear a); intro a ha
        refine wpList_k (st_set ha rfl (ex_extract ha rfl) rfl ?_); clear ha; (try clear a); intro a ha
        refine wpList_k (st_alloc ha rfl hs Ty.t29 rfl ?_); clear ha hs; (try clear a); (try clear w); intro b16 a w ha hs ho
        clear ho
        refine wpList_k (st_storeAll ha rfl hs Ty.t29 (by simp [Value.oneCell']) (by rfl) ?_); clear ha hs; (try clear a); (try clear w); intro a w ha hs
        refine wpList_k (st_set ha rfl (ex_assign ha) rfl ?_); clear ha; (try clear a); intro a ha
        refine wpList_nil ?_
        refine then_n ?_
        refine wp_seq ?_
        refine wp_region_lit ?_
        refine wpList_k (st_set ha rfl (ex_fieldAddr ha Try.underlying29 rfl Ty.t27 rfl) rfl ?_); clear ha; (try clear a); intro a ha
        refine wpList_k (st_set ha rfl (ex_load1 ha Try.underlying27 rfl (hs.rd1 rfl)) rfl ?_); clear ha; (try clear a); intro a ha
        refine wpList_k (st_set ha rfl (ex_toString ha Try.underlying27 Try.underlying5 Try.underlying9 (hs.rdB ad2 av rfl rfl)) rfl ?_); clear ha; (try clear a); intro a ha
        refine wpList_k (st_set ha rfl (ex_move ha) rfl ?_); clear ha; (try clear a); intro a ha
        refine wpList_k (st_set ha rfl (ex_toString ha Try.underlying27 Try.underlying5 Try.underlying9 (har _ _ hs)) rfl ?_); clear ha; (try clear a); intro a ha
        refine wpList_k (st_set ha rfl (ex_eqlS ha) rfl ?_); clear ha; (try clear a); intro a ha
        rw [beq_self_eq_true] at ha
        refine wpList_k (st_set ha rfl (ex_move ha) rfl ?_); clear ha; (try clear a); intro a ha
        refine wpList_k (st_set ha (wgT ha rfl (s := 100)) (ex_fieldAddr ha Try.underlying29 rfl Ty.t27 rfl) rfl ?_); clear ha; (try clear a); intro a ha
        refine wpList_k (st_set ha (wgT ha rfl (s := 100)) (ex_load1 ha Try.underlying27 rfl (hs.rd1 rfl)) rfl ?_); clear ha; (try clear a); intro a ha
        refine wpList_k (st_set ha (wgT ha rfl (s := 100)) (ex_toString ha Try.underlying27 Try.underlying5 Try.underlying9 (hs.rdB ad3 bs rfl rfl)) rfl ?_); clear ha; (try clear a); intro a ha
        refine wpList_k (st_set ha (wgT ha rfl (s := 100)) (ex_move ha) rfl ?_); clear ha; (try clear a); intro a ha
        refine wpList_k (st_set ha (wgT ha rfl (s := 100)) (ex_toString ha Try.underlying27 Try.underlying5 Try.underlying9 (hbr _ _ hs)) rfl ?_); clear ha; (try clear a); intro a ha
        refine wpList_k (st_set ha (wgT ha rfl (s := 100)) (ex_eqlS ha) rfl ?_); clear ha; (try clear a); intro a ha
        rw [beq_self_eq_true] at ha
        refine wpList_k (st_set ha rfl (ex_pickT ha) rfl ?_); clear ha; (try clear a); intro a ha
        replace ha := ha.del 8
        refine wpList_k (st_set ha rfl (ex_assign ha) rfl ?_); clear ha; (try clear a); intro a ha
        refine wpList_nil ?_
        refine then_n ?_
        refine wp_ret ?_
        refine ret1 ha rfl ?_
        exact ⟨rfl, hs.below⟩
end Go.Proofs.Ytjaiojfmcpbkbaa

