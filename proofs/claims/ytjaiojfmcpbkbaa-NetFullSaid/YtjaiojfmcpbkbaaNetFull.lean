/- NetFull. -/
import Derived.Test.YtjaiojfmcpbkbaaNetOrd
import Derived.Laws.MakeOwn
namespace Go.Proofs.Ytjaiojfmcpbkbaa
open Go.RowKit
set_option linter.unusedVariables false
set_option linter.unusedSimpArgs false
set_option maxRecDepth 10000
set_option synthInstance.maxSize 4000
set_option synthInstance.maxHeartbeats 400000

section
variable {P : Program} {ops : Array Oper} {Q : Exit → Act → World → Prop} {a : Act} {w w' W : World} {K : Act → World → Prop} {n d : Nat} {l : List (Nat × Value)} {L R : List SP}
/-- 'make([]T, j)'. -/
theorem st_makeSlice {t el z sz by' x y k k' i j ty ps af g} (ha : Fr a n l) (hw : Region.wanted ⟨some d, .makeSlice t x y, ty, ps, af, g⟩ (yielded ops a.tmps) = true) (hs : St W w L) (ht : P.underlying t = some (.slice el))
    (hi : TI P el z sz by') (hf : okB d n l = true) (hb : by' * j ≤ 281474976710656) (hj : j ≤ 9223372036854775807) [e : Ev l x (.int k i)] [e2 : Ev l y (.int k' i)] [nj : NatOf i j]
    (h : ∀ b a' w', Fr a' n ((d, .slice (some ⟨b, 0, none⟩) j j) :: l) → St W w' (blk b el (madeCells z.cells (j * sz)).toList :: L) → Old w w' → K a' w') :
    StepK P ops Q ⟨some d, .makeSlice t x y, ty, ps, af, g⟩ K a w := by
  have hnj := nj.h
  subst hnj
  obtain ⟨ti, hi1, hi2, hi3, hi4⟩ := info_parts hi
  have hbi : (ti.bytes : Int) * (j : Int) ≤ 281474976710656 := by
    rw [hi4]
    have : ((by' * j : Nat) : Int) ≤ 281474976710656 := by omega
    rwa [Int.natCast_mul] at this
  have hr := run_make (P := P) w t el ti z ht hi1 hi2 k k' (j : Int) (j : Int) (by omega) (Int.le_refl _) hbi (by omega)
  rw [Int.toNat_natCast, hi3] at hr
  refine st_set (v := .slice (some ⟨w.heap.size, 0, none⟩) j j) (w' := w.alloc (.cells (madeCells z.cells (j * sz)) el)) ha hw ?_ hf (fun a' ha' => h _ _ _ ha' (by
    have := hs.alloc (.cells (madeCells z.cells (j * sz)) el)
    simpa [blk] using this) (Old.alloc _ _))
  simp [execOp, e.ev a n ha, e2.ev a n ha, hr]
end
theorem made8 (S : Nat) : (madeCells (Value.cells (.int .u8 0)) (S * 1)).toList = bc (List.replicate S 0) := by
  have h1 : bc (List.replicate S 0) = List.replicate S (.int .u8 0) := by simp [bc]
  rw [h1]
  refine List.eq_replicate_iff.2 ⟨by simp [madeCells], fun v hv => ?_⟩
  simp only [madeCells, Array.toList_map, List.mem_map] at hv
  obtain ⟨i, _, rfl⟩ := hv
  simp [Value.cells, Nat.mod_one]
theorem rep0 {S : Nat} (h : 0 < S) : (bc (List.replicate S 0))[0]? = some (.int .u8 0) := by
  cases S with
  | zero => omega
  | succ S => rfl

/-- One mail of so many zero bytes, or none. -/
def one (ok : Bool) (S : Nat) : List Mm := if ok then [(0, 0, List.replicate S 0)] else []
theorem look_one {W w : World} {L : List SP} {q S : Nat} {ok : Bool} (hs : St W w (Net q (one ok S) :: L)) :
    Calls Try.prog 12 #[.pointer (some ⟨q, 0, none⟩), .int .i64 0] w fun e w' => ∃ ad n c, e = .returned (.tuple #[.agg #[.int .i64 0, .int .i64 0, .slice ad n c], .bool ok]) ∧ (ok = true → S = n) ∧ St W w' (Sl 5 1 ad n c (bc (List.replicate n 0)) :: Net q (one ok S) :: L) := by
  cases ok with
  | true =>
    refine (look_in (i := 0) (ms := [(0, 0, List.replicate S 0)]) hs (by simp)).mono fun e w' ⟨ad, c, h, hs⟩ => ⟨ad, S, c, ?_, fun _ => rfl, ?_⟩
    · rw [h]; simp
    · simpa [one] using hs
  | false =>
    refine (look_out (i := 0) (ms := []) hs (by simp)).mono fun e w' ⟨h, hs⟩ => ⟨none, 0, 0, h, (fun h => by cases h), hs.sl0 _ _ _⟩
theorem take_one {W w : World} {L : List SP} {q S : Nat} {ok : Bool} (hs : St W w (Net q (one ok S) :: L)) :
    Calls Try.prog 13 #[.pointer (some ⟨q, 0, none⟩), .int .i64 0] w fun e w' => ∃ ad n c, e = .returned (.tuple #[.agg #[.int .i64 0, .int .i64 0, .slice ad n c], .bool ok]) ∧ (ok = true → S = n) ∧ St W w' (Sl 5 1 ad n c (bc (List.replicate n 0)) :: L) := by
  cases ok with
  | true =>
    refine (take_in (i := 0) (ms := [(0, 0, List.replicate S 0)]) hs (by simp)).mono fun e w' ⟨ad, c, h, hs⟩ => ⟨ad, S, c, ?_, fun _ => rfl, ?_⟩
    · rw [h]; simp
    · have h1 := hs.perm (List.Perm.swap _ _ _)
      simpa using h1.tail
  | false =>
    refine (take_out (i := 0) (ms := []) hs (by simp)).mono fun e w' ⟨h, hs⟩ => ⟨none, 0, 0, h, (fun h => by cases h), hs.tail.sl0 _ _ _⟩

def g1 (j : Nat) : Mm := (1, (j : Int), [])
theorem may1 (i : Nat) : maySend (nls g1 (min i 300)) 0 = decide ((i : Int) < 300) := by
  simp only [maySend, nls_len]
  by_cases h : i < 300
  · rw [decide_eq_true (by omega), decide_eq_true (by omega), decide_eq_true (by omega)]; rfl
  · rw [decide_eq_false (by omega), decide_eq_false (p := (i : Int) < 300) (by omega)]; rfl
theorem put1 (i : Nat) : (if maySend (nls g1 (min i 300)) 0 = true then nls g1 (min i 300) ++ [g1 i] else nls g1 (min i 300)) = nls g1 (min (i + 1) 300) := by
  rw [may1]
  by_cases h : i < 300
  · rw [if_pos (by simp; omega), show min i 300 = i from by omega, show min (i + 1) 300 = i + 1 from by omega, nls_succ]
  · rw [if_neg (by simp; omega), show min i 300 = 300 from by omega, show min (i + 1) 300 = 300 from by omega]

theorem mayNil (S : Nat) : maySend [] S = decide ((S : Int) ≤ 1000) := by
  simp only [maySend]
  by_cases h : S ≤ 1000
  · rw [decide_eq_true h, decide_eq_true (p := (S : Int) ≤ 1000) (by omega)]; rfl
  · rw [decide_eq_false h, decide_eq_false (p := (S : Int) ≤ 1000) (by omega), Bool.and_false]
theorem netFull_walk (k size : Int) (W : World) (w0 : (Lit.int .i64 k).wf = true) (w1 : (Lit.int .i64 size).wf = true) :
    Calls Try.prog 4 #[.int .i64 k, .int .i64 size] W fun e w' => e = .returned (.bool true) ∧ Below W.heap.size W w' := by
  have hs := St.start W
  refine calls_enter Try.func4 rfl Try.ntmps4 (Nat.le_of_ble_eq_true rfl) ?_
  intro a ha
  replace ha : Fr a 104 [(0, _), (1, _)] := ha
  refine wp_seq ?_
  refine wp_region_lit ?_
  refine wpList_k (st_set ha rfl (ex_assign ha) rfl ?_); clear ha; (try clear a); intro a ha
  refine wpList_nil ?_
  refine then_n ?_
  refine wp_seq ?_
  refine wp_region_lit ?_
  refine wpList_k (st_call ha rfl Ty.c8 rfl (begun16 hs) ?_); clear ha hs
  rintro e w ⟨rfl, hs⟩
  refine ⟨_, rfl, ?_⟩
  intro a ha
  refine wpList_k (st_set ha rfl (ex_assign ha) rfl ?_); clear ha; (try clear a); intro a ha
  refine wpList_nil ?_
  refine then_n ?_
  refine wp_seq ?_
  refine wp_seq ?_
  refine wp_region_lit ?_
  refine wpList_k (st_set ha rfl (ex_move ha) rfl ?_); clear ha; (try clear a); intro a ha
  refine wpList_k (st_set ha rfl (ex_not ha) rfl ?_); clear ha; (try clear a); intro a ha
  refine wpList_nil ?_
  refine then_n ?_
  refine wp_ifF ha ?_
  refine wp_skip ?_
  refine then_n ?_
  refine wp_seq ?_
  refine wp_seq ?_
  refine wp_region_lit ?_
  refine wpList_k (st_set ha rfl (ex_move ha) rfl ?_); clear ha; (try clear a); intro a ha
  refine wpList_k (st_set ha rfl (ex_lss ha) rfl ?_); clear ha; (try clear a); intro a ha
  refine wpList_k (st_set ha rfl (ex_move ha) rfl ?_); clear ha; (try clear a); intro a ha
  refine ha.bool (s := 20) (fun hg2 ha => ?_) (fun hg2 ha => ?_)
  ·
    try simp only [decide_eq_true_eq, decide_eq_false_iff_not, Bool.not_eq_true', Bool.not_eq_false', Int.not_lt, Int.not_le, ne_eq, Decidable.not_not] at hg2
    refine wpList_k (st_off ha (wgF ha rfl (s := 20) rfl) rfl ?_); clear ha; (try clear a); intro a ha
    refine wpList_k (st_off ha (wgF ha rfl (s := 20) rfl) rfl ?_); clear ha; (try clear a); intro a ha
    refine wpList_k (st_set ha rfl (ex_pickT ha) rfl ?_); clear ha; (try clear a); intro a ha
    refine wpList_k (st_set ha rfl (ex_move ha) rfl ?_); clear ha; (try clear a); intro a ha
    refine wpList_k (st_off ha (wgF ha rfl (s := 24) rfl) rfl ?_); clear ha; (try clear a); intro a ha
    refine wpList_k (st_off ha (wgF ha rfl (s := 24) rfl) rfl ?_); clear ha; (try clear a); intro a ha
    refine wpList_k (st_set ha rfl (ex_pickT ha) rfl ?_); clear ha; (try clear a); intro a ha
    refine wpList_k (st_set ha rfl (ex_move ha) rfl ?_); clear ha; (try clear a); intro a ha
    refine wpList_k (st_off ha (wgF ha rfl (s := 28) rfl) rfl ?_); clear ha; (try clear a); intro a ha
    refine wpList_k (st_off ha (wgF ha rfl (s := 28) rfl) rfl ?_); clear ha; (try clear a); intro a ha
    refine wpList_k (st_set ha rfl (ex_pickT ha) rfl ?_); clear ha; (try clear a); intro a ha
    refine wpList_nil ?_
    refine then_n ?_
    refine wp_ifT ha ?_
    refine wp_seq ?_
    refine wp_region_lit ?_
    replace ha := ha.del 4
    refine wpList_k (st_set ha rfl (ex_assign ha) rfl ?_); clear ha; (try clear a); intro a ha
    refine wpList_nil ?_
    refine then_n ?_
    refine wp_ret <| then_r ?_
    refine ret1 ha rfl ?_
    exact ⟨rfl, hs.below⟩
  ·
    try simp only [decide_eq_true_eq, decide_eq_false_iff_not, Bool.not_eq_true', Bool.not_eq_false', Int.not_lt, Int.not_le, ne_eq, Decidable.not_not] at hg2
    refine wpList_k (st_set ha (wgT ha rfl (s := 20)) (ex_move ha) rfl ?_); clear ha; (try clear a); intro a ha
    refine wpList_k (st_set ha (wgT ha rfl (s := 20)) (ex_gtr ha) rfl ?_); clear ha; (try clear a); intro a ha
    refine wpList_k (st_set ha rfl (ex_pickF ha) rfl ?_); clear ha; (try clear a); intro a ha
    refine wpList_k (st_set ha rfl (ex_move ha) rfl ?_); clear ha; (try clear a); intro a ha
    refine ha.bool (s := 24) (fun hg6 ha => ?_) (fun hg6 ha => ?_)
    ·
      try simp only [decide_eq_true_eq, decide_eq_false_iff_not, Bool.not_eq_true', Bool.not_eq_false', Int.not_lt, Int.not_le, ne_eq, Decidable.not_not] at hg6
      refine wpList_k (st_off ha (wgF ha rfl (s := 24) rfl) rfl ?_); clear ha; (try clear a); intro a ha
      refine wpList_k (st_off ha (wgF ha rfl (s := 24) rfl) rfl ?_); clear ha; (try clear a); intro a ha
      refine wpList_k (st_set ha rfl (ex_pickT ha) rfl ?_); clear ha; (try clear a); intro a ha
      refine wpList_k (st_set ha rfl (ex_move ha) rfl ?_); clear ha; (try clear a); intro a ha
      refine wpList_k (st_off ha (wgF ha rfl (s := 28) rfl) rfl ?_); clear ha; (try clear a); intro a ha
      refine wpList_k (st_off ha (wgF ha rfl (s := 28) rfl) rfl ?_); clear ha; (try clear a); intro a ha
      refine wpList_k (st_set ha rfl (ex_pickT ha) rfl ?_); clear ha; (try clear a); intro a ha
      refine wpList_nil ?_
      refine then_n ?_
      refine wp_ifT ha ?_
      refine wp_seq ?_
      refine wp_region_lit ?_
      replace ha := ha.del 4
      refine wpList_k (st_set ha rfl (ex_assign ha) rfl ?_); clear ha; (try clear a); intro a ha
      refine wpList_nil ?_
      refine then_n ?_
      refine wp_ret <| then_r ?_
      refine ret1 ha rfl ?_
      exact ⟨rfl, hs.below⟩
    ·
      try simp only [decide_eq_true_eq, decide_eq_false_iff_not, Bool.not_eq_true', Bool.not_eq_false', Int.not_lt, Int.not_le, ne_eq, Decidable.not_not] at hg6
      refine wpList_k (st_set ha (wgT ha rfl (s := 24)) (ex_move ha) rfl ?_); clear ha; (try clear a); intro a ha
      refine wpList_k (st_set ha (wgT ha rfl (s := 24)) (ex_lss ha) rfl ?_); clear ha; (try clear a); intro a ha
      refine wpList_k (st_set ha rfl (ex_pickF ha) rfl ?_); clear ha; (try clear a); intro a ha
      refine wpList_k (st_set ha rfl (ex_move ha) rfl ?_); clear ha; (try clear a); intro a ha
      refine ha.bool (s := 28) (fun hg10 ha => ?_) (fun hg10 ha => ?_)
      ·
        try simp only [decide_eq_true_eq, decide_eq_false_iff_not, Bool.not_eq_true', Bool.not_eq_false', Int.not_lt, Int.not_le, ne_eq, Decidable.not_not] at hg10
        refine wpList_k (st_off ha (wgF ha rfl (s := 28) rfl) rfl ?_); clear ha; (try clear a); intro a ha
        refine wpList_k (st_off ha (wgF ha rfl (s := 28) rfl) rfl ?_); clear ha; (try clear a); intro a ha
        refine wpList_k (st_set ha rfl (ex_pickT ha) rfl ?_); clear ha; (try clear a); intro a ha
        refine wpList_nil ?_
        refine then_n ?_
        refine wp_ifT ha ?_
        refine wp_seq ?_
        refine wp_region_lit ?_
        replace ha := ha.del 4
        refine wpList_k (st_set ha rfl (ex_assign ha) rfl ?_); clear ha; (try clear a); intro a ha
        refine wpList_nil ?_
        refine then_n ?_
        refine wp_ret <| then_r ?_
        refine ret1 ha rfl ?_
        exact ⟨rfl, hs.below⟩
      ·
        try simp only [decide_eq_true_eq, decide_eq_false_iff_not, Bool.not_eq_true', Bool.not_eq_false', Int.not_lt, Int.not_le, ne_eq, Decidable.not_not] at hg10
        refine wpList_k (st_set ha (wgT ha rfl (s := 28)) (ex_move ha) rfl ?_); clear ha; (try clear a); intro a ha
        refine wpList_k (st_set ha (wgT ha rfl (s := 28)) (ex_gtr ha) rfl ?_); clear ha; (try clear a); intro a ha
        refine wpList_k (st_set ha rfl (ex_pickF ha) rfl ?_); clear ha; (try clear a); intro a ha
        refine wpList_nil ?_
        refine then_n ?_
        refine wp_if ha (fun hc1 => ?_) (fun hc1 => ?_)
        ·
          try simp only [decide_eq_true_eq, decide_eq_false_iff_not, Bool.not_eq_true', Bool.not_eq_false', Int.not_lt, Int.not_le, ne_eq, Decidable.not_not] at hc1
          refine wp_seq ?_
          refine wp_region_lit ?_
          replace ha := ha.del 4
          refine wpList_k (st_set ha rfl (ex_assign ha) rfl ?_); clear ha; (try clear a); intro a ha
          refine wpList_nil ?_
          refine then_n ?_
          refine wp_ret <| then_r ?_
          refine ret1 ha rfl ?_
          exact ⟨rfl, hs.below⟩
        ·
          try simp only [decide_eq_true_eq, decide_eq_false_iff_not, Bool.not_eq_true', Bool.not_eq_false', Int.not_lt, Int.not_le, ne_eq, Decidable.not_not] at hc1
          obtain ⟨N, rfl⟩ : ∃ N : Nat, k = N := ⟨k.toNat, by omega⟩
          obtain ⟨S, rfl⟩ : ∃ S : Nat, size = S := ⟨size.toNat, by omega⟩
          refine wp_skip ?_
          refine then_n ?_
          refine wp_seq ?_
          refine wp_region_lit ?_
          refine wpList_k (st_call ha rfl Ty.c9 rfl (new_spec hs) ?_); clear ha hs
          rintro e w ⟨q, rfl, hs⟩
          refine ⟨_, rfl, ?_⟩
          intro a ha
          refine wpList_k (st_set ha rfl (ex_assign ha) rfl ?_); clear ha; (try clear a); intro a ha
          refine wpList_nil ?_
          refine then_n ?_
          refine wp_seq ?_
          refine wp_seq ?_
          refine wp_region_lit ?_
          refine wpList_k (st_set ha rfl (ex_assign ha) rfl ?_); clear ha; (try clear a); intro a ha
          refine wpList_nil ?_
          refine then_n ?_
          refine wp_block ?_
          refine wp_loop_ghost (fun μ a w => ∃ i : Nat, (μ = N - i ∧ i ≤ N) ∧ Fr a 104 [(0, .int .i64 N), (1, .int .i64 S), (4, .bool false), (6, .pointer (some ⟨q, 0, none⟩)), (7, .int .i64 i)] ∧ St W w [Net q (nls g1 (min i 300))]) (N) ?_ ?_
          · exact ⟨0, ⟨by simp, by simp⟩, ha.keep [0, 1, 4, 6, 7], by rw [show nls g1 (min 0 300) = [] from rfl]; exact hs.sub⟩
          ·
            clear ha hs
            rintro μ a w ⟨i, ⟨rfl, hi⟩, ha, hs⟩
            refine wp_seq ?_
            refine wp_seq ?_
            refine wp_region_lit ?_
            refine wpList_k (st_set ha rfl (ex_move ha) rfl ?_); clear ha; (try clear a); intro a ha
            refine wpList_k (st_set ha rfl (ex_move ha) rfl ?_); clear ha; (try clear a); intro a ha
            refine wpList_k (st_set ha rfl (ex_lss ha) rfl ?_); clear ha; (try clear a); intro a ha
            refine wpList_nil ?_
            refine then_n ?_
            refine wp_if ha (fun hc2 => ?_) (fun hc2 => ?_)
            ·
              try simp only [decide_eq_true_eq, decide_eq_false_iff_not, Bool.not_eq_true', Bool.not_eq_false', Int.not_lt, Int.not_le, ne_eq, Decidable.not_not] at hc2
              refine wp_skip ?_
              refine then_n ?_
              refine wp_seq ?_
              refine wp_block ?_
              refine wp_seq ?_
              refine wp_region_lit ?_
              refine wpList_k (st_set ha rfl (ex_move ha) rfl ?_); clear ha; (try clear a); intro a ha
              refine wpList_k (st_set ha rfl (ex_move ha) rfl ?_); clear ha; (try clear a); intro a ha
              refine wpList_k (st_set ha rfl (ex_build ha Ty.b29 Ty.t29 rfl) rfl ?_); clear ha; (try clear a); intro a ha
              refine wpList_k (st_call ha rfl Ty.c11 rfl (send_spec (bs := []) (hs.net q) (fun w' h => ⟨rfl, fun _ => rfl, fun x hx => by cases hx⟩)) ?_); clear ha hs
              rintro e w ⟨rfl, hs⟩
              refine ⟨_, rfl, ?_⟩
              intro a ha
              change St W w [Net q (if maySend (nls g1 (min i 300)) 0 = true then nls g1 (min i 300) ++ [g1 i] else nls g1 (min i 300))] at hs
              rw [put1] at hs
              refine wpList_k (st_set ha rfl (ex_move ha) rfl ?_); clear ha; (try clear a); intro a ha
              refine wpList_k (st_set ha rfl (ex_lss ha) rfl ?_); clear ha; (try clear a); intro a ha
              refine wpList_k (st_set ha rfl (ex_neqB ha Try.underlying4) rfl ?_); clear ha; (try clear a); intro a ha
              rw [show ([] : List UInt8).length = 0 from rfl, may1, bne_self_eq_false] at ha
              refine wpList_nil ?_
              refine then_n ?_
              refine wp_ifF ha ?_
              refine wp_skip ?_
              refine blk_n <| then_n ?_
              refine wp_region_lit ?_
              refine wpList_k (st_set ha rfl (ex_move ha) rfl ?_); clear ha; (try clear a); intro a ha
              refine wpList_k (st_set ha rfl (ex_addI ha (by omega) (by omega)) rfl ?_); clear ha; (try clear a); intro a ha
              replace ha := ha.del 7
              refine wpList_k (st_set ha rfl (ex_assign ha) rfl ?_); clear ha; (try clear a); intro a ha
              refine wpList_nil ?_
              refine then_n ?_
              exact ⟨N - (i + 1), by omega, i + 1, ⟨rfl, by omega⟩, ha.keep [0, 1, 4, 6, 7], hs.sub⟩
            ·
              try simp only [decide_eq_true_eq, decide_eq_false_iff_not, Bool.not_eq_true', Bool.not_eq_false', Int.not_lt, Int.not_le, ne_eq, Decidable.not_not] at hc2
              obtain rfl : i = N := by omega
              refine wp_exit ?_
              refine then_e <| then_e <| blk_e ?_
              refine then_n ?_
              refine wp_seq ?_
              refine wp_region_lit ?_
              refine wpList_k (st_call ha rfl Ty.c9 rfl (new_spec hs) ?_); clear ha hs
              rintro e w ⟨m, rfl, hs⟩
              refine ⟨_, rfl, ?_⟩
              intro a ha
              refine wpList_k (st_set ha rfl (ex_assign ha) rfl ?_); clear ha; (try clear a); intro a ha
              refine wpList_nil ?_
              refine then_n ?_
              refine wp_seq ?_
              refine wp_region_lit ?_
              refine wpList_k (st_set ha rfl (ex_move ha) rfl ?_); clear ha; (try clear a); intro a ha
              refine wpList_k (st_makeSlice ha rfl hs Try.underlying27 Ty.t5 rfl (by omega) (by omega) ?_); clear ha hs; (try clear a); (try clear w); intro b47 a w ha hs ho
              clear ho
              rw [made8] at hs
              refine wpList_k (st_set ha rfl (ex_assign ha) rfl ?_); clear ha; (try clear a); intro a ha
              refine wpList_nil ?_
              refine then_n ?_
              refine wp_seq ?_
              refine wp_region_lit ?_
              refine wpList_k (st_set ha rfl (ex_move ha) rfl ?_); clear ha; (try clear a); intro a ha
              refine wpList_k (st_set ha rfl (ex_move ha) rfl ?_); clear ha; (try clear a); intro a ha
              refine wpList_k (st_set ha rfl (ex_build ha Ty.b29 Ty.t29 rfl) rfl ?_); clear ha; (try clear a); intro a ha
              refine wpList_k (st_call ha rfl Ty.c11 rfl (send_spec (bs := List.replicate S 0) (hs.net m) (fun w' h => ⟨by simp, (fun h => by cases h), fun x hx _ => ⟨b47, 0, by cases hx; rfl, h.rdAll⟩⟩)) ?_); clear ha hs
              rintro e w ⟨rfl, hs⟩
              refine ⟨_, rfl, ?_⟩
              intro a ha
              obtain ⟨ok, hok⟩ : ∃ ok : Bool, decide ((S : Int) ≤ 1000) = ok := ⟨_, rfl⟩
              rw [mayNil, hok] at ha hs
              change St W w (Net m (one ok S) :: _) at hs
              refine wpList_k (st_set ha rfl (ex_assign ha) rfl ?_); clear ha; (try clear a); intro a ha
              refine wpList_nil ?_
              refine then_n ?_
              refine wp_seq ?_
              refine wp_seq ?_
              refine wp_region_lit ?_
              refine wpList_k (st_set ha rfl (ex_move ha) rfl ?_); clear ha; (try clear a); intro a ha
              refine wpList_k (st_set ha rfl (ex_gtr ha) rfl ?_); clear ha; (try clear a); intro a ha
              refine wpList_nil ?_
              refine then_n ?_
              refine wp_if ha (fun hc4 => ?_) (fun hc4 => ?_)
              ·
                try simp only [decide_eq_true_eq, decide_eq_false_iff_not, Bool.not_eq_true', Bool.not_eq_false', Int.not_lt, Int.not_le, ne_eq, Decidable.not_not] at hc4
                refine wp_seq ?_
                refine wp_region_lit ?_
                refine wpList_k (st_set ha rfl (ex_move ha) rfl ?_); clear ha; (try clear a); intro a ha
                refine wpList_k (st_set ha rfl (ex_indexAddr ha Try.underlying27 Ty.t5 (by omega)) rfl ?_); clear ha; (try clear a); intro a ha
                refine wpList_k (st_store ha rfl hs Ty.t5 rfl (by simp only [bc_len, List.length_replicate]; omega) ?_); clear ha hs; (try clear a); (try clear w); intro a w ha hs
                refine wpList_nil ?_
                refine then_n ?_
                refine wp_seq ?_
                refine wp_region_lit ?_
                refine wpList_k (st_set ha rfl (ex_move ha) rfl ?_); clear ha; (try clear a); intro a ha
                refine wpList_k (st_call ha rfl Ty.c12 rfl (look_one (hs.net m)) ?_); clear ha hs
                rintro e w ⟨ad1, n1, c1, rfl, hn1, hs⟩
                refine ⟨_, rfl, ?_⟩
                intro a ha
                refine wpList_k (st_set ha rfl (ex_move ha) rfl ?_); clear ha; (try clear a); intro a ha
                refine wpList_k (st_set ha rfl (ex_extract ha rfl) rfl ?_); clear ha; (try clear a); intro a ha
                refine wpList_k (st_set ha rfl (ex_extract ha rfl) rfl ?_); clear ha; (try clear a); intro a ha
                refine wpList_k (st_alloc ha rfl hs Ty.t29 rfl ?_); clear ha hs; (try clear a); (try clear w); intro b11 a w ha hs ho
                clear ho
                refine wpList_k (st_storeAll ha rfl hs Ty.t29 (by simp [Value.oneCell']) (by rfl) ?_); clear ha hs; (try clear a); (try clear w); intro a w ha hs
                refine wpList_k (st_set ha rfl (ex_assign ha) rfl ?_); clear ha; (try clear a); intro a ha
                refine wpList_nil ?_
                refine then_n ?_
                refine wp_seq ?_
                refine wp_seq ?_
                refine wp_region_lit ?_
                refine wpList_k (st_set ha rfl (ex_move ha) rfl ?_); clear ha; (try clear a); intro a ha
                refine wpList_k (st_set ha rfl (ex_move ha) rfl ?_); clear ha; (try clear a); intro a ha
                refine ha.bool (s := 62) (fun hg1 ha => ?_) (fun hg1 ha => ?_)
                ·
                  try simp only [decide_eq_true_eq, decide_eq_false_iff_not, Bool.not_eq_true', Bool.not_eq_false', Int.not_lt, Int.not_le, ne_eq, Decidable.not_not] at hg1
                  obtain rfl := hg1
                  obtain rfl := hn1 rfl
                  obtain ⟨b', off', rfl, hrd⟩ := hs.slRd ad1 (by omega)
                  have h00 := hrd 0 _ (rep0 (by omega))
                  refine wpList_k (st_set ha (wgT ha rfl (s := 62)) (ex_fieldAddr ha Try.underlying29 rfl Ty.t27 rfl) rfl ?_); clear ha; (try clear a); intro a ha
                  refine wpList_k (st_set ha (wgT ha rfl (s := 62)) (ex_load1 ha Try.underlying27 rfl (hs.rd1 rfl)) rfl ?_); clear ha; (try clear a); intro a ha
                  refine wpList_k (st_set ha (wgT ha rfl (s := 62)) (ex_indexAddr ha Try.underlying27 Ty.t5 (by omega)) rfl ?_); clear ha; (try clear a); intro a ha
                  refine wpList_k (st_set ha (wgT ha rfl (s := 62)) (ex_load1 ha Try.underlying5 rfl (h00)) rfl ?_); clear ha; (try clear a); intro a ha
                  refine wpList_k (st_set ha (wgT ha rfl (s := 62)) (ex_neq ha) rfl ?_); clear ha; (try clear a); intro a ha
                  rw [dneI] at ha
                  refine wpList_k (st_set ha (wgT ha rfl (s := 62)) (ex_move ha) rfl ?_); clear ha; (try clear a); intro a ha
                  refine wpList_k (st_set ha (wgT ha rfl (s := 68)) (ex_fieldAddr ha Try.underlying29 rfl Ty.t27 rfl) rfl ?_); clear ha; (try clear a); intro a ha
                  refine wpList_k (st_set ha (wgT ha rfl (s := 68)) (ex_load1 ha Try.underlying27 rfl (hs.rd1 rfl)) rfl ?_); clear ha; (try clear a); intro a ha
                  refine wpList_k (st_set ha (wgT ha rfl (s := 68)) (ex_len ha Try.underlying27) rfl ?_); clear ha; (try clear a); intro a ha
                  refine wpList_k (st_set ha (wgT ha rfl (s := 68)) (ex_move ha) rfl ?_); clear ha; (try clear a); intro a ha
                  refine wpList_k (st_set ha (wgT ha rfl (s := 68)) (ex_neq ha) rfl ?_); clear ha; (try clear a); intro a ha
                  rw [dneI] at ha
                  refine wpList_k (st_set ha (wgT ha rfl (s := 62)) (ex_pickF ha) rfl ?_); clear ha; (try clear a); intro a ha
                  refine wpList_k (st_set ha rfl (ex_pickT ha) rfl ?_); clear ha; (try clear a); intro a ha
                  refine wpList_nil ?_
                  refine then_n ?_
                  refine wp_ifF ha ?_
                  refine wp_skip ?_
                  refine then_n ?_
                  refine wp_seq ?_
                  refine wp_seq ?_
                  refine wp_region_lit ?_
                  refine wpList_k (st_set ha rfl (ex_move ha) rfl ?_); clear ha; (try clear a); intro a ha
                  refine wpList_nil ?_
                  refine then_n ?_
                  refine wp_ifT ha ?_
                  obtain ⟨bb, pre, post, ⟨h3, h4, h5, h6⟩, hs0⟩ := (hs.pick (Sl 5 1 (some ⟨b', off', none⟩) S c1 (bc (List.replicate S 0)))).slOpen (by have := (hs.sl (some ⟨b', off', none⟩)).2; omega)
                  cases h5
                  replace hs := hs0
                  clear hs0
                  refine wp_region_lit ?_
                  refine wpList_k (st_set ha rfl (ex_fieldAddr ha Try.underlying29 rfl Ty.t27 rfl) rfl ?_); clear ha; (try clear a); intro a ha
                  refine wpList_k (st_set ha rfl (ex_load1 ha Try.underlying27 rfl (hs.rd1 rfl)) rfl ?_); clear ha; (try clear a); intro a ha
                  refine wpList_k (st_set ha rfl (ex_indexAddr ha Try.underlying27 Ty.t5 (by omega)) rfl ?_); clear ha; (try clear a); intro a ha
                  refine wpList_k (st_store ha rfl hs Ty.t5 rfl (by simp only [List.length_append, bc_len, List.length_replicate]; omega) ?_); clear ha hs; (try clear a); (try clear w); intro a w ha hs
                  refine wpList_nil ?_
                  refine then_n ?_
                  refine wp_seq ?_
                  refine wp_region_lit ?_
                  refine wpList_k (st_set ha rfl (ex_move ha) rfl ?_); clear ha; (try clear a); intro a ha
                  refine wpList_k (st_call ha rfl Ty.c13 rfl (take_one (hs.net m)) ?_); clear ha hs
                  rintro e w ⟨ad2, n2, c2, rfl, hn2, hs⟩
                  refine ⟨_, rfl, ?_⟩
                  intro a ha
                  refine wpList_k (st_set ha rfl (ex_move ha) rfl ?_); clear ha; (try clear a); intro a ha
                  refine wpList_k (st_set ha rfl (ex_extract ha rfl) rfl ?_); clear ha; (try clear a); intro a ha
                  refine wpList_k (st_set ha rfl (ex_extract ha rfl) rfl ?_); clear ha; (try clear a); intro a ha
                  refine wpList_k (st_alloc ha rfl hs Ty.t29 rfl ?_); clear ha hs; (try clear a); (try clear w); intro b13 a w ha hs ho
                  clear ho
                  refine wpList_k (st_storeAll ha rfl hs Ty.t29 (by simp [Value.oneCell']) (by rfl) ?_); clear ha hs; (try clear a); (try clear w); intro a w ha hs
                  refine wpList_k (st_set ha rfl (ex_assign ha) rfl ?_); clear ha; (try clear a); intro a ha
                  refine wpList_nil ?_
                  refine then_n ?_
                  refine wp_seq ?_
                  obtain rfl := hn2 rfl
                  obtain ⟨b'', off'', rfl, hrd2⟩ := hs.slRd ad2 (by omega)
                  have h01 := hrd2 0 _ (rep0 (by omega))
                  refine wp_region_lit ?_
                  refine wpList_k (st_set ha rfl (ex_move ha) rfl ?_); clear ha; (try clear a); intro a ha
                  refine wpList_k (st_set ha rfl (ex_move ha) rfl ?_); clear ha; (try clear a); intro a ha
                  refine wpList_k (st_set ha (wgT ha rfl (s := 86)) (ex_fieldAddr ha Try.underlying29 rfl Ty.t27 rfl) rfl ?_); clear ha; (try clear a); intro a ha
                  refine wpList_k (st_set ha (wgT ha rfl (s := 86)) (ex_load1 ha Try.underlying27 rfl (hs.rd1 rfl)) rfl ?_); clear ha; (try clear a); intro a ha
                  refine wpList_k (st_set ha (wgT ha rfl (s := 86)) (ex_indexAddr ha Try.underlying27 Ty.t5 (by omega)) rfl ?_); clear ha; (try clear a); intro a ha
                  refine wpList_k (st_set ha (wgT ha rfl (s := 86)) (ex_load1 ha Try.underlying5 rfl (h01)) rfl ?_); clear ha; (try clear a); intro a ha
                  refine wpList_k (st_set ha (wgT ha rfl (s := 86)) (ex_neq ha) rfl ?_); clear ha; (try clear a); intro a ha
                  rw [dneI] at ha
                  refine wpList_k (st_set ha rfl (ex_pickT ha) rfl ?_); clear ha; (try clear a); intro a ha
                  refine wpList_nil ?_
                  refine then_n ?_
                  refine wp_ifF ha ?_
                  refine wp_skip ?_
                  refine then_n ?_
                  refine wp_seq ?_
                  refine wp_region_lit ?_
                  refine wpList_k (st_set ha rfl (ex_move ha) rfl ?_); clear ha; (try clear a); intro a ha
                  refine wpList_k (st_call ha rfl Ty.c17 rfl (len_net (hs.net q)) ?_); clear ha hs
                  rintro e w ⟨rfl, hs⟩
                  refine ⟨_, rfl, ?_⟩
                  intro a ha
                  refine wpList_k (st_set ha rfl (ex_move ha) rfl ?_); clear ha; (try clear a); intro a ha
                  refine wpList_k (st_set ha rfl (ex_min ha) rfl ?_); clear ha; (try clear a); intro a ha
                  refine wpList_k (st_set ha rfl (ex_eql ha) rfl ?_); clear ha; (try clear a); intro a ha
                  rw [nls_len, decide_eq_true (by omega)] at ha
                  refine wpList_k (st_set ha rfl (ex_move ha) rfl ?_); clear ha; (try clear a); intro a ha
                  refine wpList_k (st_set ha (wgT ha rfl (s := 98)) (ex_move ha) rfl ?_); clear ha; (try clear a); intro a ha
                  refine wpList_k (st_set ha (wgT ha rfl (s := 98)) (ex_move ha) rfl ?_); clear ha; (try clear a); intro a ha
                  refine wpList_k (st_set ha (wgT ha rfl (s := 98)) (ex_leq ha) rfl ?_); clear ha; (try clear a); intro a ha
                  refine wpList_k (st_set ha (wgT ha rfl (s := 98)) (ex_eqlB ha Try.underlying4) rfl ?_); clear ha; (try clear a); intro a ha
                  rw [hok, beq_self_eq_true] at ha
                  refine wpList_k (st_set ha rfl (ex_pickT ha) rfl ?_); clear ha; (try clear a); intro a ha
                  replace ha := ha.del 4
                  refine wpList_k (st_set ha rfl (ex_assign ha) rfl ?_); clear ha; (try clear a); intro a ha
                  refine wpList_nil ?_
                  refine then_n ?_
                  refine wp_ret ?_
                  refine ret1 ha rfl ?_
                  exact ⟨rfl, hs.below⟩
                ·
                  try simp only [decide_eq_true_eq, decide_eq_false_iff_not, Bool.not_eq_true', Bool.not_eq_false', Int.not_lt, Int.not_le, ne_eq, Decidable.not_not] at hg1
                  obtain rfl := hg1
                  refine wpList_k (st_off ha (wgF ha rfl (s := 62) rfl) rfl ?_); clear ha; (try clear a); intro a ha
                  refine wpList_k (st_off ha (wgF ha rfl (s := 62) rfl) rfl ?_); clear ha; (try clear a); intro a ha
                  refine wpList_k (st_off ha (wgF ha rfl (s := 62) rfl) rfl ?_); clear ha; (try clear a); intro a ha
                  refine wpList_k (st_off ha (wgF ha rfl (s := 62) rfl) rfl ?_); clear ha; (try clear a); intro a ha
                  refine wpList_k (st_off ha (wgF ha rfl (s := 62) rfl) rfl ?_); clear ha; (try clear a); intro a ha
                  refine wpList_k (st_offU ha (wgF ha rfl (s := 62) rfl) rfl ?_); clear ha; (try clear a); intro a ha
                  refine wpList_k (st_off ha (wgU ha rfl (s := 68)) rfl ?_); clear ha; (try clear a); intro a ha
                  refine wpList_k (st_off ha (wgU ha rfl (s := 68)) rfl ?_); clear ha; (try clear a); intro a ha
                  refine wpList_k (st_off ha (wgU ha rfl (s := 68)) rfl ?_); clear ha; (try clear a); intro a ha
                  refine wpList_k (st_off ha (wgU ha rfl (s := 68)) rfl ?_); clear ha; (try clear a); intro a ha
                  refine wpList_k (st_off ha (wgU ha rfl (s := 68)) rfl ?_); clear ha; (try clear a); intro a ha
                  refine wpList_k (st_off ha (wgF ha rfl (s := 62) rfl) rfl ?_); clear ha; (try clear a); intro a ha
                  refine wpList_k (st_set ha rfl (ex_pickF ha) rfl ?_); clear ha; (try clear a); intro a ha
                  refine wpList_nil ?_
                  refine then_n ?_
                  refine wp_ifF ha ?_
                  refine wp_skip ?_
                  refine then_n ?_
                  refine wp_seq ?_
                  refine wp_seq ?_
                  refine wp_region_lit ?_
                  refine wpList_k (st_set ha rfl (ex_move ha) rfl ?_); clear ha; (try clear a); intro a ha
                  refine wpList_nil ?_
                  refine then_n ?_
                  refine wp_ifF ha ?_
                  refine wp_skip ?_
                  refine then_n ?_
                  refine wp_seq ?_
                  refine wp_region_lit ?_
                  refine wpList_k (st_set ha rfl (ex_move ha) rfl ?_); clear ha; (try clear a); intro a ha
                  refine wpList_k (st_call ha rfl Ty.c13 rfl (take_one (hs.net m)) ?_); clear ha hs
                  rintro e w ⟨ad2, n2, c2, rfl, hn2, hs⟩
                  refine ⟨_, rfl, ?_⟩
                  intro a ha
                  refine wpList_k (st_set ha rfl (ex_move ha) rfl ?_); clear ha; (try clear a); intro a ha
                  refine wpList_k (st_set ha rfl (ex_extract ha rfl) rfl ?_); clear ha; (try clear a); intro a ha
                  refine wpList_k (st_set ha rfl (ex_extract ha rfl) rfl ?_); clear ha; (try clear a); intro a ha
                  refine wpList_k (st_alloc ha rfl hs Ty.t29 rfl ?_); clear ha hs; (try clear a); (try clear w); intro b13 a w ha hs ho
                  clear ho
                  refine wpList_k (st_storeAll ha rfl hs Ty.t29 (by simp [Value.oneCell']) (by rfl) ?_); clear ha hs; (try clear a); (try clear w); intro a w ha hs
                  refine wpList_k (st_set ha rfl (ex_assign ha) rfl ?_); clear ha; (try clear a); intro a ha
                  refine wpList_nil ?_
                  refine then_n ?_
                  refine wp_seq ?_
                  refine wp_region_lit ?_
                  refine wpList_k (st_set ha rfl (ex_move ha) rfl ?_); clear ha; (try clear a); intro a ha
                  refine wpList_k (st_set ha rfl (ex_move ha) rfl ?_); clear ha; (try clear a); intro a ha
                  refine wpList_k (st_off ha (wgF ha rfl (s := 86) rfl) rfl ?_); clear ha; (try clear a); intro a ha
                  refine wpList_k (st_off ha (wgF ha rfl (s := 86) rfl) rfl ?_); clear ha; (try clear a); intro a ha
                  refine wpList_k (st_off ha (wgF ha rfl (s := 86) rfl) rfl ?_); clear ha; (try clear a); intro a ha
                  refine wpList_k (st_off ha (wgF ha rfl (s := 86) rfl) rfl ?_); clear ha; (try clear a); intro a ha
                  refine wpList_k (st_off ha (wgF ha rfl (s := 86) rfl) rfl ?_); clear ha; (try clear a); intro a ha
                  refine wpList_k (st_set ha rfl (ex_pickF ha) rfl ?_); clear ha; (try clear a); intro a ha
                  refine wpList_nil ?_
                  refine then_n ?_
                  refine wp_ifF ha ?_
                  refine wp_skip ?_
                  refine then_n ?_
                  refine wp_seq ?_
                  refine wp_region_lit ?_
                  refine wpList_k (st_set ha rfl (ex_move ha) rfl ?_); clear ha; (try clear a); intro a ha
                  refine wpList_k (st_call ha rfl Ty.c17 rfl (len_net (hs.net q)) ?_); clear ha hs
                  rintro e w ⟨rfl, hs⟩
                  refine ⟨_, rfl, ?_⟩
                  intro a ha
                  refine wpList_k (st_set ha rfl (ex_move ha) rfl ?_); clear ha; (try clear a); intro a ha
                  refine wpList_k (st_set ha rfl (ex_min ha) rfl ?_); clear ha; (try clear a); intro a ha
                  refine wpList_k (st_set ha rfl (ex_eql ha) rfl ?_); clear ha; (try clear a); intro a ha
                  rw [nls_len, decide_eq_true (by omega)] at ha
                  refine wpList_k (st_set ha rfl (ex_move ha) rfl ?_); clear ha; (try clear a); intro a ha
                  refine wpList_k (st_set ha (wgT ha rfl (s := 98)) (ex_move ha) rfl ?_); clear ha; (try clear a); intro a ha
                  refine wpList_k (st_set ha (wgT ha rfl (s := 98)) (ex_move ha) rfl ?_); clear ha; (try clear a); intro a ha
                  refine wpList_k (st_set ha (wgT ha rfl (s := 98)) (ex_leq ha) rfl ?_); clear ha; (try clear a); intro a ha
                  refine wpList_k (st_set ha (wgT ha rfl (s := 98)) (ex_eqlB ha Try.underlying4) rfl ?_); clear ha; (try clear a); intro a ha
                  rw [hok, beq_self_eq_true] at ha
                  refine wpList_k (st_set ha rfl (ex_pickT ha) rfl ?_); clear ha; (try clear a); intro a ha
                  replace ha := ha.del 4
                  refine wpList_k (st_set ha rfl (ex_assign ha) rfl ?_); clear ha; (try clear a); intro a ha
                  refine wpList_nil ?_
                  refine then_n ?_
                  refine wp_ret ?_
                  refine ret1 ha rfl ?_
                  exact ⟨rfl, hs.below⟩
              ·
                try simp only [decide_eq_true_eq, decide_eq_false_iff_not, Bool.not_eq_true', Bool.not_eq_false', Int.not_lt, Int.not_le, ne_eq, Decidable.not_not] at hc4
                refine wp_skip ?_
                refine then_n ?_
                refine wp_seq ?_
                refine wp_region_lit ?_
                refine wpList_k (st_set ha rfl (ex_move ha) rfl ?_); clear ha; (try clear a); intro a ha
                refine wpList_k (st_call ha rfl Ty.c17 rfl (len_net (hs.net q)) ?_); clear ha hs
                rintro e w ⟨rfl, hs⟩
                refine ⟨_, rfl, ?_⟩
                intro a ha
                refine wpList_k (st_set ha rfl (ex_move ha) rfl ?_); clear ha; (try clear a); intro a ha
                refine wpList_k (st_set ha rfl (ex_min ha) rfl ?_); clear ha; (try clear a); intro a ha
                refine wpList_k (st_set ha rfl (ex_eql ha) rfl ?_); clear ha; (try clear a); intro a ha
                rw [nls_len, decide_eq_true (by omega)] at ha
                refine wpList_k (st_set ha rfl (ex_move ha) rfl ?_); clear ha; (try clear a); intro a ha
                refine wpList_k (st_set ha (wgT ha rfl (s := 98)) (ex_move ha) rfl ?_); clear ha; (try clear a); intro a ha
                refine wpList_k (st_set ha (wgT ha rfl (s := 98)) (ex_move ha) rfl ?_); clear ha; (try clear a); intro a ha
                refine wpList_k (st_set ha (wgT ha rfl (s := 98)) (ex_leq ha) rfl ?_); clear ha; (try clear a); intro a ha
                refine wpList_k (st_set ha (wgT ha rfl (s := 98)) (ex_eqlB ha Try.underlying4) rfl ?_); clear ha; (try clear a); intro a ha
                rw [hok, beq_self_eq_true] at ha
                refine wpList_k (st_set ha rfl (ex_pickT ha) rfl ?_); clear ha; (try clear a); intro a ha
                replace ha := ha.del 4
                refine wpList_k (st_set ha rfl (ex_assign ha) rfl ?_); clear ha; (try clear a); intro a ha
                refine wpList_nil ?_
                refine then_n ?_
                refine wp_ret ?_
                refine ret1 ha rfl ?_
                exact ⟨rfl, hs.below⟩
end Go.Proofs.Ytjaiojfmcpbkbaa

