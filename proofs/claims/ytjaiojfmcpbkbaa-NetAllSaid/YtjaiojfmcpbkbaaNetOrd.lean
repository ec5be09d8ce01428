/- NetOrder. -/
import Derived.Test.YtjaiojfmcpbkbaaNetLaw
import Derived.Test.YtjaiojfmcpbkbaaArg
namespace Go.Proofs.Ytjaiojfmcpbkbaa
open Go.RowKit
set_option linter.unusedVariables false
set_option linter.unusedSimpArgs false
set_option maxRecDepth 10000
set_option synthInstance.maxSize 4000
set_option synthInstance.maxHeartbeats 400000

section
variable {P : Program} {a : Act} {w : World} {n : Nat} {l : List (Nat × Value)}
theorem ex_rem {x y k i j t u dst ty ps af g} (ha : Fr a n l) (h : j ≠ 0) [e : Ev l x (.int k i)] [f : Ev l y (.int k j)] :
    (execOp a.eval ⟨dst, .binOp .rem t x y u, ty, ps, af, g⟩).run P w = .ok (.value (.int k (i.tmod j))) w := by
  simp [execOp, e.ev a n ha, f.ev a n ha, eqGuard, binOp, Op.intDiv, h]
end
theorem dneI {x : Int} : decide (x ≠ x) = false := by simp
/-- A row of mail made by number. -/
def nls (g : Nat → Mm) (m : Nat) : List Mm := (List.range m).map g
theorem nls_len (g : Nat → Mm) (m : Nat) : (nls g m).length = m := by simp [nls]
theorem nls_succ (g : Nat → Mm) (m : Nat) : nls g (m + 1) = nls g m ++ [g m] := by simp [nls, List.range_succ]
theorem nls_at (g : Nat → Mm) (m i : Nat) (h : i < (nls g m).length) : (nls g m)[i] = g i := by simp [nls]

def g0 (j : Nat) : Mm := ((j : Int), 0, [])
theorem netOrder_walk (n : Int) (ad : Option Addr) (len cap : Nat) (z : List Int) (W : World) (w0 : (Lit.int .i64 n).wf = true) (w1 : ArgInts .i64 W ad len cap z) :
    Calls Try.prog 6 #[.int .i64 n, .slice ad len cap] W fun e w' => e = .returned (.bool true) ∧ Below W.heap.size W w' := by
  have hs := St.start W
  have hzl := w1.len_le
  refine calls_enter Try.func6 rfl Try.ntmps6 (Nat.le_of_ble_eq_true rfl) ?_
  intro a ha
  replace ha : Fr a 106 [(0, _), (1, _)] := ha
  refine wp_seq ?_
  refine wp_region_lit ?_
  refine wpList_k (st_set ha rfl (ex_assign ha) rfl ?_); clear ha; (try clear a); intro a ha
  refine wpList_nil ?_
  refine then_n ?_
  refine wp_seq ?_
  refine wp_region_lit ?_
  refine wpList_k (st_call ha rfl Ty.c8 rfl (begun16 hs) ?_); clear ha hs
  rintro e w ⟨rfl, hs⟩
  refine ⟨_, rfl, ?_⟩
  intro a ha
  refine wpList_k (st_set ha rfl (ex_assign ha) rfl ?_); clear ha; (try clear a); intro a ha
  refine wpList_nil ?_
  refine then_n ?_
  refine wp_seq ?_
  refine wp_seq ?_
  refine wp_region_lit ?_
  refine wpList_k (st_set ha rfl (ex_move ha) rfl ?_); clear ha; (try clear a); intro a ha
  refine wpList_k (st_set ha rfl (ex_not ha) rfl ?_); clear ha; (try clear a); intro a ha
  refine wpList_nil ?_
  refine then_n ?_
  refine wp_ifF ha ?_
  refine wp_skip ?_
  refine then_n ?_
  refine wp_seq ?_
  refine wp_seq ?_
  refine wp_region_lit ?_
  refine wpList_k (st_set ha rfl (ex_move ha) rfl ?_); clear ha; (try clear a); intro a ha
  refine wpList_k (st_set ha rfl (ex_lss ha) rfl ?_); clear ha; (try clear a); intro a ha
  refine wpList_k (st_set ha rfl (ex_move ha) rfl ?_); clear ha; (try clear a); intro a ha
  refine ha.bool (s := 23) (fun hg2 ha => ?_) (fun hg2 ha => ?_)
  ·
    try simp only [decide_eq_true_eq, decide_eq_false_iff_not, Bool.not_eq_true', Bool.not_eq_false', Int.not_lt, Int.not_le, ne_eq, Decidable.not_not] at hg2
    refine wpList_k (st_off ha (wgF ha rfl (s := 23) rfl) rfl ?_); clear ha; (try clear a); intro a ha
    refine wpList_k (st_off ha (wgF ha rfl (s := 23) rfl) rfl ?_); clear ha; (try clear a); intro a ha
    refine wpList_k (st_set ha rfl (ex_pickT ha) rfl ?_); clear ha; (try clear a); intro a ha
    refine wpList_nil ?_
    refine then_n ?_
    refine wp_ifT ha ?_
    refine wp_seq ?_
    refine wp_region_lit ?_
    replace ha := ha.del 4
    refine wpList_k (st_set ha rfl (ex_assign ha) rfl ?_); clear ha; (try clear a); intro a ha
    refine wpList_nil ?_
    refine then_n ?_
    refine wp_ret <| then_r ?_
    refine ret1 ha rfl ?_
    exact ⟨rfl, hs.below⟩
  ·
    try simp only [decide_eq_true_eq, decide_eq_false_iff_not, Bool.not_eq_true', Bool.not_eq_false', Int.not_lt, Int.not_le, ne_eq, Decidable.not_not] at hg2
    refine wpList_k (st_set ha (wgT ha rfl (s := 23)) (ex_move ha) rfl ?_); clear ha; (try clear a); intro a ha
    refine wpList_k (st_set ha (wgT ha rfl (s := 23)) (ex_gtr ha) rfl ?_); clear ha; (try clear a); intro a ha
    refine wpList_k (st_set ha rfl (ex_pickF ha) rfl ?_); clear ha; (try clear a); intro a ha
    refine wpList_nil ?_
    refine then_n ?_
    refine wp_if ha (fun hc1 => ?_) (fun hc1 => ?_)
    ·
      try simp only [decide_eq_true_eq, decide_eq_false_iff_not, Bool.not_eq_true', Bool.not_eq_false', Int.not_lt, Int.not_le, ne_eq, Decidable.not_not] at hc1
      refine wp_seq ?_
      refine wp_region_lit ?_
      replace ha := ha.del 4
      refine wpList_k (st_set ha rfl (ex_assign ha) rfl ?_); clear ha; (try clear a); intro a ha
      refine wpList_nil ?_
      refine then_n ?_
      refine wp_ret <| then_r ?_
      refine ret1 ha rfl ?_
      exact ⟨rfl, hs.below⟩
    ·
      try simp only [decide_eq_true_eq, decide_eq_false_iff_not, Bool.not_eq_true', Bool.not_eq_false', Int.not_lt, Int.not_le, ne_eq, Decidable.not_not] at hc1
      obtain ⟨N, rfl⟩ : ∃ N : Nat, n = N := ⟨n.toNat, by omega⟩
      refine wp_skip ?_
      refine then_n ?_
      refine wp_seq ?_
      refine wp_region_lit ?_
      refine wpList_k (st_call ha rfl Ty.c9 rfl (new_spec hs) ?_); clear ha hs
      rintro e w ⟨q, rfl, hs⟩
      refine ⟨_, rfl, ?_⟩
      intro a ha
      refine wpList_k (st_set ha rfl (ex_assign ha) rfl ?_); clear ha; (try clear a); intro a ha
      refine wpList_nil ?_
      refine then_n ?_
      refine wp_seq ?_
      refine wp_seq ?_
      refine wp_region_lit ?_
      refine wpList_k (st_set ha rfl (ex_assign ha) rfl ?_); clear ha; (try clear a); intro a ha
      refine wpList_nil ?_
      refine then_n ?_
      refine wp_block ?_
      refine wp_loop_ghost (fun μ a w => ∃ i : Nat, (μ = N - i ∧ i ≤ N) ∧ Fr a 106 [(0, .int .i64 N), (1, .slice ad len cap), (4, .bool false), (6, .pointer (some ⟨q, 0, none⟩)), (7, .int .i64 i)] ∧ St W w [Net q (nls g0 i)]) (N) ?_ ?_
      · exact ⟨0, ⟨by simp, by simp⟩, ha.keep [0, 1, 4, 6, 7], by rw [show nls g0 0 = [] from rfl]; exact hs.sub⟩
      ·
        clear ha hs
        rintro μ a w ⟨i, ⟨rfl, hi⟩, ha, hs⟩
        refine wp_seq ?_
        refine wp_seq ?_
        refine wp_region_lit ?_
        refine wpList_k (st_set ha rfl (ex_move ha) rfl ?_); clear ha; (try clear a); intro a ha
        refine wpList_k (st_set ha rfl (ex_move ha) rfl ?_); clear ha; (try clear a); intro a ha
        refine wpList_k (st_set ha rfl (ex_lss ha) rfl ?_); clear ha; (try clear a); intro a ha
        refine wpList_nil ?_
        refine then_n ?_
        refine wp_if ha (fun hc2 => ?_) (fun hc2 => ?_)
        ·
          try simp only [decide_eq_true_eq, decide_eq_false_iff_not, Bool.not_eq_true', Bool.not_eq_false', Int.not_lt, Int.not_le, ne_eq, Decidable.not_not] at hc2
          refine wp_skip ?_
          refine then_n ?_
          refine wp_seq ?_
          refine wp_block ?_
          refine wp_region_lit ?_
          refine wpList_k (st_set ha rfl (ex_move ha) rfl ?_); clear ha; (try clear a); intro a ha
          refine wpList_k (st_set ha rfl (ex_move ha) rfl ?_); clear ha; (try clear a); intro a ha
          refine wpList_k (st_set ha rfl (ex_build ha Ty.b29 Ty.t29 rfl) rfl ?_); clear ha; (try clear a); intro a ha
          refine wpList_k (st_call ha rfl Ty.c11 rfl (send_spec (bs := []) (hs.net q) (fun w' h => ⟨rfl, fun _ => rfl, fun x hx => by cases hx⟩)) ?_); clear ha hs
          rintro e w ⟨rfl, hs⟩
          refine ⟨_, rfl, ?_⟩
          intro a ha
          change St W w [Net q (if maySend (nls g0 i) 0 = true then nls g0 i ++ [g0 i] else nls g0 i)] at hs
          rw [show maySend (nls g0 i) 0 = true from by simp only [maySend, nls_len, Bool.and_eq_true, decide_eq_true_eq]; omega, if_pos rfl] at hs
          rw [← nls_succ g0] at hs
          refine wpList_nil ?_
          refine blk_n <| then_n ?_
          refine wp_region_lit ?_
          refine wpList_k (st_set ha rfl (ex_move ha) rfl ?_); clear ha; (try clear a); intro a ha
          refine wpList_k (st_set ha rfl (ex_addI ha (by omega) (by omega)) rfl ?_); clear ha; (try clear a); intro a ha
          replace ha := ha.del 7
          refine wpList_k (st_set ha rfl (ex_assign ha) rfl ?_); clear ha; (try clear a); intro a ha
          refine wpList_nil ?_
          refine then_n ?_
          exact ⟨N - (i + 1), by omega, i + 1, ⟨rfl, by omega⟩, ha.keep [0, 1, 4, 6, 7], hs.sub⟩
        ·
          try simp only [decide_eq_true_eq, decide_eq_false_iff_not, Bool.not_eq_true', Bool.not_eq_false', Int.not_lt, Int.not_le, ne_eq, Decidable.not_not] at hc2
          refine wp_exit ?_
          refine then_e <| then_e <| blk_e ?_
          refine then_n ?_
          refine wp_seq ?_
          refine wp_seq ?_
          refine wp_region_lit ?_
          refine wpList_k (st_set ha rfl (ex_assign ha) rfl ?_); clear ha; (try clear a); intro a ha
          refine wpList_nil ?_
          refine then_n ?_
          refine wp_block ?_
          refine wp_loop_ghost (fun μ a w => ∃ (i : Nat) (ms : List Mm), (μ = 40 - i ∧ i ≤ 40 ∧ ms.length ≤ 60 ∧ ms.Pairwise (fun x y => x.1 < y.1) ∧ ∀ x ∈ ms, -1 < x.1) ∧ Fr a 106 [(0, .int .i64 N), (1, .slice ad len cap), (4, .bool false), (6, .pointer (some ⟨q, 0, none⟩)), (8, .int .i64 i)] ∧ St W w [Net q ms]) (40) ?_ ?_
          · exact ⟨0, _, ⟨by simp, by simp, by rw [nls_len]; omega, by rw [nls, List.pairwise_map]; exact List.Pairwise.imp (fun h => by simp [g0]; omega) List.pairwise_lt_range, by intro x hx; simp only [nls, List.mem_map] at hx; obtain ⟨j, _, rfl⟩ := hx; simp [g0]; omega⟩, ha.keep [0, 1, 4, 6, 8], hs⟩
          ·
            clear ha hs
            rintro μ a w ⟨i, ms, ⟨rfl, hi, hml, hpw, hps⟩, ha, hs⟩
            refine wp_seq ?_
            refine wp_seq ?_
            refine wp_region_lit ?_
            refine wpList_k (st_set ha rfl (ex_move ha) rfl ?_); clear ha; (try clear a); intro a ha
            refine wpList_k (st_set ha rfl (ex_move ha) rfl ?_); clear ha; (try clear a); intro a ha
            refine wpList_k (st_set ha rfl (ex_len ha Try.underlying42) rfl ?_); clear ha; (try clear a); intro a ha
            refine wpList_k (st_set ha rfl (ex_lss ha) rfl ?_); clear ha; (try clear a); intro a ha
            refine wpList_k (st_set ha rfl (ex_move ha) rfl ?_); clear ha; (try clear a); intro a ha
            refine ha.bool (s := 41) (fun hg4 ha => ?_) (fun hg4 ha => ?_)
            ·
              try simp only [decide_eq_true_eq, decide_eq_false_iff_not, Bool.not_eq_true', Bool.not_eq_false', Int.not_lt, Int.not_le, ne_eq, Decidable.not_not] at hg4
              refine wpList_k (st_set ha (wgT ha rfl (s := 41)) (ex_move ha) rfl ?_); clear ha; (try clear a); intro a ha
              refine wpList_k (st_set ha (wgT ha rfl (s := 41)) (ex_lss ha) rfl ?_); clear ha; (try clear a); intro a ha
              refine wpList_k (st_set ha rfl (ex_pickT ha) rfl ?_); clear ha; (try clear a); intro a ha
              refine wpList_nil ?_
              refine then_n ?_
              refine wp_if ha (fun hc3 => ?_) (fun hc3 => ?_)
              ·
                try simp only [decide_eq_true_eq, decide_eq_false_iff_not, Bool.not_eq_true', Bool.not_eq_false', Int.not_lt, Int.not_le, ne_eq, Decidable.not_not] at hc3
                refine wp_skip ?_
                refine then_n ?_
                refine wp_seq ?_
                refine wp_block ?_
                refine wp_seq ?_
                refine wp_seq ?_
                refine wp_region_lit ?_
                refine wpList_k (st_set ha rfl (ex_move ha) rfl ?_); clear ha; (try clear a); intro a ha
                refine wpList_k (st_call ha rfl Ty.c17 rfl (len_net (hs.net q)) ?_); clear ha hs
                rintro e w ⟨rfl, hs⟩
                refine ⟨_, rfl, ?_⟩
                intro a ha
                refine wpList_k (st_set ha rfl (ex_eql ha) rfl ?_); clear ha; (try clear a); intro a ha
                refine wpList_nil ?_
                refine then_n ?_
                refine wp_if ha (fun hc4 => ?_) (fun hc4 => ?_)
                ·
                  try simp only [decide_eq_true_eq, decide_eq_false_iff_not, Bool.not_eq_true', Bool.not_eq_false', Int.not_lt, Int.not_le, ne_eq, Decidable.not_not] at hc4
                  refine wp_exit ?_
                  refine then_e <| blk_ne rfl <| then_e <| then_e <| blk_e ?_
                  refine then_n ?_
                  refine wp_seq ?_
                  refine wp_region_lit ?_
                  refine wpList_k (st_set ha rfl (ex_assign ha) rfl ?_); clear ha; (try clear a); intro a ha
                  refine wpList_nil ?_
                  refine then_n ?_
                  refine wp_seq ?_
                  refine wp_seq ?_
                  refine wp_region_lit ?_
                  refine wpList_k (st_set ha rfl (ex_assign ha) rfl ?_); clear ha; (try clear a); intro a ha
                  refine wpList_nil ?_
                  refine then_n ?_
                  refine wp_block ?_
                  refine wp_loop_ghost (fun μ a w => ∃ (j : Nat) (la : Int), (μ = ms.length - j ∧ j ≤ ms.length ∧ ∀ k, (h : k < ms.length) → j ≤ k → la < ms[k].1) ∧ Fr a 106 [(4, .bool false), (6, .pointer (some ⟨q, 0, none⟩)), (14, .int .i64 la), (15, .int .i64 j)] ∧ St W w [Net q ms]) (ms.length) ?_ ?_
                  · exact ⟨0, -1, ⟨by simp, by simp, fun k h _ => hps _ (List.getElem_mem h)⟩, ha.keep [4, 6, 14, 15], hs.sub⟩
                  ·
                    clear ha hs
                    rintro μ a w ⟨j, la, ⟨rfl, hj, hla⟩, ha, hs⟩
                    refine wp_seq ?_
                    refine wp_seq ?_
                    refine wp_region_lit ?_
                    refine wpList_k (st_set ha rfl (ex_move ha) rfl ?_); clear ha; (try clear a); intro a ha
                    refine wpList_k (st_set ha rfl (ex_move ha) rfl ?_); clear ha; (try clear a); intro a ha
                    refine wpList_k (st_call ha rfl Ty.c17 rfl (len_net (hs.net q)) ?_); clear ha hs
                    rintro e w ⟨rfl, hs⟩
                    refine ⟨_, rfl, ?_⟩
                    intro a ha
                    refine wpList_k (st_set ha rfl (ex_lss ha) rfl ?_); clear ha; (try clear a); intro a ha
                    refine wpList_nil ?_
                    refine then_n ?_
                    refine wp_if ha (fun hc6 => ?_) (fun hc6 => ?_)
                    ·
                      try simp only [decide_eq_true_eq, decide_eq_false_iff_not, Bool.not_eq_true', Bool.not_eq_false', Int.not_lt, Int.not_le, ne_eq, Decidable.not_not] at hc6
                      refine wp_skip ?_
                      refine then_n ?_
                      refine wp_seq ?_
                      refine wp_block ?_
                      refine wp_seq ?_
                      refine wp_region_lit ?_
                      refine wpList_k (st_set ha rfl (ex_move ha) rfl ?_); clear ha; (try clear a); intro a ha
                      refine wpList_k (st_set ha rfl (ex_move ha) rfl ?_); clear ha; (try clear a); intro a ha
                      refine wpList_k (st_call ha rfl Ty.c12 rfl (look_in (i := j) (hs.net q) (by omega)) ?_); clear ha hs
                      rintro e w ⟨ad1, c1, rfl, hs⟩
                      refine ⟨_, rfl, ?_⟩
                      intro a ha
                      refine wpList_k (st_set ha rfl (ex_move ha) rfl ?_); clear ha; (try clear a); intro a ha
                      refine wpList_k (st_set ha rfl (ex_extract ha rfl) rfl ?_); clear ha; (try clear a); intro a ha
                      refine wpList_k (st_set ha rfl (ex_extract ha rfl) rfl ?_); clear ha; (try clear a); intro a ha
                      refine wpList_k (st_alloc ha rfl hs Ty.t29 rfl ?_); clear ha hs; (try clear a); (try clear w); intro b16 a w ha hs ho
                      clear ho
                      refine wpList_k (st_storeAll ha rfl hs Ty.t29 (by simp [Value.oneCell']) (by rfl) ?_); clear ha hs; (try clear a); (try clear w); intro a w ha hs
                      refine wpList_k (st_set ha rfl (ex_assign ha) rfl ?_); clear ha; (try clear a); intro a ha
                      refine wpList_nil ?_
                      refine then_n ?_
                      refine wp_seq ?_
                      refine wp_seq ?_
                      have hl1 := hla j (by omega) (Nat.le_refl _)
                      refine wp_region_lit ?_
                      refine wpList_k (st_set ha rfl (ex_move ha) rfl ?_); clear ha; (try clear a); intro a ha
                      refine wpList_k (st_set ha rfl (ex_not ha) rfl ?_); clear ha; (try clear a); intro a ha
                      refine wpList_k (st_set ha rfl (ex_move ha) rfl ?_); clear ha; (try clear a); intro a ha
                      refine wpList_k (st_set ha (wgT ha rfl (s := 98)) (ex_fieldAddr ha Try.underlying29 rfl Ty.t3 rfl) rfl ?_); clear ha; (try clear a); intro a ha
                      refine wpList_k (st_set ha (wgT ha rfl (s := 98)) (ex_load1 ha Try.underlying3 rfl (hs.rd1 rfl)) rfl ?_); clear ha; (try clear a); intro a ha
                      refine wpList_k (st_set ha (wgT ha rfl (s := 98)) (ex_move ha) rfl ?_); clear ha; (try clear a); intro a ha
                      refine wpList_k (st_set ha (wgT ha rfl (s := 98)) (ex_leq ha) rfl ?_); clear ha; (try clear a); intro a ha
                      rw [decide_eq_false (by omega)] at ha
                      refine wpList_k (st_set ha rfl (ex_pickF ha) rfl ?_); clear ha; (try clear a); intro a ha
                      refine wpList_nil ?_
                      refine then_n ?_
                      refine wp_ifF ha ?_
                      refine wp_skip ?_
                      refine then_n ?_
                      refine wp_region_lit ?_
                      refine wpList_k (st_set ha rfl (ex_fieldAddr ha Try.underlying29 rfl Ty.t3 rfl) rfl ?_); clear ha; (try clear a); intro a ha
                      refine wpList_k (st_set ha rfl (ex_load1 ha Try.underlying3 rfl (hs.rd1 rfl)) rfl ?_); clear ha; (try clear a); intro a ha
                      replace ha := ha.del 14
                      refine wpList_k (st_set ha rfl (ex_assign ha) rfl ?_); clear ha; (try clear a); intro a ha
                      refine wpList_nil ?_
                      refine blk_n <| then_n ?_
                      refine wp_region_lit ?_
                      refine wpList_k (st_set ha rfl (ex_move ha) rfl ?_); clear ha; (try clear a); intro a ha
                      refine wpList_k (st_set ha rfl (ex_addI ha (by omega) (by omega)) rfl ?_); clear ha; (try clear a); intro a ha
                      replace ha := ha.del 15
                      refine wpList_k (st_set ha rfl (ex_assign ha) rfl ?_); clear ha; (try clear a); intro a ha
                      refine wpList_nil ?_
                      refine then_n ?_
                      exact ⟨ms.length - (j + 1), by omega, j + 1, _, ⟨rfl, by omega, fun k h h2 => List.pairwise_iff_getElem.1 hpw j k (by omega) h (by omega)⟩, ha.keep [4, 6, 14, 15], hs.sub⟩
                    ·
                      try simp only [decide_eq_true_eq, decide_eq_false_iff_not, Bool.not_eq_true', Bool.not_eq_false', Int.not_lt, Int.not_le, ne_eq, Decidable.not_not] at hc6
                      refine wp_exit ?_
                      refine then_e <| then_e <| blk_e ?_
                      refine then_n ?_
                      refine wp_seq ?_
                      refine wp_region_lit ?_
                      replace ha := ha.del 4
                      refine wpList_k (st_set ha rfl (ex_assign ha) rfl ?_); clear ha; (try clear a); intro a ha
                      refine wpList_nil ?_
                      refine then_n ?_
                      refine wp_ret ?_
                      refine ret1 ha rfl ?_
                      exact ⟨rfl, hs.below⟩
                ·
                  try simp only [decide_eq_true_eq, decide_eq_false_iff_not, Bool.not_eq_true', Bool.not_eq_false', Int.not_lt, Int.not_le, ne_eq, Decidable.not_not] at hc4
                  refine wp_skip ?_
                  refine then_n ?_
                  refine wp_seq ?_
                  obtain ⟨b, off, rfl, hb, hz, hcell⟩ := w1.get (by omega)
                  have hL : (0 : Int) < ms.length := by omega
                  have ht1 := Int.tmod_lt_of_pos (z.getD i 0) hL
                  have ht2 := Int.lt_tmod_of_pos (z.getD i 0) hL
                  have ht3 : (0 : Int) ≤ (z.getD i 0).tmod ms.length + ms.length := by omega
                  have ht4 := Int.tmod_nonneg (ms.length : Int) ht3
                  have ht5 := Int.tmod_lt_of_pos ((z.getD i 0).tmod ms.length + ms.length) hL
                  obtain ⟨k, hk⟩ : ∃ k : Nat, ((z.getD i 0).tmod ms.length + ms.length).tmod ms.length = k := ⟨_, (Int.toNat_of_nonneg ht4).symm⟩
                  rw [hk] at ht5
                  have hkl : k < ms.length := by omega
                  refine wp_draw (m := 14) (l0 := #[false, false, false, false, false, false, false, false, false, false, false, false, false, false]) (fun w' => w'.cell? ⟨b, off + i * 1, none⟩ = some (.int .i64 (z.getD i 0))) [5, 8, 11] Ty.mixed (by kernel_rfl) (by kernel_rfl) ?_
                  replace hs := hs.drew
                  generalize w.drew = w at hs ⊢
                  have hC : w.cell? ⟨b, off + i * 1, none⟩ = some (.int .i64 (z.getD i 0)) := (hs.old hb).trans (hcell i (by omega))
                  refine nt_pure (i := 0) (listed' := #[true, false, false, false, false, false, false, false, false, false, false, false, false, false]) (by kernel_rfl) rfl (by kernel_rfl) (by decide) (pk_then (pk_blk (pk_then (pk_then (pk_blk (pk_then pk_body)))))) ha rfl (fun w => ex_move ha) rfl ?_; clear ha; (try clear a); intro a ha
                  refine nt_pure (i := 1) (listed' := #[true, true, false, false, false, false, false, false, false, false, false, false, false, false]) (by kernel_rfl) rfl (by kernel_rfl) (by decide) (pk_then (pk_blk (pk_then (pk_then (pk_blk (pk_then pk_body)))))) ha rfl (fun w => ex_move ha) rfl ?_; clear ha; (try clear a); intro a ha
                  refine nt_pure (i := 2) (listed' := #[true, true, true, false, false, false, false, false, false, false, false, false, false, false]) (by kernel_rfl) rfl (by kernel_rfl) (by decide) (pk_then (pk_blk (pk_then (pk_then (pk_blk (pk_then pk_body)))))) ha rfl (fun w => ex_indexAddr ha Try.underlying42 Ty.t3 (by omega)) rfl ?_; clear ha; (try clear a); intro a ha
                  refine nt_pure (i := 4) (listed' := #[true, true, true, false, true, false, false, false, false, false, false, false, false, false]) (by kernel_rfl) rfl (by kernel_rfl) (by decide) (pk_then (pk_blk (pk_then (pk_then (pk_blk (pk_then pk_body)))))) ha rfl (fun w => ex_move ha) rfl ?_; clear ha; (try clear a); intro a ha
                  refine nt_pure (i := 7) (listed' := #[true, true, true, false, true, false, false, true, false, false, false, false, false, false]) (by kernel_rfl) rfl (by kernel_rfl) (by decide) (pk_then (pk_blk (pk_then (pk_then (pk_blk (pk_then pk_body)))))) ha rfl (fun w => ex_move ha) rfl ?_; clear ha; (try clear a); intro a ha
                  refine nt_pure (i := 10) (listed' := #[true, true, true, false, true, false, false, true, false, false, true, false, false, false]) (by kernel_rfl) rfl (by kernel_rfl) (by decide) (pk_then (pk_blk (pk_then (pk_then (pk_blk (pk_then pk_body)))))) ha rfl (fun w => ex_move ha) rfl ?_; clear ha; (try clear a); intro a ha
                  refine nt_held (i := 3) (listed' := #[true, true, true, true, true, false, false, true, false, false, true, false, false, false]) (by kernel_rfl) rfl (by kernel_rfl) (pk_then (pk_blk (pk_then (pk_then (pk_blk (pk_then pk_body)))))) ha rfl (fun w hc => ex_load1 ha Try.underlying3 rfl (hc)) hC rfl ?_; clear ha; (try clear a); intro a ha
                  refine nt_one (i := 5) (listed' := #[true, true, true, true, true, true, false, true, false, false, true, false, false, false]) (by kernel_rfl) (by kernel_rfl) rfl (st_call ha rfl Ty.c17 rfl (len_net (hs.net q)) ?_); clear ha hs
                  rintro e w ⟨rfl, hs⟩
                  refine ⟨_, rfl, ?_⟩
                  intro a ha
                  refine ⟨fun _ => ?_, ?_⟩
                  · exact (hs.old hb).trans (hcell i (by omega))
                  refine nt_pure (i := 6) (listed' := #[true, true, true, true, true, true, true, true, false, false, true, false, false, false]) (by kernel_rfl) rfl (by kernel_rfl) (by decide) (pk_then (pk_blk (pk_then (pk_then (pk_blk (pk_then pk_body)))))) ha rfl (fun w => ex_rem ha (by omega)) rfl ?_; clear ha; (try clear a); intro a ha
                  refine nt_one (i := 8) (listed' := #[true, true, true, true, true, true, true, true, true, false, true, false, false, false]) (by kernel_rfl) (by kernel_rfl) rfl (st_call ha rfl Ty.c17 rfl (len_net (hs.net q)) ?_); clear ha hs
                  rintro e w ⟨rfl, hs⟩
                  refine ⟨_, rfl, ?_⟩
                  intro a ha
                  refine ⟨fun _ => ?_, ?_⟩
                  · exact (hs.old hb).trans (hcell i (by omega))
                  refine nt_pure (i := 9) (listed' := #[true, true, true, true, true, true, true, true, true, true, true, false, false, false]) (by kernel_rfl) rfl (by kernel_rfl) (by decide) (pk_then (pk_blk (pk_then (pk_then (pk_blk (pk_then pk_body)))))) ha rfl (fun w => ex_addI ha (by omega) (by omega)) rfl ?_; clear ha; (try clear a); intro a ha
                  refine nt_one (i := 11) (listed' := #[true, true, true, true, true, true, true, true, true, true, true, true, false, false]) (by kernel_rfl) (by kernel_rfl) rfl (st_call ha rfl Ty.c17 rfl (len_net (hs.net q)) ?_); clear ha hs
                  rintro e w ⟨rfl, hs⟩
                  refine ⟨_, rfl, ?_⟩
                  intro a ha
                  refine ⟨fun _ => ?_, ?_⟩
                  · exact (hs.old hb).trans (hcell i (by omega))
                  refine nt_pure (i := 12) (listed' := #[true, true, true, true, true, true, true, true, true, true, true, true, true, false]) (by kernel_rfl) rfl (by kernel_rfl) (by decide) (pk_then (pk_blk (pk_then (pk_then (pk_blk (pk_then pk_body)))))) ha rfl (fun w => ex_rem ha (by omega)) rfl ?_; clear ha; (try clear a); intro a ha
                  refine nt_pure (i := 13) (listed' := #[true, true, true, true, true, true, true, true, true, true, true, true, true, true]) (by kernel_rfl) rfl (by kernel_rfl) (by decide) (pk_then (pk_blk (pk_then (pk_then (pk_blk (pk_then pk_body)))))) ha rfl (fun w => ex_assign ha) rfl ?_; clear ha; (try clear a); intro a ha
                  refine nt_done (by kernel_rfl) ?_ _
                  rw [hk] at ha
                  refine then_n ?_
                  refine wp_seq ?_
                  refine wp_region_lit ?_
                  refine wpList_k (st_set ha rfl (ex_move ha) rfl ?_); clear ha; (try clear a); intro a ha
                  refine wpList_k (st_set ha rfl (ex_move ha) rfl ?_); clear ha; (try clear a); intro a ha
                  refine wpList_k (st_call ha rfl Ty.c12 rfl (look_in (hs.net q) hkl) ?_); clear ha hs
                  rintro e w ⟨ad1, c1, rfl, hs⟩
                  refine ⟨_, rfl, ?_⟩
                  intro a ha
                  refine wpList_k (st_set ha rfl (ex_move ha) rfl ?_); clear ha; (try clear a); intro a ha
                  refine wpList_k (st_set ha rfl (ex_extract ha rfl) rfl ?_); clear ha; (try clear a); intro a ha
                  refine wpList_k (st_set ha rfl (ex_extract ha rfl) rfl ?_); clear ha; (try clear a); intro a ha
                  refine wpList_k (st_alloc ha rfl hs Ty.t29 rfl ?_); clear ha hs; (try clear a); (try clear w); intro b10 a w ha hs ho
                  clear ho
                  refine wpList_k (st_storeAll ha rfl hs Ty.t29 (by simp [Value.oneCell']) (by rfl) ?_); clear ha hs; (try clear a); (try clear w); intro a w ha hs
                  refine wpList_k (st_set ha rfl (ex_assign ha) rfl ?_); clear ha; (try clear a); intro a ha
                  refine wpList_nil ?_
                  refine then_n ?_
                  refine wp_seq ?_
                  refine wp_region_lit ?_
                  refine wpList_k (st_set ha rfl (ex_move ha) rfl ?_); clear ha; (try clear a); intro a ha
                  refine wpList_k (st_set ha rfl (ex_move ha) rfl ?_); clear ha; (try clear a); intro a ha
                  refine wpList_k (st_call ha rfl Ty.c13 rfl (take_in (hs.net q) hkl) ?_); clear ha hs
                  rintro e w ⟨ad2, c2, rfl, hs⟩
                  refine ⟨_, rfl, ?_⟩
                  intro a ha
                  refine wpList_k (st_set ha rfl (ex_move ha) rfl ?_); clear ha; (try clear a); intro a ha
                  refine wpList_k (st_set ha rfl (ex_extract ha rfl) rfl ?_); clear ha; (try clear a); intro a ha
                  refine wpList_k (st_set ha rfl (ex_extract ha rfl) rfl ?_); clear ha; (try clear a); intro a ha
                  refine wpList_k (st_alloc ha rfl hs Ty.t29 rfl ?_); clear ha hs; (try clear a); (try clear w); intro b12 a w ha hs ho
                  clear ho
                  refine wpList_k (st_storeAll ha rfl hs Ty.t29 (by simp [Value.oneCell']) (by rfl) ?_); clear ha hs; (try clear a); (try clear w); intro a w ha hs
                  refine wpList_k (st_set ha rfl (ex_assign ha) rfl ?_); clear ha; (try clear a); intro a ha
                  refine wpList_nil ?_
                  refine then_n ?_
                  refine wp_seq ?_
                  refine wp_region_lit ?_
                  refine wpList_k (st_set ha rfl (ex_move ha) rfl ?_); clear ha; (try clear a); intro a ha
                  refine wpList_k (st_set ha rfl (ex_not ha) rfl ?_); clear ha; (try clear a); intro a ha
                  refine wpList_k (st_set ha rfl (ex_move ha) rfl ?_); clear ha; (try clear a); intro a ha
                  refine wpList_k (st_set ha (wgT ha rfl (s := 77)) (ex_fieldAddr ha Try.underlying29 rfl Ty.t3 rfl) rfl ?_); clear ha; (try clear a); intro a ha
                  refine wpList_k (st_set ha (wgT ha rfl (s := 77)) (ex_load1 ha Try.underlying3 rfl (hs.rd1 rfl)) rfl ?_); clear ha; (try clear a); intro a ha
                  refine wpList_k (st_set ha (wgT ha rfl (s := 77)) (ex_fieldAddr ha Try.underlying29 rfl Ty.t3 rfl) rfl ?_); clear ha; (try clear a); intro a ha
                  refine wpList_k (st_set ha (wgT ha rfl (s := 77)) (ex_load1 ha Try.underlying3 rfl (hs.rd1 rfl)) rfl ?_); clear ha; (try clear a); intro a ha
                  refine wpList_k (st_set ha (wgT ha rfl (s := 77)) (ex_neq ha) rfl ?_); clear ha; (try clear a); intro a ha
                  rw [dneI] at ha
                  refine wpList_k (st_set ha rfl (ex_pickF ha) rfl ?_); clear ha; (try clear a); intro a ha
                  refine wpList_nil ?_
                  refine then_n ?_
                  refine wp_ifF ha ?_
                  refine wp_skip ?_
                  refine blk_n <| then_n ?_
                  refine wp_region_lit ?_
                  refine wpList_k (st_set ha rfl (ex_move ha) rfl ?_); clear ha; (try clear a); intro a ha
                  refine wpList_k (st_set ha rfl (ex_addI ha (by omega) (by omega)) rfl ?_); clear ha; (try clear a); intro a ha
                  replace ha := ha.del 8
                  refine wpList_k (st_set ha rfl (ex_assign ha) rfl ?_); clear ha; (try clear a); intro a ha
                  refine wpList_nil ?_
                  refine then_n ?_
                  exact ⟨40 - (i + 1), by omega, i + 1, ms.eraseIdx k, ⟨rfl, by omega, by rw [List.length_eraseIdx]; split <;> omega, hpw.sublist (List.eraseIdx_sublist _ _), fun x hx => hps x (List.mem_of_mem_eraseIdx hx)⟩, ha.keep [0, 1, 4, 6, 8], hs.sub⟩
              ·
                try simp only [decide_eq_true_eq, decide_eq_false_iff_not, Bool.not_eq_true', Bool.not_eq_false', Int.not_lt, Int.not_le, ne_eq, Decidable.not_not] at hc3
                refine wp_exit ?_
                refine then_e <| then_e <| blk_e ?_
                refine then_n ?_
                refine wp_seq ?_
                refine wp_region_lit ?_
                refine wpList_k (st_set ha rfl (ex_assign ha) rfl ?_); clear ha; (try clear a); intro a ha
                refine wpList_nil ?_
                refine then_n ?_
                refine wp_seq ?_
                refine wp_seq ?_
                refine wp_region_lit ?_
                refine wpList_k (st_set ha rfl (ex_assign ha) rfl ?_); clear ha; (try clear a); intro a ha
                refine wpList_nil ?_
                refine then_n ?_
                refine wp_block ?_
                refine wp_loop_ghost (fun μ a w => ∃ (j : Nat) (la : Int), (μ = ms.length - j ∧ j ≤ ms.length ∧ ∀ k, (h : k < ms.length) → j ≤ k → la < ms[k].1) ∧ Fr a 106 [(4, .bool false), (6, .pointer (some ⟨q, 0, none⟩)), (14, .int .i64 la), (15, .int .i64 j)] ∧ St W w [Net q ms]) (ms.length) ?_ ?_
                · exact ⟨0, -1, ⟨by simp, by simp, fun k h _ => hps _ (List.getElem_mem h)⟩, ha.keep [4, 6, 14, 15], hs.sub⟩
                ·
                  clear ha hs
                  rintro μ a w ⟨j, la, ⟨rfl, hj, hla⟩, ha, hs⟩
                  refine wp_seq ?_
                  refine wp_seq ?_
                  refine wp_region_lit ?_
                  refine wpList_k (st_set ha rfl (ex_move ha) rfl ?_); clear ha; (try clear a); intro a ha
                  refine wpList_k (st_set ha rfl (ex_move ha) rfl ?_); clear ha; (try clear a); intro a ha
                  refine wpList_k (st_call ha rfl Ty.c17 rfl (len_net (hs.net q)) ?_); clear ha hs
                  rintro e w ⟨rfl, hs⟩
                  refine ⟨_, rfl, ?_⟩
                  intro a ha
                  refine wpList_k (st_set ha rfl (ex_lss ha) rfl ?_); clear ha; (try clear a); intro a ha
                  refine wpList_nil ?_
                  refine then_n ?_
                  refine wp_if ha (fun hc6 => ?_) (fun hc6 => ?_)
                  ·
                    try simp only [decide_eq_true_eq, decide_eq_false_iff_not, Bool.not_eq_true', Bool.not_eq_false', Int.not_lt, Int.not_le, ne_eq, Decidable.not_not] at hc6
                    refine wp_skip ?_
                    refine then_n ?_
                    refine wp_seq ?_
                    refine wp_block ?_
                    refine wp_seq ?_
                    refine wp_region_lit ?_
                    refine wpList_k (st_set ha rfl (ex_move ha) rfl ?_); clear ha; (try clear a); intro a ha
                    refine wpList_k (st_set ha rfl (ex_move ha) rfl ?_); clear ha; (try clear a); intro a ha
                    refine wpList_k (st_call ha rfl Ty.c12 rfl (look_in (i := j) (hs.net q) (by omega)) ?_); clear ha hs
                    rintro e w ⟨ad1, c1, rfl, hs⟩
                    refine ⟨_, rfl, ?_⟩
                    intro a ha
                    refine wpList_k (st_set ha rfl (ex_move ha) rfl ?_); clear ha; (try clear a); intro a ha
                    refine wpList_k (st_set ha rfl (ex_extract ha rfl) rfl ?_); clear ha; (try clear a); intro a ha
                    refine wpList_k (st_set ha rfl (ex_extract ha rfl) rfl ?_); clear ha; (try clear a); intro a ha
                    refine wpList_k (st_alloc ha rfl hs Ty.t29 rfl ?_); clear ha hs; (try clear a); (try clear w); intro b16 a w ha hs ho
                    clear ho
                    refine wpList_k (st_storeAll ha rfl hs Ty.t29 (by simp [Value.oneCell']) (by rfl) ?_); clear ha hs; (try clear a); (try clear w); intro a w ha hs
                    refine wpList_k (st_set ha rfl (ex_assign ha) rfl ?_); clear ha; (try clear a); intro a ha
                    refine wpList_nil ?_
                    refine then_n ?_
                    refine wp_seq ?_
                    refine wp_seq ?_
                    have hl1 := hla j (by omega) (Nat.le_refl _)
                    refine wp_region_lit ?_
                    refine wpList_k (st_set ha rfl (ex_move ha) rfl ?_); clear ha; (try clear a); intro a ha
                    refine wpList_k (st_set ha rfl (ex_not ha) rfl ?_); clear ha; (try clear a); intro a ha
                    refine wpList_k (st_set ha rfl (ex_move ha) rfl ?_); clear ha; (try clear a); intro a ha
                    refine wpList_k (st_set ha (wgT ha rfl (s := 98)) (ex_fieldAddr ha Try.underlying29 rfl Ty.t3 rfl) rfl ?_); clear ha; (try clear a); intro a ha
                    refine wpList_k (st_set ha (wgT ha rfl (s := 98)) (ex_load1 ha Try.underlying3 rfl (hs.rd1 rfl)) rfl ?_); clear ha; (try clear a); intro a ha
                    refine wpList_k (st_set ha (wgT ha rfl (s := 98)) (ex_move ha) rfl ?_); clear ha; (try clear a); intro a ha
                    refine wpList_k (st_set ha (wgT ha rfl (s := 98)) (ex_leq ha) rfl ?_); clear ha; (try clear a); intro a ha
                    rw [decide_eq_false (by omega)] at ha
                    refine wpList_k (st_set ha rfl (ex_pickF ha) rfl ?_); clear ha; (try clear a); intro a ha
                    refine wpList_nil ?_
                    refine then_n ?_
                    refine wp_ifF ha ?_
                    refine wp_skip ?_
                    refine then_n ?_
                    refine wp_region_lit ?_
                    refine wpList_k (st_set ha rfl (ex_fieldAddr ha Try.underlying29 rfl Ty.t3 rfl) rfl ?_); clear ha; (try clear a); intro a ha
                    refine wpList_k (st_set ha rfl (ex_load1 ha Try.underlying3 rfl (hs.rd1 rfl)) rfl ?_); clear ha; (try clear a); intro a ha
                    replace ha := ha.del 14
                    refine wpList_k (st_set ha rfl (ex_assign ha) rfl ?_); clear ha; (try clear a); intro a ha
                    refine wpList_nil ?_
                    refine blk_n <| then_n ?_
                    refine wp_region_lit ?_
                    refine wpList_k (st_set ha rfl (ex_move ha) rfl ?_); clear ha; (try clear a); intro a ha
                    refine wpList_k (st_set ha rfl (ex_addI ha (by omega) (by omega)) rfl ?_); clear ha; (try clear a); intro a ha
                    replace ha := ha.del 15
                    refine wpList_k (st_set ha rfl (ex_assign ha) rfl ?_); clear ha; (try clear a); intro a ha
                    refine wpList_nil ?_
                    refine then_n ?_
                    exact ⟨ms.length - (j + 1), by omega, j + 1, _, ⟨rfl, by omega, fun k h h2 => List.pairwise_iff_getElem.1 hpw j k (by omega) h (by omega)⟩, ha.keep [4, 6, 14, 15], hs.sub⟩
                  ·
                    try simp only [decide_eq_true_eq, decide_eq_false_iff_not, Bool.not_eq_true', Bool.not_eq_false', Int.not_lt, Int.not_le, ne_eq, Decidable.not_not] at hc6
                    refine wp_exit ?_
                    refine then_e <| then_e <| blk_e ?_
                    refine then_n ?_
                    refine wp_seq ?_
                    refine wp_region_lit ?_
                    replace ha := ha.del 4
                    refine wpList_k (st_set ha rfl (ex_assign ha) rfl ?_); clear ha; (try clear a); intro a ha
                    refine wpList_nil ?_
                    refine then_n ?_
                    refine wp_ret ?_
                    refine ret1 ha rfl ?_
                    exact ⟨rfl, hs.below⟩
            ·
              try simp only [decide_eq_true_eq, decide_eq_false_iff_not, Bool.not_eq_true', Bool.not_eq_false', Int.not_lt, Int.not_le, ne_eq, Decidable.not_not] at hg4
              refine wpList_k (st_off ha (wgF ha rfl (s := 41) rfl) rfl ?_); clear ha; (try clear a); intro a ha
              refine wpList_k (st_off ha (wgF ha rfl (s := 41) rfl) rfl ?_); clear ha; (try clear a); intro a ha
              refine wpList_k (st_set ha rfl (ex_pickF ha) rfl ?_); clear ha; (try clear a); intro a ha
              refine wpList_nil ?_
              refine then_n ?_
              refine wp_ifF ha ?_
              refine wp_exit ?_
              refine then_e <| then_e <| blk_e ?_
              refine then_n ?_
              refine wp_seq ?_
              refine wp_region_lit ?_
              refine wpList_k (st_set ha rfl (ex_assign ha) rfl ?_); clear ha; (try clear a); intro a ha
              refine wpList_nil ?_
              refine then_n ?_
              refine wp_seq ?_
              refine wp_seq ?_
              refine wp_region_lit ?_
              refine wpList_k (st_set ha rfl (ex_assign ha) rfl ?_); clear ha; (try clear a); intro a ha
              refine wpList_nil ?_
              refine then_n ?_
              refine wp_block ?_
              refine wp_loop_ghost (fun μ a w => ∃ (j : Nat) (la : Int), (μ = ms.length - j ∧ j ≤ ms.length ∧ ∀ k, (h : k < ms.length) → j ≤ k → la < ms[k].1) ∧ Fr a 106 [(4, .bool false), (6, .pointer (some ⟨q, 0, none⟩)), (14, .int .i64 la), (15, .int .i64 j)] ∧ St W w [Net q ms]) (ms.length) ?_ ?_
              · exact ⟨0, -1, ⟨by simp, by simp, fun k h _ => hps _ (List.getElem_mem h)⟩, ha.keep [4, 6, 14, 15], hs.sub⟩
              ·
                clear ha hs
                rintro μ a w ⟨j, la, ⟨rfl, hj, hla⟩, ha, hs⟩
                refine wp_seq ?_
                refine wp_seq ?_
                refine wp_region_lit ?_
                refine wpList_k (st_set ha rfl (ex_move ha) rfl ?_); clear ha; (try clear a); intro a ha
                refine wpList_k (st_set ha rfl (ex_move ha) rfl ?_); clear ha; (try clear a); intro a ha
                refine wpList_k (st_call ha rfl Ty.c17 rfl (len_net (hs.net q)) ?_); clear ha hs
                rintro e w ⟨rfl, hs⟩
                refine ⟨_, rfl, ?_⟩
                intro a ha
                refine wpList_k (st_set ha rfl (ex_lss ha) rfl ?_); clear ha; (try clear a); intro a ha
                refine wpList_nil ?_
                refine then_n ?_
                refine wp_if ha (fun hc6 => ?_) (fun hc6 => ?_)
                ·
                  try simp only [decide_eq_true_eq, decide_eq_false_iff_not, Bool.not_eq_true', Bool.not_eq_false', Int.not_lt, Int.not_le, ne_eq, Decidable.not_not] at hc6
                  refine wp_skip ?_
                  refine then_n ?_
                  refine wp_seq ?_
                  refine wp_block ?_
                  refine wp_seq ?_
                  refine wp_region_lit ?_
                  refine wpList_k (st_set ha rfl (ex_move ha) rfl ?_); clear ha; (try clear a); intro a ha
                  refine wpList_k (st_set ha rfl (ex_move ha) rfl ?_); clear ha; (try clear a); intro a ha
                  refine wpList_k (st_call ha rfl Ty.c12 rfl (look_in (i := j) (hs.net q) (by omega)) ?_); clear ha hs
                  rintro e w ⟨ad1, c1, rfl, hs⟩
                  refine ⟨_, rfl, ?_⟩
                  intro a ha
                  refine wpList_k (st_set ha rfl (ex_move ha) rfl ?_); clear ha; (try clear a); intro a ha
                  refine wpList_k (st_set ha rfl (ex_extract ha rfl) rfl ?_); clear ha; (try clear a); intro a ha
                  refine wpList_k (st_set ha rfl (ex_extract ha rfl) rfl ?_); clear ha; (try clear a); intro a ha
                  refine wpList_k (st_alloc ha rfl hs Ty.t29 rfl ?_); clear ha hs; (try clear a); (try clear w); intro b16 a w ha hs ho
                  clear ho
                  refine wpList_k (st_storeAll ha rfl hs Ty.t29 (by simp [Value.oneCell']) (by rfl) ?_); clear ha hs; (try clear a); (try clear w); intro a w ha hs
                  refine wpList_k (st_set ha rfl (ex_assign ha) rfl ?_); clear ha; (try clear a); intro a ha
                  refine wpList_nil ?_
                  refine then_n ?_
                  refine wp_seq ?_
                  refine wp_seq ?_
                  have hl1 := hla j (by omega) (Nat.le_refl _)
                  refine wp_region_lit ?_
                  refine wpList_k (st_set ha rfl (ex_move ha) rfl ?_); clear ha; (try clear a); intro a ha
                  refine wpList_k (st_set ha rfl (ex_not ha) rfl ?_); clear ha; (try clear a); intro a ha
                  refine wpList_k (st_set ha rfl (ex_move ha) rfl ?_); clear ha; (try clear a); intro a ha
                  refine wpList_k (st_set ha (wgT ha rfl (s := 98)) (ex_fieldAddr ha Try.underlying29 rfl Ty.t3 rfl) rfl ?_); clear ha; (try clear a); intro a ha
                  refine wpList_k (st_set ha (wgT ha rfl (s := 98)) (ex_load1 ha Try.underlying3 rfl (hs.rd1 rfl)) rfl ?_); clear ha; (try clear a); intro a ha
                  refine wpList_k (st_set ha (wgT ha rfl (s := 98)) (ex_move ha) rfl ?_); clear ha; (try clear a); intro a ha
                  refine wpList_k (st_set ha (wgT ha rfl (s := 98)) (ex_leq ha) rfl ?_); clear ha; (try clear a); intro a ha
                  rw [decide_eq_false (by omega)] at ha
                  refine wpList_k (st_set ha rfl (ex_pickF ha) rfl ?_); clear ha; (try clear a); intro a ha
                  refine wpList_nil ?_
                  refine then_n ?_
                  refine wp_ifF ha ?_
                  refine wp_skip ?_
                  refine then_n ?_
                  refine wp_region_lit ?_
                  refine wpList_k (st_set ha rfl (ex_fieldAddr ha Try.underlying29 rfl Ty.t3 rfl) rfl ?_); clear ha; (try clear a); intro a ha
                  refine wpList_k (st_set ha rfl (ex_load1 ha Try.underlying3 rfl (hs.rd1 rfl)) rfl ?_); clear ha; (try clear a); intro a ha
                  replace ha := ha.del 14
                  refine wpList_k (st_set ha rfl (ex_assign ha) rfl ?_); clear ha; (try clear a); intro a ha
                  refine wpList_nil ?_
                  refine blk_n <| then_n ?_
                  refine wp_region_lit ?_
                  refine wpList_k (st_set ha rfl (ex_move ha) rfl ?_); clear ha; (try clear a); intro a ha
                  refine wpList_k (st_set ha rfl (ex_addI ha (by omega) (by omega)) rfl ?_); clear ha; (try clear a); intro a ha
                  replace ha := ha.del 15
                  refine wpList_k (st_set ha rfl (ex_assign ha) rfl ?_); clear ha; (try clear a); intro a ha
                  refine wpList_nil ?_
                  refine then_n ?_
                  exact ⟨ms.length - (j + 1), by omega, j + 1, _, ⟨rfl, by omega, fun k h h2 => List.pairwise_iff_getElem.1 hpw j k (by omega) h (by omega)⟩, ha.keep [4, 6, 14, 15], hs.sub⟩
                ·
                  try simp only [decide_eq_true_eq, decide_eq_false_iff_not, Bool.not_eq_true', Bool.not_eq_false', Int.not_lt, Int.not_le, ne_eq, Decidable.not_not] at hc6
                  refine wp_exit ?_
                  refine then_e <| then_e <| blk_e ?_
                  refine then_n ?_
                  refine wp_seq ?_
                  refine wp_region_lit ?_
                  replace ha := ha.del 4
                  refine wpList_k (st_set ha rfl (ex_assign ha) rfl ?_); clear ha; (try clear a); intro a ha
                  refine wpList_nil ?_
                  refine then_n ?_
                  refine wp_ret ?_
                  refine ret1 ha rfl ?_
                  exact ⟨rfl, hs.below⟩
end Go.Proofs.Ytjaiojfmcpbkbaa

