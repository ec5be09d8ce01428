/- SnapAll: the walks of the book. -/
import Derived.Test.YtpfblmpgljodmaaSnapB
namespace Go.Proofs.Ytpfblmpgljodmaa
open Go.RowKit
set_option linter.unusedVariables false
set_option linter.unusedSimpArgs false
set_option maxRecDepth 10000
set_option synthInstance.maxSize 4000
set_option synthInstance.maxHeartbeats 400000

def bkc (z : Bz) : List Value := .int .i64 z.1.id :: .int .i64 z.1.refs :: (ints .i32 32 z.1.g ++ ints .i64 4 (fun k => (z.1.p k : Int)))
theorem bkc_len (z : Bz) : (bkc z).length = 38 := by simp [bkc, ints_len]
theorem bkc_one (z : Bz) : ∀ v ∈ bkc z, v.oneCell' = true := by
  intro v hv
  simp only [bkc, List.mem_cons, List.mem_append] at hv
  rcases hv with rfl | rfl | hv | hv
  · rfl
  · rfl
  · exact ints_one v hv
  · exact ints_one v hv
theorem bkc_g (z : Bz) {c : Nat} (h : c < 32) : (bkc z)[2 + c]? = some (.int .i32 (z.1.g c)) := by
  rw [bkc, show 2 + c = c + 1 + 1 from by omega, List.getElem?_cons_succ, List.getElem?_cons_succ, List.getElem?_append_left (by rw [ints_len]; exact h), ints_get _ h]
theorem bkc_p (z : Bz) {k : Nat} (h : k < 4) : (bkc z)[34 + k]? = some (.int .i64 (z.1.p k)) := by
  rw [bkc, show 34 + k = 32 + k + 1 + 1 from by omega, List.getElem?_cons_succ, List.getElem?_cons_succ, List.getElem?_append_right (by rw [ints_len]; omega), ints_len, show 32 + k - 32 = k from by omega, ints_get _ h]
theorem bkc_setr (z : Bz) (r : Nat) : (bkc z).set 1 (.int .i64 r) = bkc (⟨z.1.id, r, z.1.g, z.1.p⟩, z.2) := rfl
theorem bkc_setg (z : Bz) {c : Nat} (h : c < 32) (v : Int) (s : Nat → Nat) : (bkc z).set (2 + c) (.int .i32 v) = bkc (⟨z.1.id, z.1.refs, upd z.1.g c v, z.1.p⟩, s) := by
  rw [bkc, show 2 + c = c + 1 + 1 from by omega, List.set_cons_succ, List.set_cons_succ, List.set_append_left _ _ (by rw [ints_len]; exact h), ints_set]; rfl
theorem bkc_setp (z : Bz) {k : Nat} (h : k < 4) (f : Nat) (s : Nat → Nat) : (bkc z).set (34 + k) (.int .i64 f) = bkc (⟨z.1.id, z.1.refs, z.1.g, fun j => if j = k then f else z.1.p j⟩, s) := by
  rw [bkc, show 34 + k = 32 + k + 1 + 1 from by omega, List.set_cons_succ, List.set_cons_succ, List.set_append_right _ _ (by rw [ints_len]; omega), ints_len, show 32 + k - 32 = k from by omega, ints_set, bkc]
  congr 3
  refine ints_congr fun j _ => ?_
  by_cases hj : j = k <;> simp [hj]
def Book (bb rm nx : Nat) (B : List Bz) : SP := fun h => ∃ (ad : Option Addr) (c : Nat), B.length ≤ 1000 ∧ sepL [blk bb 56 [.slice ad B.length c, .int .i64 nx, .int .i64 rm], Sl 92 38 ad B.length c (rows bkc B)] h
section
variable {W w : World} {L L' R : List SP} {q r bb rm nx kk c k : Nat} {A : Sn} {B : List Bz} {z : Bz} {ad : Option Addr}
theorem Book.open (hs : St W w (Book bb rm nx B :: L)) : ∃ ad c, B.length ≤ 1000 ∧ St W w (blk bb 56 [.slice ad B.length c, .int .i64 nx, .int .i64 rm] :: Sl 92 38 ad B.length c (rows bkc B) :: L) := by
  obtain ⟨⟨ad, c⟩, h1, h2⟩ := hs.exi (ι := Option Addr × Nat) (p := fun _ => B.length ≤ 1000) (B := fun i h => sepL [blk bb 56 [.slice i.1 B.length i.2, .int .i64 nx, .int .i64 rm], Sl 92 38 i.1 B.length i.2 (rows bkc B)] h) (fun h ⟨ad, c, h1, h2⟩ => ⟨(ad, c), h1, h2⟩)
  exact ⟨ad, c, h1, h2.open fun _ h => h⟩
theorem Book.close (hs : St W w L) [kA : Arr L (blk bb 56 [.slice ad B.length c, .int .i64 nx, .int .i64 rm] :: Sl 92 38 ad B.length c (rows bkc B) :: L') R] (h : B.length ≤ 1000) : St W w (Book bb rm nx B :: L') :=
  St.shut (M := [_, _]) (hs.sub (M := blk bb 56 [.slice ad B.length c, .int .i64 nx, .int .i64 rm] :: Sl 92 38 ad B.length c (rows bkc B) :: L')) (fun _ x => ⟨ad, c, h, x⟩)
theorem bk_rd {b off : Nat} (hr : Rd w b off (rows bkc B)) (hz : B[kk]? = some z) : Rd w b (off + kk * 38) (bkc z) := by
  obtain ⟨hi, he⟩ := List.getElem?_eq_some_iff.1 hz
  have := hr.part (kk * 38) 38
  rw [rows_at bkc_len B kk hi, he] at this
  exact this
theorem bk_rdg {b off : Nat} (hr : Rd w b off (rows bkc B)) (hz : B[kk]? = some z) : Rd w b (off + kk * 38 + 2) (ints .i32 32 z.1.g) := fun j v hj => by
  have hj2 := (List.getElem?_eq_some_iff.1 hj).1
  rw [ints_len] at hj2
  rw [ints_get _ hj2] at hj; cases hj
  rw [Nat.add_assoc _ 2 j]
  exact bk_rd hr hz (2 + j) _ (bkc_g z hj2)
theorem bk_rdp {b off : Nat} (hr : Rd w b off (rows bkc B)) (hz : B[kk]? = some z) : Rd w b (off + kk * 38 + 34) (ints .i64 4 (fun k => (z.1.p k : Int))) := fun j v hj => by
  have hj2 := (List.getElem?_eq_some_iff.1 hj).1
  rw [ints_len] at hj2
  rw [ints_get _ hj2] at hj; cases hj
  rw [Nat.add_assoc _ 34 j]
  exact bk_rd hr hz (34 + j) _ (bkc_p z hj2)
theorem bk_snoc (B : List Bz) (z : Bz) : rows bkc B ++ [bkc z].flatten = rows bkc (B ++ [z]) := by rw [rows_app]; simp [rows]
def part1 (z : Bz) (p m : Nat) : Nat := if 0 < z.1.refs then cntU z.1 p m else 0
theorem part1_succ (z : Bz) (p m : Nat) : part1 z p (m + 1) = part1 z p m + if 0 < z.1.refs ∧ z.1.p m = p then 1 else 0 := by
  by_cases h : 0 < z.1.refs
  · rw [part1, part1, if_pos h, if_pos h, cntU_succ]; simp [h]
  · simp [part1, h]
theorem cntB_succ (hz : B[kk]? = some z) (p : Nat) : cntB (B.take (kk + 1)) p = cntB (B.take kk) p + part1 z p 4 := by
  obtain ⟨hk, rfl⟩ := List.getElem?_eq_some_iff.1 hz
  rw [cntB, cntB, live, live, List.take_succ_eq_append_getElem hk, List.filter_append, List.map_append, cnt_app]
  congr 1
  by_cases h : 0 < B[kk].1.refs
  · rw [List.filter_cons, if_pos (by simpa [lv] using h), part1, if_pos h]; simp [cnt, cntP]
  · rw [List.filter_cons, if_neg (by simpa [lv] using h), part1, if_neg h]; rfl
theorem count_spec {p : Nat} (hs : St W w (Book bb rm nx B :: L)) :
    Calls Try.prog 45 #[.pointer (some ⟨bb, 0, none⟩), .int .i64 p] w fun e w' => e = .returned (.int .i64 (cntB B p)) ∧ St W w' (Book bb rm nx B :: L) := by
  obtain ⟨ad, c, hB, hs⟩ := Book.open hs
  refine calls_enter Try.func45 rfl Try.ntmps45 (Nat.le_of_ble_eq_true rfl) ?_
  intro a ha
  replace ha : Fr a 47 [(0, _), (1, _)] := ha
  refine wp_seq ?_
  refine wp_region_lit ?_
  refine wpList_k (st_set ha rfl (ex_assign ha) rfl ?_); clear ha; (try clear a); intro a ha
  refine wpList_nil ?_
  refine then_n ?_
  refine wp_seq ?_
  refine wp_region_lit ?_
  refine wpList_k (st_set ha rfl (ex_assign ha) rfl ?_); clear ha; (try clear a); intro a ha
  refine wpList_nil ?_
  refine then_n ?_
  refine wp_seq ?_
  refine wp_seq ?_
  refine wp_region_lit ?_
  refine wpList_k (st_set ha rfl (ex_assign ha) rfl ?_); clear ha; (try clear a); intro a ha
  refine wpList_nil ?_
  refine then_n ?_
  refine wp_block ?_
  refine wp_loop_ghost (fun μ a w => ∃ i : Nat, (μ = B.length - i ∧ i ≤ B.length) ∧ Fr a 47 [(0, .pointer (some ⟨bb, 0, none⟩)), (1, .int .i64 p), (5, .int .i64 (cntB (B.take i) p)), (6, .int .i64 i)] ∧ St W w (blk bb 56 [.slice ad B.length c, .int .i64 nx, .int .i64 rm] :: Sl 92 38 ad B.length c (rows bkc B) :: L)) (B.length) ?_ ?_
  · exact ⟨0, ⟨by simp, by simp⟩, ha.keep [0, 1, 5, 6], hs.sub⟩
  ·
    clear ha hs
    rintro μ a w ⟨i, ⟨rfl, hi⟩, ha, hs⟩
    refine wp_seq ?_
    refine wp_seq ?_
    refine wp_region_lit ?_
    refine wpList_k (st_set ha rfl (ex_move ha) rfl ?_); clear ha; (try clear a); intro a ha
    refine wpList_k (st_set ha rfl (ex_move ha) rfl ?_); clear ha; (try clear a); intro a ha
    refine wpList_k (st_set ha rfl (ex_nilCheck ha) rfl ?_); clear ha; (try clear a); intro a ha
    refine wpList_k (st_set ha rfl (ex_fieldAddr (k := 0) ha Try.underlying56 rfl Ty.t54 rfl) rfl ?_); clear ha; (try clear a); intro a ha
    refine wpList_k (st_set ha rfl (ex_load1 ha Try.underlying54 rfl (hs.rd1 rfl)) rfl ?_); clear ha; (try clear a); intro a ha
    refine wpList_k (st_set ha rfl (ex_len ha Try.underlying54) rfl ?_); clear ha; (try clear a); intro a ha
    refine wpList_k (st_set ha rfl (ex_lss ha) rfl ?_); clear ha; (try clear a); intro a ha
    refine wpList_nil ?_
    refine then_n ?_
    refine wp_if ha (fun hc0 => ?_) (fun hc0 => ?_)
    ·
      try simp only [decide_eq_true_eq, decide_eq_false_iff_not, Bool.not_eq_true', Bool.not_eq_false', Int.not_lt, Int.not_le, ne_eq, Decidable.not_not] at hc0
      obtain ⟨z, hz⟩ : ∃ z, B[i]? = some z := ⟨_, List.getElem?_eq_getElem (by omega)⟩
      have hcs := cntB_succ hz p
      have hcl := cntB_le (B.take i) p
      have hlt : (B.take i).length ≤ 1000 := by rw [List.length_take]; omega
      obtain ⟨C0, hC0⟩ : ∃ C0, cntB (B.take i) p = C0 := ⟨_, rfl⟩
      rw [hC0] at ha hcs hcl
      refine wp_skip ?_
      refine then_n ?_
      refine wp_seq ?_
      refine wp_block ?_
      refine wp_seq ?_
      refine wp_region_lit ?_
      refine wpList_k (st_set ha rfl (ex_assign ha) rfl ?_); clear ha; (try clear a); intro a ha
      refine wpList_nil ?_
      refine then_n ?_
      refine wp_block ?_
      refine wp_loop_ghost (fun μ a w => ∃ k : Nat, (μ = 4 - k ∧ k ≤ 4 ∧ part1 z p k ≤ k) ∧ Fr a 47 [(0, .pointer (some ⟨bb, 0, none⟩)), (1, .int .i64 p), (5, .int .i64 ((C0 + part1 z p k : Nat) : Int)), (6, .int .i64 i), (7, .int .i64 k)] ∧ St W w (blk bb 56 [.slice ad B.length c, .int .i64 nx, .int .i64 rm] :: Sl 92 38 ad B.length c (rows bkc B) :: L)) (4) ?_ ?_
      · exact ⟨0, ⟨by simp, by simp, by simp [part1, cntU_zero]⟩, (by rw [show part1 z p 0 = 0 from by simp [part1, cntU_zero]]; exact ha.keep [0, 1, 5, 6, 7]), hs.sub⟩
      ·
        clear ha hs
        rintro μ a w ⟨k, ⟨rfl, hk, hpk⟩, ha, hs⟩
        refine wp_seq ?_
        refine wp_seq ?_
        refine wp_region_lit ?_
        refine wpList_k (st_set ha rfl (ex_move ha) rfl ?_); clear ha; (try clear a); intro a ha
        refine wpList_k (st_set ha rfl (ex_lss ha) rfl ?_); clear ha; (try clear a); intro a ha
        refine wpList_nil ?_
        refine then_n ?_
        refine wp_if ha (fun hc1 => ?_) (fun hc1 => ?_)
        ·
          try simp only [decide_eq_true_eq, decide_eq_false_iff_not, Bool.not_eq_true', Bool.not_eq_false', Int.not_lt, Int.not_le, ne_eq, Decidable.not_not] at hc1
          refine wp_skip ?_
          refine then_n ?_
          refine wp_seq ?_
          refine wp_block ?_
          refine wp_seq ?_
          obtain ⟨b', off', hade, hrd⟩ := hs.slRd ad (by omega)
          have hrk := bk_rd hrd hz
          have hps := part1_succ z p k
          refine wp_region_lit ?_
          refine wpList_k (st_set ha rfl (ex_move ha) rfl ?_); clear ha; (try clear a); intro a ha
          refine wpList_k (st_set ha rfl (ex_nilCheck ha) rfl ?_); clear ha; (try clear a); intro a ha
          refine wpList_k (st_set ha rfl (ex_fieldAddr (k := 0) ha Try.underlying56 rfl Ty.t54 rfl) rfl ?_); clear ha; (try clear a); intro a ha
          refine wpList_k (st_set ha rfl (ex_load1 ha Try.underlying54 rfl (hs.rd1 rfl)) rfl ?_); clear ha; (try clear a); intro a ha
          rw [hade] at ha
          refine wpList_k (st_set ha rfl (ex_move ha) rfl ?_); clear ha; (try clear a); intro a ha
          refine wpList_k (st_set ha rfl (ex_indexAddr ha Try.underlying54 Ty.t92 (by omega)) rfl ?_); clear ha; (try clear a); intro a ha
          refine wpList_k (st_set ha rfl (ex_fieldAddr (k := 1) ha Try.underlying92 rfl Ty.t3 rfl) rfl ?_); clear ha; (try clear a); intro a ha
          refine wpList_k (st_set ha rfl (ex_load1 ha Try.underlying3 rfl (hrk 1 _ rfl)) rfl ?_); clear ha; (try clear a); intro a ha
          refine wpList_k (st_set ha rfl (ex_gtr ha) rfl ?_); clear ha; (try clear a); intro a ha
          refine wpList_k (st_set ha rfl (ex_move ha) rfl ?_); clear ha; (try clear a); intro a ha
          refine ha.bool (s := 30) (fun hg9 ha => ?_) (fun hg9 ha => ?_)
          ·
            try simp only [decide_eq_true_eq, decide_eq_false_iff_not, Bool.not_eq_true', Bool.not_eq_false', Int.not_lt, Int.not_le, ne_eq, Decidable.not_not] at hg9
            refine wpList_k (st_set ha (wgT ha rfl (s := 30)) (ex_move ha) rfl ?_); clear ha; (try clear a); intro a ha
            refine wpList_k (st_set ha (wgT ha rfl (s := 30)) (ex_nilCheck ha) rfl ?_); clear ha; (try clear a); intro a ha
            refine wpList_k (st_set ha (wgT ha rfl (s := 30)) (ex_fieldAddr (k := 0) ha Try.underlying56 rfl Ty.t54 rfl) rfl ?_); clear ha; (try clear a); intro a ha
            refine wpList_k (st_set ha (wgT ha rfl (s := 30)) (ex_load1 ha Try.underlying54 rfl (hs.rd1 rfl)) rfl ?_); clear ha; (try clear a); intro a ha
            rw [hade] at ha
            refine wpList_k (st_set ha (wgT ha rfl (s := 30)) (ex_move ha) rfl ?_); clear ha; (try clear a); intro a ha
            refine wpList_k (st_set ha (wgT ha rfl (s := 30)) (ex_move ha) rfl ?_); clear ha; (try clear a); intro a ha
            refine wpList_k (st_set ha (wgT ha rfl (s := 30)) (ex_indexAddr ha Try.underlying54 Ty.t92 (by omega)) rfl ?_); clear ha; (try clear a); intro a ha
            refine wpList_k (st_set ha (wgT ha rfl (s := 30)) (ex_fieldAddr (k := 34) ha Try.underlying92 rfl Ty.t67 rfl) rfl ?_); clear ha; (try clear a); intro a ha
            refine wpList_k (st_set ha (wgT ha rfl (s := 30)) (ex_indexAddrA ha Try.underlying67 Ty.t3 (by omega)) rfl ?_); clear ha; (try clear a); intro a ha
            rw [Nat.mul_one, Nat.add_assoc _ 34 k] at ha
            refine wpList_k (st_set ha (wgT ha rfl (s := 30)) (ex_load1 ha Try.underlying3 rfl (hrk (34 + k) _ (bkc_p z (by omega)))) rfl ?_); clear ha; (try clear a); intro a ha
            refine wpList_k (st_set ha (wgT ha rfl (s := 30)) (ex_move ha) rfl ?_); clear ha; (try clear a); intro a ha
            refine wpList_k (st_set ha (wgT ha rfl (s := 30)) (ex_eql ha) rfl ?_); clear ha; (try clear a); intro a ha
            refine wpList_k (st_set ha rfl (ex_pickT ha) rfl ?_); clear ha; (try clear a); intro a ha
            refine wpList_nil ?_
            refine then_n ?_
            refine wp_if ha (fun hc2 => ?_) (fun hc2 => ?_)
            ·
              try simp only [decide_eq_true_eq, decide_eq_false_iff_not, Bool.not_eq_true', Bool.not_eq_false', Int.not_lt, Int.not_le, ne_eq, Decidable.not_not] at hc2
              rw [if_pos ⟨by omega, by omega⟩] at hps
              refine wp_region_lit ?_
              refine wpList_k (st_set ha rfl (ex_move ha) rfl ?_); clear ha; (try clear a); intro a ha
              refine wpList_k (st_set ha rfl (ex_addI ha (by omega) (by omega)) rfl ?_); clear ha; (try clear a); intro a ha
              replace ha := ha.del 5
              refine wpList_k (st_set ha rfl (ex_assign ha) rfl ?_); clear ha; (try clear a); intro a ha
              refine wpList_nil ?_
              rw [show (((C0 + part1 z p k : Nat) : Int) + 1) = ((C0 + part1 z p (k + 1) : Nat) : Int) from by rw [hps]; omega] at ha
              refine blk_n <| then_n ?_
              refine wp_region_lit ?_
              refine wpList_k (st_set ha rfl (ex_move ha) rfl ?_); clear ha; (try clear a); intro a ha
              refine wpList_k (st_set ha rfl (ex_addI ha (by omega) (by omega)) rfl ?_); clear ha; (try clear a); intro a ha
              replace ha := ha.del 7
              refine wpList_k (st_set ha rfl (ex_assign ha) rfl ?_); clear ha; (try clear a); intro a ha
              refine wpList_nil ?_
              refine then_n ?_
              exact ⟨4 - (k + 1), by omega, k + 1, ⟨rfl, by omega, by omega⟩, ha.keep [0, 1, 5, 6, 7], hs.sub⟩
            ·
              try simp only [decide_eq_true_eq, decide_eq_false_iff_not, Bool.not_eq_true', Bool.not_eq_false', Int.not_lt, Int.not_le, ne_eq, Decidable.not_not] at hc2
              replace hps : part1 z p (k + 1) = part1 z p k := by rw [hps, if_neg (by omega)]; rfl
              refine wp_skip ?_
              refine blk_n <| then_n ?_
              refine wp_region_lit ?_
              refine wpList_k (st_set ha rfl (ex_move ha) rfl ?_); clear ha; (try clear a); intro a ha
              refine wpList_k (st_set ha rfl (ex_addI ha (by omega) (by omega)) rfl ?_); clear ha; (try clear a); intro a ha
              replace ha := ha.del 7
              refine wpList_k (st_set ha rfl (ex_assign ha) rfl ?_); clear ha; (try clear a); intro a ha
              refine wpList_nil ?_
              refine then_n ?_
              rw [← hps] at ha
              exact ⟨4 - (k + 1), by omega, k + 1, ⟨rfl, by omega, by omega⟩, ha.keep [0, 1, 5, 6, 7], hs.sub⟩
          ·
            try simp only [decide_eq_true_eq, decide_eq_false_iff_not, Bool.not_eq_true', Bool.not_eq_false', Int.not_lt, Int.not_le, ne_eq, Decidable.not_not] at hg9
            replace hps : part1 z p (k + 1) = part1 z p k := by rw [hps, if_neg (by omega)]; rfl
            refine wpList_k (st_off ha (wgF ha rfl (s := 30) rfl) rfl ?_); clear ha; (try clear a); intro a ha
            refine wpList_k (st_off ha (wgF ha rfl (s := 30) rfl) rfl ?_); clear ha; (try clear a); intro a ha
            refine wpList_k (st_off ha (wgF ha rfl (s := 30) rfl) rfl ?_); clear ha; (try clear a); intro a ha
            refine wpList_k (st_off ha (wgF ha rfl (s := 30) rfl) rfl ?_); clear ha; (try clear a); intro a ha
            refine wpList_k (st_off ha (wgF ha rfl (s := 30) rfl) rfl ?_); clear ha; (try clear a); intro a ha
            refine wpList_k (st_off ha (wgF ha rfl (s := 30) rfl) rfl ?_); clear ha; (try clear a); intro a ha
            refine wpList_k (st_off ha (wgF ha rfl (s := 30) rfl) rfl ?_); clear ha; (try clear a); intro a ha
            refine wpList_k (st_off ha (wgF ha rfl (s := 30) rfl) rfl ?_); clear ha; (try clear a); intro a ha
            refine wpList_k (st_off ha (wgF ha rfl (s := 30) rfl) rfl ?_); clear ha; (try clear a); intro a ha
            refine wpList_k (st_off ha (wgF ha rfl (s := 30) rfl) rfl ?_); clear ha; (try clear a); intro a ha
            refine wpList_k (st_off ha (wgF ha rfl (s := 30) rfl) rfl ?_); clear ha; (try clear a); intro a ha
            refine wpList_k (st_off ha (wgF ha rfl (s := 30) rfl) rfl ?_); clear ha; (try clear a); intro a ha
            refine wpList_k (st_set ha rfl (ex_pickF ha) rfl ?_); clear ha; (try clear a); intro a ha
            refine wpList_nil ?_
            refine then_n ?_
            refine wp_ifF ha ?_
            refine wp_skip ?_
            refine blk_n <| then_n ?_
            refine wp_region_lit ?_
            refine wpList_k (st_set ha rfl (ex_move ha) rfl ?_); clear ha; (try clear a); intro a ha
            refine wpList_k (st_set ha rfl (ex_addI ha (by omega) (by omega)) rfl ?_); clear ha; (try clear a); intro a ha
            replace ha := ha.del 7
            refine wpList_k (st_set ha rfl (ex_assign ha) rfl ?_); clear ha; (try clear a); intro a ha
            refine wpList_nil ?_
            refine then_n ?_
            rw [← hps] at ha
            exact ⟨4 - (k + 1), by omega, k + 1, ⟨rfl, by omega, by omega⟩, ha.keep [0, 1, 5, 6, 7], hs.sub⟩
        ·
          try simp only [decide_eq_true_eq, decide_eq_false_iff_not, Bool.not_eq_true', Bool.not_eq_false', Int.not_lt, Int.not_le, ne_eq, Decidable.not_not] at hc1
          refine wp_exit ?_
          refine then_e <| then_e <| blk_e ?_
          refine blk_n <| then_n ?_
          obtain rfl : k = 4 := by omega
          rw [← hcs] at ha
          refine wp_region_lit ?_
          refine wpList_k (st_set ha rfl (ex_move ha) rfl ?_); clear ha; (try clear a); intro a ha
          refine wpList_k (st_set ha rfl (ex_addI ha (by omega) (by omega)) rfl ?_); clear ha; (try clear a); intro a ha
          replace ha := ha.del 6
          refine wpList_k (st_set ha rfl (ex_assign ha) rfl ?_); clear ha; (try clear a); intro a ha
          refine wpList_nil ?_
          refine then_n ?_
          exact ⟨B.length - (i + 1), by omega, i + 1, ⟨rfl, by omega⟩, ha.keep [0, 1, 5, 6], hs.sub⟩
    ·
      try simp only [decide_eq_true_eq, decide_eq_false_iff_not, Bool.not_eq_true', Bool.not_eq_false', Int.not_lt, Int.not_le, ne_eq, Decidable.not_not] at hc0
      refine wp_exit ?_
      refine then_e <| then_e <| blk_e ?_
      refine then_n ?_
      refine wp_seq ?_
      obtain rfl : i = B.length := by omega
      rw [List.take_length] at ha
      refine wp_region_lit ?_
      refine wpList_k (st_set ha rfl (ex_move ha) rfl ?_); clear ha; (try clear a); intro a ha
      refine wpList_k (st_set ha rfl (ex_assign ha) rfl ?_); clear ha; (try clear a); intro a ha
      refine wpList_nil ?_
      refine then_n ?_
      refine wp_ret ?_
      refine ret1 ha rfl ?_
      exact ⟨rfl, Book.close (ad := ad) (c := c) hs hB⟩
theorem usedTo_succ (B : List Bz) (m : Nat) : usedTo B (m + 1) = usedTo B m + if 0 < cntB B (m + 1) then 1 else 0 := by
  rw [usedTo, List.range_succ, List.countP_append, List.countP_singleton, usedTo]
  by_cases h : 0 < cntB B (m + 1) <;> simp [h]
theorem usedTo_le (B : List Bz) (m : Nat) : usedTo B m ≤ m + 1 := by
  have := List.countP_le_length (p := fun p => decide (0 < cntB B p)) (l := List.range (m + 1))
  rw [List.length_range] at this; exact this
theorem used_spec (hs : St W w (Book bb rm nx B :: L)) (h0 : cntB B 0 = 0) (hnx : nx ≤ 1000) :
    Calls Try.prog 43 #[.pointer (some ⟨bb, 0, none⟩)] w fun e w' => e = .returned (.int .i64 (usedTo B nx)) ∧ St W w' (Book bb rm nx B :: L) := by
  have hu0 : usedTo B 0 = 0 := by simp [usedTo, h0]
  refine calls_enter Try.func43 rfl Try.ntmps43 (Nat.le_of_ble_eq_true rfl) ?_
  intro a ha
  replace ha : Fr a 20 [(0, _)] := ha
  refine wp_seq ?_
  refine wp_region_lit ?_
  refine wpList_k (st_set ha rfl (ex_assign ha) rfl ?_); clear ha; (try clear a); intro a ha
  refine wpList_nil ?_
  refine then_n ?_
  refine wp_seq ?_
  refine wp_region_lit ?_
  refine wpList_k (st_set ha rfl (ex_assign ha) rfl ?_); clear ha; (try clear a); intro a ha
  refine wpList_nil ?_
  refine then_n ?_
  refine wp_seq ?_
  refine wp_seq ?_
  refine wp_region_lit ?_
  refine wpList_k (st_set ha rfl (ex_assign ha) rfl ?_); clear ha; (try clear a); intro a ha
  refine wpList_nil ?_
  refine then_n ?_
  refine wp_block ?_
  refine wp_loop_ghost (fun μ a w => ∃ m : Nat, (μ = nx - m ∧ m ≤ nx) ∧ Fr a 20 [(0, .pointer (some ⟨bb, 0, none⟩)), (3, .int .i64 (usedTo B m)), (4, .int .i64 ((m + 1 : Nat) : Int))] ∧ St W w (Book bb rm nx B :: L)) (nx) ?_ ?_
  · exact ⟨0, ⟨by simp, by simp⟩, (by rw [hu0]; exact ha.keep [0, 3, 4]), hs.sub⟩
  ·
    clear ha hs
    rintro μ a w ⟨m, ⟨rfl, hm⟩, ha, hs⟩
    refine wp_seq ?_
    refine wp_seq ?_
    obtain ⟨ad, c, hB, hs⟩ := Book.open hs
    have hul := usedTo_le B m
    have hus := usedTo_succ B m
    refine wp_region_lit ?_
    refine wpList_k (st_set ha rfl (ex_move ha) rfl ?_); clear ha; (try clear a); intro a ha
    refine wpList_k (st_set ha rfl (ex_move ha) rfl ?_); clear ha; (try clear a); intro a ha
    refine wpList_k (st_set ha rfl (ex_nilCheck ha) rfl ?_); clear ha; (try clear a); intro a ha
    refine wpList_k (st_set ha rfl (ex_fieldAddr (k := 1) ha Try.underlying56 rfl Ty.t3 rfl) rfl ?_); clear ha; (try clear a); intro a ha
    refine wpList_k (st_set ha rfl (ex_load1 ha Try.underlying3 rfl (hs.rd1 rfl)) rfl ?_); clear ha; (try clear a); intro a ha
    refine wpList_k (st_set ha rfl (ex_leq ha) rfl ?_); clear ha; (try clear a); intro a ha
    refine wpList_nil ?_
    replace hs : St W w (Book bb rm nx B :: L) := Book.close (ad := ad) (c := c) hs hB
    refine then_n ?_
    refine wp_if ha (fun hc0 => ?_) (fun hc0 => ?_)
    ·
      try simp only [decide_eq_true_eq, decide_eq_false_iff_not, Bool.not_eq_true', Bool.not_eq_false', Int.not_lt, Int.not_le, ne_eq, Decidable.not_not] at hc0
      refine wp_skip ?_
      refine then_n ?_
      refine wp_seq ?_
      refine wp_block ?_
      refine wp_seq ?_
      refine wp_region_lit ?_
      refine wpList_k (st_set ha rfl (ex_move ha) rfl ?_); clear ha; (try clear a); intro a ha
      refine wpList_k (st_set ha rfl (ex_move ha) rfl ?_); clear ha; (try clear a); intro a ha
      refine wpList_k (st_call ha rfl Ty.c45 rfl (count_spec (p := m + 1) hs) ?_); clear ha hs
      rintro e w ⟨rfl, hs⟩
      refine ⟨_, rfl, ?_⟩
      intro a ha
      refine wpList_k (st_set ha rfl (ex_gtr ha) rfl ?_); clear ha; (try clear a); intro a ha
      refine wpList_nil ?_
      refine then_n ?_
      refine wp_if ha (fun hc1 => ?_) (fun hc1 => ?_)
      ·
        try simp only [decide_eq_true_eq, decide_eq_false_iff_not, Bool.not_eq_true', Bool.not_eq_false', Int.not_lt, Int.not_le, ne_eq, Decidable.not_not] at hc1
        rw [if_pos (by omega)] at hus
        refine wp_region_lit ?_
        refine wpList_k (st_set ha rfl (ex_move ha) rfl ?_); clear ha; (try clear a); intro a ha
        refine wpList_k (st_set ha rfl (ex_addI ha (by omega) (by omega)) rfl ?_); clear ha; (try clear a); intro a ha
        replace ha := ha.del 3
        refine wpList_k (st_set ha rfl (ex_assign ha) rfl ?_); clear ha; (try clear a); intro a ha
        refine wpList_nil ?_
        rw [show ((usedTo B m : Int) + 1) = ((usedTo B (m + 1) : Nat) : Int) from by rw [hus]; omega] at ha
        refine blk_n <| then_n ?_
        refine wp_region_lit ?_
        refine wpList_k (st_set ha rfl (ex_move ha) rfl ?_); clear ha; (try clear a); intro a ha
        refine wpList_k (st_set ha rfl (ex_addI ha (by omega) (by omega)) rfl ?_); clear ha; (try clear a); intro a ha
        replace ha := ha.del 4
        refine wpList_k (st_set ha rfl (ex_assign ha) rfl ?_); clear ha; (try clear a); intro a ha
        refine wpList_nil ?_
        refine then_n ?_
        exact ⟨nx - (m + 1), by omega, m + 1, ⟨rfl, by omega⟩, ha.keep [0, 3, 4], hs.sub⟩
      ·
        try simp only [decide_eq_true_eq, decide_eq_false_iff_not, Bool.not_eq_true', Bool.not_eq_false', Int.not_lt, Int.not_le, ne_eq, Decidable.not_not] at hc1
        replace hus : usedTo B (m + 1) = usedTo B m := by rw [hus, if_neg (by omega)]; rfl
        refine wp_skip ?_
        refine blk_n <| then_n ?_
        refine wp_region_lit ?_
        refine wpList_k (st_set ha rfl (ex_move ha) rfl ?_); clear ha; (try clear a); intro a ha
        refine wpList_k (st_set ha rfl (ex_addI ha (by omega) (by omega)) rfl ?_); clear ha; (try clear a); intro a ha
        replace ha := ha.del 4
        refine wpList_k (st_set ha rfl (ex_assign ha) rfl ?_); clear ha; (try clear a); intro a ha
        refine wpList_nil ?_
        refine then_n ?_
        rw [← hus] at ha
        exact ⟨nx - (m + 1), by omega, m + 1, ⟨rfl, by omega⟩, ha.keep [0, 3, 4], hs.sub⟩
    ·
      try simp only [decide_eq_true_eq, decide_eq_false_iff_not, Bool.not_eq_true', Bool.not_eq_false', Int.not_lt, Int.not_le, ne_eq, Decidable.not_not] at hc0
      refine wp_exit ?_
      refine then_e <| then_e <| blk_e ?_
      refine then_n ?_
      refine wp_seq ?_
      obtain rfl : m = nx := by omega
      refine wp_region_lit ?_
      refine wpList_k (st_set ha rfl (ex_move ha) rfl ?_); clear ha; (try clear a); intro a ha
      refine wpList_k (st_set ha rfl (ex_assign ha) rfl ?_); clear ha; (try clear a); intro a ha
      refine wpList_nil ?_
      refine then_n ?_
      refine wp_ret ?_
      refine ret1 ha rfl ?_
      exact ⟨rfl, hs⟩
theorem new_spec {id : Nat} (hs : St W w (Book bb rm nx B :: L)) (hid : ∀ (i : Nat) (z : Bz), i + 1 < B.length → B[i]? = some z → id ≠ 0 → z.1.id ≠ id) :
    Calls Try.prog 44 #[.pointer (some ⟨bb, 0, none⟩), .int .i64 id] w fun e w' => e = .returned (.bool true) ∧ St W w' (Book bb rm nx B :: L) := by
  obtain ⟨ad, c, hB, hs⟩ := Book.open hs
  refine calls_enter Try.func44 rfl Try.ntmps44 (Nat.le_of_ble_eq_true rfl) ?_
  intro a ha
  replace ha : Fr a 30 [(0, _), (1, _)] := ha
  refine wp_seq ?_
  refine wp_region_lit ?_
  refine wpList_k (st_set ha rfl (ex_assign ha) rfl ?_); clear ha; (try clear a); intro a ha
  refine wpList_nil ?_
  refine then_n ?_
  refine wp_seq ?_
  refine wp_seq ?_
  refine wp_region_lit ?_
  refine wpList_k (st_set ha rfl (ex_assign ha) rfl ?_); clear ha; (try clear a); intro a ha
  refine wpList_nil ?_
  refine then_n ?_
  refine wp_block ?_
  refine wp_loop_ghost (fun μ a w => ∃ i : Nat, (μ = B.length - i ∧ i ≤ B.length) ∧ Fr a 30 [(0, .pointer (some ⟨bb, 0, none⟩)), (1, .int .i64 id), (5, .int .i64 i)] ∧ St W w (blk bb 56 [.slice ad B.length c, .int .i64 nx, .int .i64 rm] :: Sl 92 38 ad B.length c (rows bkc B) :: L)) (B.length) ?_ ?_
  · exact ⟨0, ⟨by simp, by simp⟩, ha.keep [0, 1, 5], hs.sub⟩
  ·
    clear ha hs
    rintro μ a w ⟨i, ⟨rfl, hi⟩, ha, hs⟩
    refine wp_seq ?_
    refine wp_seq ?_
    refine wp_region_lit ?_
    refine wpList_k (st_set ha rfl (ex_move ha) rfl ?_); clear ha; (try clear a); intro a ha
    refine wpList_k (st_set ha rfl (ex_move ha) rfl ?_); clear ha; (try clear a); intro a ha
    refine wpList_k (st_set ha rfl (ex_nilCheck ha) rfl ?_); clear ha; (try clear a); intro a ha
    refine wpList_k (st_set ha rfl (ex_fieldAddr (k := 0) ha Try.underlying56 rfl Ty.t54 rfl) rfl ?_); clear ha; (try clear a); intro a ha
    refine wpList_k (st_set ha rfl (ex_load1 ha Try.underlying54 rfl (hs.rd1 rfl)) rfl ?_); clear ha; (try clear a); intro a ha
    refine wpList_k (st_set ha rfl (ex_len ha Try.underlying54) rfl ?_); clear ha; (try clear a); intro a ha
    refine wpList_k (st_set ha rfl (ex_subI ha (by omega) (by omega)) rfl ?_); clear ha; (try clear a); intro a ha
    refine wpList_k (st_set ha rfl (ex_lss ha) rfl ?_); clear ha; (try clear a); intro a ha
    refine wpList_nil ?_
    refine then_n ?_
    refine wp_if ha (fun hc0 => ?_) (fun hc0 => ?_)
    ·
      try simp only [decide_eq_true_eq, decide_eq_false_iff_not, Bool.not_eq_true', Bool.not_eq_false', Int.not_lt, Int.not_le, ne_eq, Decidable.not_not] at hc0
      obtain ⟨z, hz⟩ : ∃ z, B[i]? = some z := ⟨_, List.getElem?_eq_getElem (by omega)⟩
      obtain ⟨b', off', hade, hrd⟩ := hs.slRd ad (by omega)
      have hrk := bk_rd hrd hz
      refine wp_skip ?_
      refine then_n ?_
      refine wp_seq ?_
      refine wp_block ?_
      refine wp_seq ?_
      refine wp_region_lit ?_
      refine wpList_k (st_set ha rfl (ex_move ha) rfl ?_); clear ha; (try clear a); intro a ha
      refine wpList_k (st_set ha rfl (ex_neq ha) rfl ?_); clear ha; (try clear a); intro a ha
      refine wpList_k (st_set ha rfl (ex_move ha) rfl ?_); clear ha; (try clear a); intro a ha
      refine ha.bool (s := 18) (fun hg2 ha => ?_) (fun hg2 ha => ?_)
      ·
        try simp only [decide_eq_true_eq, decide_eq_false_iff_not, Bool.not_eq_true', Bool.not_eq_false', Int.not_lt, Int.not_le, ne_eq, Decidable.not_not] at hg2
        refine wpList_k (st_set ha (wgT ha rfl (s := 18)) (ex_move ha) rfl ?_); clear ha; (try clear a); intro a ha
        refine wpList_k (st_set ha (wgT ha rfl (s := 18)) (ex_nilCheck ha) rfl ?_); clear ha; (try clear a); intro a ha
        refine wpList_k (st_set ha (wgT ha rfl (s := 18)) (ex_fieldAddr (k := 0) ha Try.underlying56 rfl Ty.t54 rfl) rfl ?_); clear ha; (try clear a); intro a ha
        refine wpList_k (st_set ha (wgT ha rfl (s := 18)) (ex_load1 ha Try.underlying54 rfl (hs.rd1 rfl)) rfl ?_); clear ha; (try clear a); intro a ha
        rw [hade] at ha
        refine wpList_k (st_set ha (wgT ha rfl (s := 18)) (ex_move ha) rfl ?_); clear ha; (try clear a); intro a ha
        refine wpList_k (st_set ha (wgT ha rfl (s := 18)) (ex_indexAddr ha Try.underlying54 Ty.t92 (by omega)) rfl ?_); clear ha; (try clear a); intro a ha
        refine wpList_k (st_set ha (wgT ha rfl (s := 18)) (ex_fieldAddr (k := 0) ha Try.underlying92 rfl Ty.t25 rfl) rfl ?_); clear ha; (try clear a); intro a ha
        refine wpList_k (st_set ha (wgT ha rfl (s := 18)) (ex_load1 ha Try.underlying25 rfl (hrk 0 _ rfl)) rfl ?_); clear ha; (try clear a); intro a ha
        refine wpList_k (st_set ha (wgT ha rfl (s := 18)) (ex_move ha) rfl ?_); clear ha; (try clear a); intro a ha
        refine wpList_k (st_set ha (wgT ha rfl (s := 18)) (ex_eql ha) rfl ?_); clear ha; (try clear a); intro a ha
        rw [decide_eq_false (show ¬ ((z.1.id : Int) = (id : Int)) from fun e => hid i z (by omega) hz (by omega) (by omega))] at ha
        refine wpList_k (st_set ha rfl (ex_pickT ha) rfl ?_); clear ha; (try clear a); intro a ha
        refine wpList_nil ?_
        refine then_n ?_
        refine wp_ifF ha ?_
        refine wp_skip ?_
        refine blk_n <| then_n ?_
        refine wp_region_lit ?_
        refine wpList_k (st_set ha rfl (ex_move ha) rfl ?_); clear ha; (try clear a); intro a ha
        refine wpList_k (st_set ha rfl (ex_addI ha (by omega) (by omega)) rfl ?_); clear ha; (try clear a); intro a ha
        replace ha := ha.del 5
        refine wpList_k (st_set ha rfl (ex_assign ha) rfl ?_); clear ha; (try clear a); intro a ha
        refine wpList_nil ?_
        refine then_n ?_
        exact ⟨B.length - (i + 1), by omega, i + 1, ⟨rfl, by omega⟩, ha.keep [0, 1, 5], hs.sub⟩
      ·
        try simp only [decide_eq_true_eq, decide_eq_false_iff_not, Bool.not_eq_true', Bool.not_eq_false', Int.not_lt, Int.not_le, ne_eq, Decidable.not_not] at hg2
        refine wpList_k (st_off ha (wgF ha rfl (s := 18) rfl) rfl ?_); clear ha; (try clear a); intro a ha
        refine wpList_k (st_off ha (wgF ha rfl (s := 18) rfl) rfl ?_); clear ha; (try clear a); intro a ha
        refine wpList_k (st_off ha (wgF ha rfl (s := 18) rfl) rfl ?_); clear ha; (try clear a); intro a ha
        refine wpList_k (st_off ha (wgF ha rfl (s := 18) rfl) rfl ?_); clear ha; (try clear a); intro a ha
        refine wpList_k (st_off ha (wgF ha rfl (s := 18) rfl) rfl ?_); clear ha; (try clear a); intro a ha
        refine wpList_k (st_off ha (wgF ha rfl (s := 18) rfl) rfl ?_); clear ha; (try clear a); intro a ha
        refine wpList_k (st_off ha (wgF ha rfl (s := 18) rfl) rfl ?_); clear ha; (try clear a); intro a ha
        refine wpList_k (st_off ha (wgF ha rfl (s := 18) rfl) rfl ?_); clear ha; (try clear a); intro a ha
        refine wpList_k (st_off ha (wgF ha rfl (s := 18) rfl) rfl ?_); clear ha; (try clear a); intro a ha
        refine wpList_k (st_off ha (wgF ha rfl (s := 18) rfl) rfl ?_); clear ha; (try clear a); intro a ha
        refine wpList_k (st_set ha rfl (ex_pickF ha) rfl ?_); clear ha; (try clear a); intro a ha
        refine wpList_nil ?_
        refine then_n ?_
        refine wp_ifF ha ?_
        refine wp_skip ?_
        refine blk_n <| then_n ?_
        refine wp_region_lit ?_
        refine wpList_k (st_set ha rfl (ex_move ha) rfl ?_); clear ha; (try clear a); intro a ha
        refine wpList_k (st_set ha rfl (ex_addI ha (by omega) (by omega)) rfl ?_); clear ha; (try clear a); intro a ha
        replace ha := ha.del 5
        refine wpList_k (st_set ha rfl (ex_assign ha) rfl ?_); clear ha; (try clear a); intro a ha
        refine wpList_nil ?_
        refine then_n ?_
        exact ⟨B.length - (i + 1), by omega, i + 1, ⟨rfl, by omega⟩, ha.keep [0, 1, 5], hs.sub⟩
    ·
      try simp only [decide_eq_true_eq, decide_eq_false_iff_not, Bool.not_eq_true', Bool.not_eq_false', Int.not_lt, Int.not_le, ne_eq, Decidable.not_not] at hc0
      refine wp_exit ?_
      refine then_e <| then_e <| blk_e ?_
      refine then_n ?_
      refine wp_seq ?_
      refine wp_region_lit ?_
      refine wpList_k (st_set ha rfl (ex_assign ha) rfl ?_); clear ha; (try clear a); intro a ha
      refine wpList_nil ?_
      refine then_n ?_
      refine wp_ret ?_
      refine ret1 ha rfl ?_
      exact ⟨rfl, Book.close (ad := ad) (c := c) hs hB⟩
end
end Go.Proofs.Ytpfblmpgljodmaa

