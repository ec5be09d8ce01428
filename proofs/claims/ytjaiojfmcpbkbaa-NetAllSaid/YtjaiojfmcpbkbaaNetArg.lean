/- NetAll: what came in, and some steps. -/
import Derived.Test.YtjaiojfmcpbkbaaNetSp
import Derived.ChangeSlices
namespace Go.Proofs.Ytjaiojfmcpbkbaa
open Go.RowKit
set_option linter.unusedVariables false
set_option linter.unusedSimpArgs false
set_option maxRecDepth 10000
set_option synthInstance.maxSize 4000
set_option synthInstance.maxHeartbeats 400000

/-- The operations that came in. -/
def NetOps (W : World) (ad : Option Addr) (len cap : Nat) : Prop :=
  len ≤ 9223372036854775807 ∧ (len = 0 ∨ ∃ b off, ad = some ⟨b, off, none⟩ ∧ b < W.heap.size ∧ ∀ i, i < len → ∃ (k I At : Int) (x : UInt8) (f t : Int) (sa : Option Addr) (sl sc : Nat) (bs : List UInt8),
    Rd W b (off + i * 7) [.int .i64 k, .int .i64 I, .int .i64 At, .int .u8 (x.toNat : Int), .int .i64 f, .int .i64 t, .slice sa sl sc] ∧ sl ≤ sc ∧ (sa = none → sc = 0) ∧ ∀ w L, St W w L → RdB w sa sl bs)
theorem NetOps.get {W : World} {ad : Option Addr} {len cap : Nat} (h : NetOps W ad len cap) {i : Nat} (hi : i < len) :
    ∃ b off k I At x f t sa sl sc bs, ad = some ⟨b, off, none⟩ ∧ b < W.heap.size ∧ Rd W b (off + i * 7) [.int .i64 k, .int .i64 I, .int .i64 At, .int .u8 ((x : UInt8).toNat : Int), .int .i64 f, .int .i64 t, .slice sa sl sc] ∧ sl ≤ sc ∧ (sa = none → sc = 0) ∧ ∀ w L, St W w L → RdB w sa sl bs := by
  rcases h.2 with h | ⟨b, off, h1, h2, h3⟩
  · omega
  · obtain ⟨k, I, At, x, f, t, sa, sl, sc, bs, h4⟩ := h3 i hi
    exact ⟨b, off, k, I, At, x, f, t, sa, sl, sc, bs, h1, h2, h4⟩
theorem netOps_of {H : Type} {enc : TypeId × Value → H} {W : World} {len cap : Nat} {ad : Option Addr} {d : DataW H} {p : List MemPlace}
    (h : DataW.Trod enc Try.prog W 0 (fun _ => true) true 22 (.slice ad len cap) d p) : NetOps W ad len cap := by
  obtain ⟨h1, h2⟩ := argRows (sz := 7) Try.underlying22 (by kernel_rfl) (by decide) h
  refine ⟨h1, h2.imp id ?_⟩
  rintro ⟨b, off, h3, h4, h5⟩
  refine ⟨b, off, h3, h4, fun i hi => ?_⟩
  obtain ⟨cs, m, x, g1, g2, g3⟩ := h5 i hi
  obtain ⟨xs, n, _, rfl, _, hlen, hf⟩ := DataW.trod_struct Try.underlying31 g3
  match cs, g1, xs, hlen with
  | [c0, c1, c2, c3, c4, c5, c6], _, [y0, y1, y2, y3, y4], _ =>
    have e0 : DataW.trod enc Try.prog W 0 (fun _ => true) true n 3 (([c0, c1, c2, c3, c4, c5, c6].drop 0).take (Try.prog.cellsOf 3)) = some y0 := hf 0 _ rfl
    have e1 : DataW.trod enc Try.prog W 0 (fun _ => true) true n 3 (([c0, c1, c2, c3, c4, c5, c6].drop 1).take (Try.prog.cellsOf 3)) = some y1 := hf 1 _ rfl
    have e2 : DataW.trod enc Try.prog W 0 (fun _ => true) true n 3 (([c0, c1, c2, c3, c4, c5, c6].drop 2).take (Try.prog.cellsOf 3)) = some y2 := hf 2 _ rfl
    have e3 : DataW.trod enc Try.prog W 0 (fun _ => true) true n 5 (([c0, c1, c2, c3, c4, c5, c6].drop 3).take (Try.prog.cellsOf 5)) = some y3 := hf 3 _ rfl
    have e4 : DataW.trod enc Try.prog W 0 (fun _ => true) true n 29 (([c0, c1, c2, c3, c4, c5, c6].drop 4).take (Try.prog.cellsOf 29)) = some y4 := hf 4 _ rfl
    rw [show Try.prog.cellsOf 3 = 1 from by kernel_rfl] at e0 e1 e2
    rw [show Try.prog.cellsOf 5 = 1 from by kernel_rfl] at e3
    rw [show Try.prog.cellsOf 29 = 3 from by kernel_rfl] at e4
    obtain ⟨k, hk, _, _⟩ := DataW.trod_int Try.underlying3 e0
    obtain ⟨I, hI, _, _⟩ := DataW.trod_int Try.underlying3 e1
    obtain ⟨At, hA, _, _⟩ := DataW.trod_int Try.underlying3 e2
    obtain ⟨xx, hx, _, hxw⟩ := DataW.trod_int Try.underlying5 e3
    obtain ⟨z0, z1, z2, n2, _, _, f0, f1, f2⟩ := Go.Deep.trod_struct3 Try.underlying29 e4
    change DataW.trod enc Try.prog W 0 (fun _ => true) true n2 3 ((List.drop 0 _).take (Try.prog.cellsOf 3)) = some z0 at f0
    change DataW.trod enc Try.prog W 0 (fun _ => true) true n2 3 ((List.drop 1 _).take (Try.prog.cellsOf 3)) = some z1 at f1
    change DataW.trod enc Try.prog W 0 (fun _ => true) true n2 27 ((List.drop 2 _).take (Try.prog.cellsOf 27)) = some z2 at f2
    rw [show Try.prog.cellsOf 3 = 1 from by kernel_rfl] at f0 f1
    rw [show Try.prog.cellsOf 27 = 1 from by kernel_rfl] at f2
    obtain ⟨f, hf', _, _⟩ := DataW.trod_int Try.underlying3 f0
    obtain ⟨t, ht, _, _⟩ := DataW.trod_int Try.underlying3 f1
    simp at hk hI hA hx hf' ht
    subst hk hI hA hx hf' ht
    obtain ⟨sa, sl, sc, zs, hc6, hai⟩ : ∃ sa sl sc zs, c6 = .slice sa sl sc ∧ ArgInts .u8 W sa sl sc zs := by
      rcases Go.ChangeShapes.open_ints Try.underlying27 Try.underlying5 (by kernel_rfl) f2 with ⟨hcs, _⟩ | ⟨x, l, c, zs, hcs, _, hl, hm, hz, _, hcell, hwz⟩
      · simp at hcs
        exact ⟨none, 0, 0, [], hcs, .inl ⟨rfl, rfl, rfl, rfl⟩⟩
      · simp at hcs
        exact ⟨some x, l, c, zs, hcs, .inr ⟨_, rfl, hl, hm, by simpa using hz, hcell, hwz⟩⟩
    subst hc6
    obtain ⟨bs, _, hbr⟩ := hai.bytes
    refine ⟨k, I, At, _, f, t, sa, sl, sc, bs, by rw [← u8of hxw]; exact g2, ?_, ?_, hbr⟩
    · rcases hai with ⟨_, h, h', _⟩ | ⟨_, _, h, _⟩
      · omega
      · exact h
    · intro e
      rcases hai with ⟨_, _, h', _⟩ | ⟨_, h, _⟩
      · exact h'
      · rw [e] at h; cases h

section
variable {P : Program} {ops : Array Oper} {Q : Exit → Act → World → Prop} {a : Act} {w w' W : World} {K : Act → World → Prop} {n d : Nat} {l : List (Nat × Value)} {L R : List SP}
/-- 'append([]byte(nil), x...)'. -/
theorem st_appendB {s x t z by' e ad m c0 bs ty ps af g} (ha : Fr a n l) (hw : Region.wanted ⟨some d, .call ⟨.builtin .append, #[s, x], #[t, t]⟩, ty, ps, af, g⟩ (yielded ops a.tmps) = true) (hs : St W w L)
    (ht : P.underlying t = some (.slice e)) (hi : TI P e z 1 by') (hf : okB d n l = true) (hz : z.cells.size = 1) (hb : 0 < by') [e1 : Ev l s (.slice none 0 0)] [e2 : Ev l x (.slice ad m c0)] (hr : RdB w ad m bs) (hm : m * by' ≤ 140737488355328)
    (h : ∀ ad' c' a' w', Fr a' n ((d, .slice ad' m c') :: l) → St W w' (Sl e 1 ad' m c' (bc bs) :: L) → K a' w') :
    StepK P ops Q ⟨some d, .call ⟨.builtin .append, #[s, x], #[t, t]⟩, ty, ps, af, g⟩ K a w := by
  obtain ⟨rfl, h2, h3⟩ := hr
  rcases Nat.eq_zero_or_pos bs.length with h0 | h0
  · obtain rfl := List.eq_nil_of_length_eq_zero h0
    exact st_append0 (ad := none) (k := 0) (c := 0) (ad2 := ad) (c2 := c0) ha hw ht hi hf (Nat.le_refl _) fun a' ha' => h _ _ a' w ha' (hs.sl0 _ _ _)
  · obtain ⟨x', rfl⟩ : ∃ x', ad = some x' := by
      cases ad with
      | none => have := h2 rfl; omega
      | some x' => exact ⟨x', rfl⟩
    obtain ⟨b, off, rfl, hrd⟩ := h3 x' rfl h0
    have hk : 0 + bs.length = bs.length := Nat.zero_add _
    refine st_append (ad := none) (k := 0) (c := 0) (cs := []) ha hw (hs.sl0 e 1 none) ht hi hz hf hrd (by rw [bc_len, Nat.mul_one]) (bc_one bs) h0 hb (by rw [hk]; exact hm) fun ad' c' a' w' ha' hs' => ?_
    rw [hk] at ha' hs'
    exact h ad' c' a' w' ha' hs'
end

theorem short_spec {W w : World} {L : List SP} {ad : Option Addr} {n c : Nat} {bs : List UInt8} (hs : St W w L) (hr : ∀ w L, St W w L → RdB w ad n bs) (hnc : n ≤ c) :
    Calls Try.prog 10 #[.slice ad n c, .int .i64 40] w fun e w' => ∃ ad' n' c', e = .returned (.slice ad' n' c') ∧ n' ≤ 40 ∧ (∀ w L, St W w L → RdB w ad' n' (bs.take 40)) ∧ St W w' L := by
  have h0 := hr _ _ hs
  refine calls_enter Try.func10 rfl Try.ntmps10 (Nat.le_of_ble_eq_true rfl) ?_
  intro a ha
  replace ha : Fr a 13 [(0, _), (1, _)] := ha
  refine wp_seq ?_
  refine wp_region_lit ?_
  refine wpList_k (st_set ha rfl (ex_assign ha) rfl ?_); clear ha; (try clear a); intro a ha
  refine wpList_nil ?_
  refine then_n ?_
  refine wp_seq ?_
  refine wp_seq ?_
  refine wp_region_lit ?_
  refine wpList_k (st_set ha rfl (ex_move ha) rfl ?_); clear ha; (try clear a); intro a ha
  refine wpList_k (st_set ha rfl (ex_len ha Try.underlying27) rfl ?_); clear ha; (try clear a); intro a ha
  refine wpList_k (st_set ha rfl (ex_move ha) rfl ?_); clear ha; (try clear a); intro a ha
  refine wpList_k (st_set ha rfl (ex_gtr ha) rfl ?_); clear ha; (try clear a); intro a ha
  refine wpList_nil ?_
  refine then_n ?_
  refine wp_if ha (fun hc0 => ?_) (fun hc0 => ?_)
  ·
    try simp only [decide_eq_true_eq, decide_eq_false_iff_not, Bool.not_eq_true', Bool.not_eq_false', Int.not_lt, Int.not_le, ne_eq, Decidable.not_not] at hc0
    refine wp_seq ?_
    refine wp_region_lit ?_
    refine wpList_k (st_set ha rfl (ex_move ha) rfl ?_); clear ha; (try clear a); intro a ha
    refine wpList_k (st_set ha rfl (ex_move ha) rfl ?_); clear ha; (try clear a); intro a ha
    refine wpList_k (st_set ha rfl (ex_sliceH ha Try.underlying27 Ty.t5 (by omega)) rfl ?_); clear ha; (try clear a); intro a ha
    replace ha := ha.del 4
    refine wpList_k (st_set ha rfl (ex_assign ha) rfl ?_); clear ha; (try clear a); intro a ha
    refine wpList_nil ?_
    refine then_n ?_
    refine wp_ret <| then_r ?_
    refine ret1 ha rfl ?_
    refine ⟨_, _, _, rfl, by omega, fun w L hs => ?_, hs⟩
    obtain ⟨h1, h2, h3⟩ := hr _ _ hs
    refine ⟨by rw [List.length_take]; omega, fun e => ?_, fun x hx hp => ?_⟩
    · cases ad with
      | none => have := h2 rfl; omega
      | some y => simp [cutAd] at e; split at e <;> cases e
    · obtain ⟨y, rfl⟩ : ∃ y, ad = some y := by
        cases ad with
        | none => have := h2 rfl; omega
        | some y => exact ⟨y, rfl⟩
      obtain ⟨b, off, rfl, hrd⟩ := h3 y rfl (by omega)
      rw [cutAd_some (by omega)] at hx
      cases hx
      refine ⟨b, off + 0 * 1, rfl, fun j v hj => ?_⟩
      rw [show off + 0 * 1 = off from by omega]
      refine hrd j v ?_
      simp only [bc, List.map_take, List.getElem?_take] at hj ⊢
      split at hj
      · exact hj
      · cases hj
  ·
    try simp only [decide_eq_true_eq, decide_eq_false_iff_not, Bool.not_eq_true', Bool.not_eq_false', Int.not_lt, Int.not_le, ne_eq, Decidable.not_not] at hc0
    refine wp_skip ?_
    refine then_n ?_
    refine wp_seq ?_
    refine wp_region_lit ?_
    refine wpList_k (st_set ha rfl (ex_move ha) rfl ?_); clear ha; (try clear a); intro a ha
    replace ha := ha.del 4
    refine wpList_k (st_set ha rfl (ex_assign ha) rfl ?_); clear ha; (try clear a); intro a ha
    refine wpList_nil ?_
    refine then_n ?_
    refine wp_ret ?_
    refine ret1 ha rfl ?_
    refine ⟨_, _, _, rfl, by omega, fun w L hs => ?_, hs⟩
    obtain ⟨h1, h2, h3⟩ := hr _ _ hs
    rw [List.take_of_length_le (by omega)]
    exact ⟨h1, h2, h3⟩
end Go.Proofs.Ytjaiojfmcpbkbaa

