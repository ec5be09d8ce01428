/- BranchOwn. -/
import Derived.Test.YtkjmmchmanofkaaBranchR
namespace Go.Proofs.Ytkjmmchmanofkaa
open Go.RowKit
set_option linter.unusedVariables false
set_option linter.unusedSimpArgs false
set_option maxRecDepth 10000
set_option synthInstance.maxSize 4000
set_option synthInstance.maxHeartbeats 400000

section
variable {P : Program} {ops : Array Oper} {Q : Exit → Act → World → Prop} {a : Act} {w w' W : World} {K : Act → World → Prop} {n d : Nat} {l : List (Nat × Value)} {L R : List SP}
/-- 'append([]byte(nil), x...)'. -/
theorem st_appendB {s x t z by' e ad m c0 bs ty ps af g} (ha : Fr a n l) (hw : Region.wanted ⟨some d, .call ⟨.builtin .append, #[s, x], #[t, t]⟩, ty, ps, af, g⟩ (yielded ops a.tmps) = true) (hs : St W w L)
    (ht : P.underlying t = some (.slice e)) (hi : TI P e z 1 by') (hf : okB d n l = true) (hz : z.cells.size = 1) (hb : 0 < by') [e1 : Ev l s (.slice none 0 0)] [e2 : Ev l x (.slice ad m c0)] (hr : RdB w ad m bs) (hm : m * by' ≤ 140737488355328)
    (h : ∀ ad' c' a' w', Fr a' n ((d, .slice ad' m c') :: l) → St W w' (Sl e 1 ad' m c' (bc bs) :: L) → K a' w') :
    StepK P ops Q ⟨some d, .call ⟨.builtin .append, #[s, x], #[t, t]⟩, ty, ps, af, g⟩ K a w := by
  obtain ⟨rfl, h2, h3⟩ := hr
  rcases Nat.eq_zero_or_pos bs.length with h0 | h0
  · obtain rfl := List.eq_nil_of_length_eq_zero h0
    exact st_append0 (ad := none) (k := 0) (c := 0) (ad2 := ad) (c2 := c0) ha hw ht hi hf (Nat.le_refl _) fun a' ha' => h _ _ a' w ha' (hs.sl0 _ _ _)
  · obtain ⟨x', rfl⟩ : ∃ x', ad = some x' := by
      cases ad with
      | none => have := h2 rfl; omega
      | some x' => exact ⟨x', rfl⟩
    obtain ⟨b, off, rfl, hrd⟩ := h3 x' rfl h0
    have hk : 0 + bs.length = bs.length := Nat.zero_add _
    refine st_append (ad := none) (k := 0) (c := 0) (cs := []) ha hw (hs.sl0 e 1 none) ht hi hz hf hrd (by rw [bc_len, Nat.mul_one]) (bc_one bs) h0 hb (by rw [hk]; exact hm) fun ad' c' a' w' ha' hs' => ?_
    rw [hk] at ha' hs'
    exact h ad' c' a' w' ha' hs'
end
section
variable {W w : World} {L L' R : List SP} {tq sq q r n c k m i : Nat} {ad : Option Addr} {A : Sn} {T : Tr} {x y : Br} {xs zs : List BBx} {p : List (List UInt8)} {t : Nat → Nat} {last rm nn : Nat} {l : List Br}
theorem u8wrap (z : Int) : ∃ y : UInt8, IntKind.u8.wrap z = (y.toNat : Int) := by
  refine ⟨UInt8.ofNat (z % 256).toNat, ?_⟩
  rw [UInt8.toNat_ofNat']
  simp only [IntKind.wrap, IntKind.bits, IntKind.signed, Bool.false_and, Bool.false_eq_true, if_false]
  omega
theorem bc_set (bs : List UInt8) (i : Nat) (x : UInt8) : (bc bs).set i (.int .u8 (x.toNat : Int)) = bc (bs.set i x) := by
  simp [bc, List.map_set]
theorem shape {ax : Option Addr} {cx : Nat} {bx : List UInt8} (h : zs.map bbv = xs.map bbv) (hx : xs[i]? = some (ax, cx, bx)) : ∃ bs, zs[i]? = some (ax, cx, bs) ∧ bs.length = bx.length := by
  have h1 := congrArg (fun l => l[i]?) h
  simp only [List.getElem?_map, hx, Option.map_some] at h1
  obtain ⟨⟨a1, c1, b1⟩, h2, h3⟩ := Option.map_eq_some_iff.1 h1
  simp only [bbv, Value.slice.injEq] at h3
  obtain ⟨rfl, h4, rfl⟩ := h3
  exact ⟨b1, h2, h4⟩
theorem bump_out {ax : Option Addr} {cx : Nat} {bs : List UInt8} (hs : St W w (All bbo zs :: L)) (hx : zs[i]? = some (ax, cx, bs)) (hk : k < bs.length) :
    ∃ b pre post, (ax = some ⟨b, List.length pre, none⟩ ∧ bs.length ≤ cx ∧ (cx - bs.length) * 1 ≤ List.length post ∧ (pre ++ bc bs ++ post)[pre.length + k * 1]? = some (.int .u8 ((bs[k].toNat : Nat) : Int))) ∧
      St W w (blk b 5 (pre ++ bc bs ++ post) :: All bbo (zs.eraseIdx i) :: L) := by
  obtain ⟨hi, he⟩ := List.getElem?_eq_some_iff.1 hx
  have h := hs.allOut hi
  rw [he] at h
  have h2 : St W w (Sl 5 1 ax bs.length cx (bc bs) :: All bbo (zs.eraseIdx i) :: L) := h
  have h0 := (h2.sl ax).2
  obtain ⟨b, pre, post, ⟨h3, h4, h5, h6⟩, h7⟩ := h2.slOpen (by omega)
  refine ⟨b, pre, post, ⟨h5, h4, h6, ?_⟩, h7⟩
  rw [Nat.mul_one, List.append_assoc, List.getElem?_append_right (by omega), show pre.length + k - pre.length = k from by omega, List.getElem?_append_left (by rw [bc_len]; exact hk)]
  simp [bc, hk]
theorem bump_in {b cx : Nat} {bs : List UInt8} {pre post : List Value} {u : UInt8} (hs : St W w (blk b 5 ((pre ++ bc bs ++ post).set (pre.length + k * 1) (.int .u8 (u.toNat : Int))) :: All bbo (zs.eraseIdx i) :: L)) (hx : zs[i]? = some (some ⟨b, pre.length, none⟩, cx, bs)) (hk : k < bs.length)
    (hc : bs.length ≤ cx) (hp : (cx - bs.length) * 1 ≤ post.length) : ∃ zs', zs'.map bbv = zs.map bbv ∧ St W w (All bbo zs' :: L) := by
  obtain ⟨hi, he⟩ := List.getElem?_eq_some_iff.1 hx
  rw [Nat.mul_one, set_mid (by rw [bc_len]; exact hk), bc_set] at hs
  have h7 := St.slShut (n := bs.length) (c := cx) (sz := 1) hs (by rw [bc_len, List.length_set, Nat.mul_one]) hc hp
  have h8 : St W w (bbo (some ⟨b, pre.length, none⟩, cx, bs.set k u) :: All bbo (zs.eraseIdx i) :: L) := by
    have : bbo (some ⟨b, pre.length, none⟩, cx, bs.set k u) = Sl 5 1 (some ⟨b, pre.length, none⟩) bs.length cx (bc (bs.set k u)) := by simp [bbo]
    rw [this]; exact h7
  refine ⟨_, ?_, h8.allPut hi⟩
  rw [List.map_set]
  have : bbv (some ⟨b, pre.length, none⟩, cx, bs.set k u) = bbv (zs[i]) := by rw [he]; simp [bbv]
  rw [this]
  apply List.ext_getElem (by simp)
  intro j h1 h2
  simp only [List.getElem_set, List.getElem_map]
  split
  · rename_i e; subst e; rfl
  · rfl
/-- A first branch, if there is a press. -/
theorem add_first {frm : Int} {ad2 : Option Addr} {c2 : Nat} (hs : St W w (Tree tq q ⟨2, [], 0, 0⟩ :: Store q r ⟨1, 20, 1, [⟨1, 1, fun _ => 0, t⟩]⟩ :: L)) (hr : ∀ w', St W w' L → RdX w' ad2 zs) (hz : zs.map (·.2.2) = p) (hc : p.length ≤ c2) (hok : OkP p) :
    Calls Try.prog 14 #[.pointer (some ⟨tq, 0, none⟩), .int .i64 frm, .int .i64 ((1 : Nat) : Int), .slice ad2 p.length c2] w fun e w' => ∃ (z : Nat) (T : Tr) (A : Sn), e = .returned (.tuple #[.int .i64 z, .bool (decide (0 < p.length))]) ∧
      (p.length = 0 ∨ 0 < p.length ∧ z = 1 ∧ T = ⟨2, [⟨1, frm, p, 0, 2⟩], 1, 0⟩ ∧ A = ⟨2, 20, 2, [⟨1, 1, fun _ => 0, t⟩, ⟨2, 1, fun _ => 0, t⟩]⟩) ∧ St W w' (Tree tq q T :: Store q r A :: L) := by
  rcases Nat.eq_zero_or_pos p.length with h0 | h0
  · exact (add_full hs (.inr h0)).mono fun e w' ⟨h1, hs⟩ => ⟨0, _, _, by rw [h1, decide_eq_false (by omega)]; rfl, .inl h0, hs⟩
  · exact (add_ok (px := ⟨1, 1, fun _ => 0, t⟩) (i := 0) hs hr hz hc hok rfl (by simp) (by simp) (by simp) (by simp) h0).mono fun e w' ⟨h1, hs⟩ => ⟨1, _, _, by rw [h1, decide_eq_true h0], .inr ⟨h0, rfl, rfl, rfl⟩, hs⟩
theorem branchOwn_walk (a0 : Option Addr) (len0 cap0 : Nat) (W : World) (w0 : len0 ≤ 9223372036854775807 ∧ ∃ zs : List BBx, zs.length = len0 ∧ ArgBB W a0 zs) :
    Calls Try.prog 7 #[.slice a0 len0 cap0] W fun e w' => e = .returned (.bool true) ∧ Below W.heap.size W w' := by
  have hs := St.start W
  obtain ⟨hl0, zs0, rfl, hz⟩ := w0
  obtain ⟨X, hX⟩ : ∃ X, cut4 zs0 = X := ⟨_, rfl⟩
  have hXr : ∀ x ∈ X, RdB W x.1 x.2.2.length x.2.2 := by rw [← hX]; exact cut4_rd hz
  obtain ⟨P, hP⟩ : ∃ P, X.map (·.2.2) = P := ⟨_, rfl⟩
  have hPl : min zs0.length 4 = P.length := by rw [← hP, List.length_map, ← hX, cut4_len]
  have hPo : OkP P := by rw [← hP, ← hX]; exact cut4_ok zs0
  have hPc : X.length = P.length := by rw [← hP, List.length_map]
  refine calls_enter Try.func7 rfl Try.ntmps7 (Nat.le_of_ble_eq_true rfl) ?_
  intro a ha
  replace ha : Fr a 145 [(0, _)] := ha
  refine wp_seq ?_
  refine wp_region_lit ?_
  refine wpList_k (st_set ha rfl (ex_assign ha) rfl ?_); clear ha; (try clear a); intro a ha
  refine wpList_nil ?_
  refine then_n ?_
  refine wp_seq ?_
  refine wp_region_lit ?_
  refine wpList_k (st_call ha rfl Ty.c9 rfl (begun23 hs) ?_); clear ha hs
  rintro e w ⟨rfl, hs⟩
  refine ⟨_, rfl, ?_⟩
  intro a ha
  refine wpList_k (st_set ha rfl (ex_assign ha) rfl ?_); clear ha; (try clear a); intro a ha
  refine wpList_nil ?_
  refine then_n ?_
  refine wp_seq ?_
  refine wp_seq ?_
  refine wp_region_lit ?_
  refine wpList_k (st_set ha rfl (ex_move ha) rfl ?_); clear ha; (try clear a); intro a ha
  refine wpList_k (st_set ha rfl (ex_not ha) rfl ?_); clear ha; (try clear a); intro a ha
  refine wpList_nil ?_
  refine then_n ?_
  refine wp_ifF ha ?_
  refine wp_skip ?_
  refine then_n ?_
  refine wp_seq ?_
  refine wp_region_lit ?_
  refine wpList_k (st_set ha rfl (ex_move ha) rfl ?_); clear ha; (try clear a); intro a ha
  refine wpList_k (st_call ha rfl Ty.c10 rfl (presses_spec hs hz rfl) ?_); clear ha hs
  rintro e w ⟨adp, cp, rfl, hcp, hs⟩
  refine ⟨_, rfl, ?_⟩
  intro a ha
  rw [hPl] at ha hs hcp
  rw [hX] at hs
  replace ha := ha.del 0
  refine wpList_k (st_set ha rfl (ex_assign ha) rfl ?_); clear ha; (try clear a); intro a ha
  refine wpList_nil ?_
  refine then_n ?_
  refine wp_seq ?_
  refine wp_region_lit ?_
  refine wpList_k (st_call ha rfl Ty.c11 rfl (snap_new (n := 5) hs (by decide)) ?_); clear ha hs
  rintro e w ⟨q, r, rfl, hs⟩
  refine ⟨_, rfl, ?_⟩
  intro a ha
  refine wpList_k (st_set ha rfl (ex_assign ha) rfl ?_); clear ha; (try clear a); intro a ha
  refine wpList_nil ?_
  refine then_n ?_
  refine wp_seq ?_
  refine wp_region_lit ?_
  refine wpList_k (st_set ha rfl (ex_move ha) rfl ?_); clear ha; (try clear a); intro a ha
  refine wpList_k (st_call ha rfl Ty.c12 rfl (tree_new (m := 2) hs) ?_); clear ha hs
  rintro e w ⟨tq, rfl, hs⟩
  refine ⟨_, rfl, ?_⟩
  intro a ha
  change St W w (Tree tq q ⟨2, [], 0, 0⟩ :: _) at hs
  refine wpList_k (st_set ha rfl (ex_assign ha) rfl ?_); clear ha; (try clear a); intro a ha
  refine wpList_nil ?_
  refine then_n ?_
  refine wp_seq ?_
  refine wp_region_lit ?_
  refine wpList_k (st_set ha rfl (ex_move ha) rfl ?_); clear ha; (try clear a); intro a ha
  refine wpList_k (st_set ha rfl (ex_buildA0 ha Try.underlying34 Ty.t34 Ty.t21) rfl ?_); clear ha; (try clear a); intro a ha
  change Fr a 145 ((32, .agg (ints .i32 32 (fun _ => 0)).toArray) :: _) at ha
  refine wpList_k (st_call ha rfl Ty.c13 rfl (snap_make (hs.store q) (by decide) (by decide)) ?_); clear ha hs
  rintro e w ⟨t, rfl, ⟨ht1, ht2⟩, hs⟩
  refine ⟨_, rfl, ?_⟩
  intro a ha
  change St W w (Store q r ⟨1, 20, 1, [⟨1, 1, fun _ => 0, t⟩]⟩ :: _) at hs
  refine wpList_k (st_set ha rfl (ex_move ha) rfl ?_); clear ha; (try clear a); intro a ha
  refine wpList_k (st_set ha rfl (ex_extract ha rfl) rfl ?_); clear ha; (try clear a); intro a ha
  refine wpList_k (st_set ha rfl (ex_extract ha rfl) rfl ?_); clear ha; (try clear a); intro a ha
  refine wpList_k (st_set ha rfl (ex_assign ha) rfl ?_); clear ha; (try clear a); intro a ha
  refine wpList_k (st_set ha rfl (ex_assign ha) rfl ?_); clear ha; (try clear a); intro a ha
  refine wpList_nil ?_
  refine then_n ?_
  refine wp_seq ?_
  replace hs := OwnBB.nil hs
  refine wp_region_lit ?_
  refine wpList_k (st_set ha rfl (ex_assign ha) rfl ?_); clear ha; (try clear a); intro a ha
  refine wpList_nil ?_
  refine then_n ?_
  refine wp_seq ?_
  refine wp_seq ?_
  refine wp_region_lit ?_
  refine wpList_k (st_set ha rfl (ex_assign ha) rfl ?_); clear ha; (try clear a); intro a ha
  refine wpList_nil ?_
  refine then_n ?_
  refine wp_block ?_
  refine wp_loop_ghost (fun μ a w => ∃ (k : Nat) (ad3 : Option Addr) (c3 : Nat), (μ = P.length - k ∧ k ≤ P.length) ∧ Fr a 145 [(0, .slice adp P.length cp), (4, .pointer (some ⟨q, 0, none⟩)), (5, .pointer (some ⟨tq, 0, none⟩)), (6, .int .i64 ((1 : Nat) : Int)), (8, .slice ad3 k c3), (9, .int .i64 k)] ∧ St W w [OwnBB ad3 k c3 (P.take k), Tree tq q ⟨2, [], 0, 0⟩, Store q r ⟨1, 20, 1, [⟨1, 1, fun _ => 0, t⟩]⟩, Sl 48 1 adp P.length cp (X.map bbv)]) (P.length) ?_ ?_
  · exact ⟨0, none, 0, ⟨by simp, by simp⟩, ha.keep [0, 4, 5, 6, 8, 9], by rw [List.take_zero]; exact hs.sub⟩
  ·
    clear ha hs
    rintro μ a w ⟨k, ad3, c3, ⟨rfl, hk⟩, ha, hs⟩
    refine wp_seq ?_
    refine wp_seq ?_
    refine wp_region_lit ?_
    refine wpList_k (st_set ha rfl (ex_move ha) rfl ?_); clear ha; (try clear a); intro a ha
    refine wpList_k (st_set ha rfl (ex_move ha) rfl ?_); clear ha; (try clear a); intro a ha
    refine wpList_k (st_set ha rfl (ex_len ha Try.underlying23) rfl ?_); clear ha; (try clear a); intro a ha
    refine wpList_k (st_set ha rfl (ex_lss ha) rfl ?_); clear ha; (try clear a); intro a ha
    refine wpList_nil ?_
    refine then_n ?_
    refine wp_if ha (fun hc1 => ?_) (fun hc1 => ?_)
    ·
      try simp only [decide_eq_true_eq, decide_eq_false_iff_not, Bool.not_eq_true', Bool.not_eq_false', Int.not_lt, Int.not_le, ne_eq, Decidable.not_not] at hc1
      refine wp_skip ?_
      refine then_n ?_
      refine wp_seq ?_
      refine wp_block ?_
      obtain ⟨b1, o1, rfl, h1⟩ := hs.slRd adp (by omega)
      obtain ⟨⟨ax, cx, bx⟩, hx1⟩ : ∃ y, X[k]? = some y := ⟨_, List.getElem?_eq_getElem (by omega)⟩
      have hcell : w.cell? ⟨b1, o1 + k, none⟩ = some (.slice ax bx.length cx) := h1 k _ (by rw [List.getElem?_map, hx1]; rfl)
      have hPk : P[k]? = some bx := by rw [← hP, List.getElem?_map, hx1]; rfl
      have hbx := hPo.2 bx (List.mem_of_getElem? hPk)
      have hrb : RdB w ax bx.length bx := (hXr _ (List.mem_of_getElem? hx1)).old hs
      refine wp_region_lit ?_
      refine wpList_k (st_set ha rfl (ex_move ha) rfl ?_); clear ha; (try clear a); intro a ha
      refine wpList_k (st_set ha rfl (ex_move ha) rfl ?_); clear ha; (try clear a); intro a ha
      refine wpList_k (st_set ha rfl (ex_move ha) rfl ?_); clear ha; (try clear a); intro a ha
      refine wpList_k (st_set ha rfl (ex_indexAddr ha Try.underlying23 Ty.t48 (by omega)) rfl ?_); clear ha; (try clear a); intro a ha
      rw [Nat.mul_one] at ha
      refine wpList_k (st_set ha rfl (ex_load1 ha Try.underlying48 rfl (hcell)) rfl ?_); clear ha; (try clear a); intro a ha
      refine wpList_k (st_appendB ha rfl hs Try.underlying48 Ty.t5 rfl rfl (by decide) hrb (by omega) ?_); clear ha hs; (try clear a); (try clear w); intro ad47 c47 a w ha hs
      refine wpList_k (st_buildSlice ha rfl hs Try.underlying23 Ty.t48 rfl rfl rfl rfl (by decide) (by decide) ?_); clear ha hs; (try clear a); (try clear w); intro b48 a w ha hs ho
      clear ho
      obtain ⟨ys, hy1, hy2, hs⟩ := OwnBB.open (hs.pick (OwnBB ad3 k c3 (P.take k)))
      refine wpList_k (st_append ha rfl hs Try.underlying23 Ty.t48 rfl rfl hs.rdAll rfl (by simp [Value.oneCell']) (by decide) (by decide) (by omega) ?_); clear ha hs; (try clear a); (try clear w); intro ad49 c49 a w ha hs
      have h8 := St.allPush (f := bbo) (l := ys) (x := (ad47, c47, bx)) (hs.sub (M := Sl 5 1 ad47 bx.length c47 (bc bx) :: All bbo ys :: Sl 48 1 ad49 (k + 1) c49 (ys.map bbv ++ [[.slice ad47 bx.length c47]].flatten) :: Tree tq q ⟨2, [], 0, 0⟩ :: Store q r ⟨1, 20, 1, [⟨1, 1, fun _ => 0, t⟩]⟩ :: Sl 48 1 (some ⟨b1, o1, none⟩) P.length cp (X.map bbv) :: []))
      have h9 : St W w (All bbo (ys ++ [(ad47, c47, bx)]) :: Sl 48 1 ad49 (k + 1) c49 ((ys ++ [(ad47, c47, bx)]).map bbv) :: Tree tq q ⟨2, [], 0, 0⟩ :: Store q r ⟨1, 20, 1, [⟨1, 1, fun _ => 0, t⟩]⟩ :: Sl 48 1 (some ⟨b1, o1, none⟩) P.length cp (X.map bbv) :: []) := by
        rw [List.map_append]; exact h8
      have h10 := OwnBB.close (p := P.take (k + 1)) (ad := ad49) (n := k + 1) (c := c49) (xs := ys ++ [(ad47, c47, bx)]) (L' := Tree tq q ⟨2, [], 0, 0⟩ :: Store q r ⟨1, 20, 1, [⟨1, 1, fun _ => 0, t⟩]⟩ :: Sl 48 1 (some ⟨b1, o1, none⟩) P.length cp (X.map bbv) :: []) h9 (by
        obtain ⟨hk1, hk2⟩ := List.getElem?_eq_some_iff.1 hPk
        rw [List.map_append, hy1, List.take_succ_eq_append_getElem hk1, hk2]; rfl) (by rw [List.length_take]; omega)
      replace hs := h10
      clear h8 h9 h10
      replace ha := ha.del 8
      refine wpList_k (st_set ha rfl (ex_assign ha) rfl ?_); clear ha; (try clear a); intro a ha
      refine wpList_nil ?_
      refine blk_n <| then_n ?_
      refine wp_region_lit ?_
      refine wpList_k (st_set ha rfl (ex_move ha) rfl ?_); clear ha; (try clear a); intro a ha
      refine wpList_k (st_set ha rfl (ex_addI ha (by omega) (by omega)) rfl ?_); clear ha; (try clear a); intro a ha
      replace ha := ha.del 9
      refine wpList_k (st_set ha rfl (ex_assign ha) rfl ?_); clear ha; (try clear a); intro a ha
      refine wpList_nil ?_
      refine then_n ?_
      exact ⟨P.length - (k + 1), by omega, k + 1, _, _, ⟨rfl, by omega⟩, ha.keep [0, 4, 5, 6, 8, 9], hs⟩
    ·
      try simp only [decide_eq_true_eq, decide_eq_false_iff_not, Bool.not_eq_true', Bool.not_eq_false', Int.not_lt, Int.not_le, ne_eq, Decidable.not_not] at hc1
      refine wp_exit ?_
      refine then_e <| then_e <| blk_e ?_
      refine then_n ?_
      refine wp_seq ?_
      obtain rfl : k = P.length := by omega
      rw [List.take_length] at hs
      have hlec := (OwnBB.le hs).2
      obtain ⟨xs, hy1, hy2, hs⟩ := OwnBB.open hs
      refine wp_region_lit ?_
      refine wpList_k (st_set ha rfl (ex_move ha) rfl ?_); clear ha; (try clear a); intro a ha
      refine wpList_k (st_set ha rfl (ex_move ha) rfl ?_); clear ha; (try clear a); intro a ha
      refine wpList_k (st_set ha rfl (ex_move ha) rfl ?_); clear ha; (try clear a); intro a ha
      refine wpList_k (st_call ha rfl Ty.c14 rfl (add_first (zs := xs) ((hs.store q).tree tq) (fun w' h => St.rdX (h.sub (M := Sl 48 1 ad3 P.length c3 (xs.map bbv) :: All bbo xs :: []))) hy1 hlec hPo) ?_); clear ha hs
      rintro e w ⟨z, T2, A2, rfl, hcase, hs⟩
      refine ⟨_, rfl, ?_⟩
      intro a ha
      refine wpList_k (st_set ha rfl (ex_move ha) rfl ?_); clear ha; (try clear a); intro a ha
      refine wpList_k (st_set ha rfl (ex_extract ha rfl) rfl ?_); clear ha; (try clear a); intro a ha
      refine wpList_k (st_set ha rfl (ex_extract ha rfl) rfl ?_); clear ha; (try clear a); intro a ha
      refine wpList_k (st_set ha rfl (ex_assign ha) rfl ?_); clear ha; (try clear a); intro a ha
      refine wpList_k (st_set ha rfl (ex_assign ha) rfl ?_); clear ha; (try clear a); intro a ha
      refine wpList_nil ?_
      refine then_n ?_
      refine wp_seq ?_
      refine wp_seq ?_
      refine wp_region_lit ?_
      refine wpList_k (st_set ha rfl (ex_move ha) rfl ?_); clear ha; (try clear a); intro a ha
      refine wpList_k (st_set ha rfl (ex_not ha) rfl ?_); clear ha; (try clear a); intro a ha
      refine wpList_nil ?_
      refine then_n ?_
      refine wp_if ha (fun hc2 => ?_) (fun hc2 => ?_)
      ·
        try simp only [decide_eq_true_eq, decide_eq_false_iff_not, Bool.not_eq_true', Bool.not_eq_false', Int.not_lt, Int.not_le, ne_eq, Decidable.not_not] at hc2
        refine wp_seq ?_
        have h0 : P.length = 0 := by
          first
            | omega
            | (simp at hc2; omega)
        refine wp_region_lit ?_
        refine wpList_k (st_set ha rfl (ex_move ha) rfl ?_); clear ha; (try clear a); intro a ha
        refine wpList_k (st_set ha rfl (ex_len ha Try.underlying23) rfl ?_); clear ha; (try clear a); intro a ha
        refine wpList_k (st_set ha rfl (ex_eql ha) rfl ?_); clear ha; (try clear a); intro a ha
        refine wpList_k (st_set ha rfl (ex_assign ha) rfl ?_); clear ha; (try clear a); intro a ha
        refine wpList_nil ?_
        refine then_n ?_
        refine wp_ret <| then_r ?_
        refine ret1 ha rfl ?_
        first
          | exact ⟨rfl, hs.below⟩
          | exact ⟨by rw [decide_eq_true (by omega)], hs.below⟩
      ·
        try simp only [decide_eq_true_eq, decide_eq_false_iff_not, Bool.not_eq_true', Bool.not_eq_false', Int.not_lt, Int.not_le, ne_eq, Decidable.not_not] at hc2
        have h0 : 0 < P.length := by
          first
            | omega
            | (simp at hc2; omega)
            | (simp at hc2; exact hc2)
        obtain ⟨-, rfl, rfl, rfl⟩ := hcase.resolve_left (by omega)
        clear hcase
        have hxl : xs.length = P.length := by rw [← hy1, List.length_map]
        refine wp_skip ?_
        refine then_n ?_
        refine wp_seq ?_
        refine wp_seq ?_
        refine wp_region_lit ?_
        refine wpList_k (st_set ha rfl (ex_assign ha) rfl ?_); clear ha; (try clear a); intro a ha
        refine wpList_nil ?_
        refine then_n ?_
        refine wp_block ?_
        refine wp_loop_ghost (fun μ a w => ∃ (i : Nat) (zs : List BBx), (μ = P.length - i ∧ i ≤ P.length ∧ zs.map bbv = xs.map bbv) ∧ Fr a 145 [(0, .slice adp P.length cp), (4, .pointer (some ⟨q, 0, none⟩)), (5, .pointer (some ⟨tq, 0, none⟩)), (6, .int .i64 ((1 : Nat) : Int)), (8, .slice ad3 P.length c3), (10, .int .i64 ((1 : Nat) : Int)), (12, .int .i64 i)] ∧ St W w [Sl 48 1 ad3 P.length c3 (xs.map bbv), All bbo zs, Tree tq q ⟨2, [⟨1, 0, P, 0, 2⟩], 1, 0⟩, Store q r ⟨2, 20, 2, [⟨1, 1, fun _ => 0, t⟩, ⟨2, 1, fun _ => 0, t⟩]⟩, Sl 48 1 adp P.length cp (X.map bbv)]) (P.length) ?_ ?_
        · exact ⟨0, xs, ⟨by simp, by simp, rfl⟩, ha.keep [0, 4, 5, 6, 8, 10, 12], hs.sub⟩
        ·
          clear ha hs
          rintro μ a w ⟨i, zs, ⟨rfl, hi, hzs⟩, ha, hs⟩
          refine wp_seq ?_
          refine wp_seq ?_
          refine wp_region_lit ?_
          refine wpList_k (st_set ha rfl (ex_move ha) rfl ?_); clear ha; (try clear a); intro a ha
          refine wpList_k (st_set ha rfl (ex_move ha) rfl ?_); clear ha; (try clear a); intro a ha
          refine wpList_k (st_set ha rfl (ex_len ha Try.underlying23) rfl ?_); clear ha; (try clear a); intro a ha
          refine wpList_k (st_set ha rfl (ex_lss ha) rfl ?_); clear ha; (try clear a); intro a ha
          refine wpList_nil ?_
          refine then_n ?_
          refine wp_if ha (fun hc3 => ?_) (fun hc3 => ?_)
          ·
            try simp only [decide_eq_true_eq, decide_eq_false_iff_not, Bool.not_eq_true', Bool.not_eq_false', Int.not_lt, Int.not_le, ne_eq, Decidable.not_not] at hc3
            refine wp_skip ?_
            refine then_n ?_
            refine wp_seq ?_
            refine wp_block ?_
            refine wp_seq ?_
            obtain ⟨b1, o1, rfl, _⟩ := hs.slRd ad3 (by omega)
            obtain ⟨⟨ax, cx, bx⟩, hx1⟩ : ∃ y, xs[i]? = some y := ⟨_, List.getElem?_eq_getElem (by omega)⟩
            have hPx : P[i]? = some bx := by rw [← hy1, List.getElem?_map, hx1]; rfl
            have hbx := hPo.2 bx (List.mem_of_getElem? hPx)
            refine wp_region_lit ?_
            refine wpList_k (st_set ha rfl (ex_assign ha) rfl ?_); clear ha; (try clear a); intro a ha
            refine wpList_nil ?_
            refine then_n ?_
            refine wp_block ?_
            refine wp_loop_ghost (fun μ a w => ∃ (k : Nat) (zs : List BBx), (μ = bx.length - k ∧ k ≤ bx.length ∧ zs.map bbv = xs.map bbv) ∧ Fr a 145 [(0, .slice adp P.length cp), (4, .pointer (some ⟨q, 0, none⟩)), (5, .pointer (some ⟨tq, 0, none⟩)), (6, .int .i64 ((1 : Nat) : Int)), (8, .slice (some ⟨b1, o1, none⟩) P.length c3), (10, .int .i64 ((1 : Nat) : Int)), (12, .int .i64 i), (13, .int .i64 k)] ∧ St W w [Sl 48 1 (some ⟨b1, o1, none⟩) P.length c3 (xs.map bbv), All bbo zs, Tree tq q ⟨2, [⟨1, 0, P, 0, 2⟩], 1, 0⟩, Store q r ⟨2, 20, 2, [⟨1, 1, fun _ => 0, t⟩, ⟨2, 1, fun _ => 0, t⟩]⟩, Sl 48 1 adp P.length cp (X.map bbv)]) (bx.length) ?_ ?_
            · exact ⟨0, zs, ⟨by simp, by simp, hzs⟩, ha.keep [0, 4, 5, 6, 8, 10, 12, 13], hs.sub⟩
            ·
              clear ha hs
              rintro μ a w ⟨k, zs, ⟨rfl, hk, hzs⟩, ha, hs⟩
              refine wp_seq ?_
              refine wp_seq ?_
              obtain ⟨b2, o2, hb2, hr2⟩ := hs.slRd (some ⟨b1, o1, none⟩) (by omega)
              cases hb2
              have hcell : w.cell? ⟨b1, o1 + i, none⟩ = some (.slice ax bx.length cx) := hr2 i _ (by rw [List.getElem?_map, hx1]; rfl)
              refine wp_region_lit ?_
              refine wpList_k (st_set ha rfl (ex_move ha) rfl ?_); clear ha; (try clear a); intro a ha
              refine wpList_k (st_set ha rfl (ex_move ha) rfl ?_); clear ha; (try clear a); intro a ha
              refine wpList_k (st_set ha rfl (ex_move ha) rfl ?_); clear ha; (try clear a); intro a ha
              refine wpList_k (st_set ha rfl (ex_indexAddr ha Try.underlying23 Ty.t48 (by omega)) rfl ?_); clear ha; (try clear a); intro a ha
              rw [Nat.mul_one] at ha
              refine wpList_k (st_set ha rfl (ex_load1 ha Try.underlying48 rfl (hcell)) rfl ?_); clear ha; (try clear a); intro a ha
              refine wpList_k (st_set ha rfl (ex_len ha Try.underlying48) rfl ?_); clear ha; (try clear a); intro a ha
              refine wpList_k (st_set ha rfl (ex_lss ha) rfl ?_); clear ha; (try clear a); intro a ha
              refine wpList_nil ?_
              refine then_n ?_
              refine wp_if ha (fun hc4 => ?_) (fun hc4 => ?_)
              ·
                try simp only [decide_eq_true_eq, decide_eq_false_iff_not, Bool.not_eq_true', Bool.not_eq_false', Int.not_lt, Int.not_le, ne_eq, Decidable.not_not] at hc4
                refine wp_skip ?_
                refine then_n ?_
                refine wp_seq ?_
                refine wp_block ?_
                obtain ⟨b2, o2, hb2, hr2⟩ := hs.slRd (some ⟨b1, o1, none⟩) (by omega)
                cases hb2
                have hcell : w.cell? ⟨b1, o1 + i, none⟩ = some (.slice ax bx.length cx) := hr2 i _ (by rw [List.getElem?_map, hx1]; rfl)
                obtain ⟨bs, hzx, hbs⟩ := shape hzs hx1
                obtain ⟨bb, pre, post, ⟨rfl, hb3, hb4, hb5⟩, hs0⟩ := bump_out (hs.pick (All bbo zs)) hzx (k := k) (by omega)
                obtain ⟨u, hu⟩ := u8wrap (((bs[k]'(by omega)).toNat : Nat) + 1 : Int)
                replace hs := hs0
                refine wp_region_lit ?_
                refine wpList_k (st_set ha rfl (ex_move ha) rfl ?_); clear ha; (try clear a); intro a ha
                refine wpList_k (st_set ha rfl (ex_move ha) rfl ?_); clear ha; (try clear a); intro a ha
                refine wpList_k (st_set ha rfl (ex_indexAddr ha Try.underlying23 Ty.t48 (by omega)) rfl ?_); clear ha; (try clear a); intro a ha
                rw [Nat.mul_one] at ha
                refine wpList_k (st_set ha rfl (ex_load1 ha Try.underlying48 rfl (hcell)) rfl ?_); clear ha; (try clear a); intro a ha
                refine wpList_k (st_set ha rfl (ex_move ha) rfl ?_); clear ha; (try clear a); intro a ha
                refine wpList_k (st_set ha rfl (ex_indexAddr ha Try.underlying48 Ty.t5 (by omega)) rfl ?_); clear ha; (try clear a); intro a ha
                refine wpList_k (st_set ha rfl (ex_load1 ha Try.underlying5 rfl (hs.rd1 hb5)) rfl ?_); clear ha; (try clear a); intro a ha
                refine wpList_k (st_set ha rfl (ex_add ha) rfl ?_); clear ha; (try clear a); intro a ha
                rw [hu] at ha
                refine wpList_k (st_set ha rfl (ex_indexAddr ha Try.underlying48 Ty.t5 (by omega)) rfl ?_); clear ha; (try clear a); intro a ha
                refine wpList_k (st_store ha rfl hs Ty.t5 rfl (by simp only [List.length_append, bc_len]; omega) ?_); clear ha hs; (try clear a); (try clear w); intro a w ha hs
                refine wpList_nil ?_
                obtain ⟨zs', hz1, hs1⟩ := bump_in (hs.bring bb) hzx (by omega) hb3 hb4
                replace hs := hs1
                refine blk_n <| then_n ?_
                refine wp_region_lit ?_
                refine wpList_k (st_set ha rfl (ex_move ha) rfl ?_); clear ha; (try clear a); intro a ha
                refine wpList_k (st_set ha rfl (ex_addI ha (by omega) (by omega)) rfl ?_); clear ha; (try clear a); intro a ha
                replace ha := ha.del 13
                refine wpList_k (st_set ha rfl (ex_assign ha) rfl ?_); clear ha; (try clear a); intro a ha
                refine wpList_nil ?_
                refine then_n ?_
                exact ⟨bx.length - (k + 1), by omega, k + 1, zs', ⟨rfl, by omega, hz1.trans hzs⟩, ha.keep [0, 4, 5, 6, 8, 10, 12, 13], hs.sub⟩
              ·
                try simp only [decide_eq_true_eq, decide_eq_false_iff_not, Bool.not_eq_true', Bool.not_eq_false', Int.not_lt, Int.not_le, ne_eq, Decidable.not_not] at hc4
                refine wp_exit ?_
                refine then_e <| then_e <| blk_e ?_
                refine blk_n <| then_n ?_
                refine wp_region_lit ?_
                refine wpList_k (st_set ha rfl (ex_move ha) rfl ?_); clear ha; (try clear a); intro a ha
                refine wpList_k (st_set ha rfl (ex_addI ha (by omega) (by omega)) rfl ?_); clear ha; (try clear a); intro a ha
                replace ha := ha.del 12
                refine wpList_k (st_set ha rfl (ex_assign ha) rfl ?_); clear ha; (try clear a); intro a ha
                refine wpList_nil ?_
                refine then_n ?_
                exact ⟨P.length - (i + 1), by omega, i + 1, zs, ⟨rfl, by omega, hzs⟩, ha.keep [0, 4, 5, 6, 8, 10, 12], hs.sub⟩
          ·
            try simp only [decide_eq_true_eq, decide_eq_false_iff_not, Bool.not_eq_true', Bool.not_eq_false', Int.not_lt, Int.not_le, ne_eq, Decidable.not_not] at hc3
            refine wp_exit ?_
            refine then_e <| then_e <| blk_e ?_
            refine then_n ?_
            refine wp_seq ?_
            refine wp_region_lit ?_
            refine wpList_k (st_set ha rfl (ex_move ha) rfl ?_); clear ha; (try clear a); intro a ha
            refine wpList_k (st_set ha rfl (ex_move ha) rfl ?_); clear ha; (try clear a); intro a ha
            refine wpList_k (st_call ha rfl Ty.c26 rfl (tree_get (k := 0) (x := ⟨1, 0, P, 0, 2⟩) (hs.tree tq) rfl) ?_); clear ha hs
            rintro e w ⟨adg, cg, rfl, hs⟩
            refine ⟨_, rfl, ?_⟩
            intro a ha
            refine wpList_k (st_set ha rfl (ex_move ha) rfl ?_); clear ha; (try clear a); intro a ha
            refine wpList_k (st_set ha rfl (ex_extract ha rfl) rfl ?_); clear ha; (try clear a); intro a ha
            refine wpList_k (st_set ha rfl (ex_extract ha rfl) rfl ?_); clear ha; (try clear a); intro a ha
            refine wpList_k (st_alloc ha rfl hs Ty.t42 rfl ?_); clear ha hs; (try clear a); (try clear w); intro b14 a w ha hs ho
            clear ho
            refine wpList_k (st_storeAll ha rfl hs Ty.t42 (brC_one ⟨1, 0, P, 0, 2⟩ adg cg) (by rfl) ?_); clear ha hs; (try clear a); (try clear w); intro a w ha hs
            refine wpList_k (st_set ha rfl (ex_assign ha) rfl ?_); clear ha; (try clear a); intro a ha
            refine wpList_nil ?_
            refine then_n ?_
            refine wp_seq ?_
            refine wp_seq ?_
            refine wp_region_lit ?_
            refine wpList_k (st_set ha rfl (ex_fieldAddr (k := 2) ha Try.underlying42 rfl Ty.t23 rfl) rfl ?_); clear ha; (try clear a); intro a ha
            refine wpList_k (st_set ha rfl (ex_load1 ha Try.underlying23 rfl (hs.rd1 rfl)) rfl ?_); clear ha; (try clear a); intro a ha
            refine wpList_k (st_set ha rfl (ex_move ha) rfl ?_); clear ha; (try clear a); intro a ha
            refine wpList_k (st_call ha rfl Ty.c27 rfl (whole_spec (u := P) (v := P) hs (by have := hPo.1; omega) (fun w' h => OwnBB.rd (h.pick (OwnBB adg P.length cg P))) (fun w' h => (RdX.sl h adp hPc hXr).bbP hP)) ?_); clear ha hs
            rintro e w ⟨rfl, hs⟩
            refine ⟨_, rfl, ?_⟩
            intro a ha
            rw [decide_eq_true rfl] at ha
            refine wpList_k (st_set ha rfl (ex_not ha) rfl ?_); clear ha; (try clear a); intro a ha
            refine wpList_nil ?_
            refine then_n ?_
            refine wp_ifF ha ?_
            refine wp_skip ?_
            refine then_n ?_
            refine wp_seq ?_
            refine wp_seq ?_
            obtain ⟨xv, hv1, hv2, hs⟩ := OwnBB.open (hs.pick (OwnBB adg P.length cg P))
            have hvl : xv.length = P.length := by rw [← hv1, List.length_map]
            refine wp_region_lit ?_
            refine wpList_k (st_set ha rfl (ex_assign ha) rfl ?_); clear ha; (try clear a); intro a ha
            refine wpList_nil ?_
            refine then_n ?_
            refine wp_block ?_
            refine wp_loop_ghost (fun μ a w => ∃ (i : Nat) (zs : List BBx), (μ = P.length - i ∧ i ≤ P.length ∧ zs.map bbv = xv.map bbv) ∧ Fr a 145 [(0, .slice adp P.length cp), (4, .pointer (some ⟨q, 0, none⟩)), (5, .pointer (some ⟨tq, 0, none⟩)), (6, .int .i64 ((1 : Nat) : Int)), (10, .int .i64 ((1 : Nat) : Int)), (14, .pointer (some ⟨b14, 0, none⟩)), (16, .int .i64 i)] ∧ St W w [Sl 48 1 adg P.length cg (xv.map bbv), All bbo zs, blk b14 42 (brC ⟨1, 0, P, 0, 2⟩ adg cg), Tree tq q ⟨2, [⟨1, 0, P, 0, 2⟩], 1, 0⟩, Store q r ⟨2, 20, 2, [⟨1, 1, fun _ => 0, t⟩, ⟨2, 1, fun _ => 0, t⟩]⟩, Sl 48 1 adp P.length cp (X.map bbv)]) (P.length) ?_ ?_
            · exact ⟨0, xv, ⟨by simp, by simp, rfl⟩, ha.keep [0, 4, 5, 6, 10, 14, 16], hs.sub⟩
            ·
              clear ha hs
              rintro μ a w ⟨i, zs, ⟨rfl, hi, hzs⟩, ha, hs⟩
              refine wp_seq ?_
              refine wp_seq ?_
              refine wp_region_lit ?_
              refine wpList_k (st_set ha rfl (ex_move ha) rfl ?_); clear ha; (try clear a); intro a ha
              refine wpList_k (st_set ha rfl (ex_fieldAddr (k := 2) ha Try.underlying42 rfl Ty.t23 rfl) rfl ?_); clear ha; (try clear a); intro a ha
              refine wpList_k (st_set ha rfl (ex_load1 ha Try.underlying23 rfl (hs.rd1 rfl)) rfl ?_); clear ha; (try clear a); intro a ha
              refine wpList_k (st_set ha rfl (ex_len ha Try.underlying23) rfl ?_); clear ha; (try clear a); intro a ha
              refine wpList_k (st_set ha rfl (ex_lss ha) rfl ?_); clear ha; (try clear a); intro a ha
              refine wpList_nil ?_
              refine then_n ?_
              refine wp_if ha (fun hc6 => ?_) (fun hc6 => ?_)
              ·
                try simp only [decide_eq_true_eq, decide_eq_false_iff_not, Bool.not_eq_true', Bool.not_eq_false', Int.not_lt, Int.not_le, ne_eq, Decidable.not_not] at hc6
                refine wp_skip ?_
                refine then_n ?_
                refine wp_seq ?_
                refine wp_block ?_
                refine wp_seq ?_
                obtain ⟨b1, o1, rfl, _⟩ := hs.slRd adg (by omega)
                obtain ⟨⟨ax, cx, bx⟩, hx1⟩ : ∃ y, xv[i]? = some y := ⟨_, List.getElem?_eq_getElem (by omega)⟩
                have hPx : P[i]? = some bx := by rw [← hv1, List.getElem?_map, hx1]; rfl
                have hbx := hPo.2 bx (List.mem_of_getElem? hPx)
                refine wp_region_lit ?_
                refine wpList_k (st_set ha rfl (ex_assign ha) rfl ?_); clear ha; (try clear a); intro a ha
                refine wpList_nil ?_
                refine then_n ?_
                refine wp_block ?_
                refine wp_loop_ghost (fun μ a w => ∃ (k : Nat) (zs : List BBx), (μ = bx.length - k ∧ k ≤ bx.length ∧ zs.map bbv = xv.map bbv) ∧ Fr a 145 [(0, .slice adp P.length cp), (4, .pointer (some ⟨q, 0, none⟩)), (5, .pointer (some ⟨tq, 0, none⟩)), (6, .int .i64 ((1 : Nat) : Int)), (10, .int .i64 ((1 : Nat) : Int)), (14, .pointer (some ⟨b14, 0, none⟩)), (16, .int .i64 i), (17, .int .i64 k)] ∧ St W w [Sl 48 1 (some ⟨b1, o1, none⟩) P.length cg (xv.map bbv), All bbo zs, blk b14 42 (brC ⟨1, 0, P, 0, 2⟩ (some ⟨b1, o1, none⟩) cg), Tree tq q ⟨2, [⟨1, 0, P, 0, 2⟩], 1, 0⟩, Store q r ⟨2, 20, 2, [⟨1, 1, fun _ => 0, t⟩, ⟨2, 1, fun _ => 0, t⟩]⟩, Sl 48 1 adp P.length cp (X.map bbv)]) (bx.length) ?_ ?_
                · exact ⟨0, zs, ⟨by simp, by simp, hzs⟩, ha.keep [0, 4, 5, 6, 10, 14, 16, 17], hs.sub⟩
                ·
                  clear ha hs
                  rintro μ a w ⟨k, zs, ⟨rfl, hk, hzs⟩, ha, hs⟩
                  refine wp_seq ?_
                  refine wp_seq ?_
                  obtain ⟨b2, o2, hb2, hr2⟩ := hs.slRd (some ⟨b1, o1, none⟩) (by omega)
                  cases hb2
                  have hcell : w.cell? ⟨b1, o1 + i, none⟩ = some (.slice ax bx.length cx) := hr2 i _ (by rw [List.getElem?_map, hx1]; rfl)
                  refine wp_region_lit ?_
                  refine wpList_k (st_set ha rfl (ex_move ha) rfl ?_); clear ha; (try clear a); intro a ha
                  refine wpList_k (st_set ha rfl (ex_fieldAddr (k := 2) ha Try.underlying42 rfl Ty.t23 rfl) rfl ?_); clear ha; (try clear a); intro a ha
                  refine wpList_k (st_set ha rfl (ex_load1 ha Try.underlying23 rfl (hs.rd1 rfl)) rfl ?_); clear ha; (try clear a); intro a ha
                  change Fr a 145 ((106, .slice (some ⟨b1, o1, none⟩) P.length cg) :: _) at ha
                  refine wpList_k (st_set ha rfl (ex_move ha) rfl ?_); clear ha; (try clear a); intro a ha
                  refine wpList_k (st_set ha rfl (ex_indexAddr ha Try.underlying23 Ty.t48 (by omega)) rfl ?_); clear ha; (try clear a); intro a ha
                  rw [Nat.mul_one] at ha
                  refine wpList_k (st_set ha rfl (ex_load1 ha Try.underlying48 rfl (hcell)) rfl ?_); clear ha; (try clear a); intro a ha
                  refine wpList_k (st_set ha rfl (ex_len ha Try.underlying48) rfl ?_); clear ha; (try clear a); intro a ha
                  refine wpList_k (st_set ha rfl (ex_lss ha) rfl ?_); clear ha; (try clear a); intro a ha
                  refine wpList_nil ?_
                  refine then_n ?_
                  refine wp_if ha (fun hc7 => ?_) (fun hc7 => ?_)
                  ·
                    try simp only [decide_eq_true_eq, decide_eq_false_iff_not, Bool.not_eq_true', Bool.not_eq_false', Int.not_lt, Int.not_le, ne_eq, Decidable.not_not] at hc7
                    refine wp_skip ?_
                    refine then_n ?_
                    refine wp_seq ?_
                    refine wp_block ?_
                    obtain ⟨b2, o2, hb2, hr2⟩ := hs.slRd (some ⟨b1, o1, none⟩) (by omega)
                    cases hb2
                    have hcell : w.cell? ⟨b1, o1 + i, none⟩ = some (.slice ax bx.length cx) := hr2 i _ (by rw [List.getElem?_map, hx1]; rfl)
                    obtain ⟨bs, hzx, hbs⟩ := shape hzs hx1
                    obtain ⟨bb, pre, post, ⟨rfl, hb3, hb4, hb5⟩, hs0⟩ := bump_out (hs.pick (All bbo zs)) hzx (k := k) (by omega)
                    obtain ⟨u, hu⟩ := u8wrap (((bs[k]'(by omega)).toNat : Nat) - 1 : Int)
                    replace hs := hs0
                    refine wp_region_lit ?_
                    refine wpList_k (st_set ha rfl (ex_fieldAddr (k := 2) ha Try.underlying42 rfl Ty.t23 rfl) rfl ?_); clear ha; (try clear a); intro a ha
                    refine wpList_k (st_set ha rfl (ex_load1 ha Try.underlying23 rfl (hs.rd1 rfl)) rfl ?_); clear ha; (try clear a); intro a ha
                    change Fr a 145 ((115, .slice (some ⟨b1, o1, none⟩) P.length cg) :: _) at ha
                    refine wpList_k (st_set ha rfl (ex_move ha) rfl ?_); clear ha; (try clear a); intro a ha
                    refine wpList_k (st_set ha rfl (ex_indexAddr ha Try.underlying23 Ty.t48 (by omega)) rfl ?_); clear ha; (try clear a); intro a ha
                    rw [Nat.mul_one] at ha
                    refine wpList_k (st_set ha rfl (ex_load1 ha Try.underlying48 rfl (hcell)) rfl ?_); clear ha; (try clear a); intro a ha
                    refine wpList_k (st_set ha rfl (ex_move ha) rfl ?_); clear ha; (try clear a); intro a ha
                    refine wpList_k (st_set ha rfl (ex_indexAddr ha Try.underlying48 Ty.t5 (by omega)) rfl ?_); clear ha; (try clear a); intro a ha
                    refine wpList_k (st_set ha rfl (ex_load1 ha Try.underlying5 rfl (hs.rd1 hb5)) rfl ?_); clear ha; (try clear a); intro a ha
                    refine wpList_k (st_set ha rfl (ex_sub ha) rfl ?_); clear ha; (try clear a); intro a ha
                    rw [hu] at ha
                    refine wpList_k (st_set ha rfl (ex_indexAddr ha Try.underlying48 Ty.t5 (by omega)) rfl ?_); clear ha; (try clear a); intro a ha
                    refine wpList_k (st_store ha rfl hs Ty.t5 rfl (by simp only [List.length_append, bc_len]; omega) ?_); clear ha hs; (try clear a); (try clear w); intro a w ha hs
                    refine wpList_nil ?_
                    obtain ⟨zs', hz1, hs1⟩ := bump_in (hs.bring bb) hzx (by omega) hb3 hb4
                    replace hs := hs1
                    refine blk_n <| then_n ?_
                    refine wp_region_lit ?_
                    refine wpList_k (st_set ha rfl (ex_move ha) rfl ?_); clear ha; (try clear a); intro a ha
                    refine wpList_k (st_set ha rfl (ex_addI ha (by omega) (by omega)) rfl ?_); clear ha; (try clear a); intro a ha
                    replace ha := ha.del 17
                    refine wpList_k (st_set ha rfl (ex_assign ha) rfl ?_); clear ha; (try clear a); intro a ha
                    refine wpList_nil ?_
                    refine then_n ?_
                    exact ⟨bx.length - (k + 1), by omega, k + 1, zs', ⟨rfl, by omega, hz1.trans hzs⟩, ha.keep [0, 4, 5, 6, 10, 14, 16, 17], hs.sub⟩
                  ·
                    try simp only [decide_eq_true_eq, decide_eq_false_iff_not, Bool.not_eq_true', Bool.not_eq_false', Int.not_lt, Int.not_le, ne_eq, Decidable.not_not] at hc7
                    refine wp_exit ?_
                    refine then_e <| then_e <| blk_e ?_
                    refine blk_n <| then_n ?_
                    refine wp_region_lit ?_
                    refine wpList_k (st_set ha rfl (ex_move ha) rfl ?_); clear ha; (try clear a); intro a ha
                    refine wpList_k (st_set ha rfl (ex_addI ha (by omega) (by omega)) rfl ?_); clear ha; (try clear a); intro a ha
                    replace ha := ha.del 16
                    refine wpList_k (st_set ha rfl (ex_assign ha) rfl ?_); clear ha; (try clear a); intro a ha
                    refine wpList_nil ?_
                    refine then_n ?_
                    exact ⟨P.length - (i + 1), by omega, i + 1, zs, ⟨rfl, by omega, hzs⟩, ha.keep [0, 4, 5, 6, 10, 14, 16], hs.sub⟩
              ·
                try simp only [decide_eq_true_eq, decide_eq_false_iff_not, Bool.not_eq_true', Bool.not_eq_false', Int.not_lt, Int.not_le, ne_eq, Decidable.not_not] at hc6
                refine wp_exit ?_
                refine then_e <| then_e <| blk_e ?_
                refine then_n ?_
                refine wp_seq ?_
                refine wp_region_lit ?_
                refine wpList_k (st_set ha rfl (ex_move ha) rfl ?_); clear ha; (try clear a); intro a ha
                refine wpList_k (st_set ha rfl (ex_move ha) rfl ?_); clear ha; (try clear a); intro a ha
                refine wpList_k (st_call ha rfl Ty.c26 rfl (tree_get (k := 0) (x := ⟨1, 0, P, 0, 2⟩) (hs.tree tq) rfl) ?_); clear ha hs
                rintro e w ⟨adh, ch, rfl, hs⟩
                refine ⟨_, rfl, ?_⟩
                intro a ha
                refine wpList_k (st_set ha rfl (ex_move ha) rfl ?_); clear ha; (try clear a); intro a ha
                refine wpList_k (st_set ha rfl (ex_extract ha rfl) rfl ?_); clear ha; (try clear a); intro a ha
                refine wpList_k (st_set ha rfl (ex_extract ha rfl) rfl ?_); clear ha; (try clear a); intro a ha
                refine wpList_k (st_alloc ha rfl hs Ty.t42 rfl ?_); clear ha hs; (try clear a); (try clear w); intro b18 a w ha hs ho
                clear ho
                refine wpList_k (st_storeAll ha rfl hs Ty.t42 (brC_one ⟨1, 0, P, 0, 2⟩ adh ch) (by rfl) ?_); clear ha hs; (try clear a); (try clear w); intro a w ha hs
                refine wpList_k (st_set ha rfl (ex_assign ha) rfl ?_); clear ha; (try clear a); intro a ha
                refine wpList_nil ?_
                refine then_n ?_
                refine wp_seq ?_
                refine wp_region_lit ?_
                refine wpList_k (st_set ha rfl (ex_move ha) rfl ?_); clear ha; (try clear a); intro a ha
                refine wpList_k (st_set ha rfl (ex_move ha) rfl ?_); clear ha; (try clear a); intro a ha
                refine wpList_k (st_call ha rfl Ty.c28 rfl (snap_state (i := 0) (x := ⟨1, 1, fun _ => 0, t⟩) (hs.store q) rfl) ?_); clear ha hs
                rintro e w ⟨rfl, hs⟩
                refine ⟨_, rfl, ?_⟩
                intro a ha
                refine wpList_k (st_set ha rfl (ex_move ha) rfl ?_); clear ha; (try clear a); intro a ha
                refine wpList_k (st_set ha rfl (ex_extract ha rfl) rfl ?_); clear ha; (try clear a); intro a ha
                refine wpList_k (st_set ha rfl (ex_extract ha rfl) rfl ?_); clear ha; (try clear a); intro a ha
                refine wpList_k (st_alloc ha rfl hs Ty.t34 rfl ?_); clear ha hs; (try clear a); (try clear w); intro b20 a w ha hs ho
                clear ho
                refine wpList_k (st_storeAll ha rfl hs Ty.t34 ints_one (by rfl) ?_); clear ha hs; (try clear a); (try clear w); intro a w ha hs
                refine wpList_k (st_set ha rfl (ex_assign ha) rfl ?_); clear ha; (try clear a); intro a ha
                refine wpList_nil ?_
                refine then_n ?_
                refine wp_seq ?_
                refine wp_region_lit ?_
                refine wpList_k (st_set ha rfl (ex_fieldAddr (k := 2) ha Try.underlying42 rfl Ty.t23 rfl) rfl ?_); clear ha; (try clear a); intro a ha
                refine wpList_k (st_set ha rfl (ex_load1 ha Try.underlying23 rfl (hs.rd1 rfl)) rfl ?_); clear ha; (try clear a); intro a ha
                refine wpList_k (st_set ha rfl (ex_move ha) rfl ?_); clear ha; (try clear a); intro a ha
                refine wpList_k (st_call ha rfl Ty.c27 rfl (whole_spec (u := P) (v := P) hs (by have := hPo.1; omega) (fun w' h => OwnBB.rd (h.pick (OwnBB adh P.length ch P))) (fun w' h => (RdX.sl h adp hPc hXr).bbP hP)) ?_); clear ha hs
                rintro e w ⟨rfl, hs⟩
                refine ⟨_, rfl, ?_⟩
                intro a ha
                rw [decide_eq_true rfl] at ha
                refine wpList_k (st_set ha rfl (ex_move ha) rfl ?_); clear ha; (try clear a); intro a ha
                refine wpList_k (st_set ha (wgT ha rfl (s := 140)) (ex_loadN ha Try.underlying34 rfl Ty.t34 (hs.rdAll)) rfl ?_); clear ha; (try clear a); intro a ha
                refine wpList_k (st_set ha (wgT ha rfl (s := 140)) (ex_buildA0 ha Try.underlying61 Ty.t61 Ty.t21) rfl ?_); clear ha; (try clear a); intro a ha
                change Fr a 145 ((142, .agg (ints .i32 32 (fun _ => 0)).toArray) :: _) at ha
                refine wpList_k (st_set ha (wgT ha rfl (s := 140)) (ex_eqlA ha Try.underlying61 Try.underlying21 Ty.t21 (by kernel_rfl) Try.eqGuardType61) rfl ?_); clear ha; (try clear a); intro a ha
                rw [sameN_self] at ha
                refine wpList_k (st_set ha rfl (ex_pickT ha) rfl ?_); clear ha; (try clear a); intro a ha
                refine wpList_k (st_set ha rfl (ex_assign ha) rfl ?_); clear ha; (try clear a); intro a ha
                refine wpList_nil ?_
                refine then_n ?_
                refine wp_ret ?_
                refine ret1 ha rfl ?_
                first
                  | exact ⟨rfl, hs.below⟩
                  | exact ⟨by rw [decide_eq_true (by omega)], hs.below⟩
end
end Go.Proofs.Ytkjmmchmanofkaa

