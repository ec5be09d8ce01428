/- NetAll: the calls and the list beside. -/
import Derived.Test.YtjaiojfmcpbkbaaNetArg
namespace Go.Proofs.Ytjaiojfmcpbkbaa
open Go.RowKit
set_option linter.unusedVariables false
set_option linter.unusedSimpArgs false
set_option maxRecDepth 10000
set_option synthInstance.maxSize 4000
set_option synthInstance.maxHeartbeats 400000

section
variable {P : Program} {ops : Array Oper} {Q : Exit → Act → World → Prop} {a : Act} {w w' W : World} {K : Act → World → Prop} {n d : Nat} {l : List (Nat × Value)} {L R : List SP}
theorem ex_sliceHM {x u z3 k' k'' i' i'' j' j'' ad m c t el z sz by' dst ty ps af g} (ha : Fr a n l) (ht : P.underlying t = some (.slice el)) (hi : TI P el z sz by') [ev : Ev l x (.slice ad m c)] [eu : Ev l u (.int k' i')] [ez : Ev l z3 (.int k'' i'')]
    [nj' : NatOf i' j'] [nj'' : NatOf i'' j''] (h' : j' ≤ j'') (h'' : j'' ≤ c) :
    (execOp a.eval ⟨dst, .slice t x none (some u) (some z3), ty, ps, af, g⟩).run P w = .ok (.value (.slice (cutAd ad 0 j'' sz) j' j'')) w := by
  have hj' := nj'.h
  subst hj'
  have hj'' := nj''.h
  subst hj''
  have e1 := (elem_of ht).1
  have e2 := (elem_of ht).2
  have := run_slice_hm (P := P) (w := w) t ad m c e1 k' k'' (j' : Int) (j'' : Int) (by omega) (by omega) (by omega)
  rw [e2, run_size hi] at this
  simp only [Result.andThen_ok, Int.toNat_natCast] at this
  simp [execOp, ev.ev a n ha, eu.ev a n ha, ez.ev a n ha, run_sliceAt_slice (P := P) (w := w) t _ _ _ _ e1, this, sliced, cutAd]
/-- The first m elements, with no room behind them. -/
theorem St.cutSlM {e sz k c : Nat} {cs : List Value} (hs : St W w L) (ad : Option Addr) (m : Nat) [pk : PickSl L ad k c e sz cs R] (hm : m ≤ k) : St W w (Sl e sz (cutAd ad 0 m sz) m m (cs.take (m * sz)) :: R) := by
  have h1 := hs.perm pk.perm
  rcases Nat.eq_zero_or_pos m with h0 | h0
  · subst h0
    simpa using h1.tail.sl0 e sz (cutAd ad 0 0 sz)
  · have hc := (hs.sl ad)
    obtain ⟨b, pre, post, ⟨g1, g2, g3, g4⟩, h2⟩ := h1.slOpen (by omega)
    subst g3
    rw [cutAd_some (by omega), Nat.zero_mul, Nat.add_zero]
    have hml : m * sz ≤ cs.length := by rw [g1]; exact Nat.mul_le_mul_right _ hm
    rw [show pre ++ cs ++ post = pre ++ cs.take (m * sz) ++ (cs.drop (m * sz) ++ post) from by
      conv => lhs; rw [← List.take_append_drop (m * sz) cs]
      simp only [List.append_assoc]] at h2
    exact St.slShut h2 (by rw [List.length_take]; omega) (Nat.le_refl _) (by simp)
/-- 'append(s, x...)' where s has no room. -/
theorem st_appendT {s x t z sz by' e ad k c ad2 m c2 news ty ps af g} {cs : List Value} (ha : Fr a n l) (hw : Region.wanted ⟨some d, .call ⟨.builtin .append, #[s, x], #[t, t]⟩, ty, ps, af, g⟩ (yielded ops a.tmps) = true) (hs : St W w L)
    (ht : P.underlying t = some (.slice e)) (hi : TI P e z sz by') (hf : okB d n l = true) (hz : z.cells.size = sz) (hb : 0 < by')
    [e1 : Ev l s (.slice ad k c)] [pk : PickSl L ad k c e sz cs R] [e2 : Ev l x (.slice ad2 m c2)] (hr : 0 < m → ∃ b2 off2, ad2 = some ⟨b2, off2, none⟩ ∧ Rd w b2 off2 news) (hl : news.length = m * sz) (h1 : ∀ v ∈ news, v.oneCell' = true)
    (hsz : (k + m) * by' ≤ 140737488355328)
    (h : ∀ ad' c' a' w', Fr a' n ((d, .slice ad' (k + m) c') :: l) → St W w' (Sl e sz ad' (k + m) c' (cs ++ news) :: R) → K a' w') :
    StepK P ops Q ⟨some d, .call ⟨.builtin .append, #[s, x], #[t, t]⟩, ty, ps, af, g⟩ K a w := by
  rcases Nat.eq_zero_or_pos m with h0 | h0
  · subst h0
    have hkc := (hs.sl ad).2
    obtain rfl : news = [] := List.eq_nil_of_length_eq_zero (by rw [hl, Nat.zero_mul])
    refine st_append0 (ad := ad) (k := k) (c := c) (ad2 := ad2) (c2 := c2) ha hw ht hi hf hkc fun a' ha' => h ad c a' w ha' ?_
    rw [List.append_nil]
    exact hs.perm pk.perm
  · obtain ⟨b2, off2, rfl, hrd⟩ := hr h0
    exact st_append ha hw hs ht hi hz hf hrd hl h1 h0 hb hsz h
end

/-! The package's functions, whatever the number asked for. -/
theorem nin {I : Int} {n : Nat} (h : (decide (0 ≤ I) && decide (I < n)) = true) : ∃ K : Nat, I = K ∧ K < n := by
  simp only [Bool.and_eq_true, decide_eq_true_eq] at h
  exact ⟨I.toNat, by omega, by omega⟩
theorem look_any {W w : World} {L : List SP} {q : Nat} {ms : List Mm} {I : Int} {v : Bool} (hs : St W w (Net q ms :: L)) (hv : (decide (0 ≤ I) && decide (I < ms.length)) = v) :
    Calls Try.prog 12 #[.pointer (some ⟨q, 0, none⟩), .int .i64 I] w fun e w' => ∃ f t ad c bs, e = .returned (.tuple #[.agg #[.int .i64 f, .int .i64 t, .slice ad (List.length bs) c], .bool v]) ∧ (v = true → ms[I.toNat]? = some (f, t, bs)) ∧ St W w' (Sl 5 1 ad bs.length c (bc bs) :: Net q ms :: L) := by
  cases v with
  | true =>
    obtain ⟨K, rfl, hK⟩ := nin hv
    exact (look_at (f := ms[K].1) (t := ms[K].2.1) (bs := ms[K].2.2) hs (List.getElem?_eq_getElem hK)).mono fun e w' ⟨ad, c, h, hs⟩ => ⟨_, _, ad, c, _, h, (fun _ => by rw [Int.toNat_natCast]; exact List.getElem?_eq_getElem hK), hs⟩
  | false => exact (look_out hs hv).mono fun e w' ⟨h, hs⟩ => ⟨0, 0, none, 0, [], h, (fun h => by cases h), hs.sl0 _ _ _⟩
theorem take_any {W w : World} {L : List SP} {q : Nat} {ms : List Mm} {I : Int} {v : Bool} (hs : St W w (Net q ms :: L)) (hv : (decide (0 ≤ I) && decide (I < ms.length)) = v) :
    Calls Try.prog 13 #[.pointer (some ⟨q, 0, none⟩), .int .i64 I] w fun e w' => ∃ f t ad c bs, e = .returned (.tuple #[.agg #[.int .i64 f, .int .i64 t, .slice ad (List.length bs) c], .bool v]) ∧ (v = true → ms[I.toNat]? = some (f, t, bs)) ∧ St W w' (Sl 5 1 ad bs.length c (bc bs) :: Net q (if v then ms.eraseIdx I.toNat else ms) :: L) := by
  cases v with
  | true =>
    obtain ⟨K, rfl, hK⟩ := nin hv
    exact (take_at (f := ms[K].1) (t := ms[K].2.1) (bs := ms[K].2.2) hs (List.getElem?_eq_getElem hK)).mono fun e w' ⟨ad, c, h, hs⟩ => ⟨_, _, ad, c, _, h, (fun _ => by rw [Int.toNat_natCast]; exact List.getElem?_eq_getElem hK), hs⟩
  | false => exact (take_out hs hv).mono fun e w' ⟨h, hs⟩ => ⟨0, 0, none, 0, [], h, (fun h => by cases h), hs.sl0 _ _ _⟩
theorem drop_any {W w : World} {L : List SP} {q : Nat} {ms : List Mm} {I : Int} {v : Bool} (hs : St W w (Net q ms :: L)) (hv : (decide (0 ≤ I) && decide (I < ms.length)) = v) :
    Calls Try.prog 15 #[.pointer (some ⟨q, 0, none⟩), .int .i64 I] w fun e w' => e = .returned (.bool v) ∧ St W w' (Net q (if v then ms.eraseIdx I.toNat else ms) :: L) := by
  cases v with
  | true =>
    obtain ⟨K, rfl, hK⟩ := nin hv
    exact drop_in hs hK
  | false => exact drop_out hs hv

theorem eq_spec {W w : World} {L : List SP} {f t : Int} {ad1 ad2 : Option Addr} {n1 c1 n2 c2 : Nat} {bs : List UInt8} (hs : St W w L) (h1 : ∀ w', St W w' L → RdB w' ad1 n1 bs) (h2 : ∀ w', St W w' L → RdB w' ad2 n2 bs) :
    Calls Try.prog 14 #[.agg #[.int .i64 f, .int .i64 t, .slice ad1 n1 c1], .agg #[.int .i64 f, .int .i64 t, .slice ad2 n2 c2]] w fun e w' => e = .returned (.bool true) ∧ St W w' L := by
  refine calls_enter Try.func14 rfl Try.ntmps14 (Nat.le_of_ble_eq_true rfl) ?_
  intro a ha
  replace ha : Fr a 26 [(0, _), (1, _)] := ha
  refine wp_seq ?_
  refine wp_region_lit ?_
  refine wpList_k (st_box ha rfl hs rfl ?_); clear ha hs; (try clear a); (try clear w); intro b2 a w ha hs ho
  clear ho
  refine wpList_k (st_box ha rfl hs rfl ?_); clear ha hs; (try clear a); (try clear w); intro b3 a w ha hs ho
  clear ho
  refine wpList_k (st_set ha rfl (ex_assign ha) rfl ?_); clear ha; (try clear a); intro a ha
  refine wpList_nil ?_
  refine then_n ?_
  refine wp_seq ?_
  refine wp_region_lit ?_
  refine wpList_k (st_set ha rfl (ex_fieldAddr ha Try.underlying29 rfl Ty.t3 rfl) rfl ?_); clear ha; (try clear a); intro a ha
  refine wpList_k (st_set ha rfl (ex_load1 ha Try.underlying3 rfl (hs.rd1 rfl)) rfl ?_); clear ha; (try clear a); intro a ha
  refine wpList_k (st_set ha rfl (ex_fieldAddr ha Try.underlying29 rfl Ty.t3 rfl) rfl ?_); clear ha; (try clear a); intro a ha
  refine wpList_k (st_set ha rfl (ex_load1 ha Try.underlying3 rfl (hs.rd1 rfl)) rfl ?_); clear ha; (try clear a); intro a ha
  refine wpList_k (st_set ha rfl (ex_eql ha) rfl ?_); clear ha; (try clear a); intro a ha
  rw [decide_eq_true rfl] at ha
  refine wpList_k (st_set ha rfl (ex_move ha) rfl ?_); clear ha; (try clear a); intro a ha
  refine wpList_k (st_set ha (wgT ha rfl (s := 10)) (ex_fieldAddr ha Try.underlying29 rfl Ty.t3 rfl) rfl ?_); clear ha; (try clear a); intro a ha
  refine wpList_k (st_set ha (wgT ha rfl (s := 10)) (ex_load1 ha Try.underlying3 rfl (hs.rd1 rfl)) rfl ?_); clear ha; (try clear a); intro a ha
  refine wpList_k (st_set ha (wgT ha rfl (s := 10)) (ex_fieldAddr ha Try.underlying29 rfl Ty.t3 rfl) rfl ?_); clear ha; (try clear a); intro a ha
  refine wpList_k (st_set ha (wgT ha rfl (s := 10)) (ex_load1 ha Try.underlying3 rfl (hs.rd1 rfl)) rfl ?_); clear ha; (try clear a); intro a ha
  refine wpList_k (st_set ha (wgT ha rfl (s := 10)) (ex_eql ha) rfl ?_); clear ha; (try clear a); intro a ha
  rw [decide_eq_true rfl] at ha
  refine wpList_k (st_set ha rfl (ex_pickT ha) rfl ?_); clear ha; (try clear a); intro a ha
  refine wpList_k (st_set ha rfl (ex_move ha) rfl ?_); clear ha; (try clear a); intro a ha
  refine wpList_k (st_set ha (wgT ha rfl (s := 17)) (ex_fieldAddr ha Try.underlying29 rfl Ty.t27 rfl) rfl ?_); clear ha; (try clear a); intro a ha
  refine wpList_k (st_set ha (wgT ha rfl (s := 17)) (ex_load1 ha Try.underlying27 rfl (hs.rd1 rfl)) rfl ?_); clear ha; (try clear a); intro a ha
  refine wpList_k (st_set ha (wgT ha rfl (s := 17)) (ex_toString ha Try.underlying27 Try.underlying5 Try.underlying9 (h1 _ hs.sub)) rfl ?_); clear ha; (try clear a); intro a ha
  refine wpList_k (st_set ha (wgT ha rfl (s := 17)) (ex_fieldAddr ha Try.underlying29 rfl Ty.t27 rfl) rfl ?_); clear ha; (try clear a); intro a ha
  refine wpList_k (st_set ha (wgT ha rfl (s := 17)) (ex_load1 ha Try.underlying27 rfl (hs.rd1 rfl)) rfl ?_); clear ha; (try clear a); intro a ha
  refine wpList_k (st_set ha (wgT ha rfl (s := 17)) (ex_toString ha Try.underlying27 Try.underlying5 Try.underlying9 (h2 _ hs.sub)) rfl ?_); clear ha; (try clear a); intro a ha
  refine wpList_k (st_set ha (wgT ha rfl (s := 17)) (ex_eqlS ha) rfl ?_); clear ha; (try clear a); intro a ha
  rw [beq_self_eq_true] at ha
  refine wpList_k (st_set ha rfl (ex_pickT ha) rfl ?_); clear ha; (try clear a); intro a ha
  replace ha := ha.del 4
  refine wpList_k (st_set ha rfl (ex_assign ha) rfl ?_); clear ha; (try clear a); intro a ha
  refine wpList_nil ?_
  refine then_n ?_
  refine wp_ret ?_
  refine ret1 ha rfl ?_
  exact ⟨rfl, hs.sub⟩

/-- The law's own list. -/
def Own (ad : Option Addr) (c : Nat) (ms : List Mm) : SP := fun h => ∃ xs : List Ml, xs.map Ml.m = ms ∧ sepL [Sl 29 3 ad xs.length c (mlc xs), Bys xs] h
theorem Own.open {W w : World} {L : List SP} {ad : Option Addr} {c : Nat} {ms : List Mm} (hs : St W w (Own ad c ms :: L)) :
    ∃ xs, ms = xs.map Ml.m ∧ St W w (Sl 29 3 ad xs.length c (mlc xs) :: Bys xs :: L) := by
  obtain ⟨xs, h1, h⟩ := hs.exi (B := fun xs : List Ml => sepL [Sl 29 3 ad xs.length c (mlc xs), Bys xs]) (fun _ h => h)
  exact ⟨xs, h1.symm, h.open (fun _ x => x)⟩
end Go.Proofs.Ytjaiojfmcpbkbaa

