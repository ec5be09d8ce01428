/- SnapAll: the document's book of pictures, plainly. -/
import Derived.Test.YtpfblmpgljodmaaSnapT
namespace Go.Proofs.Ytpfblmpgljodmaa
open Go.RowKit
set_option linter.unusedVariables false
set_option linter.unusedSimpArgs false
set_option maxRecDepth 10000
set_option synthInstance.maxSize 4000
set_option synthInstance.maxHeartbeats 400000

/-- A picture of the book (its pages are numbers of the book's), and the pages that the store has for it. -/
abbrev Bz := Pic × (Nat → Nat)
def lv (z : Bz) : Bool := decide (0 < z.1.refs)
def stp (z : Bz) : Pic := ⟨z.1.id, z.1.refs, z.1.g, z.2⟩
def live (B : List Bz) : List Bz := B.filter lv
def cntB (B : List Bz) (p : Nat) : Nat := cnt ((live B).map (·.1)) p
structure BkOk (A : Sn) (B : List Bz) (nx : Nat) : Prop where
  pics : A.pics = (live B).map stp
  ids : ∀ (i : Nat) (z : Bz), B[i]? = some z → z.1.id = i + 1
  last : A.last = B.length
  pg : ∀ z ∈ B, ∀ k, k < 4 → 1 ≤ z.1.p k ∧ z.1.p k ≤ nx
  rel : ∀ z ∈ live B, ∀ z' ∈ live B, ∀ k k', k < 4 → k' < 4 → (z.1.p k = z'.1.p k' ↔ z.2 k = z'.2 k')

theorem cntB_le (B : List Bz) (p : Nat) : cntB B p ≤ 4 * B.length := by
  have h1 := cnt_le ((live B).map (·.1)) p
  rw [List.length_map] at h1
  have h2 : (live B).length ≤ B.length := List.length_filter_le _ _
  rw [cntB]; omega
theorem live_mem {B : List Bz} {z : Bz} (h : z ∈ live B) : z ∈ B ∧ 0 < z.1.refs := by
  have := List.mem_filter.1 h
  exact ⟨this.1, by simpa [lv] using this.2⟩
theorem cnt_rel {l : List Bz} {p p' : Nat} (h : ∀ z ∈ l, ∀ k, k < 4 → (z.1.p k = p ↔ z.2 k = p')) : cnt (l.map (·.1)) p = cnt (l.map stp) p' := by
  induction l with
  | nil => rfl
  | cons z l ih =>
    rw [List.map_cons, List.map_cons, cnt_cons, cnt_cons, ih fun z' hz => h z' (List.mem_cons_of_mem _ hz)]
    congr 1
    have h0 := h z List.mem_cons_self
    have hs : ∀ k, (stp z).p k = z.2 k := fun k => rfl
    rw [cntP_eq, cntP_eq]
    simp only [hs]
    have e : ∀ k, k < 4 → (if z.1.p k = p then 1 else 0) = (if z.2 k = p' then 1 else 0) := fun k hk => by
      by_cases h1 : z.1.p k = p
      · rw [if_pos h1, if_pos ((h0 k hk).1 h1)]
      · rw [if_neg h1, if_neg (fun h2 => h1 ((h0 k hk).2 h2))]
    rw [e 0 (by omega), e 1 (by omega), e 2 (by omega), e 3 (by omega)]
theorem distinct_rel : ∀ l : List (Nat × Nat), (∀ a ∈ l, ∀ b ∈ l, (a.1 = b.1 ↔ a.2 = b.2)) → distinct (l.map (·.1)) = distinct (l.map (·.2))
  | [], _ => rfl
  | a :: l, h => by
    rw [List.map_cons, List.map_cons, distinct, distinct, distinct_rel l fun x hx y hy => h x (List.mem_cons_of_mem _ hx) y (List.mem_cons_of_mem _ hy)]
    congr 1
    have : a.1 ∈ l.map (·.1) ↔ a.2 ∈ l.map (·.2) := by
      simp only [List.mem_map]
      constructor
      · rintro ⟨x, hx, e⟩; exact ⟨x, hx, (h x (List.mem_cons_of_mem _ hx) a List.mem_cons_self).1 e⟩
      · rintro ⟨x, hx, e⟩; exact ⟨x, hx, (h x (List.mem_cons_of_mem _ hx) a List.mem_cons_self).2 e⟩
    by_cases hm : a.1 ∈ l.map (·.1)
    · rw [if_pos hm, if_pos (this.1 hm)]
    · rw [if_neg hm, if_neg (fun h2 => hm (this.2 h2))]
/-- How many pages some have. -/
def usedTo (B : List Bz) (m : Nat) : Nat := (List.range (m + 1)).countP fun p => decide (0 < cntB B p)
section
variable {A : Sn} {B : List Bz} {nx kk c f : Nat} {z : Bz} {v : Int} {g : Nat → Int} {t : Nat → Nat}
theorem BkOk.cnt (h : BkOk A B nx) {z : Bz} (hz : z ∈ live B) {k : Nat} (hk : k < 4) : Go.Proofs.Ytpfblmpgljodmaa.cnt A.pics (z.2 k) = cntB B (z.1.p k) := by
  rw [h.pics, cntB]
  exact (cnt_rel fun z' hz' k' hk' => h.rel z' hz' z hz k' k hk' hk).symm
theorem BkOk.zero (h : BkOk A B nx) : cntB B 0 = 0 := by
  rcases Nat.eq_zero_or_pos (cntB B 0) with h0 | h0
  · exact h0
  · have h1 := mem_pages.2 h0
    simp only [pagesOf, List.mem_flatMap, List.mem_map] at h1
    obtain ⟨x, ⟨y, hy, rfl⟩, hx⟩ := h1
    have h2 := h.pg y (live_mem hy).1
    simp only [List.mem_cons, List.not_mem_nil, or_false] at hx
    have := h2 0 (by omega); have := h2 1 (by omega); have := h2 2 (by omega); have := h2 3 (by omega)
    omega
theorem BkOk.over (h : BkOk A B nx) {p : Nat} (hp : nx < p) : cntB B p = 0 := by
  rcases Nat.eq_zero_or_pos (cntB B p) with h0 | h0
  · exact h0
  · have h1 := mem_pages.2 h0
    simp only [pagesOf, List.mem_flatMap, List.mem_map] at h1
    obtain ⟨x, ⟨y, hy, rfl⟩, hx⟩ := h1
    have h2 := h.pg y (live_mem hy).1
    simp only [List.mem_cons, List.not_mem_nil, or_false] at hx
    have := h2 0 (by omega); have := h2 1 (by omega); have := h2 2 (by omega); have := h2 3 (by omega)
    omega
theorem BkOk.used (h : BkOk A B nx) (hr : ∀ x ∈ A.pics, ∀ k, k < 4 → x.p k < A.room) : A.used = usedTo B nx := by
  rw [used_eq hr, h.pics, usedTo]
  have h1 : (List.range (nx + 1)).countP (fun p => decide (0 < cntB B p)) = distinct (pagesOf ((live B).map (·.1))) := by
    rw [← distinct_count (nx + 1) (pagesOf ((live B).map (·.1)))]
    · refine List.countP_congr fun p _ => ?_
      rw [decide_eq_true_iff, decide_eq_true_iff, mem_pages]; exact Iff.rfl
    · intro p hp
      have h2 : 0 < cntB B p := mem_pages.1 hp
      rcases Nat.lt_or_ge nx p with h3 | h3
      · have := h.over h3; omega
      · omega
  rw [h1]
  have e1 : pagesOf ((live B).map (·.1)) = (((live B).flatMap fun z => [(z.1.p 0, z.2 0), (z.1.p 1, z.2 1), (z.1.p 2, z.2 2), (z.1.p 3, z.2 3)]) : List (Nat × Nat)).map (·.1) := by
    simp [pagesOf, List.map_flatMap, List.flatMap_map]
  have e2 : pagesOf ((live B).map stp) = (((live B).flatMap fun z => [(z.1.p 0, z.2 0), (z.1.p 1, z.2 1), (z.1.p 2, z.2 2), (z.1.p 3, z.2 3)]) : List (Nat × Nat)).map (·.2) := by
    simp [pagesOf, List.map_flatMap, List.flatMap_map, stp]
  rw [e1, e2]
  refine (distinct_rel _ fun a ha b hb => ?_).symm
  simp only [List.mem_flatMap] at ha hb
  obtain ⟨x, hx, ha⟩ := ha
  obtain ⟨y, hy, hb⟩ := hb
  have hr := h.rel x hx y hy
  simp only [List.mem_cons, List.not_mem_nil, or_false] at ha hb
  rcases ha with rfl | rfl | rfl | rfl <;> rcases hb with rfl | rfl | rfl | rfl <;> exact hr _ _ (by omega) (by omega)

theorem filter_set {α : Type} {f : α → Bool} {x y : α} : ∀ (l : List α) (k : Nat), l[k]? = some x → f x = true → f y = true → (l.set k y).filter f = (l.filter f).set ((l.take k).filter f).length y
  | [], k, h, _, _ => by simp at h
  | a :: l, 0, h, hx, hy => by
    simp at h; subst h
    simp [List.filter_cons, hx, hy]
  | a :: l, k + 1, h, hx, hy => by
    have := filter_set l k (by simpa using h) hx hy
    rw [List.set_cons_succ, List.filter_cons, List.filter_cons, List.take_succ_cons, List.filter_cons, this]
    split <;> rfl
theorem filter_unset {α : Type} {f : α → Bool} {x y : α} : ∀ (l : List α) (k : Nat), l[k]? = some x → f x = true → f y = false → (l.set k y).filter f = (l.filter f).eraseIdx ((l.take k).filter f).length
  | [], k, h, _, _ => by simp at h
  | a :: l, 0, h, hx, hy => by
    simp at h; subst h
    simp [List.filter_cons, hx, hy]
  | a :: l, k + 1, h, hx, hy => by
    have := filter_unset l k (by simpa using h) hx hy
    rw [List.set_cons_succ, List.filter_cons, List.filter_cons, List.take_succ_cons, List.filter_cons, this]
    split <;> rfl
/-- Where a live picture of the book lies in the store. -/
def idx (B : List Bz) (kk : Nat) : Nat := ((B.take kk).filter lv).length
theorem BkOk.at (h : BkOk A B nx) (hz : B[kk]? = some z) (h0 : 0 < z.1.refs) : A.pics[idx B kk]? = some (stp z) ∧ z ∈ live B := by
  have h1 : (live B)[idx B kk]? = some z := by
    have hf : lv z = true := by simpa [lv] using h0
    obtain ⟨hk, rfl⟩ := List.getElem?_eq_some_iff.1 hz
    have h2 : B = B.take kk ++ B[kk] :: B.drop (kk + 1) := by rw [← List.drop_eq_getElem_cons hk, List.take_append_drop]
    have h3 : live B = (B.take kk).filter lv ++ B[kk] :: (B.drop (kk + 1)).filter lv := by
      rw [live]
      conv => lhs; rw [h2]
      rw [List.filter_append, List.filter_cons, if_pos hf]
    rw [h3, idx, List.getElem?_append_right (Nat.le_refl _), Nat.sub_self]; rfl
  exact ⟨by rw [h.pics, List.getElem?_map, h1]; rfl, List.mem_of_getElem? h1⟩
theorem BkOk.dead (h : BkOk A B nx) (hz : B[kk]? = some z) (h0 : z.1.refs = 0) : ∀ y ∈ A.pics, (y.id : Int) ≠ (z.1.id : Int) := by
  intro y hy e
  rw [h.pics] at hy
  obtain ⟨u, hu, rfl⟩ := List.mem_map.1 hy
  obtain ⟨hu1, hu2⟩ := live_mem hu
  obtain ⟨j, hj⟩ := List.mem_iff_getElem?.1 hu1
  have e1 := h.ids j u hj
  have e2 := h.ids kk z hz
  have e3 : u.1.id = z.1.id := by have : (stp u).id = u.1.id := rfl; omega
  obtain rfl : j = kk := by omega
  rw [hz] at hj; cases hj
  omega
theorem BkOk.none (h : BkOk A B nx) : ∀ y ∈ A.pics, (y.id : Int) ≠ 0 := by
  intro y hy e
  rw [h.pics] at hy
  obtain ⟨u, hu, rfl⟩ := List.mem_map.1 hy
  obtain ⟨j, hj⟩ := List.mem_iff_getElem?.1 (live_mem hu).1
  have e1 := h.ids j u hj
  have : (stp u).id = u.1.id := rfl
  omega
theorem BkOk.begin (n m : Nat) : BkOk ⟨0, n, m, []⟩ [] 0 := ⟨rfl, fun i z h => by simp at h, rfl, fun z h => by simp at h, fun z h => by simp [live] at h⟩
theorem live_snoc {y : Bz} (hy : 0 < y.1.refs) : live (B ++ [y]) = live B ++ [y] := by
  rw [live, List.filter_append, live]
  congr 1
  rw [List.filter_cons, if_pos (by simpa [lv] using hy)]; rfl
theorem BkOk.make (h : BkOk A B nx) (hfr : ∀ j, j < 4 → Go.Proofs.Ytpfblmpgljodmaa.cnt A.pics (t j) = 0) (hap : Apart4 t) : BkOk (A.add g t) (B ++ [(⟨B.length + 1, 1, g, fun k => nx + 1 + k⟩, t)]) (nx + 4) := by
  have hl : live (B ++ [(⟨B.length + 1, 1, g, fun k => nx + 1 + k⟩, t)]) = live B ++ [(⟨B.length + 1, 1, g, fun k => nx + 1 + k⟩, t)] := live_snoc Nat.zero_lt_one
  refine ⟨?_, ?_, ?_, ?_, ?_⟩
  · rw [hl, List.map_append, Sn.add, h.pics, h.last]; rfl
  · intro i y hy
    rcases Nat.lt_or_ge i B.length with hi | hi
    · rw [List.getElem?_append_left hi] at hy; exact h.ids i y hy
    · rw [List.getElem?_append_right hi] at hy
      have : i - B.length = 0 := by
        have := (List.getElem?_eq_some_iff.1 hy).1; simp at this; omega
      rw [this] at hy; simp at hy; subst hy
      simp only; omega
  · simp [Sn.add, h.last]
  · intro y hy k hk
    rcases List.mem_append.1 hy with hy | hy
    · have := h.pg y hy k hk; omega
    · simp at hy; subst hy; simp only; omega
  · have hold : ∀ y ∈ live B, ∀ k k', k < 4 → k' < 4 → (y.1.p k = nx + 1 + k' ↔ y.2 k = t k') := fun y hy k k' hk hk' => by
      have h1 := h.pg y (live_mem hy).1 k hk
      refine ⟨fun e => by omega, fun e => ?_⟩
      have h2 := hfr k' hk'
      rw [← e, h.pics] at h2
      have h3 := cnt_mem (l := (live B).map stp) (x := stp y) (List.mem_map.2 ⟨y, hy, rfl⟩) (y.2 k)
      have h4 : 0 < cntP (stp y) ((stp y).p k) := cntP_pos hk
      have h5 : (stp y).p k = y.2 k := rfl
      rw [h5] at h4; omega
    rw [hl]
    intro y hy y' hy' k k' hk hk'
    rcases List.mem_append.1 hy with hy | hy <;> rcases List.mem_append.1 hy' with hy' | hy'
    · exact h.rel y hy y' hy' k k' hk hk'
    · simp at hy'; subst hy'; exact hold y hy k k' hk hk'
    · simp at hy; subst hy
      have := hold y' hy' k' k hk' hk
      exact ⟨fun e => (this.1 e.symm).symm, fun e => (this.2 e.symm).symm⟩
    · simp at hy hy'; subst hy; subst hy'
      simp only
      refine ⟨fun e => ?_, fun e => ?_⟩
      · have : k = k' := by omega
        rw [this]
      · have := hap k k' hk hk' e
        omega
theorem BkOk.fork (h : BkOk A B nx) (hz : B[kk]? = some z) (h0 : 0 < z.1.refs) : BkOk (A.add z.1.g z.2) (B ++ [(⟨B.length + 1, 1, z.1.g, z.1.p⟩, z.2)]) nx := by
  have hl : live (B ++ [(⟨B.length + 1, 1, z.1.g, z.1.p⟩, z.2)]) = live B ++ [(⟨B.length + 1, 1, z.1.g, z.1.p⟩, z.2)] := live_snoc Nat.zero_lt_one
  have hzl := (h.at hz h0).2
  have hm : ∀ y ∈ live B ++ [(⟨B.length + 1, 1, z.1.g, z.1.p⟩, z.2)], ∃ y' ∈ live B, y.1.p = y'.1.p ∧ y.2 = y'.2 := fun y hy => by
    rcases List.mem_append.1 hy with hy | hy
    · exact ⟨y, hy, rfl, rfl⟩
    · simp at hy; subst hy; exact ⟨z, hzl, rfl, rfl⟩
  refine ⟨?_, ?_, ?_, ?_, ?_⟩
  · rw [hl, List.map_append, Sn.add, h.pics, h.last]; rfl
  · intro i y hy
    rcases Nat.lt_or_ge i B.length with hi | hi
    · rw [List.getElem?_append_left hi] at hy; exact h.ids i y hy
    · rw [List.getElem?_append_right hi] at hy
      have : i - B.length = 0 := by
        have := (List.getElem?_eq_some_iff.1 hy).1; simp at this; omega
      rw [this] at hy; simp at hy; subst hy
      simp only; omega
  · simp [Sn.add, h.last]
  · intro y hy k hk
    rcases List.mem_append.1 hy with hy | hy
    · exact h.pg y hy k hk
    · simp at hy; subst hy; exact h.pg z (List.mem_of_getElem? hz) k hk
  · rw [hl]
    intro y hy y' hy' k k' hk hk'
    obtain ⟨u, hu, e1, e2⟩ := hm y hy
    obtain ⟨u', hu', e3, e4⟩ := hm y' hy'
    rw [e1, e2, e3, e4]
    exact h.rel u hu u' hu' k k' hk hk'
theorem ids_set {y : Bz} (h : ∀ (i : Nat) (z : Bz), B[i]? = some z → z.1.id = i + 1) (hz : B[kk]? = some z) (hy : y.1.id = z.1.id) : ∀ (i : Nat) (u : Bz), (B.set kk y)[i]? = some u → u.1.id = i + 1 := by
  intro i u hu
  by_cases hi : kk = i
  · subst hi
    rw [List.getElem?_set_self (List.getElem?_eq_some_iff.1 hz).1] at hu; cases hu
    rw [hy]; exact h kk z hz
  · rw [List.getElem?_set_ne hi] at hu; exact h i u hu
/-- One live picture is changed, and stays live. -/
theorem BkOk.put {n : Nat} (h : BkOk A B nx) (hz : B[kk]? = some z) (h0 : 0 < z.1.refs) {y : Bz} (hy : y.1.id = z.1.id) (hy0 : 0 < y.1.refs) {m : Nat} (hm : nx ≤ m) (hp : ∀ k, k < 4 → 1 ≤ y.1.p k ∧ y.1.p k ≤ m)
    (hr : ∀ u ∈ live B, u ≠ z → ∀ k k', k < 4 → k' < 4 → (u.1.p k = y.1.p k' ↔ u.2 k = y.2 k')) (hs : ∀ k k', k < 4 → k' < 4 → (y.1.p k = y.1.p k' ↔ y.2 k = y.2 k')) :
    BkOk { A with n := n, pics := A.pics.set (idx B kk) (stp y) } (B.set kk y) m := by
  have hk := (List.getElem?_eq_some_iff.1 hz).1
  have hl : live (B.set kk y) = (live B).set (idx B kk) y := filter_set B kk hz (by simpa [lv] using h0) (by simpa [lv] using hy0)
  have hmem : ∀ u ∈ live (B.set kk y), u = y ∨ (u ∈ live B ∧ u ≠ z) := fun u hu => by
    obtain ⟨h1, h2⟩ := live_mem hu
    obtain ⟨i, hi⟩ := List.mem_iff_getElem?.1 h1
    by_cases e : kk = i
    · subst e
      rw [List.getElem?_set_self hk] at hi; cases hi; exact .inl rfl
    · rw [List.getElem?_set_ne e] at hi
      refine .inr ⟨List.mem_filter.2 ⟨List.mem_of_getElem? hi, by simpa [lv] using h2⟩, fun e2 => ?_⟩
      have e3 := h.ids i u hi
      have e4 := h.ids kk z hz
      rw [e2] at e3; omega
  refine ⟨?_, ids_set h.ids hz hy, by simpa using h.last, ?_, ?_⟩
  · simp only [hl, List.map_set, h.pics]
  · intro u hu k hk
    rcases List.mem_or_eq_of_mem_set hu with hu | rfl
    · have := h.pg u hu k hk; omega
    · exact hp k hk
  · intro u hu u' hu' k k' hk hk'
    rcases hmem u hu with rfl | ⟨h1, h2⟩ <;> rcases hmem u' hu' with rfl | ⟨h3, h4⟩
    · exact hs k k' hk hk'
    · have := hr u' h3 h4 k' k hk' hk
      exact ⟨fun e => (this.1 e.symm).symm, fun e => (this.2 e.symm).symm⟩
    · exact hr u h1 h2 k k' hk hk'
    · exact h.rel u h1 u' h3 k k' hk hk'
/-- The same pages. -/
theorem BkOk.same {n : Nat} (h : BkOk A B nx) (hz : B[kk]? = some z) (h0 : 0 < z.1.refs) {y : Bz} (hy : y.1.id = z.1.id) (hy0 : 0 < y.1.refs) (hp : y.1.p = z.1.p) (hq : y.2 = z.2) :
    BkOk { A with n := n, pics := A.pics.set (idx B kk) (stp y) } (B.set kk y) nx := by
  have hzl := (h.at hz h0).2
  refine h.put hz h0 hy hy0 (Nat.le_refl _) (fun k hk => by rw [hp]; exact h.pg z (List.mem_of_getElem? hz) k hk) (fun u hu _ k k' hk hk' => by rw [hp, hq]; exact h.rel u hu z hzl k k' hk hk') (fun k k' hk hk' => by rw [hp, hq]; exact h.rel z hzl z hzl k k' hk hk')
theorem BkOk.gone (h : BkOk A B nx) (hz : B[kk]? = some z) (h0 : 0 < z.1.refs) {y : Bz} (hy : y.1.id = z.1.id) (hy0 : y.1.refs = 0) (hp : y.1.p = z.1.p) :
    BkOk { A with pics := A.pics.eraseIdx (idx B kk) } (B.set kk y) nx := by
  have hk := (List.getElem?_eq_some_iff.1 hz).1
  have hl : live (B.set kk y) = (live B).eraseIdx (idx B kk) := filter_unset B kk hz (by simpa [lv] using h0) (by simp [lv, hy0])
  refine ⟨?_, ids_set h.ids hz hy, by simpa using h.last, ?_, ?_⟩
  · simp only [hl, h.pics]
    rw [List.eraseIdx_eq_take_drop_succ, List.eraseIdx_eq_take_drop_succ, List.map_append, List.map_take, List.map_drop]
  · intro u hu k hk
    rcases List.mem_or_eq_of_mem_set hu with hu | rfl
    · exact h.pg u hu k hk
    · rw [hp]; exact h.pg z (List.mem_of_getElem? hz) k hk
  · rw [hl]
    intro u hu u' hu' k k' hk hk'
    exact h.rel u (List.mem_of_mem_eraseIdx hu) u' (List.mem_of_mem_eraseIdx hu') k k' hk hk'
/-- A page of its own. -/
theorem BkOk.own {n : Nat} (h : BkOk A B nx) (hz : B[kk]? = some z) (h0 : 0 < z.1.refs) (hc : c < 32) (hf : Go.Proofs.Ytpfblmpgljodmaa.cnt A.pics f = 0) :
    BkOk { A with n := n, pics := A.pics.set (idx B kk) (stp (⟨z.1.id, z.1.refs, g, fun j => if j = c / 8 then nx + 1 else z.1.p j⟩, fun j => if j = c / 8 then f else z.2 j)) }
      (B.set kk (⟨z.1.id, z.1.refs, g, fun j => if j = c / 8 then nx + 1 else z.1.p j⟩, fun j => if j = c / 8 then f else z.2 j)) (nx + 1) := by
  have hzl := (h.at hz h0).2
  have hff : ∀ u ∈ live B, ∀ k, k < 4 → u.2 k ≠ f := fun u hu k hk e => by
    rw [← e, h.pics] at hf
    have h3 := cnt_mem (l := (live B).map stp) (x := stp u) (List.mem_map.2 ⟨u, hu, rfl⟩) (u.2 k)
    have h4 : 0 < cntP (stp u) ((stp u).p k) := cntP_pos hk
    have h5 : (stp u).p k = u.2 k := rfl
    rw [h5] at h4; omega
  have hpg : ∀ u ∈ live B, ∀ k, k < 4 → u.1.p k ≤ nx := fun u hu k hk => (h.pg u (live_mem hu).1 k hk).2
  refine h.put (m := nx + 1) hz h0 (by rfl) (by exact h0) (by omega) (fun k hk => ?_) (fun u hu _ k k' hk hk' => ?_) (fun k k' hk hk' => ?_)
  · have := h.pg z (List.mem_of_getElem? hz) k hk
    simp only; split <;> omega
  · have h1 := hpg u hu k hk
    have h2 := hff u hu k hk
    have h3 := h.rel u hu z hzl k k' hk hk'
    by_cases e : k' = c / 8
    · simp only [e, if_pos]
      exact ⟨fun e => by omega, fun e => absurd e h2⟩
    · simp only [if_neg e]; exact h3
  · have h1 := hpg z hzl k hk
    have h2 := hff z hzl k hk
    have h1' := hpg z hzl k' hk'
    have h2' := hff z hzl k' hk'
    have h3 := h.rel z hzl z hzl k k' hk hk'
    by_cases e : k' = c / 8 <;> by_cases e2 : k = c / 8
    · simp [e, e2]
    · simp only [e, if_pos, if_neg e2]
      exact ⟨fun e => by omega, fun e => absurd e h2⟩
    · simp only [e2, if_pos, if_neg e]
      exact ⟨fun e => by omega, fun e => absurd e.symm h2'⟩
    · simp only [if_neg e, if_neg e2]; exact h3
end
end Go.Proofs.Ytpfblmpgljodmaa

