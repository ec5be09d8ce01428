/- The walks of package branch, further. -/
import Derived.Test.YtneafbkhaooelaaBranch
namespace Go.Proofs.Ytneafbkhaooelaa
open Go.RowKit
set_option linter.unusedVariables false
set_option linter.unusedSimpArgs false
set_option maxRecDepth 10000
set_option synthInstance.maxSize 4000
set_option synthInstance.maxHeartbeats 400000

/-- The store behind one hold less of a picture, if it is live. -/
def Sn.dropId (A : Sn) (id : Nat) : Sn := match A.pics.findIdx? (fun x => x.id == id) with
  | some i => match A.pics[i]? with
    | some x => A.drop i x
    | none => A
  | none => A
section
variable {W w : World} {L L' R : List SP} {tq sq q r n c k : Nat} {ad : Option Addr} {A : Sn} {T : Tr} {x y : Br} {xs : List Bx} {p : List (List UInt8)}
theorem dropId_none {id : Nat} (h : ∀ y ∈ A.pics, y.id ≠ id) : A.dropId id = A := by
  have : A.pics.findIdx? (fun x => x.id == id) = none := by rw [List.findIdx?_eq_none_iff]; intro y hy; simpa using h y hy
  rw [Sn.dropId, this]
theorem dropId_some {i : Nat} {px : Pic} (hw : WF A) (hx : A.pics[i]? = some px) : A.dropId px.id = A.drop i px := by
  obtain ⟨hi, he⟩ := List.getElem?_eq_some_iff.1 hx
  have : A.pics.findIdx? (fun x => x.id == px.id) = some i := by
    rw [List.findIdx?_eq_some_iff_getElem]
    refine ⟨hi, by simp [he], fun j hj => ?_⟩
    have hjl : j < A.pics.length := by omega
    simp only [Bool.not_eq_true, beq_eq_false_iff_ne, ne_eq]
    intro e
    have := hw.ids (List.getElem?_eq_getElem hjl) hx e
    omega
  rw [Sn.dropId, this]
  simp only [hx]
theorem snap_dropId {id : Nat} (hs : St W w (Store q r A :: L)) :
    Calls Try.prog 19 #[.pointer (some ⟨q, 0, none⟩), .int .i64 id] w fun e w' => ∃ v, e = .returned (.bool v) ∧ St W w' (Store q r (A.dropId id) :: L) := by
  by_cases h : ∃ px ∈ A.pics, px.id = id
  · obtain ⟨px, h1, rfl⟩ := h
    obtain ⟨i, hi⟩ := List.mem_iff_getElem?.1 h1
    have hw := (Store.open hs)
    obtain ⟨_, _, _, _, _, hw, _, _⟩ := hw
    refine (snap_drop hs hi).mono fun e w' ⟨h2, h3⟩ => ⟨_, h2, ?_⟩
    rw [dropId_some hw hi]; exact h3
  · have hn : ∀ y ∈ A.pics, y.id ≠ id := fun y hy e => h ⟨y, hy, e⟩
    refine (snap_drop_no (X := (id : Int)) hs (fun y hy e => hn y hy (by omega))).mono fun e w' ⟨h2, h3⟩ => ⟨_, h2, ?_⟩
    rw [dropId_none hn]; exact h3
theorem set_mid {p q r : List Value} {i : Nat} {v : Value} (h : i < q.length) : (p ++ q ++ r).set (p.length + i) v = p ++ q.set i v ++ r := by
  rw [List.append_assoc, List.set_append_right _ _ (by omega), show p.length + i - p.length = i from by omega, List.set_append_left _ _ h, List.append_assoc]

theorem brC_one (x : Br) (ad : Option Addr) (c : Nat) : ∀ v ∈ brC x ad c, v.oneCell' = true := brc_one (x, ad, c)
theorem publish_ok {i d : Nat} {px : Pic} (hs : St W w (Tree tq sq T :: Store sq r A :: L)) (hx : T.l[k]? = some x) (hd : x.done < d) (hd2 : d ≤ x.press.length) (hp : A.pics[i]? = some px) :
    Calls Try.prog 38 #[.pointer (some ⟨tq, 0, none⟩), .int .i64 x.id, .int .i64 d, .int .i64 px.id] w fun e w' => e = .returned (.bool true) ∧ St W w' (Tree tq sq (T.pub k x d px.id) :: Store sq r (A.dropId x.snap) :: L) := by
  have hkl := (List.getElem?_eq_some_iff.1 hx).1
  have hpr : 1 ≤ px.refs := by
    obtain ⟨_, _, _, _, _, hw, _, _⟩ := Store.open (hs.pick (Store sq r A))
    exact (hw.pic px (List.mem_of_getElem? hp)).2.2.1
  refine calls_enter Try.func38 rfl Try.ntmps38 (Nat.le_of_ble_eq_true rfl) ?_
  intro a ha
  replace ha : Fr a 78 [(0, _), (1, _), (2, _), (3, _)] := ha
  refine WS <| WR ?_
  refine S1 ha ?_; clear ha a; intro a ha
  refine LN <| TN <| WS <| WR ?_
  iterate 2 (refine S1 ha ?_; clear ha a; intro a ha)
  refine SK (st_call ha rfl Ty.c36 rfl (find_at hs hx) ?_); clear ha hs
  rintro e w ⟨rfl, hs⟩
  refine ⟨_, rfl, ?_⟩
  intro a ha
  refine S1 ha ?_; clear ha a; intro a ha
  refine LN <| TN <| WS <| WS ?_
  obtain ⟨ad, c, xs, h1, hw, hs⟩ := Tree.open (hs.tree tq)
  obtain ⟨ax, cx, hxx⟩ := bx_at h1 hx
  obtain ⟨b', off', rfl, hrd⟩ := hs.tail.slRd ad (by omega)
  have hrk := row_rd hrd hxx
  have hdc := hrk 3 _ rfl
  have hpc := hrk 2 _ rfl
  refine WR ?_
  iterate 3 (refine S1 ha ?_; clear ha a; intro a ha)
  rw [decide_eq_false (by omega)] at ha
  iterate 4 (refine S1g (s := 15) ha ?_; clear ha a; intro a ha)
  refine SLg (s := 15) ha (hs.rd1 rfl) ?_; clear ha a; intro a ha
  refine S1g (s := 15) ha ?_; clear ha a; intro a ha
  refine SK (st_set ha (wgT ha rfl (s := 15)) (ex_indexAddr ha Try.underlying40 Ty.t48 (by omega)) rfl ?_); clear ha a; intro a ha
  refine S1g (s := 15) ha ?_; clear ha a; intro a ha
  refine SLg (s := 15) ha (hdc) ?_; clear ha a; intro a ha
  refine S1g (s := 15) ha ?_; clear ha a; intro a ha
  refine PF ha ?_; clear ha a; intro a ha
  refine S1 ha ?_; clear ha a; intro a ha
  rw [decide_eq_false (by omega)] at ha
  iterate 4 (refine S1g (s := 27) ha ?_; clear ha a; intro a ha)
  refine SLg (s := 27) ha (hs.rd1 rfl) ?_; clear ha a; intro a ha
  refine S1g (s := 27) ha ?_; clear ha a; intro a ha
  refine SK (st_set ha (wgT ha rfl (s := 27)) (ex_indexAddr ha Try.underlying40 Ty.t48 (by omega)) rfl ?_); clear ha a; intro a ha
  refine S1g (s := 27) ha ?_; clear ha a; intro a ha
  refine SLg (s := 27) ha (hpc) ?_; clear ha a; intro a ha
  iterate 2 (refine S1g (s := 27) ha ?_; clear ha a; intro a ha)
  refine PF ha ?_; clear ha a; intro a ha
  refine S1 ha ?_; clear ha a; intro a ha
  rw [decide_eq_false (by omega)] at ha
  iterate 3 (refine S1g (s := 40) ha ?_; clear ha a; intro a ha)
  refine SLg (s := 40) ha (hs.rd1 rfl) ?_; clear ha a; intro a ha
  refine S1g (s := 40) ha ?_; clear ha a; intro a ha
  refine SK (st_call ha (wgT ha rfl (s := 40)) Ty.c61 rfl (snap_refs (hs.pick (Store sq r A)) hp) ?_); clear ha hs
  rintro e w ⟨rfl, hs⟩
  refine ⟨_, rfl, ?_⟩
  intro a ha
  refine S1g (s := 40) ha ?_; clear ha a; intro a ha
  refine PF ha ?_; clear ha a; intro a ha
  refine LN <| TN ?_
  rw [decide_eq_false (by omega)] at ha
  refine WFa ha <| WK <| TN <| WS ?_
  have hrd2 := hs.slRdAt (n := T.l.length) b' off' (by omega)
  have hsc : w.drew.cell? ⟨b', off' + k * 5 + 4, none⟩ = some (.int .i64 x.snap) := row_rd hrd2 hxx 4 _ rfl
  refine DW (m := 13) (Old w.drew) [7, 9, 10, 11] [0, 1, 2, 4, 5, 6, 8, 3, 7, 9, 10, 11, 12] Ty.mixed (pk_then pk_body) (fun hpk => ?_)
  replace hs := hs.drew
  have hC := Old.refl w.drew
  generalize w.drew = w at hs hC hpk hsc ⊢
  iterate 7 (refine DP hpk ha rfl ?_; clear ha a; intro a ha)
  refine DL hpk ha rfl (fun w hc => hc.cell (hs.rd1 rfl)) hC ?_; clear ha a; intro a ha
  refine D1 rfl (st_set ha rfl (ex_load1 ha Try.underlying40 rfl (hs.rd1 rfl)) rfl ?_); clear ha a; intro a ha
  refine ⟨fun _ => hC, ?_⟩
  refine D1 rfl (st_set ha rfl (ex_indexAddr ha Try.underlying40 Ty.t48 (by omega)) rfl ?_); clear ha a; intro a ha
  refine ⟨fun _ => hC, ?_⟩
  refine D1 rfl (st_set ha rfl (ex_fieldAddr (k := 4) ha Try.underlying48 rfl Ty.t37 rfl) rfl ?_); clear ha a; intro a ha
  refine ⟨fun _ => hC, ?_⟩
  refine D1 rfl (st_set ha rfl (ex_load1 ha Try.underlying37 rfl (hsc)) rfl ?_); clear ha a; intro a ha
  refine ⟨fun _ => hC, ?_⟩
  refine D1 rfl (st_call ha rfl Ty.c19 rfl (snap_dropId (id := x.snap) (hs.pick (Store sq r A))) ?_); clear ha hs
  rintro e w ⟨_, rfl, hs⟩
  refine ⟨_, rfl, ?_⟩
  intro a ha
  refine ⟨fun h => absurd h (by decide), ?_⟩
  refine DD <| TN <| WS ?_
  obtain ⟨bb, pre, post, ⟨h3, h4, h5, h6⟩, hs0⟩ := (hs.pick (Sl 48 5 (some ⟨b', off', none⟩) T.l.length c (rows brc xs))).slOpen (by have := (hs.sl (some ⟨b', off', none⟩)).2; omega)
  cases h5
  replace hs := hs0
  clear hs0
  have hxl : xs.length = T.l.length := by rw [← h1, List.length_map]
  have hkx : k < xs.length := by omega
  have hxe : xs[k] = (x, ax, cx) := (List.getElem?_eq_some_iff.1 hxx).2
  have hrl : (rows brc xs).length = xs.length * 5 := rows_len brc_len xs
  refine DW (m := 18) (Old w.drew) [8] [0, 1, 2, 4, 5, 6, 7, 9, 10, 11, 3, 8, 12, 13, 14, 15, 16, 17] Ty.mixed (pk_then pk_body) (fun hpk => ?_)
  replace hs := hs.drew
  have hC := Old.refl w.drew
  generalize w.drew = w at hs hC hpk ⊢
  iterate 10 (refine DP hpk ha rfl ?_; clear ha a; intro a ha)
  refine DL hpk ha rfl (fun w hc => hc.cell (hs.rd1 rfl)) hC ?_; clear ha a; intro a ha
  refine D1 rfl (st_set ha rfl (ex_load1 ha Try.underlying40 rfl (hs.rd1 rfl)) rfl ?_); clear ha a; intro a ha
  refine ⟨fun _ => hC, ?_⟩
  refine DQ hpk ha rfl rfl (fun w => ex_indexAddr ha Try.underlying40 Ty.t48 (by omega)) ?_; clear ha a; intro a ha
  refine DP hpk ha rfl ?_; clear ha a; intro a ha
  refine D1 rfl (st_store ha rfl hs Ty.t3 rfl (by simp only [List.length_append]; omega) ?_); clear ha hs a; (try clear w); intro a w ha hs
  refine ⟨fun h => absurd h (by decide), ?_⟩
  rw [show pre.length + k * 5 + 3 = pre.length + (k * 5 + 3) from by omega, set_mid (by omega), rows_set1 brc_len xs ({ x with done := d }, ax, cx) hkx (by decide) (by rw [hxe]; rfl)] at hs
  refine DQ hpk ha rfl rfl (fun w => ex_indexAddr ha Try.underlying40 Ty.t48 (by omega)) ?_; clear ha a; intro a ha
  refine DP hpk ha rfl ?_; clear ha a; intro a ha
  refine D1 rfl (st_store ha rfl hs Ty.t37 rfl (by simp only [List.length_append, rows_len brc_len, List.length_set]; omega) ?_); clear ha hs a; (try clear w); intro a w ha hs
  refine ⟨fun h => absurd h (by decide), ?_⟩
  rw [show pre.length + k * 5 + 4 = pre.length + (k * 5 + 4) from by omega, set_mid (by simp only [rows_len brc_len, List.length_set]; omega), rows_set1 brc_len _ ({ x with done := d, snap := px.id }, ax, cx) (by rw [List.length_set]; exact hkx) (by decide) (by rw [List.getElem_set_self]; rfl), List.set_set] at hs
  refine DD <| TN <| WS <| WR ?_
  refine S1d ha ?_; clear ha a; intro a ha
  refine LN <| TN <| wp_ret ?_
  refine ret1 ha rfl ?_
  refine ⟨rfl, ?_⟩
  have h7 := St.slShut (n := T.l.length) (c := c) (sz := 5) (cs := rows brc (xs.set k ({ x with done := d, snap := px.id }, ax, cx))) (hs.bring b') (by rw [rows_len brc_len, List.length_set, hxl]) h4 h6
  have h8 := (h7.pick (All bro xs)).allOut hkx
  rw [hxe] at h8
  have h9 : St W w (bro ({ x with done := d, snap := px.id }, ax, cx) :: All bro (xs.eraseIdx k) :: _) := h8
  have h10 := St.allPut hkx h9
  exact Tree.close (T := T.pub k x d px.id) (ad := some ⟨b', pre.length, none⟩) (c := c) (xs := xs.set k ({ x with done := d, snap := px.id }, ax, cx)) (n := T.l.length) (most := T.most) (last := T.last) (epoch := T.epoch) h10 (by rw [List.map_set, h1]; rfl) (hw.pub hx hd2) rfl (by simp [Tr.pub]) rfl rfl

/-! Best. -/
def bestStep (frm : Int) (p : List (List UInt8)) (b : Br) (x : Br) : Br := if x.frm = frm ∧ b.done < x.done ∧ x.done ≤ p.length ∧ alikeP (x.press.take x.done) p = true then x else b
def br0 : Br := ⟨0, 0, [], 0, 0⟩
def Tr.best (T : Tr) (frm : Int) (p : List (List UInt8)) : Br := T.l.foldl (bestStep frm p) br0
theorem best_succ {l : List Br} {frm : Int} (h : l[k]? = some x) : (l.take (k + 1)).foldl (bestStep frm p) br0 = bestStep frm p ((l.take k).foldl (bestStep frm p) br0) x := by
  obtain ⟨hk, rfl⟩ := List.getElem?_eq_some_iff.1 h
  rw [List.take_succ_eq_append_getElem hk, List.foldl_append]; rfl
def Tr.cut (T : Tr) (wh : Br → Bool) : Tr := { T with l := T.l.filter (fun x => !wh x), epoch := T.epoch + if (T.l.filter (fun x => !wh x)).length < T.l.length then 1 else 0 }
def Sn.dropAll (A : Sn) (l : List Br) : Sn := l.foldl (fun A x => A.dropId x.snap) A
theorem dropAll_succ {A : Sn} {l : List Br} {wh : Br → Bool} (h : l[k]? = some x) : A.dropAll ((l.take (k + 1)).filter wh) = if wh x = true then (A.dropAll ((l.take k).filter wh)).dropId x.snap else A.dropAll ((l.take k).filter wh) := by
  obtain ⟨hk, rfl⟩ := List.getElem?_eq_some_iff.1 h
  rw [List.take_succ_eq_append_getElem hk, List.filter_append]
  by_cases hw : wh l[k] = true
  · rw [if_pos hw, Sn.dropAll, List.foldl_append]; simp [hw, Sn.dropAll]
  · rw [if_neg hw]; simp [hw]
theorem filter_succ {α : Type} {l : List α} {f : α → Bool} {z : α} (h : l[k]? = some z) : (l.take (k + 1)).filter f = (l.take k).filter f ++ if f z = true then [z] else [] := by
  obtain ⟨hk, rfl⟩ := List.getElem?_eq_some_iff.1 h
  rw [List.take_succ_eq_append_getElem hk, List.filter_append]
  by_cases hw : f l[k] = true <;> simp [hw]
theorem map_filter_fst (xs : List Bx) (f : Br → Bool) : (xs.filter (fun z => f z.1)).map (·.1) = (xs.map (·.1)).filter f := by
  induction xs with
  | nil => rfl
  | cons z xs ih =>
    by_cases h : f z.1 = true <;> simp [h] at ih ⊢ <;> exact ih
theorem WT.cut (h : WT T) (he : T.epoch + 1 < 1099511627776) (wh : Br → Bool) : WT (T.cut wh) := by
  obtain ⟨a1, a2, a3, a4, a5⟩ := h
  refine ⟨⟨a1.1, ?_⟩, a2, ?_, ?_, fun y hy => ?_⟩
  · simp only [Tr.cut]; exact Nat.le_trans (List.length_filter_le _ _) a1.2
  · simp only [Tr.cut]; split <;> omega
  · simp only [Tr.cut]
    exact a4.sublist (List.Sublist.map _ List.filter_sublist)
  · simp only [Tr.cut] at hy ⊢
    exact a5 y (List.mem_filter.1 hy).1
set_option maxHeartbeats 1000000 in
def pruneP (frm : Int) (p : List (List UInt8)) (x : Br) : Bool := !decide (x.frm = frm) || !alikeP x.press p
end
end Go.Proofs.Ytneafbkhaooelaa

