/- The walks of package branch, further. -/
import Derived.Test.YtneafbkhaooelaaGreatBranch
namespace Go.Proofs.YtneafbkhaooelaaGreat
open Go.RowKit
set_option linter.unusedVariables false
set_option linter.unusedSimpArgs false
set_option maxRecDepth 10000
set_option synthInstance.maxSize 4000
set_option synthInstance.maxHeartbeats 400000

/-- The store behind one hold less of a picture, if it is live. -/
def Sn.dropId (A : Sn) (id : Nat) : Sn := match A.pics.findIdx? (fun x => x.id == id) with
  | some i => match A.pics[i]? with
    | some x => A.drop i x
    | none => A
  | none => A
section
variable {W w : World} {L L' R : List SP} {tq sq q r n c k : Nat} {ad : Option Addr} {A : Sn} {T : Tr} {x y : Br} {xs : List Bx} {p : List (List UInt8)}
theorem dropId_none {id : Nat} (h : ∀ y ∈ A.pics, y.id ≠ id) : A.dropId id = A := by
  have : A.pics.findIdx? (fun x => x.id == id) = none := by rw [List.findIdx?_eq_none_iff]; intro y hy; simpa using h y hy
  rw [Sn.dropId, this]
theorem dropId_some {i : Nat} {px : Pic} (hw : WF A) (hx : A.pics[i]? = some px) : A.dropId px.id = A.drop i px := by
  obtain ⟨hi, he⟩ := List.getElem?_eq_some_iff.1 hx
  have : A.pics.findIdx? (fun x => x.id == px.id) = some i := by
    rw [List.findIdx?_eq_some_iff_getElem]
    refine ⟨hi, by simp [he], fun j hj => ?_⟩
    have hjl : j < A.pics.length := by omega
    simp only [Bool.not_eq_true, beq_eq_false_iff_ne, ne_eq]
    intro e
    have := hw.ids (List.getElem?_eq_getElem hjl) hx e
    omega
  rw [Sn.dropId, this]
  simp only [hx]
theorem snap_dropId {id : Nat} (hs : St W w (Store q r A :: L)) :
    Calls Tryz.prog 21 #[.pointer (some ⟨q, 0, none⟩), .int .i64 id] w fun e w' => ∃ v, e = .returned (.bool v) ∧ St W w' (Store q r (A.dropId id) :: L) := by
  by_cases h : ∃ px ∈ A.pics, px.id = id
  · obtain ⟨px, h1, rfl⟩ := h
    obtain ⟨i, hi⟩ := List.mem_iff_getElem?.1 h1
    have hw := (Store.open hs)
    obtain ⟨_, _, _, _, _, hw, _, _⟩ := hw
    refine (snap_drop hs hi).mono fun e w' ⟨h2, h3⟩ => ⟨_, h2, ?_⟩
    rw [dropId_some hw hi]; exact h3
  · have hn : ∀ y ∈ A.pics, y.id ≠ id := fun y hy e => h ⟨y, hy, e⟩
    refine (snap_drop_no (X := (id : Int)) hs (fun y hy e => hn y hy (by omega))).mono fun e w' ⟨h2, h3⟩ => ⟨_, h2, ?_⟩
    rw [dropId_none hn]; exact h3
theorem set_mid {p q r : List Value} {i : Nat} {v : Value} (h : i < q.length) : (p ++ q ++ r).set (p.length + i) v = p ++ q.set i v ++ r := by
  rw [List.append_assoc, List.set_append_right _ _ (by omega), show p.length + i - p.length = i from by omega, List.set_append_left _ _ h, List.append_assoc]

theorem brC_one (x : Br) (ad : Option Addr) (c : Nat) : ∀ v ∈ brC x ad c, v.oneCell' = true := brc_one (x, ad, c)
theorem publish_ok {i d : Nat} {px : Pic} (hs : St W w (Tree tq sq T :: Store sq r A :: L)) (hx : T.l[k]? = some x) (hd : x.done < d) (hd2 : d ≤ x.press.length) (hp : A.pics[i]? = some px) :
    Calls Tryz.prog 69 #[.pointer (some ⟨tq, 0, none⟩), .int .i64 x.id, .int .i64 d, .int .i64 px.id] w fun e w' => e = .returned (.bool true) ∧ St W w' (Tree tq sq (T.pub k x d px.id) :: Store sq r (A.dropId x.snap) :: L) := by
  have hkl := (List.getElem?_eq_some_iff.1 hx).1
  have hpr : 1 ≤ px.refs := by
    obtain ⟨_, _, _, _, _, hw, _, _⟩ := Store.open (hs.pick (Store sq r A))
    exact (hw.pic px (List.mem_of_getElem? hp)).2.2.1
  refine calls_enter Tryz.func69 rfl Tryz.ntmps69 (Nat.le_of_ble_eq_true rfl) ?_
  intro a ha
  replace ha : Fr a 78 [(0, _), (1, _), (2, _), (3, _)] := ha
  refine WS <| WR ?_
  refine S1 ha ?_; clear ha a; intro a ha
  refine LN <| TN <| WS <| WR ?_
  iterate 2 (refine S1 ha ?_; clear ha a; intro a ha)
  refine SK (st_call ha rfl Ty.c67 rfl (find_at hs hx) ?_); clear ha hs
  rintro e w ⟨rfl, hs⟩
  refine ⟨_, rfl, ?_⟩
  intro a ha
  refine S1 ha ?_; clear ha a; intro a ha
  refine LN <| TN <| WS <| WS ?_
  obtain ⟨ad, c, xs, h1, hw, hs⟩ := Tree.open (hs.tree tq)
  obtain ⟨ax, cx, hxx⟩ := bx_at h1 hx
  obtain ⟨b', off', rfl, hrd⟩ := hs.tail.slRd ad (by omega)
  have hrk := row_rd hrd hxx
  have hdc := hrk 3 _ rfl
  have hpc := hrk 2 _ rfl
  refine WR ?_
  iterate 3 (refine S1 ha ?_; clear ha a; intro a ha)
  rw [decide_eq_false (by omega)] at ha
  iterate 4 (refine S1g (s := 15) ha ?_; clear ha a; intro a ha)
  refine SLg (s := 15) ha (hs.rd1 rfl) ?_; clear ha a; intro a ha
  refine S1g (s := 15) ha ?_; clear ha a; intro a ha
  refine SK (st_set ha (wgT ha rfl (s := 15)) (ex_indexAddr ha Tryz.underlying39 Ty.t43 (by omega)) rfl ?_); clear ha a; intro a ha
  refine S1g (s := 15) ha ?_; clear ha a; intro a ha
  refine SLg (s := 15) ha (hdc) ?_; clear ha a; intro a ha
  refine S1g (s := 15) ha ?_; clear ha a; intro a ha
  refine PF ha ?_; clear ha a; intro a ha
  refine S1 ha ?_; clear ha a; intro a ha
  rw [decide_eq_false (by omega)] at ha
  iterate 4 (refine S1g (s := 27) ha ?_; clear ha a; intro a ha)
  refine SLg (s := 27) ha (hs.rd1 rfl) ?_; clear ha a; intro a ha
  refine S1g (s := 27) ha ?_; clear ha a; intro a ha
  refine SK (st_set ha (wgT ha rfl (s := 27)) (ex_indexAddr ha Tryz.underlying39 Ty.t43 (by omega)) rfl ?_); clear ha a; intro a ha
  refine S1g (s := 27) ha ?_; clear ha a; intro a ha
  refine SLg (s := 27) ha (hpc) ?_; clear ha a; intro a ha
  iterate 2 (refine S1g (s := 27) ha ?_; clear ha a; intro a ha)
  refine PF ha ?_; clear ha a; intro a ha
  refine S1 ha ?_; clear ha a; intro a ha
  rw [decide_eq_false (by omega)] at ha
  iterate 3 (refine S1g (s := 40) ha ?_; clear ha a; intro a ha)
  refine SLg (s := 40) ha (hs.rd1 rfl) ?_; clear ha a; intro a ha
  refine S1g (s := 40) ha ?_; clear ha a; intro a ha
  refine SK (st_call ha (wgT ha rfl (s := 40)) Ty.c87 rfl (snap_refs (hs.pick (Store sq r A)) hp) ?_); clear ha hs
  rintro e w ⟨rfl, hs⟩
  refine ⟨_, rfl, ?_⟩
  intro a ha
  refine S1g (s := 40) ha ?_; clear ha a; intro a ha
  refine PF ha ?_; clear ha a; intro a ha
  refine LN <| TN ?_
  rw [decide_eq_false (by omega)] at ha
  refine WFa ha <| WK <| TN <| WS ?_
  have hrd2 := hs.slRdAt (n := T.l.length) b' off' (by omega)
  have hsc : w.drew.cell? ⟨b', off' + k * 5 + 4, none⟩ = some (.int .i64 x.snap) := row_rd hrd2 hxx 4 _ rfl
  refine DW (m := 13) (Old w.drew) [7, 9, 10, 11] [0, 1, 2, 4, 5, 6, 8, 3, 7, 9, 10, 11, 12] Ty.mixed (pk_then pk_body) (fun hpk => ?_)
  replace hs := hs.drew
  have hC := Old.refl w.drew
  generalize w.drew = w at hs hC hpk hsc ⊢
  iterate 7 (refine DP hpk ha rfl ?_; clear ha a; intro a ha)
  refine DL hpk ha rfl (fun w hc => hc.cell (hs.rd1 rfl)) hC ?_; clear ha a; intro a ha
  refine D1 rfl (st_set ha rfl (ex_load1 ha Tryz.underlying39 rfl (hs.rd1 rfl)) rfl ?_); clear ha a; intro a ha
  refine ⟨fun _ => hC, ?_⟩
  refine D1 rfl (st_set ha rfl (ex_indexAddr ha Tryz.underlying39 Ty.t43 (by omega)) rfl ?_); clear ha a; intro a ha
  refine ⟨fun _ => hC, ?_⟩
  refine D1 rfl (st_set ha rfl (ex_fieldAddr (k := 4) ha Tryz.underlying43 rfl Ty.t36 rfl) rfl ?_); clear ha a; intro a ha
  refine ⟨fun _ => hC, ?_⟩
  refine D1 rfl (st_set ha rfl (ex_load1 ha Tryz.underlying36 rfl (hsc)) rfl ?_); clear ha a; intro a ha
  refine ⟨fun _ => hC, ?_⟩
  refine D1 rfl (st_call ha rfl Ty.c21 rfl (snap_dropId (id := x.snap) (hs.pick (Store sq r A))) ?_); clear ha hs
  rintro e w ⟨_, rfl, hs⟩
  refine ⟨_, rfl, ?_⟩
  intro a ha
  refine ⟨fun h => absurd h (by decide), ?_⟩
  refine DD <| TN <| WS ?_
  obtain ⟨bb, pre, post, ⟨h3, h4, h5, h6⟩, hs0⟩ := (hs.pick (Sl 43 5 (some ⟨b', off', none⟩) T.l.length c (rows brc xs))).slOpen (by have := (hs.sl (some ⟨b', off', none⟩)).2; omega)
  cases h5
  replace hs := hs0
  clear hs0
  have hxl : xs.length = T.l.length := by rw [← h1, List.length_map]
  have hkx : k < xs.length := by omega
  have hxe : xs[k] = (x, ax, cx) := (List.getElem?_eq_some_iff.1 hxx).2
  have hrl : (rows brc xs).length = xs.length * 5 := rows_len brc_len xs
  refine DW (m := 18) (Old w.drew) [8] [0, 1, 2, 4, 5, 6, 7, 9, 10, 11, 3, 8, 12, 13, 14, 15, 16, 17] Ty.mixed (pk_then pk_body) (fun hpk => ?_)
  replace hs := hs.drew
  have hC := Old.refl w.drew
  generalize w.drew = w at hs hC hpk ⊢
  iterate 10 (refine DP hpk ha rfl ?_; clear ha a; intro a ha)
  refine DL hpk ha rfl (fun w hc => hc.cell (hs.rd1 rfl)) hC ?_; clear ha a; intro a ha
  refine D1 rfl (st_set ha rfl (ex_load1 ha Tryz.underlying39 rfl (hs.rd1 rfl)) rfl ?_); clear ha a; intro a ha
  refine ⟨fun _ => hC, ?_⟩
  refine DQ hpk ha rfl rfl (fun w => ex_indexAddr ha Tryz.underlying39 Ty.t43 (by omega)) ?_; clear ha a; intro a ha
  refine DP hpk ha rfl ?_; clear ha a; intro a ha
  refine D1 rfl (st_store ha rfl hs Ty.t3 rfl (by simp only [List.length_append]; omega) ?_); clear ha hs a; (try clear w); intro a w ha hs
  refine ⟨fun h => absurd h (by decide), ?_⟩
  rw [show pre.length + k * 5 + 3 = pre.length + (k * 5 + 3) from by omega, set_mid (by omega), rows_set1 brc_len xs ({ x with done := d }, ax, cx) hkx (by decide) (by rw [hxe]; rfl)] at hs
  refine DQ hpk ha rfl rfl (fun w => ex_indexAddr ha Tryz.underlying39 Ty.t43 (by omega)) ?_; clear ha a; intro a ha
  refine DP hpk ha rfl ?_; clear ha a; intro a ha
  refine D1 rfl (st_store ha rfl hs Ty.t36 rfl (by simp only [List.length_append, rows_len brc_len, List.length_set]; omega) ?_); clear ha hs a; (try clear w); intro a w ha hs
  refine ⟨fun h => absurd h (by decide), ?_⟩
  rw [show pre.length + k * 5 + 4 = pre.length + (k * 5 + 4) from by omega, set_mid (by simp only [rows_len brc_len, List.length_set]; omega), rows_set1 brc_len _ ({ x with done := d, snap := px.id }, ax, cx) (by rw [List.length_set]; exact hkx) (by decide) (by rw [List.getElem_set_self]; rfl), List.set_set] at hs
  refine DD <| TN <| WS <| WR ?_
  refine S1d ha ?_; clear ha a; intro a ha
  refine LN <| TN <| wp_ret ?_
  refine ret1 ha rfl ?_
  refine ⟨rfl, ?_⟩
  have h7 := St.slShut (n := T.l.length) (c := c) (sz := 5) (cs := rows brc (xs.set k ({ x with done := d, snap := px.id }, ax, cx))) (hs.bring b') (by rw [rows_len brc_len, List.length_set, hxl]) h4 h6
  have h8 := (h7.pick (All bro xs)).allOut hkx
  rw [hxe] at h8
  have h9 : St W w (bro ({ x with done := d, snap := px.id }, ax, cx) :: All bro (xs.eraseIdx k) :: _) := h8
  have h10 := St.allPut hkx h9
  exact Tree.close (T := T.pub k x d px.id) (ad := some ⟨b', pre.length, none⟩) (c := c) (xs := xs.set k ({ x with done := d, snap := px.id }, ax, cx)) (n := T.l.length) (most := T.most) (last := T.last) (epoch := T.epoch) h10 (by rw [List.map_set, h1]; rfl) (hw.pub hx hd2) rfl (by simp [Tr.pub]) rfl rfl

/-! Best. -/
def bestStep (frm : Int) (p : List (List UInt8)) (b : Br) (x : Br) : Br := if x.frm = frm ∧ b.done < x.done ∧ x.done ≤ p.length ∧ alikeP (x.press.take x.done) p = true then x else b
def br0 : Br := ⟨0, 0, [], 0, 0⟩
def Tr.best (T : Tr) (frm : Int) (p : List (List UInt8)) : Br := T.l.foldl (bestStep frm p) br0
theorem best_succ {l : List Br} {frm : Int} (h : l[k]? = some x) : (l.take (k + 1)).foldl (bestStep frm p) br0 = bestStep frm p ((l.take k).foldl (bestStep frm p) br0) x := by
  obtain ⟨hk, rfl⟩ := List.getElem?_eq_some_iff.1 h
  rw [List.take_succ_eq_append_getElem hk, List.foldl_append]; rfl
def Tr.cut (T : Tr) (wh : Br → Bool) : Tr := { T with l := T.l.filter (fun x => !wh x), epoch := T.epoch + if (T.l.filter (fun x => !wh x)).length < T.l.length then 1 else 0 }
def Sn.dropAll (A : Sn) (l : List Br) : Sn := l.foldl (fun A x => A.dropId x.snap) A
theorem dropAll_succ {A : Sn} {l : List Br} {wh : Br → Bool} (h : l[k]? = some x) : A.dropAll ((l.take (k + 1)).filter wh) = if wh x = true then (A.dropAll ((l.take k).filter wh)).dropId x.snap else A.dropAll ((l.take k).filter wh) := by
  obtain ⟨hk, rfl⟩ := List.getElem?_eq_some_iff.1 h
  rw [List.take_succ_eq_append_getElem hk, List.filter_append]
  by_cases hw : wh l[k] = true
  · rw [if_pos hw, Sn.dropAll, List.foldl_append]; simp [hw, Sn.dropAll]
  · rw [if_neg hw]; simp [hw]
theorem filter_succ {α : Type} {l : List α} {f : α → Bool} {z : α} (h : l[k]? = some z) : (l.take (k + 1)).filter f = (l.take k).filter f ++ if f z = true then [z] else [] := by
  obtain ⟨hk, rfl⟩ := List.getElem?_eq_some_iff.1 h
  rw [List.take_succ_eq_append_getElem hk, List.filter_append]
  by_cases hw : f l[k] = true <;> simp [hw]
theorem map_filter_fst (xs : List Bx) (f : Br → Bool) : (xs.filter (fun z => f z.1)).map (·.1) = (xs.map (·.1)).filter f := by
  induction xs with
  | nil => rfl
  | cons z xs ih =>
    by_cases h : f z.1 = true <;> simp [h] at ih ⊢ <;> exact ih
theorem WT.cut (h : WT T) (he : T.epoch + 1 < 1099511627776) (wh : Br → Bool) : WT (T.cut wh) := by
  obtain ⟨a1, a2, a3, a4, a5⟩ := h
  refine ⟨⟨a1.1, ?_⟩, a2, ?_, ?_, fun y hy => ?_⟩
  · simp only [Tr.cut]; exact Nat.le_trans (List.length_filter_le _ _) a1.2
  · simp only [Tr.cut]; split <;> omega
  · simp only [Tr.cut]
    exact a4.sublist (List.Sublist.map _ List.filter_sublist)
  · simp only [Tr.cut] at hy ⊢
    exact a5 y (List.mem_filter.1 hy).1
theorem drop_nil {f : Value} (hs : St W w L) : Calls Tryz.prog 44 #[.pointer none, f] w fun e w' => e = .returned (.int .i64 0) ∧ St W w' L := by
  refine calls_enter Tryz.func44 rfl Tryz.ntmps44 (Nat.le_of_ble_eq_true rfl) ?_
  intro a ha
  replace ha : Fr a 59 [(0, _), (1, _)] := ha
  refine WS <| WR ?_
  refine S1 ha ?_; clear ha a; intro a ha
  refine LN <| TN <| WS <| WS <| WR ?_
  iterate 2 (refine S1 ha ?_; clear ha a; intro a ha)
  refine LN <| TN <| WTr ha <| WS <| WR ?_
  refine S1d ha ?_; clear ha a; intro a ha
  refine LN <| TN <| wp_ret <| TR ?_
  refine ret1 ha rfl ?_
  exact ⟨rfl, hs⟩
set_option maxHeartbeats 1000000 in
theorem tree_drop {wh : Br → Bool} {f : Nat} {us : List Value} (hs : St W w (Tree tq sq T :: Store sq r A :: L)) (he : T.epoch + 1 < 1099511627776) (hcl : callable Tryz.prog f = true)
    (hf : ∀ (M : List SP) (w' : World) (x : Br) (ad' : Option Addr) (c' : Nat), St W w' M → (∀ w'', St W w'' M → St W w'' L) → RdBB w' ad' x.press.length x.press → x.press.length ≤ c' → OkP x.press →
      Calls Tryz.prog f (List.toArray (.agg (brC x ad' c').toArray :: us)) w' fun e w'' => e = .returned (.bool (wh x)) ∧ St W w'' M) :
    Calls Tryz.prog 44 #[.pointer (some ⟨tq, 0, none⟩), .func (.func f) #[] (List.toArray us)] w fun e w' => e = .returned (.int .i64 ((T.l.length - (T.l.filter (fun x => !wh x)).length : Nat) : Int)) ∧
      St W w' (Tree tq sq (T.cut wh) :: Store sq r (A.dropAll (T.l.filter wh)) :: L) := by
  obtain ⟨ad, c, xs, h1, hw, hs⟩ := Tree.open hs
  have hxl : xs.length = T.l.length := by rw [← h1, List.length_map]
  have hT := hw.most
  have hfl := List.length_filter_le (fun x => !wh x) T.l
  refine calls_enter Tryz.func44 rfl Tryz.ntmps44 (Nat.le_of_ble_eq_true rfl) ?_
  intro a ha
  replace ha : Fr a 59 [(0, _), (1, _)] := ha
  refine WS <| WR ?_
  refine S1 ha ?_; clear ha a; intro a ha
  refine LN <| TN <| WS <| WS <| WR ?_
  iterate 2 (refine S1 ha ?_; clear ha a; intro a ha)
  refine LN <| TN <| WFa ha <| WK <| TN <| WS <| WR ?_
  iterate 3 (refine S1 ha ?_; clear ha a; intro a ha)
  refine SL ha (hs.rd1 rfl) ?_; clear ha a; intro a ha
  iterate 2 (refine S1 ha ?_; clear ha a; intro a ha)
  refine LN <| TN <| WS <| WR ?_
  refine S1 ha ?_; clear ha a; intro a ha
  refine LN ?_
  replace hs : St W w (Sl 43 5 none 0 0 (rows brc ((xs.take 0).filter (fun z : Bx => !wh z.1))) :: All bro ((xs.take 0).filter (fun z : Bx => !wh z.1)) :: blk tq 85 [.pointer (some ⟨sq, 0, none⟩), .int .i64 T.most, .slice ad T.l.length c, .int .i64 T.last, .int .i64 T.epoch] :: Sl 43 5 ad T.l.length c (rows brc xs) :: All bro (xs.drop 0) :: Store sq r (A.dropAll ((T.l.take 0).filter wh)) :: L) := (hs.allNil (f := bro)).sl0 43 5 none
  refine TN <| WS <| WS <| WR ?_
  iterate 3 (refine S1 ha ?_; clear ha a; intro a ha)
  refine SL ha (hs.rd1 rfl) ?_; clear ha a; intro a ha
  iterate 2 (refine S1 ha ?_; clear ha a; intro a ha)
  refine LN <| TN <| wp_block ?_
  refine wp_loop_ghost (fun μ a w => ∃ (k m : Nat) (ad6 : Option Addr) (c6 : Nat), (μ = T.l.length - k ∧ k ≤ T.l.length ∧ m = ((xs.take k).filter (fun z => !wh z.1)).length) ∧ Fr a 59 [(0, .pointer (some ⟨tq, 0, none⟩)), (1, .func (.func f) #[] (List.toArray us)), (5, .int .i64 T.l.length), (6, .slice ad6 m c6), (19, .slice ad T.l.length c), (20, .int .i64 T.l.length), (21, .int .i64 k)] ∧ St W w (Sl 43 5 ad6 m c6 (rows brc ((xs.take k).filter (fun z => !wh z.1))) :: All bro ((xs.take k).filter (fun z => !wh z.1)) :: blk tq 85 [.pointer (some ⟨sq, 0, none⟩), .int .i64 T.most, .slice ad T.l.length c, .int .i64 T.last, .int .i64 T.epoch] :: Sl 43 5 ad T.l.length c (rows brc xs) :: All bro (xs.drop k) :: Store sq r (A.dropAll ((T.l.take k).filter wh)) :: L)) (T.l.length) ?_ ?_
  · exact ⟨0, 0, none, 0, ⟨by simp, by simp, by simp⟩, ha.keep [0, 1, 5, 6, 19, 20, 21], hs.sub⟩
  ·
   clear ha hs
   rintro μ a w ⟨k, m, ad6, c6, ⟨rfl, hk, hm⟩, ha, hs⟩
   refine WS <| WR ?_
   refine S1 ha ?_; clear ha; (try clear a); intro a ha
   refine LN <| TN <| WS ?_
   refine WI ha (fun hc1 => ?_) (fun hc1 => ?_)
   ·
    refine WK <| TN <| WS <| wp_block <| WS ?_
    obtain ⟨b', off', hade, hrd⟩ := hs.slRd (n := T.l.length) (cs := rows brc xs) (R := Sl 43 5 ad6 m c6 (rows brc ((xs.take k).filter (fun z => !wh z.1))) :: All bro ((xs.take k).filter (fun z => !wh z.1)) :: blk tq 85 [.pointer (some ⟨sq, 0, none⟩), .int .i64 T.most, .slice ad T.l.length c, .int .i64 T.last, .int .i64 T.epoch] :: All bro (xs.drop k) :: Store sq r (A.dropAll ((T.l.take k).filter wh)) :: L) (k := ⟨by
        refine List.Perm.trans ?_ (List.perm_middle (l₁ := [_, _, _])); exact List.Perm.refl _⟩) ad (by omega)
    subst hade
    have hkx : k < xs.length := by omega
    obtain ⟨⟨x, ax, cx⟩, hxx⟩ : ∃ y, xs[k]? = some y := ⟨_, List.getElem?_eq_getElem hkx⟩
    have hxe : xs[k] = (x, ax, cx) := (List.getElem?_eq_some_iff.1 hxx).2
    have hrk := row_rd hrd hxx
    have hTx : T.l[k]? = some x := by rw [← h1, List.getElem?_map, hxx]; rfl
    have hox := (hw.ok x (List.mem_of_getElem? hTx)).1
    have hda := dropAll_succ (A := A) (wh := wh) hTx
    have hfs := filter_succ (f := fun z : Bx => !wh z.1) hxx
    replace hs := (hs.pick (All bro (xs.drop k)))
    rw [List.drop_eq_getElem_cons hkx, hxe] at hs
    replace hs := hs.allOut (i := 0) (by simp)
    change St W w (OwnBB ax x.press.length cx x.press :: All bro (xs.drop (k + 1)) :: _) at hs
    have hob := OwnBB.rd hs
    have hol := (OwnBB.le hs).2
    refine WR ?_
    refine SK (st_set ha rfl (ex_indexAddr ha Tryz.underlying39 Ty.t43 (by omega)) rfl ?_); clear ha; (try clear a); intro a ha
    refine SK (st_set ha rfl (ex_loadN ha Tryz.underlying43 rfl Ty.t43 (hrk)) rfl ?_); clear ha a; intro a ha
    refine SK (st_alloc ha rfl hs Ty.t43 rfl ?_); clear ha hs a; (try clear w); intro b8 a w ha hs ho
    clear ho
    refine SK (st_storeAll ha rfl hs Ty.t43 (brC_one x ax cx) (by rfl) ?_); clear ha hs a; (try clear w); intro a w ha hs
    refine LN <| TN <| WS <| WS <| WR ?_
    refine S1 ha ?_; clear ha a; intro a ha
    refine SK (st_set ha rfl (ex_loadN ha Tryz.underlying43 rfl Ty.t43 (hs.rdAll)) rfl ?_); clear ha a; intro a ha
    refine SK (st_callvN ha rfl hcl rfl (hf _ _ x ax cx hs (fun w'' h => h.sub) (OwnBB.rd (hs.pick (OwnBB ax x.press.length cx x.press))) hol hox) (by rfl) ?_); clear ha hs
    rintro e w ⟨rfl, hs⟩
    refine ⟨_, rfl, ?_⟩
    intro a ha
    refine LN <| TN ?_
    refine WI ha (fun hc2 => ?_) (fun hc2 => ?_)
    ·
     rw [if_pos hc2] at hda
     rw [show (!wh (x, ax, cx).1) = false from by simp [hc2]] at hfs
     rw [if_neg (by decide), List.append_nil] at hfs
     refine WS ?_
     refine DW (m := 7) (Old w.drew) [5] [0, 1, 2, 4, 3, 5, 6] Ty.mixed (pk_then (pk_then (pk_blk (pk_then (pk_then (pk_blk (pk_then pk_body))))))) (fun hpk => ?_)
     replace hs := hs.drew
     have hC := Old.refl w.drew
     generalize w.drew = w at hs hC hpk ⊢
     refine DP hpk ha rfl ?_; clear ha; (try clear a); intro a ha
     iterate 3 (refine DP hpk ha rfl ?_; clear ha a; intro a ha)
     refine DL hpk ha rfl (fun w hc => hc.cell (hs.rd1 rfl)) hC ?_; clear ha a; intro a ha
     refine D1 rfl (st_set ha rfl (ex_load1 ha Tryz.underlying36 rfl (hs.rd1 rfl)) rfl ?_); clear ha a; intro a ha
     refine ⟨fun _ => hC, ?_⟩
     refine D1 rfl (st_call ha rfl Ty.c21 rfl (snap_dropId (id := x.snap) (hs.pick (Store sq r (A.dropAll ((T.l.take k).filter wh))))) ?_); clear ha hs
     rintro e w ⟨_, rfl, hs⟩
     refine ⟨_, rfl, ?_⟩
     intro a ha
     refine ⟨fun h => absurd h (by decide), ?_⟩
     rw [← hda] at hs
     refine DD <| TN <| wp_exit <| TE <| blk_e <| TN <| WR ?_
     refine SK (st_set ha rfl (ex_addI ha (by omega) (by omega)) rfl ?_); clear ha a; intro a ha
     refine S1d ha ?_; clear ha a; intro a ha
     refine LN <| TN ?_
     rw [← hfs] at hm hs
     exact ⟨T.l.length - (k + 1), by omega, k + 1, _, _, _, ⟨rfl, by omega, hm⟩, ha.keep [0, 1, 5, 6, 19, 20, 21], hs.sub⟩
    ·
     rw [if_neg (by rw [hc2]; decide)] at hda
     rw [show (!wh (x, ax, cx).1) = true from by simp [hc2]] at hfs
     rw [if_pos rfl] at hfs
     refine WK <| TN <| WR ?_
     refine S1 ha ?_; clear ha; (try clear a); intro a ha
     refine SK (st_set ha rfl (ex_loadN ha Tryz.underlying43 rfl Ty.t43 (hs.rdAll)) rfl ?_); clear ha a; intro a ha
     refine SK (st_buildSlice ha rfl hs Tryz.underlying39 Ty.t43 rfl rfl rfl rfl (by decide) (by decide) ?_); clear ha hs a; (try clear w); intro b37 a w ha hs ho
     clear ho
     obtain ⟨Y, hY⟩ : ∃ Y, (xs.take k).filter (fun z => !wh z.1) = Y := ⟨_, rfl⟩
     rw [hY] at hs hfs hm
     refine SK (st_append ha rfl hs Tryz.underlying39 Ty.t43 rfl rfl hs.rdAll rfl (by simp [Value.oneCell', brC]) (by decide) (by decide) (by have := List.length_filter_le (fun z : Bx => !wh z.1) (xs.take k); rw [hY, List.length_take] at this; omega) ?_); clear ha hs a; (try clear w); intro ad38 c38 a w ha hs
     have h8 := St.allPush (f := bro) (l := Y) (x := (x, ax, cx)) (hs.sub (M := OwnBB ax x.press.length cx x.press :: All bro Y :: Sl 43 5 ad38 (m + 1) c38 (rows brc Y ++ [brC x ax cx].flatten) :: blk tq 85 [.pointer (some ⟨sq, 0, none⟩), .int .i64 T.most, .slice (some ⟨b', off', none⟩) T.l.length c, .int .i64 T.last, .int .i64 T.epoch] :: Sl 43 5 (some ⟨b', off', none⟩) T.l.length c (rows brc xs) :: All bro (xs.drop (k + 1)) :: Store sq r (A.dropAll ((T.l.take k).filter wh)) :: L))
     rw [rows_snocC, ← hfs, ← hda] at h8
     replace hs := h8
     clear h8
     refine S1d ha ?_; clear ha a; intro a ha
     refine LN <| BN <| TN <| WR ?_
     refine SK (st_set ha rfl (ex_addI ha (by omega) (by omega)) rfl ?_); clear ha a; intro a ha
     refine S1d ha ?_; clear ha a; intro a ha
     refine LN <| TN ?_
     exact ⟨T.l.length - (k + 1), by omega, k + 1, _, _, _, ⟨rfl, by omega, by rw [hfs, List.length_append, ← hm]; rfl⟩, ha.keep [0, 1, 5, 6, 19, 20, 21], hs.sub⟩
   ·
    refine wp_exit <| TE <| TE <| blk_e <| TN <| WS ?_
    obtain rfl : k = T.l.length := by omega
    rw [List.take_length, List.take_of_length_le (by omega)] at hs
    rw [List.take_of_length_le (by omega)] at hm
    have hmf := map_filter_fst xs (fun x => !wh x)
    rw [h1] at hmf
    have hmm : m = (T.l.filter (fun x => !wh x)).length := by rw [hm, ← hmf, List.length_map]
    subst hmm
    refine WR ?_
    refine S1 ha ?_; clear ha; (try clear a); intro a ha
    iterate 3 (refine S1 ha ?_; clear ha a; intro a ha)
    refine SK (st_store ha rfl hs Ty.t39 rfl (by simp) ?_); clear ha hs a; (try clear w); intro a w ha hs
    refine LN <| TN <| WS <| WS <| WR ?_
    iterate 4 (refine S1 ha ?_; clear ha a; intro a ha)
    refine LN <| TN ?_
    refine WI ha (fun hc3 => ?_) (fun hc3 => ?_)
    ·
     have hlt : (T.l.filter (fun x => !wh x)).length < T.l.length := by omega
     refine WR ?_
     refine S1 ha ?_; clear ha; (try clear a); intro a ha
     iterate 2 (refine S1 ha ?_; clear ha a; intro a ha)
     refine SL ha (hs.rd1 rfl) ?_; clear ha a; intro a ha
     refine SK (st_set ha rfl (ex_addI ha (by omega) (by omega)) rfl ?_); clear ha a; intro a ha
     iterate 2 (refine S1 ha ?_; clear ha a; intro a ha)
     refine SK (st_store ha rfl hs Ty.t2 rfl (by simp) ?_); clear ha hs a; (try clear w); intro a w ha hs
     rw [show ((T.epoch : Int) + 1) = ((T.epoch + 1 : Nat) : Int) from rfl] at hs
     refine LN <| TN <| WS <| WR ?_
     iterate 3 (refine S1 ha ?_; clear ha a; intro a ha)
     refine SK (st_set ha rfl (ex_subI ha (by omega) (by omega)) rfl ?_); clear ha a; intro a ha
     refine S1 ha ?_; clear ha a; intro a ha
     refine LN <| TN <| wp_ret ?_
     refine ret1 ha rfl ?_
     refine ⟨by rw [show ((T.l.length - (T.l.filter (fun x => !wh x)).length : Nat) : Int) = (T.l.length : Int) - ((T.l.filter (fun x => !wh x)).length : Int) from by omega], ?_⟩
     exact Tree.close (T := T.cut wh) (ad := ad6) (c := c6) (xs := xs.filter (fun z => !wh z.1)) (n := (T.l.filter (fun x => !wh x)).length) (most := T.most) (last := T.last) (epoch := T.epoch + 1) hs hmf (hw.cut he wh) rfl rfl rfl (by simp only [Tr.cut]; rw [if_pos hlt])
    ·
     have hlt : ¬ (T.l.filter (fun x => !wh x)).length < T.l.length := by omega
     refine WK <| TN <| WS <| WR ?_
     refine S1 ha ?_; clear ha; (try clear a); intro a ha
     iterate 2 (refine S1 ha ?_; clear ha a; intro a ha)
     refine SK (st_set ha rfl (ex_subI ha (by omega) (by omega)) rfl ?_); clear ha a; intro a ha
     refine S1 ha ?_; clear ha a; intro a ha
     refine LN <| TN <| wp_ret ?_
     refine ret1 ha rfl ?_
     refine ⟨by rw [show ((T.l.length - (T.l.filter (fun x => !wh x)).length : Nat) : Int) = (T.l.length : Int) - ((T.l.filter (fun x => !wh x)).length : Int) from by omega], ?_⟩
     exact Tree.close (T := T.cut wh) (ad := ad6) (c := c6) (xs := xs.filter (fun z => !wh z.1)) (n := (T.l.filter (fun x => !wh x)).length) (most := T.most) (last := T.last) (epoch := T.epoch) hs hmf (hw.cut he wh) rfl rfl rfl (by simp only [Tr.cut]; rw [if_neg hlt]; rfl)
theorem tree_clear (hs : St W w (Tree tq sq T :: Store sq r A :: L)) (he : T.epoch + 1 < 1099511627776) :
    Calls Tryz.prog 20 #[.pointer (some ⟨tq, 0, none⟩)] w fun e w' => e = .returned (.int .i64 T.l.length) ∧ St W w' (Tree tq sq (T.cut fun _ => true) :: Store sq r (A.dropAll T.l) :: L) := by
  have hF : ∀ (M : List SP) (w' : World) (x : Br) (ad' : Option Addr) (c' : Nat), St W w' M → (∀ w'', St W w'' M → St W w'' L) → RdBB w' ad' x.press.length x.press → x.press.length ≤ c' → OkP x.press →
      Calls Tryz.prog 47 (List.toArray [.agg (brC x ad' c').toArray]) w' fun e w'' => e = .returned (.bool true) ∧ St W w'' M := by
    intro L w x ad' c' hs _ _ _ _
    refine calls_enter Tryz.func47 rfl Tryz.ntmps47 (Nat.le_of_ble_eq_true rfl) ?_
    intro a ha
    replace ha : Fr a 3 [(0, _)] := ha
    refine WS <| WR ?_
    refine SK (st_box ha rfl hs rfl ?_); clear ha hs a; (try clear w); intro b1 a w ha hs ho
    clear ho
    refine S1 ha ?_; clear ha a; intro a ha
    refine LN <| TN <| WS <| WR ?_
    refine S1d ha ?_; clear ha a; intro a ha
    refine LN <| TN <| wp_ret ?_
    refine ret1 ha rfl ?_
    exact ⟨rfl, hs.sub⟩
  refine calls_enter Tryz.func20 rfl Tryz.ntmps20 (Nat.le_of_ble_eq_true rfl) ?_
  intro a ha
  replace ha : Fr a 5 [(0, _)] := ha
  refine WS <| WR ?_
  refine S1 ha ?_; clear ha a; intro a ha
  refine LN <| TN <| WS <| WR ?_
  refine S1 ha ?_; clear ha a; intro a ha
  refine SK (st_call ha rfl Ty.c44 rfl (tree_drop (wh := fun _ => true) (us := []) hs he Ty.c47 hF) ?_); clear ha hs
  rintro e w ⟨rfl, hs⟩
  refine ⟨_, rfl, ?_⟩
  intro a ha
  refine S1d ha ?_; clear ha a; intro a ha
  refine LN <| TN <| wp_ret ?_
  refine ret1 ha rfl ?_
  have e1 : T.l.filter (fun x => !(fun _ : Br => true) x) = [] := by simp
  have e2 : T.l.filter (fun _ => true) = T.l := by simp
  rw [e2] at hs
  exact ⟨by rw [e1]; rfl, hs⟩
theorem clear_nil (hs : St W w L) : Calls Tryz.prog 20 #[.pointer none] w fun e w' => e = .returned (.int .i64 0) ∧ St W w' L := by
  refine calls_enter Tryz.func20 rfl Tryz.ntmps20 (Nat.le_of_ble_eq_true rfl) ?_
  intro a ha
  replace ha : Fr a 5 [(0, _)] := ha
  refine WS <| WR ?_
  refine S1 ha ?_; clear ha a; intro a ha
  refine LN <| TN <| WS <| WR ?_
  refine S1 ha ?_; clear ha a; intro a ha
  refine SK (st_call ha rfl Ty.c44 rfl (drop_nil hs) ?_); clear ha hs
  rintro e w ⟨rfl, hs⟩
  refine ⟨_, rfl, ?_⟩
  intro a ha
  refine S1d ha ?_; clear ha a; intro a ha
  refine LN <| TN <| wp_ret ?_
  refine ret1 ha rfl ?_
  exact ⟨rfl, hs⟩
def pruneP (frm : Int) (p : List (List UInt8)) (x : Br) : Bool := !decide (x.frm = frm) || !alikeP x.press p
theorem tree_prune {frm : Int} {ad2 : Option Addr} {c2 : Nat} (hs : St W w (Tree tq sq T :: Store sq r A :: L)) (he : T.epoch + 1 < 1099511627776) (hp : ∀ w', St W w' L → RdBB w' ad2 p.length p) (hc : p.length ≤ c2) (hok : OkP p) :
    Calls Tryz.prog 19 #[.pointer (some ⟨tq, 0, none⟩), .int .i64 frm, .slice ad2 p.length c2] w fun e w' => e = .returned (.int .i64 ((T.l.length - (T.l.filter (fun x => !pruneP frm p x)).length : Nat) : Int)) ∧
      St W w' (Tree tq sq (T.cut (pruneP frm p)) :: Store sq r (A.dropAll (T.l.filter (pruneP frm p))) :: L) := by
  have hF : ∀ (b4 b5 : Nat) (M : List SP) (w' : World) (x : Br) (ad' : Option Addr) (c' : Nat), St W w' M → (∀ w'', St W w'' M → St W w'' (blk b4 3 [.int .i64 frm] :: blk b5 41 [.slice ad2 p.length c2] :: L)) → RdBB w' ad' x.press.length x.press → x.press.length ≤ c' → OkP x.press →
      Calls Tryz.prog 45 (List.toArray [.agg (brC x ad' c').toArray, .pointer (some ⟨b4, 0, none⟩), .pointer (some ⟨b5, 0, none⟩)]) w' fun e w'' => e = .returned (.bool (pruneP frm p x)) ∧ St W w'' M := by
    intro b4 b5 L' w x ad' c' hs hM hx hxc hox
    obtain ⟨W', hW'⟩ : ∃ W', W' = W := ⟨_, rfl⟩
    refine calls_enter Tryz.func45 rfl Tryz.ntmps45 (Nat.le_of_ble_eq_true rfl) ?_
    intro a ha
    replace ha : Fr a 16 [(0, _), (1, _), (2, _)] := ha
    refine WS <| WR ?_
    refine SK (st_box ha rfl hs rfl ?_); clear ha hs a; (try clear w); intro b3 a w ha hs ho
    have hx2 : RdBB w ad' x.press.length x.press := by
        refine ⟨hx.1, fun h0 => ?_⟩
        obtain ⟨b, off, e1, e2⟩ := hx.2 h0
        refine ⟨b, off, e1, fun j bs hj => ?_⟩
        obtain ⟨a', c', e3, e4⟩ := e2 j bs hj
        refine ⟨a', c', ho.cell e3, e4.1, e4.2.1, fun z hz hz0 => ?_⟩
        obtain ⟨b3, o3, e5, e6⟩ := e4.2.2 z hz hz0
        exact ⟨b3, o3, e5, ho.rd e6⟩
    clear ho
    refine S1 ha ?_; clear ha a; intro a ha
    refine LN <| TN <| WS ?_
    have hs5 := hM _ hs.tail
    refine WR ?_
    refine S1 ha ?_; clear ha a; intro a ha
    refine SL ha (hs.rd1 rfl) ?_; clear ha a; intro a ha
    refine SL ha (hs5.rd1 rfl) ?_; clear ha a; intro a ha
    iterate 2 (refine S1 ha ?_; clear ha a; intro a ha)
    refine ha.by (s := 9) (fun hg ha => ?_) (fun hg ha => ?_)
    ·
     refine SO (s := 9) ha ?_; clear ha; (try clear a); intro a ha
     iterate 4 (refine SO (s := 9) ha ?_; clear ha a; intro a ha)
     refine PT ha ?_; clear ha a; intro a ha
     refine S1d ha ?_; clear ha a; intro a ha
     refine LN <| TN <| wp_ret ?_
     refine ret1 ha rfl ?_
     exact ⟨by rw [pruneP, decide_eq_false hg, Bool.not_false, Bool.true_or], hs.sub⟩
    ·
     refine S1g (s := 9) ha ?_; clear ha; (try clear a); intro a ha
     refine SLg (s := 9) ha (hs.rd1 rfl) ?_; clear ha a; intro a ha
     refine SLg (s := 9) ha (hs5.rd1 rfl) ?_; clear ha a; intro a ha
     refine SK (st_call ha (wgT ha rfl (s := 9)) Ty.c46 rfl (alike_spec (u := x.press) (v := p) hs hx2 (hp _ (hs5.tail.tail)) hxc hc (by have := hox.1; omega)) ?_); clear ha hs
     rintro e w ⟨rfl, hs⟩
     refine ⟨_, rfl, ?_⟩
     intro a ha
     refine S1g (s := 9) ha ?_; clear ha a; intro a ha
     refine PF ha ?_; clear ha a; intro a ha
     refine S1d ha ?_; clear ha a; intro a ha
     refine LN <| TN <| wp_ret ?_
     refine ret1 ha rfl ?_
     exact ⟨by rw [pruneP, decide_eq_true hg, Bool.not_true, Bool.false_or], hs.sub⟩
  refine calls_enter Tryz.func19 rfl Tryz.ntmps19 (Nat.le_of_ble_eq_true rfl) ?_
  intro a ha
  replace ha : Fr a 10 [(0, _), (1, _), (2, _)] := ha
  refine WS <| WR ?_
  refine SK (st_box ha rfl hs rfl ?_); clear ha hs a; (try clear w); intro b4 a w ha hs ho
  clear ho
  refine SK (st_box ha rfl hs rfl ?_); clear ha hs a; (try clear w); intro b5 a w ha hs ho
  clear ho
  refine S1 ha ?_; clear ha a; intro a ha
  refine LN <| TN <| WS <| WR ?_
  refine S1 ha ?_; clear ha a; intro a ha
  refine SK (st_set ha rfl (ex_makeFunc ha) rfl ?_); clear ha a; intro a ha
  refine SK (st_call ha rfl Ty.c44 rfl (tree_drop (tq := tq) (sq := sq) (r := r) (A := A) (T := T) (wh := pruneP frm p) (us := [.pointer (some ⟨b4, 0, none⟩), .pointer (some ⟨b5, 0, none⟩)]) (L := blk b4 3 [.int .i64 frm] :: blk b5 41 [.slice ad2 p.length c2] :: L) hs.sub he Ty.c45 (hF b4 b5)) ?_); clear ha hs
  rintro e w ⟨rfl, hs⟩
  refine ⟨_, rfl, ?_⟩
  intro a ha
  refine S1d ha ?_; clear ha a; intro a ha
  refine LN <| TN <| wp_ret ?_
  refine ret1 ha rfl ?_
  exact ⟨rfl, hs.sub⟩
end
end Go.Proofs.YtneafbkhaooelaaGreat

