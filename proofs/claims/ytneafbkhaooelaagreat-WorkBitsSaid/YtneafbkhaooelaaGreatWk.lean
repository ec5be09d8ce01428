/- The walks of package worker. -/
import Derived.Test.YtneafbkhaooelaaGreatWkM
import Derived.Test.YtneafbkhaooelaaGreatWkP
namespace Go.Proofs.YtneafbkhaooelaaGreat
open Go.RowKit
set_option linter.unusedVariables false
set_option linter.unusedSimpArgs false
set_option maxRecDepth 10000
set_option synthInstance.maxSize 4000
set_option synthInstance.maxHeartbeats 400000

def wkC (p : Pr) (adO : Option Addr) (cO tq jq sq : Nat) (k : Wk) : List Value :=
  [.string p.title, .slice adO p.ops.length cO, .pointer (some ⟨tq, 0, none⟩), .pointer (some ⟨jq, 0, none⟩), .pointer (some ⟨sq, 0, none⟩), .bool k.busy, .int .i64 k.jb, .int .i64 k.je, .int .i64 k.x, .int .i64 k.done, .bool k.played]
section
variable {W w : World} {L L' R : List SP} {tq jq sq r wb i kk cO : Nat} {adO : Option Addr} {A : Sn} {T : Tr} {J : Js} {k : Wk} {p : Pr} {x : Br} {px : Pic}
theorem busy_spec (hs : St W w (blk wb 80 (wkC p adO cO tq jq sq k) :: L)) :
    Calls Tryz.prog 16 #[.pointer (some ⟨wb, 0, none⟩)] w fun e w' => e = .returned (.bool k.busy) ∧ St W w' (blk wb 80 (wkC p adO cO tq jq sq k) :: L) := by
  refine calls_enter Tryz.func16 rfl Tryz.ntmps16 (Nat.le_of_ble_eq_true rfl) ?_
  intro a ha
  replace ha : Fr a 11 [(0, _)] := ha
  refine WS <| WR ?_
  refine S1 ha ?_; clear ha a; intro a ha
  refine LN <| TN <| WS <| WR ?_
  iterate 3 (refine S1 ha ?_; clear ha a; intro a ha)
  iterate 3 (refine S1g (s := 5) ha ?_; clear ha a; intro a ha)
  refine SLg (s := 5) ha (hs.rd1 rfl) ?_; clear ha a; intro a ha
  refine PT ha ?_; clear ha a; intro a ha
  refine S1d ha ?_; clear ha a; intro a ha
  refine LN <| TN <| wp_ret ?_
  refine ret1 ha rfl ?_
  exact ⟨rfl, hs⟩
theorem busy_nil (hs : St W w L) : Calls Tryz.prog 16 #[.pointer none] w fun e w' => e = .returned (.bool false) ∧ St W w' L := by
  refine calls_enter Tryz.func16 rfl Tryz.ntmps16 (Nat.le_of_ble_eq_true rfl) ?_
  intro a ha
  replace ha : Fr a 11 [(0, _)] := ha
  refine WS <| WR ?_
  refine S1 ha ?_; clear ha a; intro a ha
  refine LN <| TN <| WS <| WR ?_
  iterate 3 (refine S1 ha ?_; clear ha a; intro a ha)
  iterate 4 (refine SO (s := 5) ha ?_; clear ha a; intro a ha)
  refine PF ha ?_; clear ha a; intro a ha
  refine S1d ha ?_; clear ha a; intro a ha
  refine LN <| TN <| wp_ret ?_
  refine ret1 ha rfl ?_
  exact ⟨rfl, hs⟩
theorem rest_busy (hs : St W w (blk wb 80 (wkC p adO cO tq jq sq k) :: Store sq r A :: L)) (hb : k.busy = true) :
    Calls Tryz.prog 18 #[.pointer (some ⟨wb, 0, none⟩)] w fun e w' => e = .returned (.bool true) ∧ St W w' (blk wb 80 (wkC p adO cO tq jq sq { k with busy := false }) :: Store sq r (A.dropId k.x) :: L) := by
  refine calls_enter Tryz.func18 rfl Tryz.ntmps18 (Nat.le_of_ble_eq_true rfl) ?_
  intro a ha
  replace ha : Fr a 18 [(0, _)] := ha
  refine WS <| WR ?_
  refine S1 ha ?_; clear ha a; intro a ha
  refine LN <| TN <| WS <| WS <| WR ?_
  refine S1 ha ?_; clear ha a; intro a ha
  refine SK (st_call ha rfl Ty.c16 rfl (busy_spec hs) ?_); clear ha hs
  rintro e w ⟨rfl, hs⟩
  refine ⟨_, rfl, ?_⟩
  intro a ha
  rw [hb] at ha
  refine S1 ha ?_; clear ha a; intro a ha
  refine LN <| TN <| WFa ha <| WK <| TN <| WS ?_
  refine DW (m := 9) (Old w.drew) [7] [0, 1, 2, 4, 5, 6, 3, 7, 8] Ty.mixed (pk_then pk_body) (fun hpk => ?_)
  replace hs := hs.drew
  have hC := Old.refl w.drew
  generalize w.drew = w at hs hC hpk ⊢
  iterate 6 (refine DP hpk ha rfl ?_; clear ha a; intro a ha)
  refine DL hpk ha rfl (fun w hc => hc.cell (hs.rd1 rfl)) hC ?_; clear ha a; intro a ha
  refine D1 rfl (st_set ha rfl (ex_load1 ha Tryz.underlying36 rfl (hs.rd1 rfl)) rfl ?_); clear ha a; intro a ha
  refine ⟨fun _ => hC, ?_⟩
  refine D1 rfl (st_call ha rfl Ty.c21 rfl (snap_dropId (hs.store sq)) ?_); clear ha hs
  rintro e w ⟨v, rfl, hs⟩
  refine ⟨_, rfl, ?_⟩
  intro a ha
  refine ⟨fun h => absurd h (by decide), ?_⟩
  refine DD <| TN <| WS <| WR ?_
  iterate 3 (refine S1 ha ?_; clear ha a; intro a ha)
  refine SK (st_store ha rfl hs Ty.t4 rfl (by simp [wkC]) ?_); clear ha hs a; (try clear w); intro a w ha hs
  change St W w (blk wb 80 (wkC p adO cO tq jq sq { k with busy := false }) :: _) at hs
  refine LN <| TN <| WS <| WR ?_
  refine S1d ha ?_; clear ha a; intro a ha
  refine LN <| TN <| wp_ret ?_
  refine ret1 ha rfl ?_
  exact ⟨rfl, hs.sub⟩
theorem rest_idle (hs : St W w (blk wb 80 (wkC p adO cO tq jq sq k) :: L)) (hb : k.busy = false) :
    Calls Tryz.prog 18 #[.pointer (some ⟨wb, 0, none⟩)] w fun e w' => e = .returned (.bool false) ∧ St W w' (blk wb 80 (wkC p adO cO tq jq sq k) :: L) := by
  refine calls_enter Tryz.func18 rfl Tryz.ntmps18 (Nat.le_of_ble_eq_true rfl) ?_
  intro a ha
  replace ha : Fr a 18 [(0, _)] := ha
  refine WS <| WR ?_
  refine S1 ha ?_; clear ha a; intro a ha
  refine LN <| TN <| WS <| WS <| WR ?_
  refine S1 ha ?_; clear ha a; intro a ha
  refine SK (st_call ha rfl Ty.c16 rfl (busy_spec hs) ?_); clear ha hs
  rintro e w ⟨rfl, hs⟩
  refine ⟨_, rfl, ?_⟩
  intro a ha
  rw [hb] at ha
  refine S1 ha ?_; clear ha a; intro a ha
  refine LN <| TN <| WTr ha <| WS <| WR ?_
  refine S1d ha ?_; clear ha a; intro a ha
  refine LN <| TN <| wp_ret <| TR ?_
  refine ret1 ha rfl ?_
  exact ⟨rfl, hs⟩
theorem rest_nil (hs : St W w L) : Calls Tryz.prog 18 #[.pointer none] w fun e w' => e = .returned (.bool false) ∧ St W w' L := by
  refine calls_enter Tryz.func18 rfl Tryz.ntmps18 (Nat.le_of_ble_eq_true rfl) ?_
  intro a ha
  replace ha : Fr a 18 [(0, _)] := ha
  refine WS <| WR ?_
  refine S1 ha ?_; clear ha a; intro a ha
  refine LN <| TN <| WS <| WS <| WR ?_
  refine S1 ha ?_; clear ha a; intro a ha
  refine SK (st_call ha rfl Ty.c16 rfl (busy_nil hs) ?_); clear ha hs
  rintro e w ⟨rfl, hs⟩
  refine ⟨_, rfl, ?_⟩
  intro a ha
  refine S1 ha ?_; clear ha a; intro a ha
  refine LN <| TN <| WTr ha <| WS <| WR ?_
  refine S1d ha ?_; clear ha a; intro a ha
  refine LN <| TN <| wp_ret <| TR ?_
  refine ret1 ha rfl ?_
  exact ⟨rfl, hs⟩
theorem step_nil (hs : St W w L) : Calls Tryz.prog 12 #[.pointer none] w fun e w' => e = .returned (.bool false) ∧ St W w' L := by
  refine calls_enter Tryz.func12 rfl Tryz.ntmps12 (Nat.le_of_ble_eq_true rfl) ?_
  intro a ha
  replace ha : Fr a 57 [(0, _)] := ha
  refine WS <| WR ?_
  refine S1 ha ?_; clear ha a; intro a ha
  refine LN <| TN <| WS <| WS <| WR ?_
  iterate 2 (refine S1 ha ?_; clear ha a; intro a ha)
  refine LN <| TN <| WTr ha <| WS <| WR ?_
  refine S1d ha ?_; clear ha a; intro a ha
  refine LN <| TN <| wp_ret <| TR ?_
  refine ret1 ha rfl ?_
  exact ⟨rfl, hs⟩
theorem tree_get_any {id : Int} (hs : St W w (Tree tq sq T :: L)) :
    Calls Tryz.prog 38 #[.pointer (some ⟨tq, 0, none⟩), .int .i64 id] w fun e w' => ∃ (x : Br) (ad : Option Addr) (c : Nat) (ok : Bool), e = .returned (.tuple #[.agg (brC x ad c).toArray, .bool ok]) ∧ ((ok = true ∧ x ∈ T.l ∧ (x.id : Int) = id) ∨ (ok = false ∧ ∀ y ∈ T.l, (y.id : Int) ≠ id)) ∧
      St W w' (OwnBB ad x.press.length c x.press :: Tree tq sq T :: L) := by
  by_cases h : ∃ x ∈ T.l, (x.id : Int) = id
  · obtain ⟨x, hx, rfl⟩ := h
    obtain ⟨k, hk⟩ := List.mem_iff_getElem?.1 hx
    exact (tree_get hs hk).mono fun e w' ⟨ad, c, h1, hs⟩ => ⟨x, ad, c, true, h1, .inl ⟨rfl, hx, rfl⟩, hs⟩
  · have hn : ∀ y ∈ T.l, (y.id : Int) ≠ id := fun y hy e => h ⟨y, hy, e⟩
    exact (tree_get_no hs hn).mono fun e w' ⟨h1, hs⟩ => ⟨⟨0, 0, [], 0, 0⟩, none, 0, false, h1, .inr ⟨rfl, hn⟩, OwnBB.nil hs⟩
theorem snap_fork_id {id : Nat} (hs : St W w (Store sq r A :: L)) (hx : A.pics[i]? = some px) (hid : px.id = id) (hb : A.n + 1 < 1099511627776) :
    Calls Tryz.prog 62 #[.pointer (some ⟨sq, 0, none⟩), .int .i64 id] w fun e w' => e = .returned (.tuple #[.int .i64 ((A.last + 1 : Nat) : Int), .bool true]) ∧ St W w' (Store sq r (A.add px.g px.p) :: L) := by
  subst hid; exact snap_fork hs hx hb
theorem publish_try {d : Nat} {id : Nat} (hs : St W w (Tree tq sq T :: Store sq r A :: L)) (hx : T.l[kk]? = some x) (hd2 : d ≤ x.press.length) (hp : A.pics[i]? = some px) (hid : px.id = id) :
    Calls Tryz.prog 69 #[.pointer (some ⟨tq, 0, none⟩), .int .i64 x.id, .int .i64 d, .int .i64 id] w fun e w' => e = .returned (.bool (decide (x.done < d))) ∧
      ((x.done < d ∧ St W w' (Tree tq sq (T.pub kk x d id) :: Store sq r (A.dropId x.snap) :: L)) ∨ (d ≤ x.done ∧ St W w' (Tree tq sq T :: Store sq r A :: L))) := by
  subst hid
  by_cases h : x.done < d
  · exact (publish_ok hs hx h hd2 hp).mono fun e w' ⟨h1, hs⟩ => ⟨by rw [h1, decide_eq_true h], .inl ⟨h, hs⟩⟩
  · exact (publish_no (d := (d : Int)) (i := i) (px := px) hs hx (.inl (by omega))).mono fun e w' ⟨h1, hs⟩ => ⟨by rw [h1, decide_eq_false h], .inr ⟨by omega, hs⟩⟩
theorem dropId_set {A : Sn} {i : Nat} {px : Pic} {g : Nat → Int} {p' : Nat → Nat} (hA : WF A) (hB : WF { A with pics := A.pics.set i ⟨px.id, px.refs, g, p'⟩ }) (hi : A.pics[i]? = some px) (hr : px.refs = 1) :
    ({ A with pics := A.pics.set i ⟨px.id, px.refs, g, p'⟩ } : Sn).dropId px.id = A.dropId px.id := by
  have hl := (List.getElem?_eq_some_iff.1 hi).1
  rw [dropId_some hA hi, dropId_some (px := ⟨px.id, px.refs, g, p'⟩) hB (i := i) (by simp [hl])]
  simp [Sn.drop, hr, List.eraseIdx_set_eq]
theorem take_bit (hs : St W w (blk wb 80 (wkC p adO cO tq jq sq k) :: Tree tq sq T :: Store sq r A :: Jobs jq J :: L)) (hb : k.busy = false) (hbr : ∀ x ∈ T.l, ∃ (i : Nat) (px : Pic), A.pics[i]? = some px ∧ px.id = x.snap) (hn : A.n + 1 < 1099511627776) :
    Calls Tryz.prog 37 #[.pointer (some ⟨wb, 0, none⟩)] w fun e w' => ∃ (z : Bool) (A' : Sn) (J' : Js) (k' : Wk), e = .returned (.bool z) ∧ Bit p A T J k z A' T J' k' ∧
      St W w' (blk wb 80 (wkC p adO cO tq jq sq k') :: Tree tq sq T :: Store sq r A' :: Jobs jq J' :: L) := by
  refine calls_enter Tryz.func37 rfl Tryz.ntmps37 (Nat.le_of_ble_eq_true rfl) ?_
  intro a ha
  replace ha : Fr a 85 [(0, _)] := ha
  refine WS <| WR ?_
  refine S1 ha ?_; clear ha a; intro a ha
  refine LN <| TN <| WS <| WR ?_
  iterate 3 (refine S1 ha ?_; clear ha a; intro a ha)
  refine SL ha (hs.rd1 rfl) ?_; clear ha a; intro a ha
  refine SK (st_call ha rfl Ty.c66 rfl (take_any (hs.jobs jq)) ?_); clear ha hs
  rintro e w ⟨rfl, hs⟩
  refine ⟨_, rfl, ?_⟩
  intro a ha
  iterate 3 (refine S1 ha ?_; clear ha a; intro a ha)
  refine SK (st_alloc ha rfl hs Ty.t77 rfl ?_); clear ha hs a; (try clear w); intro b3 a w ha hs ho
  clear ho
  refine SK (st_storeAll ha rfl hs Ty.t77 (by simp [Value.oneCell']) (by rfl) ?_); clear ha hs a; (try clear w); intro a w ha hs
  refine S1 ha ?_; clear ha a; intro a ha
  refine LN <| TN <| WS <| WS <| WR ?_
  iterate 2 (refine S1 ha ?_; clear ha a; intro a ha)
  refine LN <| TN ?_
  refine WI ha (fun hc0 => ?_) (fun hc0 => ?_)
  ·
   obtain rfl : J = [] := by simpa using hc0
   change St W w (blk b3 77 [.int .i64 0, .int .i64 0] :: Jobs jq [] :: _) at hs
   refine WS <| WR ?_
   refine S1d ha ?_; clear ha; (try clear a); intro a ha
   refine LN <| TN <| wp_ret <| TR ?_
   refine ret1 ha rfl ?_
   exact ⟨false, A, [], k, rfl, .idle hb rfl, hs.sub⟩
  ·
   obtain ⟨j, J', rfl⟩ : ∃ j J', J = j :: J' := by
     cases J with
     | nil => simp at hc0
     | cons j J' => exact ⟨j, J', rfl⟩
   change St W w (blk b3 77 [.int .i64 j.1, .int .i64 j.2] :: Jobs jq J' :: _) at hs
   replace ha := ha.keep [0, 3]
   clear hc0
   refine WK <| TN ?_
   refine wp_seq_cut (M := fun a w => ∃ (b5 : Nat) (x : Br) (ad : Option Addr) (c : Nat) (ok : Bool), ((ok = true ∧ x ∈ T.l ∧ (x.id : Int) = j.1) ∨ (ok = false ∧ ∀ y ∈ T.l, (y.id : Int) ≠ j.1)) ∧ Fr a 85 [(0, .pointer (some ⟨wb, 0, none⟩)), (3, .pointer (some ⟨b3, 0, none⟩)), (5, .pointer (some ⟨b5, 0, none⟩)), (6, .bool ok)] ∧ St W w (blk b5 43 (brC x ad c) :: blk b3 77 [.int .i64 j.1, .int .i64 j.2] :: Jobs jq J' :: blk wb 80 (wkC p adO cO tq jq sq k) :: Tree tq sq T :: Store sq r A :: L)) ?_ ?_
   ·
    refine DW (m := 13) (fun w' => Rd w' wb 0 (wkC p adO cO tq jq sq k) ∧ Rd w' b3 0 [.int .i64 j.1, .int .i64 j.2]) [5, 10] [0, 1, 2, 4, 3, 5, 6, 7, 8, 9, 10, 11, 12] Ty.mixed (pk_then pk_body) (fun hpk => ?_)
    replace hs := hs.drew
    generalize w.drew = w at hs hpk ⊢
    have hC : Rd w wb 0 (wkC p adO cO tq jq sq k) ∧ Rd w b3 0 [.int .i64 j.1, .int .i64 j.2] := And.intro hs.rdAll hs.rdAll
    refine DP hpk ha rfl ?_; clear ha; (try clear a); intro a ha
    iterate 3 (refine DP hpk ha rfl ?_; clear ha a; intro a ha)
    refine DL hpk ha rfl (fun w hc => hc.1 2 _ rfl) hC ?_; clear ha a; intro a ha
    refine DL hpk ha rfl (fun w hc => hc.2 0 _ rfl) hC ?_; clear ha a; intro a ha
    refine D2 (i := 6) (j := 10) [7, 8, 9, 10, 11, 12] [6, 7, 8, 9, 11, 12] (by kernel_rfl) rfl rfl ?_ ?_
    ·
     refine st_call ha rfl Ty.c38 rfl (tree_get_any (id := j.1) (hs.tree tq)) ?_; clear ha hs
     rintro e w ⟨x, ad, c, ok, rfl, hok, hs⟩
     refine ⟨_, rfl, ?_⟩
     intro a ha
     refine ⟨fun h => absurd h (by decide), ?_⟩
     refine DP hpk ha rfl ?_; clear ha; (try clear a); intro a ha
     iterate 2 (refine DP hpk ha rfl ?_; clear ha a; intro a ha)
     refine D1 rfl (st_alloc ha rfl hs Ty.t43 rfl ?_); clear ha hs a; (try clear w); intro b5 a w ha hs ho
     (try replace hC := hC.trans ho); clear ho
     replace hC : (fun w' => Rd w' wb 0 (wkC p adO cO tq jq sq k) ∧ Rd w' b3 0 [.int .i64 j.1, .int .i64 j.2]) w := And.intro hs.rdAll hs.rdAll
     refine ⟨fun _ => hC, ?_⟩
     refine D1 rfl (st_storeAll ha rfl hs Ty.t43 (brC_one x ad c) (by rfl) ?_); clear ha hs a; (try clear w); intro a w ha hs
     refine ⟨fun h => absurd h (by decide), ?_⟩
     refine DP hpk ha rfl ?_; clear ha a; intro a ha
     refine DD <| TN ?_
     exact ⟨_, x, ad, c, ok, hok, ha.keep [0, 3, 5, 6], hs.sub⟩
    ·
     refine st_alloc ha rfl hs Ty.t43 rfl ?_; clear ha hs; (try clear a); (try clear w); intro b5 a w ha hs ho
     (try replace hC := hC.trans ho); clear ho
     replace hC : (fun w' => Rd w' wb 0 (wkC p adO cO tq jq sq k) ∧ Rd w' b3 0 [.int .i64 j.1, .int .i64 j.2]) w := And.intro hs.rdAll hs.rdAll
     refine ⟨fun _ => hC, ?_⟩
     refine D1 rfl (st_call ha rfl Ty.c38 rfl (tree_get_any (id := j.1) (hs.tree tq)) ?_); clear ha hs
     rintro e w ⟨x, ad, c, ok, rfl, hok, hs⟩
     refine ⟨_, rfl, ?_⟩
     intro a ha
     refine ⟨fun h => absurd h (by decide), ?_⟩
     iterate 3 (refine DP hpk ha rfl ?_; clear ha a; intro a ha)
     refine D1 rfl (st_storeAll ha rfl hs Ty.t43 (brC_one x ad c) (by rfl) ?_); clear ha hs a; (try clear w); intro a w ha hs
     refine ⟨fun h => absurd h (by decide), ?_⟩
     refine DP hpk ha rfl ?_; clear ha a; intro a ha
     refine DD <| TN ?_
     exact ⟨_, x, ad, c, ok, hok, ha.keep [0, 3, 5, 6], hs.sub⟩
   ·
    clear ha; (try clear hs)
    intro a w hcut
    obtain ⟨b5, x, ad, c, ok, hok, ha, hs⟩ := hcut
    refine WS <| WS ?_
    refine DW (m := 20) (fun w' => Rd w' wb 0 (wkC p adO cO tq jq sq k) ∧ Rd w' b3 0 [.int .i64 j.1, .int .i64 j.2] ∧ Rd w' b5 0 (brC x ad c)) [5, 6, 16, 17] [0, 2, 3, 4, 1, 5, 6, 7, 8, 9, 10, 11, 12, 13, 15, 14, 16, 17, 18, 19] Ty.mixed (pk_then (pk_then pk_body)) (fun hpk => ?_)
    replace hs := hs.drew
    generalize w.drew = w at hs hpk ⊢
    have hC : Rd w wb 0 (wkC p adO cO tq jq sq k) ∧ Rd w b3 0 [.int .i64 j.1, .int .i64 j.2] ∧ Rd w b5 0 (brC x ad c) := ⟨hs.rdAll, hs.rdAll, hs.rdAll⟩
    refine DP hpk ha rfl ?_; clear ha; (try clear a); intro a ha
    iterate 3 (refine DP hpk ha rfl ?_; clear ha a; intro a ha)
    refine DL hpk ha rfl (fun w hc => hc.2.1 1 _ rfl) hC ?_; clear ha a; intro a ha
    refine D1 rfl (st_set ha rfl (ex_load1 ha Tryz.underlying33 rfl (hs.rd1 rfl)) rfl ?_); clear ha a; intro a ha
    refine ⟨fun _ => hC, ?_⟩
    refine D1 rfl (st_call ha rfl Ty.c35 rfl (tree_epoch (hs.tree tq)) ?_); clear ha hs
    rintro e w ⟨rfl, hs⟩
    refine ⟨_, rfl, ?_⟩
    intro a ha
    replace hC : (fun w' => Rd w' wb 0 (wkC p adO cO tq jq sq k) ∧ Rd w' b3 0 [.int .i64 j.1, .int .i64 j.2] ∧ Rd w' b5 0 (brC x ad c)) w := ⟨hs.rdAll, hs.rdAll, hs.rdAll⟩
    refine ⟨fun _ => hC, ?_⟩
    iterate 2 (refine DP hpk ha rfl ?_; clear ha a; intro a ha)
    refine ha.by (s := 36) (fun hg8 ha => ?_) (fun hg8 ha => ?_)
    ·
     refine DO (s := 36) hpk ha rfl ?_; clear ha; (try clear a); intro a ha
     refine DO (s := 36) hpk ha rfl ?_; clear ha a; intro a ha
     refine DT hpk ha rfl ?_; clear ha a; intro a ha
     refine DP hpk ha rfl ?_; clear ha a; intro a ha
     iterate 2 (refine DO (s := 40) hpk ha rfl ?_; clear ha a; intro a ha)
     iterate 3 (refine DOH (s := 40) hpk ha rfl hC ?_; clear ha a; intro a ha)
     refine DO (s := 40) hpk ha rfl ?_; clear ha a; intro a ha
     refine DT hpk ha rfl ?_; clear ha a; intro a ha
     refine DD <| TN <| WTr ha <| WS <| WR ?_
     refine S1 ha ?_; clear ha a; intro a ha
     refine LN <| TN <| wp_ret <| TR ?_
     refine ret1 ha rfl ?_
     exact ⟨true, A, J', k, rfl, .stale hb rfl (.inl hg8), hs.sub⟩
    ·
     refine DPg (s := 36) hpk ha rfl ?_; clear ha; (try clear a); intro a ha
     refine DPg (s := 36) hpk ha rfl ?_; clear ha a; intro a ha
     refine DF hpk ha rfl ?_; clear ha a; intro a ha
     refine DP hpk ha rfl ?_; clear ha a; intro a ha
     refine ha.by (s := 40) (fun hg12 ha => ?_) (fun hg12 ha => ?_)
     ·
      have hno : ∀ y ∈ T.l, (y.id : Int) ≠ j.1 := by
        rcases hok with ⟨h, _⟩ | ⟨_, h⟩
        · rw [h] at hg12; cases hg12
        · exact h
      refine DO (s := 40) hpk ha rfl ?_; clear ha; (try clear a); intro a ha
      refine DO (s := 40) hpk ha rfl ?_; clear ha a; intro a ha
      iterate 3 (refine DOH (s := 40) hpk ha rfl hC ?_; clear ha a; intro a ha)
      refine DO (s := 40) hpk ha rfl ?_; clear ha a; intro a ha
      refine DT hpk ha rfl ?_; clear ha a; intro a ha
      refine DD <| TN <| WTr ha <| WS <| WR ?_
      refine S1 ha ?_; clear ha a; intro a ha
      refine LN <| TN <| wp_ret <| TR ?_
      refine ret1 ha rfl ?_
      exact ⟨true, A, J', k, rfl, .stale hb rfl (.inr (.inl hno)), hs.sub⟩
     ·
      obtain ⟨hx, hid⟩ : x ∈ T.l ∧ (x.id : Int) = j.1 := by
        rcases hok with ⟨_, h⟩ | ⟨h, _⟩
        · exact h
        · rw [h] at hg12; cases hg12
      refine DPg (s := 40) hpk ha rfl ?_; clear ha; (try clear a); intro a ha
      refine DPg (s := 40) hpk ha rfl ?_; clear ha a; intro a ha
      refine DH hpk ha rfl (wgT ha rfl (s := 40)) (fun w hc => ex_load1 ha Tryz.underlying3 rfl (hc.2.2 3 _ rfl)) hC ?_; clear ha a; intro a ha
      refine D1 rfl (st_set ha (wgT ha rfl (s := 40)) (ex_load1 ha Tryz.underlying41 rfl (hC.2.2 2 _ rfl)) rfl ?_); clear ha a; intro a ha
      refine ⟨fun _ => hC, ?_⟩
      refine D1 rfl (st_set ha (wgT ha rfl (s := 40)) (ex_len ha Tryz.underlying41) rfl ?_); clear ha a; intro a ha
      refine ⟨fun _ => hC, ?_⟩
      refine DPg (s := 40) hpk ha rfl ?_; clear ha a; intro a ha
      refine DF hpk ha rfl ?_; clear ha a; intro a ha
      refine DD <| TN ?_
      refine WI ha (fun hc1 => ?_) (fun hc1 => ?_)
      ·
       refine WS <| WR ?_
       refine S1 ha ?_; clear ha; (try clear a); intro a ha
       refine LN <| TN <| wp_ret <| TR ?_
       refine ret1 ha rfl ?_
       exact ⟨true, A, J', k, rfl, .stale hb rfl (.inr (.inr ⟨x, hx, hid, by omega⟩)), hs.sub⟩
      ·
       refine WK <| TN <| WS ?_
       obtain ⟨i, px, hpx, hpid⟩ := hbr x hx
       refine DW (m := 12) (fun w' => Rd w' wb 0 (wkC p adO cO tq jq sq k) ∧ Rd w' b5 0 (brC x ad c)) [5] [0, 1, 2, 4, 3, 5, 6, 7, 8, 9, 10, 11] Ty.mixed (pk_then pk_body) (fun hpk => ?_)
       replace hs := hs.drew
       generalize w.drew = w at hs hpk ⊢
       have hC : Rd w wb 0 (wkC p adO cO tq jq sq k) ∧ Rd w b5 0 (brC x ad c) := ⟨hs.rdAll, hs.rdAll⟩
       refine DP hpk ha rfl ?_; clear ha; (try clear a); intro a ha
       iterate 3 (refine DP hpk ha rfl ?_; clear ha a; intro a ha)
       refine DL hpk ha rfl (fun w hc => hc.1 4 _ rfl) hC ?_; clear ha a; intro a ha
       refine D1 rfl (st_set ha rfl (ex_load1 ha Tryz.underlying36 rfl (hC.2 4 _ rfl)) rfl ?_); clear ha a; intro a ha
       refine ⟨fun _ => hC, ?_⟩
       refine D1 rfl (st_call ha rfl Ty.c62 rfl (snap_fork_id (hs.store sq) hpx hpid hn) ?_); clear ha hs
       rintro e w ⟨rfl, hs⟩
       refine ⟨_, rfl, ?_⟩
       intro a ha
       refine ⟨fun h => absurd h (by decide), ?_⟩
       iterate 5 (refine DP hpk ha rfl ?_; clear ha a; intro a ha)
       refine DD <| TN <| WS <| WS <| WR ?_
       iterate 2 (refine S1 ha ?_; clear ha a; intro a ha)
       refine LN <| TN <| WFa ha <| WK <| TN <| WS ?_
       refine DW (m := 24) (fun w' => Rd w' b3 0 [.int .i64 j.1, .int .i64 j.2] ∧ Rd w' b5 0 (brC x ad c)) [8, 11, 12, 13, 14, 15, 16, 17] [0, 1, 2, 3, 4, 6, 7, 9, 10, 5, 8, 11, 12, 13, 14, 15, 16, 17, 18, 19, 20, 21, 22, 23] Ty.mixed (pk_then pk_body) (fun hpk => ?_)
       replace hs := hs.drew
       generalize w.drew = w at hs hpk ⊢
       have hC : Rd w b3 0 [.int .i64 j.1, .int .i64 j.2] ∧ Rd w b5 0 (brC x ad c) := ⟨hs.rdAll, hs.rdAll⟩
       iterate 9 (refine DP hpk ha rfl ?_; clear ha a; intro a ha)
       refine DH hpk ha rfl rfl (fun w hc => ex_loadN ha Tryz.underlying77 rfl Ty.t77 (hc.1)) hC ?_; clear ha a; intro a ha
       refine DL hpk ha rfl (fun w hc => hc.2 3 _ rfl) hC ?_; clear ha a; intro a ha
       refine D1 rfl (st_store ha rfl hs Ty.t4 rfl (by simp [wkC]) ?_); clear ha hs a; (try clear w); intro a w ha hs
       replace hC : (fun w' => Rd w' b3 0 [.int .i64 j.1, .int .i64 j.2] ∧ Rd w' b5 0 (brC x ad c)) w := ⟨hs.rdAll, hs.rdAll⟩
       refine ⟨fun _ => hC, ?_⟩
       refine D1 rfl (st_set ha rfl (ex_nilCheck ha) rfl ?_); clear ha a; intro a ha
       refine ⟨fun _ => hC, ?_⟩
       refine D1 rfl (st_set ha rfl (ex_fieldAddr (k := 6) ha Tryz.underlying80 rfl Ty.t77 rfl) rfl ?_); clear ha a; intro a ha
       refine ⟨fun _ => hC, ?_⟩
       refine D1 rfl (st_storeN ha rfl hs Ty.t77 (by simp [Value.oneCell']) (by simp [wkC]) ?_); clear ha hs a; (try clear w); intro a w ha hs
       replace hC : (fun w' => Rd w' b3 0 [.int .i64 j.1, .int .i64 j.2] ∧ Rd w' b5 0 (brC x ad c)) w := ⟨hs.rdAll, hs.rdAll⟩
       refine ⟨fun _ => hC, ?_⟩
       refine D1 rfl (st_set ha rfl (ex_nilCheck ha) rfl ?_); clear ha a; intro a ha
       refine ⟨fun _ => hC, ?_⟩
       refine D1 rfl (st_set ha rfl (ex_fieldAddr (k := 8) ha Tryz.underlying80 rfl Ty.t36 rfl) rfl ?_); clear ha a; intro a ha
       refine ⟨fun _ => hC, ?_⟩
       refine D1 rfl (st_store ha rfl hs Ty.t36 rfl (by simp [wkC, splice]) ?_); clear ha hs a; (try clear w); intro a w ha hs
       replace hC : (fun w' => Rd w' b3 0 [.int .i64 j.1, .int .i64 j.2] ∧ Rd w' b5 0 (brC x ad c)) w := ⟨hs.rdAll, hs.rdAll⟩
       refine ⟨fun _ => hC, ?_⟩
       iterate 2 (refine DP hpk ha rfl ?_; clear ha a; intro a ha)
       refine D1 rfl (st_store ha rfl hs Ty.t3 rfl (by simp [wkC, splice]) ?_); clear ha hs a; (try clear w); intro a w ha hs
       refine ⟨fun h => absurd h (by decide), ?_⟩
       iterate 2 (refine DP hpk ha rfl ?_; clear ha a; intro a ha)
       refine D1 rfl (st_store ha rfl hs Ty.t4 rfl (by simp [wkC, splice]) ?_); clear ha hs a; (try clear w); intro a w ha hs
       refine ⟨fun h => absurd h (by decide), ?_⟩
       refine DD ?_
       change St W w (blk wb 80 (wkC p adO cO tq jq sq ⟨true, j.1, j.2, A.last + 1, x.done, false⟩) :: _) at hs
       refine TN <| WS <| WR ?_
       refine S1 ha ?_; clear ha a; intro a ha
       refine LN <| TN <| wp_ret ?_
       refine ret1 ha rfl ?_
       exact ⟨true, A.add px.g px.p, J', ⟨true, j.1, j.2, A.last + 1, x.done, false⟩, rfl, .took hb rfl hg8 hx hid (by omega) hpx hpid, hs.sub⟩
theorem play_bit {ad : Option Addr} {c : Nat} (hs : St W w (blk wb 80 (wkC p adO cO tq jq sq k) :: OwnBB ad x.press.length c x.press :: Tree tq sq T :: Store sq r A :: Jobs jq J :: RoP W p adO cO :: L))
    (hb : k.busy = true) (he : k.je = T.epoch) (hx : x ∈ T.l) (hid : (x.id : Int) = k.jb) (hpl : k.played = false) (hi : A.pics[i]? = some px) (hpi : px.id = k.x) (hr : px.refs = 1) (hg : gOk px.g) (hd : k.done < x.press.length) (hf : 0 ≤ x.frm ∧ x.frm ≤ 1099511627776)
    (hpr : prOk p) (hsz : p.title.size ≤ 1000000000) (hJ : J.length ≤ 16) :
    Calls Tryz.prog 39 #[.pointer (some ⟨wb, 0, none⟩), .agg (brC x ad c).toArray] w fun e w' => ∃ (A' : Sn) (J' : Js) (k' : Wk), e = .returned (.tuple #[]) ∧ Bit p A T J k true A' T J' k' ∧
      St W w' (blk wb 80 (wkC p adO cO tq jq sq k') :: Tree tq sq T :: Store sq r A' :: Jobs jq J' :: RoP W p adO cO :: L) := by
  have hwt := Tree.wt (hs.tree tq)
  have hA := (Store.facts (hs.store sq)).1
  have hOk := (hwt.ok x hx).1
  have hil := (List.getElem?_eq_some_iff.1 hi).1
  have hdl : x.press.length ≤ 65536 := hOk.1
  refine calls_enter Tryz.func39 rfl Tryz.ntmps39 (Nat.le_of_ble_eq_true rfl) ?_
  intro a ha
  replace ha : Fr a 55 [(0, _), (1, _)] := ha
  refine WS <| WR ?_
  refine SK (st_box ha rfl hs rfl ?_); clear ha hs a; (try clear w); intro b3 a w ha hs ho
  clear ho
  change St W w (blk b3 43 (brC x ad c) :: _) at hs
  refine LN <| TN <| WS ?_
  refine DW (m := 11) (Old w.drew) [7] [0, 1, 2, 4, 5, 6, 3, 7, 8, 9, 10] Ty.mixed (pk_then pk_body) (fun hpk => ?_)
  replace hs := hs.drew
  have hC := Old.refl w.drew
  generalize w.drew = w at hs hC hpk ⊢
  iterate 6 (refine DP hpk ha rfl ?_; clear ha a; intro a ha)
  refine DL hpk ha rfl (fun w hc => hc.cell (hs.rd1 rfl)) hC ?_; clear ha a; intro a ha
  refine D1 rfl (st_set ha rfl (ex_load1 ha Tryz.underlying36 rfl (hs.rd1 rfl)) rfl ?_); clear ha a; intro a ha
  refine ⟨fun _ => hC, ?_⟩
  refine DQ hpk ha rfl rfl (fun w => ex_build ha Ty.b133 Ty.t133 rfl) ?_; clear ha a; intro a ha
  refine D1 rfl (st_box ha rfl hs rfl ?_); clear ha hs a; (try clear w); intro b14 a w ha hs ho
  (try replace hC := hC.trans ho); clear ho
  refine ⟨fun h => absurd h (by decide), ?_⟩
  change St W w (blk b14 133 [.pointer (some ⟨sq, 0, none⟩), .int .i64 k.x, .bool false] :: _) at hs
  refine DP hpk ha rfl ?_; clear ha a; intro a ha
  refine DD <| TN <| WS ?_
  obtain ⟨zs, hz, hzl, hs⟩ := OwnBB.open (hs.pick (OwnBB ad x.press.length c x.press))
  obtain ⟨bb, oo, rfl, hrd⟩ := hs.drew.slRd ad (by omega)
  have hzn : zs.length = x.press.length := by rw [← hz, List.length_map]
  have hzk : zs[k.done]? = some (zs[k.done]'(by omega)) := List.getElem?_eq_getElem (by omega)
  have hpk2 : x.press[k.done]? = some (zs[k.done]'(by omega)).2.2 := by rw [← hz, List.getElem?_map, hzk]; rfl
  have hcell := hrd k.done _ (by rw [List.getElem?_map, hzk]; rfl)
  have hwk : Rd w.drew wb 0 (wkC p adO cO tq jq sq k) := hs.drew.rdAll
  have hwp : Rd w.drew wb 0 (prV p adO cO) := hwk.part 0 2
  have hwb : Rd w.drew b3 0 (brC x (some ⟨bb, oo, none⟩) c) := hs.drew.rdAll
  have hwl : (zs[k.done]'(by omega)).2.2.length ≤ 1099511627776 := hOk.2 _ (List.mem_of_getElem? hpk2)
  refine DW (m := 22) (fun w' => Rd w' wb 0 (wkC p adO cO tq jq sq k) ∧ Rd w' wb 0 (prV p adO cO) ∧ Rd w' b3 0 (brC x (some ⟨bb, oo, none⟩) c) ∧ w'.cell? ⟨bb, oo + k.done, none⟩ = some (bbv (zs[k.done]'(by omega)))) [5, 7, 11, 12, 14, 18, 19, 20] [0, 1, 2, 4, 6, 8, 9, 10, 13, 15, 16, 17, 3, 7, 11, 12, 14, 18, 19, 20, 5, 21] Ty.mixed (pk_then pk_body) (fun hpk => ?_)
  replace hs := hs.drew
  generalize w.drew = w at hs hpk hcell hwk hwp hwb ⊢
  have hC := And.intro hwk (And.intro hwp (And.intro hwb hcell))
  iterate 12 (refine DP hpk ha rfl ?_; clear ha a; intro a ha)
  refine DH hpk ha rfl rfl (fun w hc => ex_loadN ha Tryz.underlying24 rfl Ty.t24 (hc.2.1)) hC ?_; clear ha a; intro a ha
  refine DL hpk ha rfl (fun w hc => hc.2.2.1 1 _ rfl) hC ?_; clear ha a; intro a ha
  refine DL hpk ha rfl (fun w hc => hc.1 9 _ rfl) hC ?_; clear ha a; intro a ha
  refine DH hpk ha rfl rfl (fun w hc => ex_addI ha (by omega) (by omega)) hC ?_; clear ha a; intro a ha
  refine DL hpk ha rfl (fun w hc => hc.2.2.1 2 _ rfl) hC ?_; clear ha a; intro a ha
  refine DL hpk ha rfl (fun w hc => hc.1 9 _ rfl) hC ?_; clear ha a; intro a ha
  refine DH hpk ha rfl rfl (fun w hc => ex_indexAddr ha Tryz.underlying41 Ty.t47 (by omega)) hC ?_; clear ha a; intro a ha
  rw [Nat.mul_one] at ha
  refine DL hpk ha rfl (fun w hc => hc.2.2.2) hC ?_; clear ha a; intro a ha
  refine D1 rfl (st_set ha rfl (ex_makeI ha Tryz.underlying131 rfl) rfl ?_); clear ha a; intro a ha
  refine ⟨fun _ => hC, ?_⟩
  have hs2 : St W w (Store sq r { A with pics := A.pics.set i ⟨px.id, px.refs, px.g, px.p⟩ } :: blk b14 133 [.pointer (some ⟨sq, 0, none⟩), .int .i64 k.x, .bool false] :: RoP W p adO cO :: Sl 47 1 (some ⟨bb, oo, none⟩) x.press.length c (zs.map bbv) :: All bbo zs :: blk wb 80 (wkC p adO cO tq jq sq k) :: blk b3 43 (brC x (some ⟨bb, oo, none⟩) c) :: Tree tq sq T :: Jobs jq J :: L) := by
    rw [show ({ A with pics := A.pics.set i ⟨px.id, px.refs, px.g, px.p⟩ } : Sn) = A from by rw [← set_same hi]]
    exact hs.sub
  rw [← hpi] at hs2
  have hs3 := Jw.close (i := i) (A := A) (px := px) (g := px.g) (bad := false) (p' := px.p) (hs2.sub (M := blk b14 133 [.pointer (some ⟨sq, 0, none⟩), .int .i64 px.id, .bool false] :: Store sq r { A with pics := A.pics.set i ⟨px.id, px.refs, px.g, px.p⟩ } :: RoP W p adO cO :: Sl 47 1 (some ⟨bb, oo, none⟩) x.press.length c (zs.map bbv) :: All bbo zs :: blk wb 80 (wkC p adO cO tq jq sq k) :: blk b3 43 (brC x (some ⟨bb, oo, none⟩) c) :: Tree tq sq T :: Jobs jq J :: L)) hg (fun h => by cases h)
  refine D1 rfl (st_call ha rfl Ty.c68 rfl (run_spec (M := cells_mem (W := W) (q := sq) (r := r) (bc := b14) (A := A) (px := px) (i := i) hil) hs3 hpr hsz hwl (fun w' h => (St.rdX (h.sub (M := Sl 47 1 (some ⟨bb, oo, none⟩) x.press.length c (zs.map bbv) :: All bbo zs :: []))).2 _ (List.getElem_mem _))) ?_); clear ha hs
  rintro e w ⟨g2, bad2, n2, rfl, hgb, hs⟩
  refine ⟨_, rfl, ?_⟩
  intro a ha
  refine ⟨fun h => absurd h (by decide), ?_⟩
  obtain ⟨p2, ⟨hg2, hbad2⟩, hs⟩ := Jw.open hs
  have hA2 := (Store.facts (hs.store sq)).1
  refine DD <| TN <| WS <| WS <| WR ?_
  iterate 3 (refine S1 ha ?_; clear ha a; intro a ha)
  refine SL ha (hs.rd1 rfl) ?_; clear ha a; intro a ha
  refine LN <| TN ?_
  refine WI ha (fun hc0 => ?_) (fun hc0 => ?_)
  ·
   refine WS <| WR ?_
   refine S1 ha ?_; clear ha; (try clear a); intro a ha
   refine SK (st_call ha rfl Ty.c18 rfl (rest_busy (L := Tree tq sq T :: Jobs jq J :: RoP W p adO cO :: L) (hs.sub (M := blk wb 80 (wkC p adO cO tq jq sq k) :: Store sq r { A with pics := A.pics.set i ⟨px.id, px.refs, g2, p2⟩ } :: Tree tq sq T :: Jobs jq J :: RoP W p adO cO :: L)) hb) ?_); clear ha hs
   rintro e w ⟨rfl, hs⟩
   refine ⟨_, rfl, ?_⟩
   intro a ha
   refine LN ?_
   have hwp2 : Rd w wb 6 [.int .i64 k.jb, .int .i64 k.je] := (hs.rdAll (b := wb)).part 6 2
   refine TN <| WS ?_
   replace hwp2 : Rd w.drew wb 6 [.int .i64 k.jb, .int .i64 k.je] := (hs.drew.rdAll (b := wb)).part 6 2
   refine DW (m := 9) (fun w' => Rd w' wb 0 (wkC p adO cO tq jq sq { k with busy := false }) ∧ Rd w' wb 6 [.int .i64 k.jb, .int .i64 k.je]) [7] [0, 1, 2, 4, 5, 6, 3, 7, 8] Ty.mixed (pk_then (pk_then pk_body)) (fun hpk => ?_)
   replace hs := hs.drew
   generalize w.drew = w at hs hpk hwp2 ⊢
   have hC : Rd w wb 0 (wkC p adO cO tq jq sq { k with busy := false }) ∧ Rd w wb 6 [.int .i64 k.jb, .int .i64 k.je] := ⟨hs.rdAll, hwp2⟩
   iterate 6 (refine DP hpk ha rfl ?_; clear ha a; intro a ha)
   refine DL hpk ha rfl (fun w hc => hc.1 3 _ rfl) hC ?_; clear ha a; intro a ha
   refine D1 rfl (st_set ha rfl (ex_loadN ha Tryz.underlying77 rfl Ty.t77 (hC.2)) rfl ?_); clear ha a; intro a ha
   refine ⟨fun _ => hC, ?_⟩
   refine D1 rfl (st_call ha rfl Ty.c34 rfl (put_spec (hs.jobs jq) hJ) ?_); clear ha hs
   rintro e w ⟨rfl, hs⟩
   refine ⟨_, rfl, ?_⟩
   intro a ha
   refine ⟨fun h => absurd h (by decide), ?_⟩
   change St W w (Jobs jq (putJ J k.jb k.je) :: _) at hs
   refine DD <| TN <| wp_ret <| TR ?_
   refine ret0 ha rfl ?_
   refine ⟨A.dropId k.x, putJ J k.jb k.je, { k with busy := false }, rfl, .failed hb he hx hid hpl (hbad2 hc0), ?_⟩
   rw [← hpi, dropId_set hA hA2 hi hr] at *
   exact hs.sub
  ·
   refine WK <| TN <| WR ?_
   refine S1 ha ?_; clear ha; (try clear a); intro a ha
   iterate 2 (refine S1 ha ?_; clear ha a; intro a ha)
   refine SK (st_store ha rfl hs Ty.t4 rfl (by simp [wkC]) ?_); clear ha hs a; (try clear w); intro a w ha hs
   change St W w (blk wb 80 (wkC p adO cO tq jq sq { k with played := true }) :: _) at hs
   refine LN ?_
   refine end0 ha rfl ?_
   obtain ⟨_, hge⟩ := hgb hc0
   subst hge
   exact ⟨_, J, { k with played := true }, rfl, .played (p' := p2) hb he hx hid hpl hi hpi hpk2 hg2, hs.sub⟩
theorem publish_bit {ad : Option Addr} {c : Nat} (hs : St W w (blk wb 80 (wkC p adO cO tq jq sq k) :: Tree tq sq T :: Store sq r A :: Jobs jq J :: L))
    (hb : k.busy = true) (he : k.je = T.epoch) (hx : T.l[kk]? = some x) (hid : (x.id : Int) = k.jb) (hpl : k.played = true) (hi : A.pics[i]? = some px) (hpi : px.id = k.x) (hd : k.done < x.press.length) (hJ : J.length ≤ 16) :
    Calls Tryz.prog 40 #[.pointer (some ⟨wb, 0, none⟩), .agg (brC x ad c).toArray] w fun e w' => ∃ (A' : Sn) (T' : Tr) (J' : Js) (k' : Wk), e = .returned (.tuple #[]) ∧ Bit p A T J k true A' T' J' k' ∧
      St W w' (blk wb 80 (wkC p adO cO tq jq sq k') :: Tree tq sq T' :: Store sq r A' :: Jobs jq J' :: L) := by
  have hwt := Tree.wt (hs.tree tq)
  have hxm := List.mem_of_getElem? hx
  have hkl := (List.getElem?_eq_some_iff.1 hx).1
  have hOk := (hwt.ok x hxm).1
  have hdl : x.press.length ≤ 65536 := hOk.1
  refine calls_enter Tryz.func40 rfl Tryz.ntmps40 (Nat.le_of_ble_eq_true rfl) ?_
  intro a ha
  replace ha : Fr a 55 [(0, _), (1, _)] := ha
  refine WS <| WR ?_
  refine SK (st_box ha rfl hs rfl ?_); clear ha hs a; (try clear w); intro b3 a w ha hs ho
  clear ho
  change St W w (blk b3 43 (brC x ad c) :: _) at hs
  refine LN <| TN <| WS <| WS ?_
  refine DW (m := 16) (fun w' => Rd w' wb 0 (wkC p adO cO tq jq sq k) ∧ Rd w' b3 0 (brC x ad c)) [5, 9, 10, 14] [0, 1, 2, 4, 6, 7, 8, 11, 12, 13, 3, 5, 9, 10, 14, 15] Ty.mixed (pk_then (pk_then pk_body)) (fun hpk => ?_)
  replace hs := hs.drew
  generalize w.drew = w at hs hpk ⊢
  have hC : Rd w wb 0 (wkC p adO cO tq jq sq k) ∧ Rd w b3 0 (brC x ad c) := ⟨hs.rdAll, hs.rdAll⟩
  iterate 10 (refine DP hpk ha rfl ?_; clear ha a; intro a ha)
  refine DL hpk ha rfl (fun w hc => hc.1 2 _ rfl) hC ?_; clear ha a; intro a ha
  refine DL hpk ha rfl (fun w hc => hc.2 0 _ rfl) hC ?_; clear ha a; intro a ha
  refine DL hpk ha rfl (fun w hc => hc.1 9 _ rfl) hC ?_; clear ha a; intro a ha
  refine DH hpk ha rfl rfl (fun w hc => ex_addI ha (by omega) (by omega)) hC ?_; clear ha a; intro a ha
  refine D1 rfl (st_set ha rfl (ex_load1 ha Tryz.underlying36 rfl (hC.1 8 _ rfl)) rfl ?_); clear ha a; intro a ha
  refine ⟨fun _ => hC, ?_⟩
  refine D1 rfl (st_call ha rfl Ty.c69 rfl (publish_try (kk := kk) (d := k.done + 1) (L := blk wb 80 (wkC p adO cO tq jq sq k) :: blk b3 43 (brC x ad c) :: Jobs jq J :: L) (hs.sub (M := Tree tq sq T :: Store sq r A :: blk wb 80 (wkC p adO cO tq jq sq k) :: blk b3 43 (brC x ad c) :: Jobs jq J :: L)) hx (by omega) hi hpi) ?_); clear ha hs
  rintro e w ⟨rfl, hpub⟩
  refine ⟨_, rfl, ?_⟩
  intro a ha
  refine ⟨fun h => absurd h (by decide), ?_⟩
  refine DD <| TN ?_
  refine wp_if ha (fun hc0 => ?_) (fun hc0 => ?_)
  ·
   have hlt : x.done < k.done + 1 := by simpa using hc0
   replace hs := (hpub.resolve_right (fun h => by omega)).2
   refine WR ?_
   refine S1 ha ?_; clear ha; (try clear a); intro a ha
   iterate 2 (refine S1 ha ?_; clear ha a; intro a ha)
   refine SK (st_store ha rfl hs Ty.t4 rfl (by simp [wkC]) ?_); clear ha hs a; (try clear w); intro a w ha hs
   change St W w (blk wb 80 (wkC p adO cO tq jq sq { k with busy := false }) :: _) at hs
   refine LN <| TN <| WS <| WR ?_
   refine S1 ha ?_; clear ha a; intro a ha
   refine SK (st_call ha rfl Ty.c18 rfl (rest_idle (k := { k with busy := false }) hs rfl) ?_); clear ha hs
   rintro e w ⟨rfl, hs⟩
   refine ⟨_, rfl, ?_⟩
   intro a ha
   refine LN <| TN ?_
   refine wp_seq_cut (M := fun a w => ∃ (b4 : Nat) (ad2 : Option Addr) (c2 : Nat), Fr a 55 [(0, .pointer (some ⟨wb, 0, none⟩)), (4, .pointer (some ⟨b4, 0, none⟩)), (5, .bool true)] ∧ St W w (blk b4 43 (brC { x with done := k.done + 1, snap := k.x } ad2 c2) :: blk wb 80 (wkC p adO cO tq jq sq { k with busy := false }) :: Tree tq sq (T.pub kk x (k.done + 1) k.x) :: Store sq r (A.dropId x.snap) :: Jobs jq J :: L)) ?_ ?_
   ·
    refine DW (m := 13) (fun w' => Rd w' wb 0 (wkC p adO cO tq jq sq { k with busy := false }) ∧ Rd w' b3 0 (brC x ad c)) [5, 10] [0, 1, 2, 4, 3, 5, 6, 7, 8, 9, 10, 11, 12] Ty.mixed (pk_then pk_body) (fun hpk => ?_)
    replace hs := hs.drew
    generalize w.drew = w at hs hpk ⊢
    have hC : Rd w wb 0 (wkC p adO cO tq jq sq { k with busy := false }) ∧ Rd w b3 0 (brC x ad c) := ⟨hs.rdAll, hs.rdAll⟩
    refine DP hpk ha rfl ?_; clear ha; (try clear a); intro a ha
    iterate 3 (refine DP hpk ha rfl ?_; clear ha a; intro a ha)
    refine DL hpk ha rfl (fun w hc => hc.1 2 _ rfl) hC ?_; clear ha a; intro a ha
    refine DL hpk ha rfl (fun w hc => hc.2 0 _ rfl) hC ?_; clear ha a; intro a ha
    refine D2 (i := 6) (j := 10) [7, 8, 9, 10, 11, 12] [6, 7, 8, 9, 11, 12] (by kernel_rfl) rfl rfl ?_ ?_
    ·
     refine st_call ha rfl Ty.c38 rfl (tree_get (x := { x with done := k.done + 1, snap := k.x }) (k := kk) (hs.tree tq) (by simp [Tr.pub, hkl])) ?_; clear ha hs
     rintro e w ⟨ad2, c2, rfl, hs⟩
     refine ⟨_, rfl, ?_⟩
     intro a ha
     refine ⟨fun h => absurd h (by decide), ?_⟩
     refine DP hpk ha rfl ?_; clear ha; (try clear a); intro a ha
     iterate 2 (refine DP hpk ha rfl ?_; clear ha a; intro a ha)
     refine D1 rfl (st_alloc ha rfl hs Ty.t43 rfl ?_); clear ha hs a; (try clear w); intro b4 a w ha hs ho
     (try replace hC := hC.trans ho); clear ho
     replace hC : (fun w' => Rd w' wb 0 (wkC p adO cO tq jq sq { k with busy := false }) ∧ Rd w' b3 0 (brC x ad c)) w := And.intro hs.rdAll hs.rdAll
     refine ⟨fun _ => hC, ?_⟩
     refine D1 rfl (st_storeAll ha rfl hs Ty.t43 (brC_one { x with done := k.done + 1, snap := k.x } ad2 c2) (by rfl) ?_); clear ha hs a; (try clear w); intro a w ha hs
     refine ⟨fun h => absurd h (by decide), ?_⟩
     refine DP hpk ha rfl ?_; clear ha a; intro a ha
     refine DD <| TN ?_
     exact ⟨_, ad2, c2, ha.keep [0, 4, 5], hs.sub⟩
    ·
     refine st_alloc ha rfl hs Ty.t43 rfl ?_; clear ha hs; (try clear a); (try clear w); intro b4 a w ha hs ho
     (try replace hC := hC.trans ho); clear ho
     replace hC : (fun w' => Rd w' wb 0 (wkC p adO cO tq jq sq { k with busy := false }) ∧ Rd w' b3 0 (brC x ad c)) w := And.intro hs.rdAll hs.rdAll
     refine ⟨fun _ => hC, ?_⟩
     refine D1 rfl (st_call ha rfl Ty.c38 rfl (tree_get (x := { x with done := k.done + 1, snap := k.x }) (k := kk) (hs.tree tq) (by simp [Tr.pub, hkl])) ?_); clear ha hs
     rintro e w ⟨ad2, c2, rfl, hs⟩
     refine ⟨_, rfl, ?_⟩
     intro a ha
     refine ⟨fun h => absurd h (by decide), ?_⟩
     iterate 3 (refine DP hpk ha rfl ?_; clear ha a; intro a ha)
     refine D1 rfl (st_storeAll ha rfl hs Ty.t43 (brC_one { x with done := k.done + 1, snap := k.x } ad2 c2) (by rfl) ?_); clear ha hs a; (try clear w); intro a w ha hs
     refine ⟨fun h => absurd h (by decide), ?_⟩
     refine DP hpk ha rfl ?_; clear ha a; intro a ha
     refine DD <| TN ?_
     exact ⟨_, ad2, c2, ha.keep [0, 4, 5], hs.sub⟩
   ·
    clear ha; (try clear hs)
    intro a w hcut
    obtain ⟨b4, ad2, c2, ha, hs⟩ := hcut
    refine WS <| WR ?_
    refine S1 ha ?_; clear ha; (try clear a); intro a ha
    refine S1 ha ?_; clear ha a; intro a ha
    refine S1g (s := 38) ha ?_; clear ha a; intro a ha
    refine SLg (s := 38) ha (hs.rd1 rfl) ?_; clear ha a; intro a ha
    refine S1g (s := 38) ha ?_; clear ha a; intro a ha
    refine SLg (s := 38) ha (hs.rd1 rfl) ?_; clear ha a; intro a ha
    iterate 2 (refine S1g (s := 38) ha ?_; clear ha a; intro a ha)
    refine PT ha ?_; clear ha a; intro a ha
    refine LN <| TN ?_
    refine WI ha (fun hc1 => ?_) (fun hc1 => ?_)
    ·
     replace hc1 : ((k.done + 1 : Nat) : Int) < ((x.press.length : Nat) : Int) := hc1
     have hwp2 : Rd w.drew wb 6 [.int .i64 k.jb, .int .i64 k.je] := (hs.drew.rdAll (b := wb)).part 6 2
     refine DW (m := 9) (fun w' => Rd w' wb 0 (wkC p adO cO tq jq sq { k with busy := false }) ∧ Rd w' wb 6 [.int .i64 k.jb, .int .i64 k.je]) [7] [0, 1, 2, 4, 5, 6, 3, 7, 8] Ty.mixed pk_body (fun hpk => ?_)
     replace hs := hs.drew
     generalize w.drew = w at hs hpk hwp2 ⊢
     have hC : Rd w wb 0 (wkC p adO cO tq jq sq { k with busy := false }) ∧ Rd w wb 6 [.int .i64 k.jb, .int .i64 k.je] := ⟨hs.rdAll, hwp2⟩
     refine DP hpk ha rfl ?_; clear ha; (try clear a); intro a ha
     iterate 5 (refine DP hpk ha rfl ?_; clear ha a; intro a ha)
     refine DL hpk ha rfl (fun w hc => hc.1 3 _ rfl) hC ?_; clear ha a; intro a ha
     refine D1 rfl (st_set ha rfl (ex_loadN ha Tryz.underlying77 rfl Ty.t77 (hC.2)) rfl ?_); clear ha a; intro a ha
     refine ⟨fun _ => hC, ?_⟩
     refine D1 rfl (st_call ha rfl Ty.c34 rfl (put_spec (hs.jobs jq) hJ) ?_); clear ha hs
     rintro e w ⟨rfl, hs⟩
     refine ⟨_, rfl, ?_⟩
     intro a ha
     refine ⟨fun h => absurd h (by decide), ?_⟩
     change St W w (Jobs jq (putJ J k.jb k.je) :: _) at hs
     refine DD ?_
     refine end0 ha rfl ?_
     refine ⟨_, _, if k.done + 1 < x.press.length then putJ J k.jb k.je else J, { k with busy := false }, rfl, .pub (x := x) (kk := kk) hb he hx hid hpl hlt (by omega), ?_⟩
     rw [if_pos (by omega)]
     exact hs.sub
    ·
     replace hc1 : ((x.press.length : Nat) : Int) ≤ ((k.done + 1 : Nat) : Int) := hc1
     refine WK ?_
     refine end0 ha rfl ?_
     refine ⟨_, _, if k.done + 1 < x.press.length then putJ J k.jb k.je else J, { k with busy := false }, rfl, .pub (x := x) (kk := kk) hb he hx hid hpl hlt (by omega), ?_⟩
     rw [if_neg (by omega)]
     exact hs.sub
  ·
   have hlt : k.done + 1 ≤ x.done := by
     have := of_decide_eq_false hc0
     omega
   replace hs := (hpub.resolve_left (fun h => by omega)).2
   refine WK <| TN <| WS <| WR ?_
   refine S1 ha ?_; clear ha; (try clear a); intro a ha
   refine SK (st_call ha rfl Ty.c18 rfl (rest_busy (L := blk b3 43 (brC x ad c) :: Tree tq sq T :: Jobs jq J :: L) (hs.sub (M := blk wb 80 (wkC p adO cO tq jq sq k) :: Store sq r A :: blk b3 43 (brC x ad c) :: Tree tq sq T :: Jobs jq J :: L)) hb) ?_); clear ha hs
   rintro e w ⟨rfl, hs⟩
   refine ⟨_, rfl, ?_⟩
   intro a ha
   refine LN <| TN ?_
   refine wp_seq_cut (M := fun a w => ∃ (b4 : Nat) (ad2 : Option Addr) (c2 : Nat), Fr a 55 [(0, .pointer (some ⟨wb, 0, none⟩)), (4, .pointer (some ⟨b4, 0, none⟩)), (5, .bool true)] ∧ St W w (blk b4 43 (brC x ad2 c2) :: blk wb 80 (wkC p adO cO tq jq sq { k with busy := false }) :: Tree tq sq T :: Store sq r (A.dropId k.x) :: Jobs jq J :: L)) ?_ ?_
   ·
    refine DW (m := 13) (fun w' => Rd w' wb 0 (wkC p adO cO tq jq sq { k with busy := false }) ∧ Rd w' b3 0 (brC x ad c)) [5, 10] [0, 1, 2, 4, 3, 5, 6, 7, 8, 9, 10, 11, 12] Ty.mixed (pk_then pk_body) (fun hpk => ?_)
    replace hs := hs.drew
    generalize w.drew = w at hs hpk ⊢
    have hC : Rd w wb 0 (wkC p adO cO tq jq sq { k with busy := false }) ∧ Rd w b3 0 (brC x ad c) := ⟨hs.rdAll, hs.rdAll⟩
    refine DP hpk ha rfl ?_; clear ha; (try clear a); intro a ha
    iterate 3 (refine DP hpk ha rfl ?_; clear ha a; intro a ha)
    refine DL hpk ha rfl (fun w hc => hc.1 2 _ rfl) hC ?_; clear ha a; intro a ha
    refine DL hpk ha rfl (fun w hc => hc.2 0 _ rfl) hC ?_; clear ha a; intro a ha
    refine D2 (i := 6) (j := 10) [7, 8, 9, 10, 11, 12] [6, 7, 8, 9, 11, 12] (by kernel_rfl) rfl rfl ?_ ?_
    ·
     refine st_call ha rfl Ty.c38 rfl (tree_get (x := x) (k := kk) (hs.tree tq) hx) ?_; clear ha hs
     rintro e w ⟨ad2, c2, rfl, hs⟩
     refine ⟨_, rfl, ?_⟩
     intro a ha
     refine ⟨fun h => absurd h (by decide), ?_⟩
     refine DP hpk ha rfl ?_; clear ha; (try clear a); intro a ha
     iterate 2 (refine DP hpk ha rfl ?_; clear ha a; intro a ha)
     refine D1 rfl (st_alloc ha rfl hs Ty.t43 rfl ?_); clear ha hs a; (try clear w); intro b4 a w ha hs ho
     (try replace hC := hC.trans ho); clear ho
     replace hC : (fun w' => Rd w' wb 0 (wkC p adO cO tq jq sq { k with busy := false }) ∧ Rd w' b3 0 (brC x ad c)) w := And.intro hs.rdAll hs.rdAll
     refine ⟨fun _ => hC, ?_⟩
     refine D1 rfl (st_storeAll ha rfl hs Ty.t43 (brC_one x ad2 c2) (by rfl) ?_); clear ha hs a; (try clear w); intro a w ha hs
     refine ⟨fun h => absurd h (by decide), ?_⟩
     refine DP hpk ha rfl ?_; clear ha a; intro a ha
     refine DD <| TN ?_
     exact ⟨_, ad2, c2, ha.keep [0, 4, 5], hs.sub⟩
    ·
     refine st_alloc ha rfl hs Ty.t43 rfl ?_; clear ha hs; (try clear a); (try clear w); intro b4 a w ha hs ho
     (try replace hC := hC.trans ho); clear ho
     replace hC : (fun w' => Rd w' wb 0 (wkC p adO cO tq jq sq { k with busy := false }) ∧ Rd w' b3 0 (brC x ad c)) w := And.intro hs.rdAll hs.rdAll
     refine ⟨fun _ => hC, ?_⟩
     refine D1 rfl (st_call ha rfl Ty.c38 rfl (tree_get (x := x) (k := kk) (hs.tree tq) hx) ?_); clear ha hs
     rintro e w ⟨ad2, c2, rfl, hs⟩
     refine ⟨_, rfl, ?_⟩
     intro a ha
     refine ⟨fun h => absurd h (by decide), ?_⟩
     iterate 3 (refine DP hpk ha rfl ?_; clear ha a; intro a ha)
     refine D1 rfl (st_storeAll ha rfl hs Ty.t43 (brC_one x ad2 c2) (by rfl) ?_); clear ha hs a; (try clear w); intro a w ha hs
     refine ⟨fun h => absurd h (by decide), ?_⟩
     refine DP hpk ha rfl ?_; clear ha a; intro a ha
     refine DD <| TN ?_
     exact ⟨_, ad2, c2, ha.keep [0, 4, 5], hs.sub⟩
   ·
    clear ha; (try clear hs)
    intro a w hcut
    obtain ⟨b4, ad2, c2, ha, hs⟩ := hcut
    refine WS <| WR ?_
    refine S1 ha ?_; clear ha; (try clear a); intro a ha
    refine S1 ha ?_; clear ha a; intro a ha
    refine S1g (s := 38) ha ?_; clear ha a; intro a ha
    refine SLg (s := 38) ha (hs.rd1 rfl) ?_; clear ha a; intro a ha
    refine S1g (s := 38) ha ?_; clear ha a; intro a ha
    refine SLg (s := 38) ha (hs.rd1 rfl) ?_; clear ha a; intro a ha
    iterate 2 (refine S1g (s := 38) ha ?_; clear ha a; intro a ha)
    refine PT ha ?_; clear ha a; intro a ha
    refine LN <| TN ?_
    refine WI ha (fun hc1 => ?_) (fun hc1 => ?_)
    ·
     have hwp2 : Rd w.drew wb 6 [.int .i64 k.jb, .int .i64 k.je] := (hs.drew.rdAll (b := wb)).part 6 2
     refine DW (m := 9) (fun w' => Rd w' wb 0 (wkC p adO cO tq jq sq { k with busy := false }) ∧ Rd w' wb 6 [.int .i64 k.jb, .int .i64 k.je]) [7] [0, 1, 2, 4, 5, 6, 3, 7, 8] Ty.mixed pk_body (fun hpk => ?_)
     replace hs := hs.drew
     generalize w.drew = w at hs hpk hwp2 ⊢
     have hC : Rd w wb 0 (wkC p adO cO tq jq sq { k with busy := false }) ∧ Rd w wb 6 [.int .i64 k.jb, .int .i64 k.je] := ⟨hs.rdAll, hwp2⟩
     refine DP hpk ha rfl ?_; clear ha; (try clear a); intro a ha
     iterate 5 (refine DP hpk ha rfl ?_; clear ha a; intro a ha)
     refine DL hpk ha rfl (fun w hc => hc.1 3 _ rfl) hC ?_; clear ha a; intro a ha
     refine D1 rfl (st_set ha rfl (ex_loadN ha Tryz.underlying77 rfl Ty.t77 (hC.2)) rfl ?_); clear ha a; intro a ha
     refine ⟨fun _ => hC, ?_⟩
     refine D1 rfl (st_call ha rfl Ty.c34 rfl (put_spec (hs.jobs jq) hJ) ?_); clear ha hs
     rintro e w ⟨rfl, hs⟩
     refine ⟨_, rfl, ?_⟩
     intro a ha
     refine ⟨fun h => absurd h (by decide), ?_⟩
     change St W w (Jobs jq (putJ J k.jb k.je) :: _) at hs
     refine DD ?_
     refine end0 ha rfl ?_
     refine ⟨_, _, if x.done < x.press.length then putJ J k.jb k.je else J, { k with busy := false }, rfl, .lost (x := x) hb he hxm hid hpl hlt, ?_⟩
     rw [if_pos (by omega)]
     exact hs.sub
    ·
     refine WK ?_
     refine end0 ha rfl ?_
     refine ⟨_, _, if x.done < x.press.length then putJ J k.jb k.je else J, { k with busy := false }, rfl, .lost (x := x) hb he hxm hid hpl hlt, ?_⟩
     rw [if_neg (by omega)]
     exact hs.sub
/-- A worker may do a bit. -/
structure Ready (p : Pr) (A : Sn) (T : Tr) (J : Js) (k : Wk) : Prop where
  pr : prOk p
  sz : p.title.size ≤ 1000000000
  frm : ∀ y ∈ T.l, 0 ≤ y.frm ∧ y.frm ≤ 1099511627776
  br : ∀ x ∈ T.l, ∃ (i : Nat) (px : Pic), A.pics[i]? = some px ∧ px.id = x.snap
  wk : k.busy = true → (∃ (i : Nat) (px : Pic), A.pics[i]? = some px ∧ px.id = k.x ∧ px.refs = 1 ∧ gOk px.g) ∧ ∀ y ∈ T.l, (y.id : Int) = k.jb → k.done < y.press.length
  n : A.n + 1 < 1099511627776
  len : J.length ≤ 16
theorem Inv.ready {F : Int} {g0 : Nat → Int} {t : Nat → Nat} {base : Nat} {ws : List Wk} (h : Inv p F g0 t base A T ws) (hk : k ∈ ws) (hF : 0 ≤ F ∧ F ≤ 1099511627776) (hp : prOk p) (hz : p.title.size ≤ 1000000000) (hn : A.n + 1 < 1099511627776) (hJ : J.length ≤ 16) : Ready p A T J k :=
  ⟨hp, hz, fun y hy => by rw [(h.brs y hy).1]; exact hF, fun x hx => h.ofBr hx, fun hb => ⟨by
    obtain ⟨i, px, h1, h2⟩ := h.ofWk hk hb
    have h3 := h.pics px (List.mem_of_getElem? h1)
    exact ⟨i, px, h1, h2, h3.1, h3.2⟩, fun y hy he => ((h.wks k hk).2 hb y hy he).1⟩, hn, hJ⟩
theorem step_bit (hs : St W w (blk wb 80 (wkC p adO cO tq jq sq k) :: Tree tq sq T :: Store sq r A :: Jobs jq J :: RoP W p adO cO :: L)) (hr : Ready p A T J k) :
    Calls Tryz.prog 12 #[.pointer (some ⟨wb, 0, none⟩)] w fun e w' => ∃ (z : Bool) (A' : Sn) (T' : Tr) (J' : Js) (k' : Wk), e = .returned (.bool z) ∧ Bit p A T J k z A' T' J' k' ∧
      St W w' (blk wb 80 (wkC p adO cO tq jq sq k') :: Tree tq sq T' :: Store sq r A' :: Jobs jq J' :: RoP W p adO cO :: L) := by
  refine calls_enter Tryz.func12 rfl Tryz.ntmps12 (Nat.le_of_ble_eq_true rfl) ?_
  intro a ha
  replace ha : Fr a 57 [(0, _)] := ha
  refine WS <| WR ?_
  refine S1 ha ?_; clear ha a; intro a ha
  refine LN <| TN <| WS <| WS <| WR ?_
  iterate 2 (refine S1 ha ?_; clear ha a; intro a ha)
  refine LN <| TN <| WFa ha <| WK <| TN <| WS <| WS <| WR ?_
  iterate 3 (refine S1 ha ?_; clear ha a; intro a ha)
  refine SL ha (hs.rd1 rfl) ?_; clear ha a; intro a ha
  refine S1 ha ?_; clear ha a; intro a ha
  refine LN <| TN ?_
  refine WI ha (fun hc1 => ?_) (fun hc1 => ?_)
  ·
   refine WS <| WR ?_
   refine S1 ha ?_; clear ha; (try clear a); intro a ha
   refine SK (st_call ha rfl Ty.c37 rfl (take_bit (p := p) hs hc1 hr.br hr.n) ?_); clear ha hs
   rintro e w ⟨z, A', J', k', rfl, hbit, hs⟩
   refine ⟨_, rfl, ?_⟩
   intro a ha
   refine S1d ha ?_; clear ha a; intro a ha
   refine LN <| TN <| wp_ret <| TR ?_
   refine ret1 ha rfl ?_
   exact ⟨z, A', T, J', k', rfl, hbit, hs⟩
  ·
   obtain ⟨⟨i, px, hpx, hpid, hpr, hpg⟩, hdn⟩ := hr.wk hc1
   refine WK <| TN ?_
   refine wp_seq_cut (M := fun a w => ∃ (b3 : Nat) (x : Br) (ad : Option Addr) (c : Nat) (ok : Bool), ((ok = true ∧ x ∈ T.l ∧ (x.id : Int) = k.jb) ∨ (ok = false ∧ ∀ y ∈ T.l, (y.id : Int) ≠ k.jb)) ∧ Fr a 57 [(0, .pointer (some ⟨wb, 0, none⟩)), (3, .pointer (some ⟨b3, 0, none⟩)), (4, .bool ok)] ∧ St W w (blk b3 43 (brC x ad c) :: OwnBB ad x.press.length c x.press :: blk wb 80 (wkC p adO cO tq jq sq k) :: Tree tq sq T :: Store sq r A :: Jobs jq J :: RoP W p adO cO :: L)) ?_ ?_
   ·
    refine DW (m := 16) (fun w' => Rd w' wb 0 (wkC p adO cO tq jq sq k)) [8, 13] [0, 1, 2, 4, 5, 6, 7, 3, 8, 9, 10, 11, 12, 13, 14, 15] Ty.mixed (pk_then pk_body) (fun hpk => ?_)
    replace hs := hs.drew
    generalize w.drew = w at hs hpk ⊢
    have hC : Rd w wb 0 (wkC p adO cO tq jq sq k) := hs.rdAll
    refine DP hpk ha rfl ?_; clear ha; (try clear a); intro a ha
    iterate 6 (refine DP hpk ha rfl ?_; clear ha a; intro a ha)
    refine DL hpk ha rfl (fun w hc => hc 2 _ rfl) hC ?_; clear ha a; intro a ha
    refine DL hpk ha rfl (fun w hc => hc 6 _ rfl) hC ?_; clear ha a; intro a ha
    refine D2 (i := 9) (j := 13) [10, 11, 12, 13, 14, 15] [9, 10, 11, 12, 14, 15] (by kernel_rfl) rfl rfl ?_ ?_
    ·
     refine st_call ha rfl Ty.c38 rfl (tree_get_any (id := k.jb) (hs.tree tq)) ?_; clear ha hs
     rintro e w ⟨x, ad, c, ok, rfl, hok, hs⟩
     refine ⟨_, rfl, ?_⟩
     intro a ha
     refine ⟨fun h => absurd h (by decide), ?_⟩
     refine DP hpk ha rfl ?_; clear ha; (try clear a); intro a ha
     iterate 2 (refine DP hpk ha rfl ?_; clear ha a; intro a ha)
     refine D1 rfl (st_alloc ha rfl hs Ty.t43 rfl ?_); clear ha hs a; (try clear w); intro b3 a w ha hs ho
     (try replace hC := hC.trans ho); clear ho
     replace hC : (fun w' => Rd w' wb 0 (wkC p adO cO tq jq sq k)) w := hs.rdAll
     refine ⟨fun _ => hC, ?_⟩
     refine D1 rfl (st_storeAll ha rfl hs Ty.t43 (brC_one x ad c) (by rfl) ?_); clear ha hs a; (try clear w); intro a w ha hs
     refine ⟨fun h => absurd h (by decide), ?_⟩
     refine DP hpk ha rfl ?_; clear ha a; intro a ha
     refine DD <| TN ?_
     exact ⟨_, x, ad, c, ok, hok, ha.keep [0, 3, 4], hs.sub⟩
    ·
     refine st_alloc ha rfl hs Ty.t43 rfl ?_; clear ha hs; (try clear a); (try clear w); intro b3 a w ha hs ho
     (try replace hC := hC.trans ho); clear ho
     replace hC : (fun w' => Rd w' wb 0 (wkC p adO cO tq jq sq k)) w := hs.rdAll
     refine ⟨fun _ => hC, ?_⟩
     refine D1 rfl (st_call ha rfl Ty.c38 rfl (tree_get_any (id := k.jb) (hs.tree tq)) ?_); clear ha hs
     rintro e w ⟨x, ad, c, ok, rfl, hok, hs⟩
     refine ⟨_, rfl, ?_⟩
     intro a ha
     refine ⟨fun h => absurd h (by decide), ?_⟩
     iterate 3 (refine DP hpk ha rfl ?_; clear ha a; intro a ha)
     refine D1 rfl (st_storeAll ha rfl hs Ty.t43 (brC_one x ad c) (by rfl) ?_); clear ha hs a; (try clear w); intro a w ha hs
     refine ⟨fun h => absurd h (by decide), ?_⟩
     refine DP hpk ha rfl ?_; clear ha a; intro a ha
     refine DD <| TN ?_
     exact ⟨_, x, ad, c, ok, hok, ha.keep [0, 3, 4], hs.sub⟩
   ·
    clear ha; (try clear hs)
    intro a w hcut
    obtain ⟨b3, x, ad, c, ok, hok, ha, hs⟩ := hcut
    refine WS <| wp_block <| WS ?_
    refine DW (m := 16) (fun w' => Rd w' wb 0 (wkC p adO cO tq jq sq k)) [8, 9] [0, 1, 2, 3, 5, 6, 7, 4, 8, 9, 10, 11, 12, 13, 14, 15] Ty.mixed (pk_then (pk_blk (pk_then pk_body))) (fun hpk => ?_)
    replace hs := hs.drew
    generalize w.drew = w at hs hpk ⊢
    have hC : Rd w wb 0 (wkC p adO cO tq jq sq k) := hs.rdAll
    refine DP hpk ha rfl ?_; clear ha; (try clear a); intro a ha
    iterate 6 (refine DP hpk ha rfl ?_; clear ha a; intro a ha)
    refine DL hpk ha rfl (fun w hc => hc 7 _ rfl) hC ?_; clear ha a; intro a ha
    refine D1 rfl (st_set ha rfl (ex_load1 ha Tryz.underlying33 rfl (hC 2 _ rfl)) rfl ?_); clear ha a; intro a ha
    refine ⟨fun _ => hC, ?_⟩
    refine D1 rfl (st_call ha rfl Ty.c35 rfl (tree_epoch (hs.tree tq)) ?_); clear ha hs
    rintro e w ⟨rfl, hs⟩
    refine ⟨_, rfl, ?_⟩
    intro a ha
    replace hC : (fun w' => Rd w' wb 0 (wkC p adO cO tq jq sq k)) w := hs.rdAll
    refine ⟨fun _ => hC, ?_⟩
    iterate 2 (refine DP hpk ha rfl ?_; clear ha a; intro a ha)
    refine ha.by (s := 42) (fun hg11 ha => ?_) (fun hg11 ha => ?_)
    ·
     refine DO (s := 42) hpk ha rfl ?_; clear ha; (try clear a); intro a ha
     refine DO (s := 42) hpk ha rfl ?_; clear ha a; intro a ha
     refine DT hpk ha rfl ?_; clear ha a; intro a ha
     refine DP hpk ha rfl ?_; clear ha a; intro a ha
     refine DD <| TN <| WTr ha <| WR ?_
     refine S1 ha ?_; clear ha a; intro a ha
     refine SK (st_call ha rfl Ty.c18 rfl (rest_busy (L := Tree tq sq T :: Jobs jq J :: RoP W p adO cO :: L) (hs.sub (M := blk wb 80 (wkC p adO cO tq jq sq k) :: Store sq r A :: Tree tq sq T :: Jobs jq J :: RoP W p adO cO :: L)) hc1) ?_); clear ha hs
     rintro e w ⟨rfl, hs⟩
     refine ⟨_, rfl, ?_⟩
     intro a ha
     refine LN <| BN <| TN <| WS <| WR ?_
     refine S1 ha ?_; clear ha a; intro a ha
     refine LN <| TN <| wp_ret ?_
     refine ret1 ha rfl ?_
     exact ⟨true, A.dropId k.x, T, J, { k with busy := false }, rfl, .gone hc1 (.inl hg11), hs.sub⟩
    ·
     refine DPg (s := 42) hpk ha rfl ?_; clear ha; (try clear a); intro a ha
     refine DPg (s := 42) hpk ha rfl ?_; clear ha a; intro a ha
     refine DF hpk ha rfl ?_; clear ha a; intro a ha
     refine DP hpk ha rfl ?_; clear ha a; intro a ha
     refine DD <| TN ?_
     refine WI ha (fun hc2 => ?_) (fun hc2 => ?_)
     ·
      have hno : ∀ y ∈ T.l, (y.id : Int) ≠ k.jb := by
        rcases hok with ⟨h, _⟩ | ⟨_, h⟩
        · rw [h] at hc2; cases hc2
        · exact h
      refine WR ?_
      refine S1 ha ?_; clear ha; (try clear a); intro a ha
      refine SK (st_call ha rfl Ty.c18 rfl (rest_busy (L := Tree tq sq T :: Jobs jq J :: RoP W p adO cO :: L) (hs.sub (M := blk wb 80 (wkC p adO cO tq jq sq k) :: Store sq r A :: Tree tq sq T :: Jobs jq J :: RoP W p adO cO :: L)) hc1) ?_); clear ha hs
      rintro e w ⟨rfl, hs⟩
      refine ⟨_, rfl, ?_⟩
      intro a ha
      refine LN <| BN <| TN <| WS <| WR ?_
      refine S1 ha ?_; clear ha a; intro a ha
      refine LN <| TN <| wp_ret ?_
      refine ret1 ha rfl ?_
      exact ⟨true, A.dropId k.x, T, J, { k with busy := false }, rfl, .gone hc1 (.inr hno), hs.sub⟩
     ·
      obtain ⟨hx, hid⟩ : x ∈ T.l ∧ (x.id : Int) = k.jb := by
        rcases hok with ⟨_, h⟩ | ⟨h, _⟩
        · exact h
        · rw [h] at hc2; cases hc2
      refine WS <| WR ?_
      refine S1 ha ?_; clear ha; (try clear a); intro a ha
      iterate 2 (refine S1 ha ?_; clear ha a; intro a ha)
      refine SL ha (hs.rd1 rfl) ?_; clear ha a; intro a ha
      iterate 2 (refine S1 ha ?_; clear ha a; intro a ha)
      refine LN <| TN ?_
      refine WI ha (fun hc3 => ?_) (fun hc3 => ?_)
      ·
       refine WR ?_
       refine S1 ha ?_; clear ha; (try clear a); intro a ha
       refine SK (st_set ha rfl (ex_loadN ha Tryz.underlying43 rfl Ty.t43 (hs.rdAll)) rfl ?_); clear ha a; intro a ha
       refine SK (st_call ha rfl Ty.c39 rfl (play_bit (hs.sub (M := blk wb 80 (wkC p adO cO tq jq sq k) :: OwnBB ad x.press.length c x.press :: Tree tq sq T :: Store sq r A :: Jobs jq J :: RoP W p adO cO :: L)) hc1 hg11 hx hid hc3 hpx hpid hpr hpg (hdn x hx hid) (hr.frm x hx) hr.pr hr.sz hr.len) ?_); clear ha hs
       rintro e w ⟨A', J', k', rfl, hbit, hs⟩
       refine ⟨_, rfl, ?_⟩
       intro a ha
       refine LN <| BN <| TN <| WS <| WR ?_
       refine S1 ha ?_; clear ha a; intro a ha
       refine LN <| TN <| wp_ret ?_
       refine ret1 ha rfl ?_
       exact ⟨true, A', T, J', k', rfl, hbit, hs⟩
      ·
       obtain ⟨kk, hkk⟩ := List.mem_iff_getElem?.1 hx
       refine WR ?_
       refine S1 ha ?_; clear ha; (try clear a); intro a ha
       refine SK (st_set ha rfl (ex_loadN ha Tryz.underlying43 rfl Ty.t43 (hs.rdAll)) rfl ?_); clear ha a; intro a ha
       refine SK (st_call ha rfl Ty.c40 rfl (publish_bit (p := p) (L := RoP W p adO cO :: L) (hs.sub (M := blk wb 80 (wkC p adO cO tq jq sq k) :: Tree tq sq T :: Store sq r A :: Jobs jq J :: RoP W p adO cO :: L)) hc1 hg11 hkk hid hc3 hpx hpid (hdn x hx hid) hr.len) ?_); clear ha hs
       rintro e w ⟨A', T', J', k', rfl, hbit, hs⟩
       refine ⟨_, rfl, ?_⟩
       intro a ha
       refine LN <| BN <| TN <| WS <| WR ?_
       refine S1 ha ?_; clear ha a; intro a ha
       refine LN <| TN <| wp_ret ?_
       refine ret1 ha rfl ?_
       exact ⟨true, A', T', J', k', rfl, hbit, hs⟩
end
end Go.Proofs.YtneafbkhaooelaaGreat

