/- One worker alone; what all laws of workers begin with. -/
import Derived.Test.YtneafbkhaooelaaGreatWorkL
import Derived.Test.YtneafbkhaooelaaGreatEq
namespace Go.Proofs.YtneafbkhaooelaaGreat
open Go.RowKit
set_option linter.unusedVariables false
set_option linter.unusedSimpArgs false
set_option maxRecDepth 10000
set_option synthInstance.maxSize 4000
set_option synthInstance.maxHeartbeats 400000

/-- A shop of one worker and one branch of N presses, behind i bits. -/
structure Alone (p : Pr) (t : Nat → Nat) (room i n : Nat) (B : List (List UInt8)) (A : Sn) (T : Tr) (J : Js) (k : Wk) : Prop where
  inv : Inv p 0 (fun _ => 0) t 1 A T [k]
  tok : Tok T J [k]
  num : A.n ≤ i + 7
  room : A.room = 4 * room
  jl : J.length ≤ 16
  meas : todo T.l + i = 3 * n + spentK k
  bl : T.l.map (fun y => (y.id, y.press)) = [(1, B)]
  len : B.length = n
section
variable {W w : World} {L L' R : List SP} {tq jq sq r wb i kk cO xb n c cw base m room nw : Nat} {ad adO adw : Option Addr} {A : Sn} {T : Tr} {J : Js} {k : Wk} {p : Pr} {x : Br} {px : Pic} {ks : List Kx} {t : Nat → Nat} {ys : List BBBx} {ws : List Wk} {B : List (List UInt8)}
theorem Alone.one (h : Alone p t room i n B A T J k) : ∃ x, T.l = [x] ∧ x.id = 1 ∧ x.press = B := by
  have h1 := h.bl
  cases hl : T.l with
  | nil => rw [hl] at h1; simp at h1
  | cons x l =>
    rw [hl] at h1
    simp at h1
    obtain ⟨⟨h2, h3⟩, h4⟩ := h1
    exact ⟨x, by rw [h4], h2, h3⟩
theorem Alone.at (h : Alone p t room i n B A T J k) (hT : WT T) : ∃ x, T.l = [x] ∧ x.press = B ∧ x.done = i / 3 ∧ (k.busy = true ↔ i % 3 ≠ 0) := by
  obtain ⟨x, h1, _, h2⟩ := h.one
  have h3 := (hT.ok x (by rw [h1]; exact List.mem_cons_self ..)).2.1
  obtain ⟨h4, h5⟩ := one_at h1 (by rw [h2]; exact h.len) (by rw [h2, h.len] at h3; exact h3) h.meas
  exact ⟨x, h1, h2, h4, h5⟩
theorem Fresh.alone {k : Wk} (h : Fresh p t room 1 ys [k] A T J) (hB : (((prs ys).take 1).foldl addB []) = [(1, B)]) : Alone p t room 0 B.length B A T J k := by
  obtain ⟨a1, a2, a3, a4, a5, a6, a7, a8, a9, b1, b2, b3, b4⟩ := h
  rw [hB] at b3
  refine ⟨a1, a2, by omega, a6, by omega, ?_, b3, rfl⟩
  have hk := a3 k (List.mem_cons_self ..)
  cases hl : T.l with
  | nil => rw [hl] at b3; simp at b3
  | cons x l =>
    rw [hl] at b3
    simp at b3
    obtain ⟨⟨h2, h3⟩, h4⟩ := b3
    have := (b4 x (by rw [hl]; exact List.mem_cons_self ..)).1
    simp [todo, spentK, hk, h3, h4, this]
theorem one_step (hs : St W w (All (ownK p adO cO tq jq sq) [(k, wb)] :: Tree tq sq T :: Store sq r A :: Jobs jq J :: RoP W p adO cO :: L)) (h : Alone p t room i n B A T J k) (hr : 3 ≤ room) (hp : prOk p) (hz : p.title.size ≤ 1000000000) (hi : i ≤ 1000) :
    Calls Tryz.prog 12 #[.pointer (some ⟨wb, 0, none⟩)] w fun e w' => ∃ (z : Bool) (A' : Sn) (T' : Tr) (J' : Js) (k' : Wk), e = .returned (.bool z) ∧ ((z = true ∧ i < 3 * n ∧ Alone p t room (i + 1) n B A' T' J' k') ∨ (z = false ∧ i = 3 * n ∧ Alone p t room i n B A' T' J' k')) ∧
      St W w' (All (ownK p adO cO tq jq sq) [(k', wb)] :: Tree tq sq T' :: Store sq r A' :: Jobs jq J' :: RoP W p adO cO :: L) := by
  have hT := Tree.wt (hs.tree tq)
  have hn := h.num
  refine (shop_step (i := 0) (k := k) (wb := wb) (F := 0) (g0 := fun _ => 0) (t := t) (base := 1) hs rfl h.inv (by omega) hp hz (by omega) h.jl).mono fun e w' ⟨z, A', T', J', k', he, ⟨hb, hI, hnr⟩, hs⟩ => ?_
  have hlen := h.inv.len
  have hh : (heldW [k]).length ≤ 1 := by
    simp only [heldW, List.length_map]
    exact List.length_filter_le _ _
  obtain ⟨x, hx, _, _⟩ := h.one
  rw [hx] at hlen
  simp only [List.length_cons, List.length_nil] at hlen
  have hrm := h.room
  obtain ⟨h1, h2⟩ := one_bit h.tok hT (by omega) hb h.meas
  refine ⟨z, A', T', J', k', he, ?_, hs⟩
  rcases h2 with ⟨rfl, h3, h4⟩ | ⟨rfl, h3, rfl, rfl, rfl, rfl, _⟩
  · have := hnr.n
    exact .inl ⟨rfl, h3, hI, h1, by omega, by rw [hnr.room]; exact hrm, hnr.len h.jl, h4, by rw [hnr.l]; exact h.bl, h.len⟩
  · exact .inr ⟨rfl, h3, h⟩
theorem snap_state_id {id : Nat} (hs : St W w (Store sq r A :: L)) (hx : A.pics[i]? = some px) (hid : px.id = id) :
    Calls Tryz.prog 25 #[.pointer (some ⟨sq, 0, none⟩), .int .i64 id] w fun e w' => e = .returned (.tuple #[.agg (ints .i32 32 px.g).toArray, .bool true]) ∧ St W w' (Store sq r A :: L) := by
  subst hid; exact snap_state hs hx
theorem St.begRo {e : Nat} (hs : St W w L) (b11 : Nat) [kk : Blk L b11 e [.int .i64 11, .int .i64 1, .int .i64 0, .int .i64 0] R] (he : e = 60) : St W w (RoP W begP (some ⟨b11, 0, none⟩) 1 :: R) := by
  subst he
  have h1 := hs.bring b11
  have h2 := St.slShut (pre := []) (post := []) (n := 1) (c := 1) (sz := 4) (cs := [.int .i64 11, .int .i64 1, .int .i64 0, .int .i64 0]) h1 rfl (Nat.le_refl _) (Nat.zero_le _)
  exact h2.roSl
set_option maxHeartbeats 4000000 in
theorem begun25 (hs : St W w L) : Calls Tryz.prog 8 #[] w fun e w' => e = .returned (.bool true) ∧ St W w' L := by
  refine calls_enter Tryz.func8 rfl Tryz.ntmps8 (Nat.le_of_ble_eq_true rfl) ?_
  intro a ha
  replace ha : Fr a 113 [] := ha
  refine WS <| WR ?_
  refine S1 ha ?_; clear ha a; intro a ha
  refine LN <| TN <| WS <| WR ?_
  refine SK (st_set ha rfl (ex_build ha Ty.b60 Ty.t60 rfl) rfl ?_); clear ha a; intro a ha
  refine SK (st_buildSlice ha rfl hs Tryz.underlying22 Ty.t60 rfl rfl rfl rfl (by decide) (by decide) ?_); clear ha hs a; (try clear w); intro b11 a w ha hs ho
  clear ho
  refine SK (st_set ha rfl (ex_build ha Ty.b24 Ty.t24 rfl) rfl ?_); clear ha a; intro a ha
  refine SK (st_alloc ha rfl hs Ty.t24 rfl ?_); clear ha hs a; (try clear w); intro b1 a w ha hs ho
  clear ho
  refine SK (st_storeAll ha rfl hs Ty.t24 (by simp [Value.oneCell']) (by rfl) ?_); clear ha hs a; (try clear w); intro a w ha hs
  change St W w (blk b1 24 (prV begP (some ⟨b11, 0, none⟩) 1) :: _) at hs
  refine LN <| TN <| WS <| WR ?_
  refine SK (st_set ha rfl (ex_loadN ha Tryz.underlying24 rfl Ty.t24 (hs.rdAll)) rfl ?_); clear ha a; intro a ha
  refine SK (st_buildSlice ha rfl hs Tryz.underlying47 Ty.t5 rfl rfl rfl rfl (by decide) (by decide) ?_); clear ha hs a; (try clear w); intro b14 a w ha hs ho
  clear ho
  refine SK (st_buildSlice ha rfl hs Tryz.underlying41 Ty.t47 rfl rfl rfl rfl (by decide) (by decide) ?_); clear ha hs a; (try clear w); intro b15 a w ha hs ho
  clear ho
  refine SK (st_buildSlice ha rfl hs Tryz.underlying25 Ty.t41 rfl rfl rfl rfl (by decide) (by decide) ?_); clear ha hs a; (try clear w); intro b16 a w ha hs ho
  clear ho
  refine SK (st_call ha rfl Ty.c11 rfl (made_spec (p := begP) (adO := some ⟨b11, 0, none⟩) (cO := 1) (room := 5) (nw := 1) (ys := [(some ⟨b15, 0, none⟩, 1, [(some ⟨b14, 0, none⟩, 1, [7])])]) (ad := some ⟨b16, 0, none⟩) (c := 1) (hs.begRo b11 rfl) (fun w' h => ⟨fun _ => ⟨b16, 0, rfl, h.rdAll⟩, fun x hx => by
    simp at hx
    subst hx
    exact ⟨rdx1 (b := b15) (b1 := b14) h rfl rfl, by simp⟩⟩) (by decide) (by decide) (by simp)) ?_); clear ha hs
  rintro e w ⟨xb, sq, r, tq, jq, adw, cw, ks, A, T, J, t, rfl, ⟨hk1, hap, hfr⟩, hs⟩
  refine ⟨_, rfl, ?_⟩
  intro a ha
  refine S1 ha ?_; clear ha a; intro a ha
  refine LN ?_
  obtain ⟨⟨k, wb⟩, rfl⟩ : ∃ y, ks = [y] := by
    match ks, hk1 with
    | [y], _ => exact ⟨y, rfl⟩
  obtain ⟨bw, ow, rfl, _⟩ := hs.slRd adw (by simp)
  have hal : Alone begP t 5 0 1 [[7]] A T J k := hfr.alone (B := [[7]]) rfl
  clear hfr hk1
  replace hs := hs.sub (M := blk xb 38 (shopC sq tq jq (some ⟨bw, ow, none⟩) 1 cw 1) :: Sl 31 1 (some ⟨bw, ow, none⟩) 1 cw (ptrs [(k, wb)]) :: All (ownK begP (some ⟨b11, 0, none⟩) 1 tq jq sq) [(k, wb)] :: Tree tq sq T :: Store sq r A :: Jobs jq J :: RoP W begP (some ⟨b11, 0, none⟩) 1 :: L)
  refine TN <| WS <| WS <| WR ?_
  iterate 2 (refine S1 ha ?_; clear ha a; intro a ha)
  refine LN <| TN <| WFa ha <| WK <| TN <| WS ?_
  refine DW (m := 16) (fun w' => Rd w' xb 0 (shopC sq tq jq (some ⟨bw, ow, none⟩) 1 cw 1) ∧ Rd w' bw ow (ptrs [(k, wb)])) [6, 10, 11, 12] [0, 1, 2, 7, 8, 9, 3, 4, 5, 10, 11, 12, 6, 13, 14, 15] Ty.mixed (pk_then pk_body) (fun hpk => ?_)
  replace hs := hs.drew
  generalize w.drew = w at hs hpk ⊢
  have hC : Rd w xb 0 (shopC sq tq jq (some ⟨bw, ow, none⟩) 1 cw 1) ∧ Rd w bw ow (ptrs [(k, wb)]) := ⟨hs.rdAll, hs.slRdAt bw ow (by decide)⟩
  iterate 6 (refine DP hpk ha rfl ?_; clear ha a; intro a ha)
  refine DL hpk ha rfl (fun w hc => hc.1 3 _ rfl) hC ?_; clear ha a; intro a ha
  refine DQ hpk ha rfl rfl (fun w => ex_indexAddr ha Tryz.underlying35 Ty.t31 (by omega)) ?_; clear ha a; intro a ha
  rw [Nat.zero_mul] at ha
  refine DL hpk ha rfl (fun w hc => hc.2 0 _ rfl) hC ?_; clear ha a; intro a ha
  refine DL hpk ha rfl (fun w hc => hc.1 3 _ rfl) hC ?_; clear ha a; intro a ha
  refine DH hpk ha rfl rfl (fun w hc => ex_indexAddr ha Tryz.underlying35 Ty.t31 (by omega)) hC ?_; clear ha a; intro a ha
  rw [Nat.zero_mul] at ha
  refine DL hpk ha rfl (fun w hc => hc.2 0 _ rfl) hC ?_; clear ha a; intro a ha
  refine D1 rfl (st_call ha rfl Ty.c12 rfl (one_step (L := blk xb 38 (shopC sq tq jq (some ⟨bw, ow, none⟩) 1 cw 1) :: Sl 31 1 (some ⟨bw, ow, none⟩) 1 cw (ptrs [(k, wb)]) :: L) (hs.sub (M := All (ownK begP (some ⟨b11, 0, none⟩) 1 tq jq sq) [(k, wb)] :: Tree tq sq T :: Store sq r A :: Jobs jq J :: RoP W begP (some ⟨b11, 0, none⟩) 1 :: blk xb 38 (shopC sq tq jq (some ⟨bw, ow, none⟩) 1 cw 1) :: Sl 31 1 (some ⟨bw, ow, none⟩) 1 cw (ptrs [(k, wb)]) :: L)) hal (by decide) begP_ok (by decide) (by decide)) ?_); clear ha hs
  rintro e w ⟨z, A1, T1, J1, k1, rfl, hor, hs⟩
  refine ⟨_, rfl, ?_⟩
  intro a ha
  replace hC : (fun w' => Rd w' xb 0 (shopC sq tq jq (some ⟨bw, ow, none⟩) 1 cw 1) ∧ Rd w' bw ow (ptrs [(k, wb)])) w := ⟨hs.rdAll, hs.slRdAt bw ow (by decide)⟩
  refine ⟨fun _ => hC, ?_⟩
  obtain ⟨hze, _, hal1⟩ := hor.resolve_right (fun h => by have := h.2.1; omega)
  rw [hze] at ha
  obtain ⟨x1, hx1, hp1, hd1, hb1⟩ := hal1.at (Tree.wt (hs.tree tq))
  refine D1 rfl (st_call ha rfl Ty.c16 rfl (shop_busy (i := 0) (hs.pick (All (ownK begP (some ⟨b11, 0, none⟩) 1 tq jq sq) [(k1, wb)])) rfl) ?_); clear ha hs
  rintro e w ⟨rfl, hs⟩
  refine ⟨_, rfl, ?_⟩
  intro a ha
  refine ⟨fun h => absurd h (by decide), ?_⟩
  rw [hb1.2 (by decide)] at ha
  iterate 2 (refine DP hpk ha rfl ?_; clear ha a; intro a ha)
  refine DD <| TN <| WS ?_
  refine DW (m := 16) (fun w' => Rd w' xb 0 (shopC sq tq jq (some ⟨bw, ow, none⟩) 1 cw 1) ∧ Rd w' bw ow (ptrs [(k, wb)])) [6, 10, 11, 12] [0, 1, 2, 7, 8, 9, 3, 4, 5, 10, 11, 12, 6, 13, 14, 15] Ty.mixed (pk_then pk_body) (fun hpk => ?_)
  replace hs := hs.drew
  generalize w.drew = w at hs hpk ⊢
  have hC : Rd w xb 0 (shopC sq tq jq (some ⟨bw, ow, none⟩) 1 cw 1) ∧ Rd w bw ow (ptrs [(k, wb)]) := ⟨hs.rdAll, hs.slRdAt bw ow (by decide)⟩
  iterate 6 (refine DP hpk ha rfl ?_; clear ha a; intro a ha)
  refine DL hpk ha rfl (fun w hc => hc.1 3 _ rfl) hC ?_; clear ha a; intro a ha
  refine DQ hpk ha rfl rfl (fun w => ex_indexAddr ha Tryz.underlying35 Ty.t31 (by omega)) ?_; clear ha a; intro a ha
  rw [Nat.zero_mul] at ha
  refine DL hpk ha rfl (fun w hc => hc.2 0 _ rfl) hC ?_; clear ha a; intro a ha
  refine DL hpk ha rfl (fun w hc => hc.1 3 _ rfl) hC ?_; clear ha a; intro a ha
  refine DH hpk ha rfl rfl (fun w hc => ex_indexAddr ha Tryz.underlying35 Ty.t31 (by omega)) hC ?_; clear ha a; intro a ha
  rw [Nat.zero_mul] at ha
  refine DL hpk ha rfl (fun w hc => hc.2 0 _ rfl) hC ?_; clear ha a; intro a ha
  refine D1 rfl (st_call ha rfl Ty.c12 rfl (one_step (L := blk xb 38 (shopC sq tq jq (some ⟨bw, ow, none⟩) 1 cw 1) :: Sl 31 1 (some ⟨bw, ow, none⟩) 1 cw (ptrs [(k, wb)]) :: L) (hs.sub (M := All (ownK begP (some ⟨b11, 0, none⟩) 1 tq jq sq) [(k1, wb)] :: Tree tq sq T1 :: Store sq r A1 :: Jobs jq J1 :: RoP W begP (some ⟨b11, 0, none⟩) 1 :: blk xb 38 (shopC sq tq jq (some ⟨bw, ow, none⟩) 1 cw 1) :: Sl 31 1 (some ⟨bw, ow, none⟩) 1 cw (ptrs [(k, wb)]) :: L)) hal1 (by decide) begP_ok (by decide) (by decide)) ?_); clear ha hs
  rintro e w ⟨z2, A2, T2, J2, k2, rfl, hor2, hs⟩
  refine ⟨_, rfl, ?_⟩
  intro a ha
  replace hC : (fun w' => Rd w' xb 0 (shopC sq tq jq (some ⟨bw, ow, none⟩) 1 cw 1) ∧ Rd w' bw ow (ptrs [(k, wb)])) w := ⟨hs.rdAll, hs.slRdAt bw ow (by decide)⟩
  refine ⟨fun _ => hC, ?_⟩
  obtain ⟨hze2, _, hal2⟩ := hor2.resolve_right (fun h => by have := h.2.1; omega)
  rw [hze2] at ha
  refine D1 rfl (st_call ha rfl Ty.c12 rfl (one_step (L := blk xb 38 (shopC sq tq jq (some ⟨bw, ow, none⟩) 1 cw 1) :: Sl 31 1 (some ⟨bw, ow, none⟩) 1 cw (ptrs [(k, wb)]) :: L) (hs.sub (M := All (ownK begP (some ⟨b11, 0, none⟩) 1 tq jq sq) [(k2, wb)] :: Tree tq sq T2 :: Store sq r A2 :: Jobs jq J2 :: RoP W begP (some ⟨b11, 0, none⟩) 1 :: blk xb 38 (shopC sq tq jq (some ⟨bw, ow, none⟩) 1 cw 1) :: Sl 31 1 (some ⟨bw, ow, none⟩) 1 cw (ptrs [(k, wb)]) :: L)) hal2 (by decide) begP_ok (by decide) (by decide)) ?_); clear ha hs
  rintro e w ⟨z3, A3, T3, J3, k3, rfl, hor3, hs⟩
  refine ⟨_, rfl, ?_⟩
  intro a ha
  refine ⟨fun h => absurd h (by decide), ?_⟩
  obtain ⟨hze3, _, hal3⟩ := hor3.resolve_right (fun h => by have := h.2.1; omega)
  rw [hze3] at ha
  obtain ⟨x, hx, hp3, hd3, hb3⟩ := hal3.at (Tree.wt (hs.tree tq))
  have hk3 : k3.busy = false := by
    cases hh : k3.busy with
    | false => rfl
    | true => exact absurd rfl (hb3.1 hh)
  iterate 2 (refine DP hpk ha rfl ?_; clear ha a; intro a ha)
  refine DD <| TN <| WS <| WR ?_
  iterate 3 (refine S1 ha ?_; clear ha a; intro a ha)
  refine SL ha (hs.rd1 rfl) ?_; clear ha a; intro a ha
  refine SK (st_call ha rfl Ty.c13 rfl (tree_all (hs.tree tq)) ?_); clear ha hs
  rintro e w ⟨adl, cl, rfl, hs⟩
  refine ⟨_, rfl, ?_⟩
  intro a ha
  have hl1 : T3.l.length = 1 := by rw [hx]; rfl
  rw [hl1] at ha hs
  obtain ⟨ys, hy1, hy2, hs⟩ := OwnBr.open hs
  obtain ⟨⟨x', ax, cx⟩, rfl⟩ : ∃ y, ys = [y] := by
    match ys, hy1.trans hx with
    | [y], _ => exact ⟨y, rfl⟩
  obtain rfl : x' = x := by rw [hx] at hy1; simpa using hy1
  obtain ⟨bl, ol, rfl, _⟩ := hs.slRd adl (by decide)
  obtain ⟨i2, px, hpx, hpid⟩ := hal3.inv.ofBr (x := x') (by rw [hx]; exact List.mem_cons_self ..)
  have hgx := (hal3.inv.brs x' (by rw [hx]; exact List.mem_cons_self ..)).2 px (List.mem_of_getElem? hpx) hpid
  refine S1 ha ?_; clear ha a; intro a ha
  refine LN <| TN <| WS <| WS <| WR ?_
  iterate 3 (refine S1 ha ?_; clear ha a; intro a ha)
  refine LN <| TN <| WFa ha <| WK <| TN ?_
  refine wp_seq_cut (M := fun a w => ∃ b8 : Nat, Fr a 113 [(2, .pointer (some ⟨xb, 0, none⟩)), (3, .bool true), (4, .bool true), (5, .bool true), (6, .bool true), (7, .slice (some ⟨bl, ol, none⟩) 1 cl), (8, .pointer (some ⟨b8, 0, none⟩)), (9, .bool true)] ∧ St W w (blk b8 62 (ints .i32 32 px.g) :: Sl 43 5 (some ⟨bl, ol, none⟩) 1 cl (rows brc [(x', ax, cx)]) :: All bro [(x', ax, cx)] :: All (ownK begP (some ⟨b11, 0, none⟩) 1 tq jq sq) [(k3, wb)] :: Tree tq sq T3 :: Store sq r A3 :: Jobs jq J3 :: RoP W begP (some ⟨b11, 0, none⟩) 1 :: blk xb 38 (shopC sq tq jq (some ⟨bw, ow, none⟩) 1 cw 1) :: Sl 31 1 (some ⟨bw, ow, none⟩) 1 cw (ptrs [(k, wb)]) :: L)) ?_ ?_
  ·
   refine DW (m := 15) (fun w' => Rd w' xb 0 (shopC sq tq jq (some ⟨bw, ow, none⟩) 1 cw 1) ∧ Rd w' bl ol (rows brc [(x', ax, cx)])) [7, 12] [0, 1, 2, 4, 5, 6, 3, 7, 8, 9, 10, 11, 12, 13, 14] Ty.mixed (pk_then pk_body) (fun hpk => ?_)
   replace hs := hs.drew
   generalize w.drew = w at hs hpk ⊢
   have hC : Rd w xb 0 (shopC sq tq jq (some ⟨bw, ow, none⟩) 1 cw 1) ∧ Rd w bl ol (rows brc [(x', ax, cx)]) := ⟨hs.rdAll, hs.slRdAt bl ol (by decide)⟩
   refine DP hpk ha rfl ?_; clear ha; (try clear a); intro a ha
   iterate 3 (refine DP hpk ha rfl ?_; clear ha a; intro a ha)
   refine DQ hpk ha rfl rfl (fun w => ex_indexAddr ha Tryz.underlying39 Ty.t43 (by omega)) ?_; clear ha a; intro a ha
   rw [Nat.zero_mul] at ha
   refine DP hpk ha rfl ?_; clear ha a; intro a ha
   refine DL hpk ha rfl (fun w hc => hc.1 0 _ rfl) hC ?_; clear ha a; intro a ha
   refine DL hpk ha rfl (fun w hc => hc.2 4 _ rfl) hC ?_; clear ha a; intro a ha
   refine D2 (i := 8) (j := 12) [9, 10, 11, 12, 13, 14] [8, 9, 10, 11, 13, 14] (by kernel_rfl) rfl rfl ?_ ?_
   ·
    refine st_call ha rfl Ty.c25 rfl (snap_state_id (hs.store sq) hpx hpid) ?_; clear ha hs
    rintro e w ⟨rfl, hs⟩
    refine ⟨_, rfl, ?_⟩
    intro a ha
    refine ⟨fun h => absurd h (by decide), ?_⟩
    refine DP hpk ha rfl ?_; clear ha; (try clear a); intro a ha
    iterate 2 (refine DP hpk ha rfl ?_; clear ha a; intro a ha)
    refine D1 rfl (st_alloc ha rfl hs Ty.t62 rfl ?_); clear ha hs a; (try clear w); intro b8 a w ha hs ho
    (try replace hC := hC.trans ho); clear ho
    replace hC : (fun w' => Rd w' xb 0 (shopC sq tq jq (some ⟨bw, ow, none⟩) 1 cw 1) ∧ Rd w' bl ol (rows brc [(x', ax, cx)])) w := ⟨hs.rdAll, hs.slRdAt bl ol (by decide)⟩
    refine ⟨fun _ => hC, ?_⟩
    change St W w (blk b8 62 (ints .i32 32 (fun _ => 0)) :: _) at hs
    refine D1 rfl (st_storeAll ha rfl hs Ty.t62 ints_one (by rw [ints_len, ints_len]) ?_); clear ha hs a; (try clear w); intro a w ha hs
    refine ⟨fun h => absurd h (by decide), ?_⟩
    refine DP hpk ha rfl ?_; clear ha a; intro a ha
    refine DD <| TN ?_
    exact ⟨_, ha.keep [2, 3, 4, 5, 6, 7, 8, 9], hs.sub⟩
   ·
    refine st_alloc ha rfl hs Ty.t62 rfl ?_; clear ha hs; (try clear a); (try clear w); intro b8 a w ha hs ho
    (try replace hC := hC.trans ho); clear ho
    replace hC : (fun w' => Rd w' xb 0 (shopC sq tq jq (some ⟨bw, ow, none⟩) 1 cw 1) ∧ Rd w' bl ol (rows brc [(x', ax, cx)])) w := ⟨hs.rdAll, hs.slRdAt bl ol (by decide)⟩
    refine ⟨fun _ => hC, ?_⟩
    change St W w (blk b8 62 (ints .i32 32 (fun _ => 0)) :: _) at hs
    refine D1 rfl (st_call ha rfl Ty.c25 rfl (snap_state_id (hs.store sq) hpx hpid) ?_); clear ha hs
    rintro e w ⟨rfl, hs⟩
    refine ⟨_, rfl, ?_⟩
    intro a ha
    refine ⟨fun h => absurd h (by decide), ?_⟩
    iterate 3 (refine DP hpk ha rfl ?_; clear ha a; intro a ha)
    refine D1 rfl (st_storeAll ha rfl hs Ty.t62 ints_one (by rw [ints_len, ints_len]) ?_); clear ha hs a; (try clear w); intro a w ha hs
    refine ⟨fun h => absurd h (by decide), ?_⟩
    refine DP hpk ha rfl ?_; clear ha a; intro a ha
    refine DD <| TN ?_
    exact ⟨_, ha.keep [2, 3, 4, 5, 6, 7, 8, 9], hs.sub⟩
  ·
   clear ha; (try clear hs)
   intro a w hcut
   obtain ⟨b8, ha, hs⟩ := hcut
   refine WS ?_
   obtain ⟨_, _, hwe, hrw⟩ := hs.slRd (some ⟨bw, ow, none⟩) (by decide)
   cases hwe
   refine WR ?_
   refine S1 ha ?_; clear ha; (try clear a); intro a ha
   refine S1 ha ?_; clear ha a; intro a ha
   refine S1g (s := 69) ha ?_; clear ha a; intro a ha
   refine PT ha ?_; clear ha a; intro a ha
   refine S1 ha ?_; clear ha a; intro a ha
   refine S1g (s := 72) ha ?_; clear ha a; intro a ha
   refine PT ha ?_; clear ha a; intro a ha
   refine S1 ha ?_; clear ha a; intro a ha
   refine S1g (s := 75) ha ?_; clear ha a; intro a ha
   refine PT ha ?_; clear ha a; intro a ha
   refine S1 ha ?_; clear ha a; intro a ha
   iterate 3 (refine S1g (s := 78) ha ?_; clear ha a; intro a ha)
   refine SLg (s := 78) ha (hs.rd1 rfl) ?_; clear ha a; intro a ha
   refine SK (st_set ha (wgT ha rfl (s := 78)) (ex_indexAddr ha Tryz.underlying35 Ty.t31 (by omega)) rfl ?_); clear ha a; intro a ha
   rw [Nat.zero_mul] at ha
   refine SLg (s := 78) ha ((hs.slRdAt bw ow (by decide) 0 _ rfl)) ?_; clear ha a; intro a ha
   refine SK (st_call ha (wgT ha rfl (s := 78)) Ty.c16 rfl (shop_busy (i := 0) (hs.pick (All (ownK begP (some ⟨b11, 0, none⟩) 1 tq jq sq) [(k3, wb)])) rfl) ?_); clear ha hs
   rintro e w ⟨rfl, hs⟩
   refine ⟨_, rfl, ?_⟩
   intro a ha
   rw [hk3] at ha
   refine S1g (s := 78) ha ?_; clear ha a; intro a ha
   rw [show (!false) = true from rfl] at ha
   refine PT ha ?_; clear ha a; intro a ha
   refine S1 ha ?_; clear ha a; intro a ha
   refine S1g (s := 88) ha ?_; clear ha a; intro a ha
   refine SK (st_set ha (wgT ha rfl (s := 88)) (ex_indexAddr ha Tryz.underlying39 Ty.t43 (by omega)) rfl ?_); clear ha a; intro a ha
   rw [Nat.zero_mul] at ha
   refine S1g (s := 88) ha ?_; clear ha a; intro a ha
   refine SLg (s := 88) ha ((hs.slRdAt bl ol (by decide) 3 _ rfl)) ?_; clear ha a; intro a ha
   refine S1g (s := 88) ha ?_; clear ha a; intro a ha
   rw [decide_eq_true (by show ((x'.done : Nat) : Int) = 1; omega)] at ha
   refine PT ha ?_; clear ha a; intro a ha
   refine S1 ha ?_; clear ha a; intro a ha
   refine S1g (s := 95) ha ?_; clear ha a; intro a ha
   refine PT ha ?_; clear ha a; intro a ha
   refine S1 ha ?_; clear ha a; intro a ha
   refine SK (st_set ha (wgT ha rfl (s := 98)) (ex_indexAddrA ha Tryz.underlying62 Ty.t21 (by omega)) rfl ?_); clear ha a; intro a ha
   rw [Nat.zero_add, Nat.mul_one] at ha
   refine SLg (s := 98) ha ((ints_at hs.rdAll (by decide))) ?_; clear ha a; intro a ha
   refine S1g (s := 98) ha ?_; clear ha a; intro a ha
   rw [decide_eq_true (by rw [hgx, hp3, hd3]; exact begP_game)] at ha
   refine PT ha ?_; clear ha a; intro a ha
   refine S1 ha ?_; clear ha a; intro a ha
   iterate 3 (refine S1g (s := 103) ha ?_; clear ha a; intro a ha)
   refine SLg (s := 103) ha (hs.rd1 rfl) ?_; clear ha a; intro a ha
   refine SK (st_set ha (wgT ha rfl (s := 103)) (ex_indexAddr ha Tryz.underlying35 Ty.t31 (by omega)) rfl ?_); clear ha a; intro a ha
   rw [Nat.zero_mul] at ha
   refine SLg (s := 103) ha ((hs.slRdAt bw ow (by decide) 0 _ rfl)) ?_; clear ha a; intro a ha
   refine SK (st_call ha (wgT ha rfl (s := 103)) Ty.c12 rfl (one_step (L := blk xb 38 (shopC sq tq jq (some ⟨bw, ow, none⟩) 1 cw 1) :: Sl 31 1 (some ⟨bw, ow, none⟩) 1 cw (ptrs [(k, wb)]) :: L) (hs.sub (M := All (ownK begP (some ⟨b11, 0, none⟩) 1 tq jq sq) [(k3, wb)] :: Tree tq sq T3 :: Store sq r A3 :: Jobs jq J3 :: RoP W begP (some ⟨b11, 0, none⟩) 1 :: blk xb 38 (shopC sq tq jq (some ⟨bw, ow, none⟩) 1 cw 1) :: Sl 31 1 (some ⟨bw, ow, none⟩) 1 cw (ptrs [(k, wb)]) :: L)) hal3 (by decide) begP_ok (by decide) (by decide)) ?_); clear ha hs
   rintro e w ⟨z4, A4, T4, J4, k4, rfl, hor4, hs⟩
   refine ⟨_, rfl, ?_⟩
   intro a ha
   obtain ⟨hze4, _, _⟩ := hor4.resolve_left (fun h => by have := h.2.1; omega)
   rw [hze4] at ha
   refine S1g (s := 103) ha ?_; clear ha a; intro a ha
   rw [show (!false) = true from rfl] at ha
   refine PT ha ?_; clear ha a; intro a ha
   refine S1 ha ?_; clear ha a; intro a ha
   refine LN <| TN <| wp_ret ?_
   refine ret1 ha rfl ?_
   exact ⟨rfl, hs.sub⟩
end
end Go.Proofs.YtneafbkhaooelaaGreat

