/- A shop is made. -/
import Derived.Test.YtneafbkhaooelaaGreatShop
import Derived.Test.YtneafbkhaooelaaGreatArgB
namespace Go.Proofs.YtneafbkhaooelaaGreat
open Go.RowKit
set_option linter.unusedVariables false
set_option linter.unusedSimpArgs false
set_option maxRecDepth 10000
set_option synthInstance.maxSize 4000
set_option synthInstance.maxHeartbeats 400000

def RdPP (w : World) (ad : Option Addr) (ys : List BBBx) : Prop := (0 < ys.length → ∃ b off, ad = some ⟨b, off, none⟩ ∧ Rd w b off (ys.map bbbv)) ∧ ∀ x ∈ ys, RdP w x.1 x.2.2
theorem ArgBBB.rd {W w : World} {L : List SP} {ad : Option Addr} {ys : List BBBx} (h : ArgBBB W ad ys) (hs : St W w L) : RdPP w ad ys := by
  refine ⟨fun h0 => ?_, fun x hx => ⟨(h.2 x hx).1.old hs, (h.2 x hx).2⟩⟩
  obtain ⟨b, off, rfl, hb, hr⟩ := h.1 h0
  exact ⟨b, off, rfl, fun j v hj => (hs.old (a := ⟨b, off + j, none⟩) hb).trans (hr j v hj)⟩
def prs (ys : List BBBx) : List (List (List UInt8)) := ys.map fun x => (cutN 5 x.2.2).map (·.2.2)
def shopC (sq tq jq : Nat) (adw : Option Addr) (n cw base : Nat) : List Value := [.pointer (some ⟨sq, 0, none⟩), .pointer (some ⟨tq, 0, none⟩), .pointer (some ⟨jq, 0, none⟩), .slice adw n cw, .int .i64 base]
/-- What a shop is when it is made. -/
structure Fresh (p : Pr) (t : Nat → Nat) (room i : Nat) (ys : List BBBx) (ws : List Wk) (A : Sn) (T : Tr) (J : Js) : Prop where
  inv : Inv p 0 (fun _ => 0) t 1 A T ws
  tok : Tok T J ws
  idle : ∀ k ∈ ws, k.busy = false
  base : A.pics[0]? = some ⟨1, 1, fun _ => 0, t⟩
  n : A.n ≤ i + 1
  room : A.room = 4 * room
  ep : T.epoch = 0
  most : T.most = 8
  last : T.last = T.l.length
  len : T.l.length ≤ i
  jl : J.length ≤ i
  bl : T.l.map (fun y => (y.id, y.press)) = ((prs ys).take i).foldl addB []
  done : ∀ y ∈ T.l, y.done = 0 ∧ y.press.length ≤ 5
section
variable {W w : World} {L L' R : List SP} {tq jq sq r wb i kk cO xb n c cw base m room nw : Nat} {ad adO adw : Option Addr} {A : Sn} {T : Tr} {J : Js} {k : Wk} {p : Pr} {x : Br} {px : Pic} {ks : List Kx} {t : Nat → Nat} {ys : List BBBx} {ws : List Wk}
theorem Fresh.any {P : List (List UInt8)} (h : Fresh p t room i ys ws A T J) : (∃ y ∈ T.l, y.is 0 P) ↔ ((((prs ys).take i).foldl addB []).any fun y => y.2 == P) = true := by
  rw [← h.bl, List.any_map, List.any_eq_true]
  constructor
  · rintro ⟨y, hy, h1, h2⟩
    exact ⟨y, hy, by simp [h2]⟩
  · rintro ⟨y, hy, h1⟩
    exact ⟨y, hy, (h.inv.brs y hy).1, by simpa using h1⟩
theorem Fresh.skip {P : List (List UInt8)} (h : Fresh p t room i ys ws A T J) (hP : (prs ys)[i]? = some P) (hno : P = [] ∨ ∃ y ∈ T.l, y.is 0 P) : Fresh p t room (i + 1) ys ws A T J := by
  obtain ⟨a1, a2, a3, a4, a5, a6, a7, a8, a9, b1, b2, b3, b4⟩ := h
  have h' : Fresh p t room i ys ws A T J := ⟨a1, a2, a3, a4, a5, a6, a7, a8, a9, b1, b2, b3, b4⟩
  refine ⟨a1, a2, a3, a4, by omega, a6, a7, a8, a9, by omega, by omega, ?_, b4⟩
  rw [List.take_add_one, hP, Option.toList_some, List.foldl_append, List.foldl_cons, List.foldl_nil, addB, if_pos, b3]
  rcases hno with h | h
  · exact .inl h
  · exact .inr (h'.any.1 h)
theorem Fresh.add {P : List (List UInt8)} (h : Fresh p t room i ys ws A T J) (hA : WF A) (hT : WT T) (hP : (prs ys)[i]? = some P) (h0 : P ≠ []) (h5 : P.length ≤ 5) (hno : ∀ y ∈ T.l, ¬ y.is 0 P) :
    Fresh p t room (i + 1) ys ws (A.add (fun _ => 0) t) (T.add 0 P (A.last + 1)) (putJ J ((T.last + 1 : Nat) : Int) (T.epoch : Int)) := by
  have h' := h
  obtain ⟨a1, a2, a3, a4, a5, a6, a7, a8, a9, b1, b2, b3, b4⟩ := h
  have h6 := a2.addBr (F := 0) (P := P) (sn := A.last + 1) hT a3 h0
  rw [h6.1]
  have h7 := a1.addBr (px := ⟨1, 1, fun _ => 0, t⟩) (P := P) (i := 0) hA hT a4 rfl
  refine ⟨h7, h6.2, a3, ?_, by simp only [Sn.add]; omega, a6, a7, a8, by simp only [Tr.add, List.length_append]; simp; omega, by simp only [Tr.add, List.length_append]; simp; omega, by rw [List.length_append]; simp; omega, ?_, fun y hy => ?_⟩
  · simp only [Sn.add]
    rw [List.getElem?_append_left (List.getElem?_eq_some_iff.1 a4).1]; exact a4
  · have hl : (T.l.map (fun y => (y.id, y.press))).length = T.last := by rw [List.length_map, a9]
    rw [List.take_add_one, hP, Option.toList_some, List.foldl_append, List.foldl_cons, List.foldl_nil, addB, if_neg, ← b3, hl]
    · simp only [Tr.add, List.map_append, List.map_cons, List.map_nil]
    · rintro (h8 | h8)
      · exact h0 h8
      · obtain ⟨y, hy, his⟩ := h'.any.2 h8
        exact hno y hy his
  · simp only [Tr.add] at hy
    rcases List.mem_append.1 hy with hy | hy
    · exact b4 y hy
    · simp at hy; subst hy
      exact ⟨rfl, h5⟩
theorem Fresh.worker (h : Fresh p t room i ys ws A T J) : Fresh p t room i ys (wk0 :: ws) A T J := by
  obtain ⟨a1, a2, a3, a4, a5, a6, a7, a8, a9, b1, b2, b3, b4⟩ := h
  refine ⟨a1.addWk rfl (by show (0 : Int) ≤ _; omega), a2.addWk rfl, fun k hk => ?_, a4, a5, a6, a7, a8, a9, b1, b2, b3, b4⟩
  rcases List.mem_cons.1 hk with rfl | hk
  · rfl
  · exact a3 k hk
theorem Fresh.perm {ws' : List Wk} (h : Fresh p t room i ys ws A T J) (hp : ws.Perm ws') : Fresh p t room i ys ws' A T J := by
  obtain ⟨a1, a2, a3, a4, a5, a6, a7, a8, a9, b1, b2, b3, b4⟩ := h
  exact ⟨a1.permW hp, a2.permW hp, fun k hk => a3 k (hp.mem_iff.2 hk), a4, a5, a6, a7, a8, a9, b1, b2, b3, b4⟩
theorem Fresh.begin (hr : 1 ≤ room) : Fresh p t room 0 ys [] ((⟨0, 4 * room, 0, []⟩ : Sn).add (fun _ => 0) t) ⟨8, [], 0, 0⟩ [] := by
  refine ⟨⟨by simp [Sn.add, heldW], fun x hx => ?_, fun x hx _ => ?_, by simp, by simp⟩, ⟨by simp [heldJ, unfin], by simp, by simp⟩, by simp, by simp [Sn.add], by simp [Sn.add], by simp [Sn.add], rfl, rfl, rfl, by simp, by simp, by simp, by simp⟩
  · simp [Sn.add] at hx; subst hx
    exact ⟨rfl, fun j hj => by simp [i32P]⟩
  · simp [Sn.add] at hx; subst hx
    exact ⟨rfl, rfl⟩
theorem RdX.sl2 {zs : List BBx} {e : Nat} (hs : St W w L) (ad : Option Addr) [kk : PickSl L ad n c e 1 (zs.map bbv) R] (hn : zs.length = n) (h : ∀ x ∈ zs, RdB w x.1 x.2.2.length x.2.2) : RdX w ad zs := by
  subst hn
  exact ⟨fun h0 => hs.slRd ad h0, h⟩
theorem made_spec (hs : St W w (RoP W p adO cO :: L)) (hp : ∀ w', St W w' L → RdPP w' ad ys) (hr : 1 ≤ room ∧ room ≤ 50) (hnw : nw ≤ 4) (hyl : ys.length ≤ 9223372036854775807) :
    Calls Tryz.prog 11 #[.agg (prV p adO cO).toArray, .int .i64 room, .slice ad ys.length c, .int .i64 nw] w fun e w' => ∃ (xb sq r tq jq : Nat) (adw : Option Addr) (cw : Nat) (ks : List Kx) (A : Sn) (T : Tr) (J : Js) (t : Nat → Nat),
      e = .returned (.pointer (some ⟨xb, 0, none⟩)) ∧ (ks.length = nw ∧ Apart4 t ∧ Fresh p t room (min ys.length 6) ys (ks.map (·.1)) A T J) ∧
      St W w' (blk xb 38 (shopC sq tq jq adw ks.length cw 1) :: Sl 31 1 adw ks.length cw (ptrs ks) :: All (ownK p adO cO tq jq sq) ks :: Tree tq sq T :: Store sq r A :: Jobs jq J :: RoP W p adO cO :: L) := by
  refine calls_enter Tryz.func11 rfl Tryz.ntmps11 (Nat.le_of_ble_eq_true rfl) ?_
  intro a ha
  replace ha : Fr a 114 [(0, _), (1, _), (2, _), (3, _)] := ha
  refine WS <| WR ?_
  refine SK (st_box ha rfl hs rfl ?_); clear ha hs a; (try clear w); intro b4 a w ha hs ho
  clear ho
  change St W w (blk b4 24 (prV p adO cO) :: _) at hs
  refine S1 ha ?_; clear ha a; intro a ha
  refine LN <| TN <| WS <| WR ?_
  refine S1 ha ?_; clear ha a; intro a ha
  refine SK (st_call ha rfl Ty.c29 rfl (snap_new (n := room) hs (by omega)) ?_); clear ha hs
  rintro e w ⟨sq, r, rfl, hs⟩
  refine ⟨_, rfl, ?_⟩
  intro a ha
  refine SK (st_call ha rfl Ty.c30 rfl (new_spec hs) ?_); clear ha hs
  rintro e w ⟨jq, rfl, hs⟩
  refine ⟨_, rfl, ?_⟩
  intro a ha
  refine SK (st_set ha rfl (ex_build ha Ty.b38 Ty.t38 rfl) rfl ?_); clear ha a; intro a ha
  refine SK (st_box ha rfl hs rfl ?_); clear ha hs a; (try clear w); intro b21 a w ha hs ho
  clear ho
  change St W w (blk b21 38 [.pointer (some ⟨sq, 0, none⟩), .pointer none, .pointer (some ⟨jq, 0, none⟩), .slice none 0 0, .int .i64 0] :: _) at hs
  refine S1 ha ?_; clear ha a; intro a ha
  refine LN <| TN <| WS <| WR ?_
  iterate 4 (refine S1 ha ?_; clear ha a; intro a ha)
  refine SL ha (hs.rd1 rfl) ?_; clear ha a; intro a ha
  refine SK (st_call ha rfl Ty.c31 rfl (tree_new (m := 8) hs) ?_); clear ha hs
  rintro e w ⟨tq, rfl, hs⟩
  refine ⟨_, rfl, ?_⟩
  intro a ha
  change St W w (Tree tq sq ⟨8, [], 0, 0⟩ :: _) at hs
  iterate 2 (refine S1 ha ?_; clear ha a; intro a ha)
  refine SK (st_store ha rfl hs Ty.t33 rfl (by simp) ?_); clear ha hs a; (try clear w); intro a w ha hs
  refine LN <| TN <| WS <| WR ?_
  iterate 3 (refine S1 ha ?_; clear ha a; intro a ha)
  refine SL ha (hs.rd1 rfl) ?_; clear ha a; intro a ha
  refine SK (st_set ha rfl (ex_buildA0 ha Tryz.underlying62 Ty.t62 Ty.t21) rfl ?_); clear ha a; intro a ha
  change Fr a 114 ((35, .agg (ints .i32 32 (fun _ => 0)).toArray) :: _) at ha
  refine SK (st_call ha rfl Ty.c32 rfl (snap_make (hs.store sq) (by simp [Sn.used, cnt_none]; omega) (by simp)) ?_); clear ha hs
  rintro e w ⟨t, rfl, ⟨ht1, ht2⟩, hs⟩
  refine ⟨_, rfl, ?_⟩
  intro a ha
  iterate 5 (refine S1 ha ?_; clear ha a; intro a ha)
  refine LN <| TN <| WS <| WS <| WR ?_
  iterate 2 (refine S1 ha ?_; clear ha a; intro a ha)
  rw [show (!true) = false from rfl] at ha
  refine LN <| TN <| WFa ha <| WK <| TN <| WS <| WR ?_
  iterate 4 (refine S1 ha ?_; clear ha a; intro a ha)
  refine SK (st_store ha rfl hs Ty.t36 rfl (by simp) ?_); clear ha hs a; (try clear w); intro a w ha hs
  change St W w (blk b21 38 (shopC sq tq jq none 0 0 1) :: _) at hs
  refine LN <| TN <| WS <| WS <| WR ?_
  refine S1 ha ?_; clear ha a; intro a ha
  refine LN <| TN <| wp_block ?_
  refine wp_loop_ghost (fun μ a w => ∃ (i : Nat) (A : Sn) (T : Tr) (J : Js), (μ = min ys.length 6 - i ∧ i ≤ min ys.length 6 ∧ Fresh p t room i ys [] A T J) ∧ Fr a 114 [(2, .slice ad ys.length c), (3, .int .i64 nw), (4, .pointer (some ⟨b4, 0, none⟩)), (9, .pointer (some ⟨b21, 0, none⟩)), (10, .int .i64 ((1 : Nat) : Int)), (12, .int .i64 i)] ∧ St W w (blk b21 38 (shopC sq tq jq none 0 0 1) :: blk b4 24 (prV p adO cO) :: Tree tq sq T :: Store sq r A :: Jobs jq J :: RoP W p adO cO :: L)) (min ys.length 6) ?_ ?_
  · exact ⟨0, _, _, [], ⟨by simp, by simp, Fresh.begin hr.1⟩, ha.keep [2, 3, 4, 9, 10, 12], hs.sub⟩
  ·
   clear ha hs
   rintro μ a w ⟨i, A, T, J, ⟨rfl, hi, hfr⟩, ha, hs⟩
   refine WS <| WS <| WR ?_
   refine S1 ha ?_; clear ha; (try clear a); intro a ha
   iterate 4 (refine S1 ha ?_; clear ha a; intro a ha)
   refine ha.by (s := 49) (fun hg4 ha => ?_) (fun hg4 ha => ?_)
   ·
    refine S1g (s := 49) ha ?_; clear ha; (try clear a); intro a ha
    refine S1g (s := 49) ha ?_; clear ha a; intro a ha
    refine PT ha ?_; clear ha a; intro a ha
    refine LN <| TN ?_
    refine WI ha (fun hc1 => ?_) (fun hc1 => ?_)
    ·
     have hil : i < ys.length := by omega
     obtain ⟨y, hy⟩ : ∃ y, ys[i]? = some y := ⟨_, List.getElem?_eq_getElem hil⟩
     have hym := List.mem_of_getElem? hy
     have hPi : (prs ys)[i]? = some ((cutN 5 y.2.2).map (·.2.2)) := by rw [prs, List.getElem?_map, hy]; rfl
     obtain ⟨bp, op, hade, _⟩ := (hp _ (hs.sub (M := L))).1 (by omega)
     have hcl : ∀ w', St W w' L → w'.cell? ⟨bp, op + i, none⟩ = some (bbbv y) := fun w' h => by
       obtain ⟨b', o', h1, h2⟩ := (hp w' h).1 (by omega)
       rw [hade] at h1
       cases h1
       exact h2 i _ (by rw [List.getElem?_map, hy]; rfl)
     have hA := (Store.facts (hs.store sq)).1
     have hT := Tree.wt (hs.tree tq)
     refine WK <| TN <| WS <| wp_block <| WS ?_
     refine DW (m := 16) (fun w' => Rd w' b21 0 (shopC sq tq jq none 0 0 1) ∧ w'.cell? ⟨bp, op + i, none⟩ = some (bbbv y)) [8, 9] [0, 1, 2, 4, 5, 6, 7, 3, 8, 9, 10, 11, 12, 13, 14, 15] Ty.mixed (pk_then (pk_blk (pk_then (pk_then (pk_blk (pk_then pk_body)))))) (fun hpk => ?_)
     replace hs := hs.drew
     generalize w.drew = w at hs hpk ⊢
     have hC : Rd w b21 0 (shopC sq tq jq none 0 0 1) ∧ w.cell? ⟨bp, op + i, none⟩ = some (bbbv y) := ⟨hs.rdAll, hcl _ hs.sub⟩
     refine DP hpk ha rfl ?_; clear ha; (try clear a); intro a ha
     iterate 5 (refine DP hpk ha rfl ?_; clear ha a; intro a ha)
     rw [hade] at ha
     refine DQ hpk ha rfl rfl (fun w => ex_indexAddr ha Tryz.underlying25 Ty.t41 (by omega)) ?_; clear ha a; intro a ha
     rw [Nat.mul_one] at ha
     refine DL hpk ha rfl (fun w hc => hc.1 1 _ rfl) hC ?_; clear ha a; intro a ha
     refine D1 rfl (st_set ha rfl (ex_load1 ha Tryz.underlying41 rfl (hC.2)) rfl ?_); clear ha a; intro a ha
     refine ⟨fun _ => hC, ?_⟩
     refine D1 rfl (st_call ha rfl Ty.c17 rfl (presses_any (K := 5) hs (by decide) (fun w' h => (hp w' h.sub).2 y hym) rfl) ?_); clear ha hs
     rintro e w ⟨ad2, c2, rfl, hc2, hs⟩
     refine ⟨_, rfl, ?_⟩
     intro a ha
     replace hC : (fun w' => Rd w' b21 0 (shopC sq tq jq none 0 0 1) ∧ w'.cell? ⟨bp, op + i, none⟩ = some (bbbv y)) w := ⟨hs.rdAll, hcl _ hs.sub⟩
     refine ⟨fun _ => hC, ?_⟩
     rw [show min y.2.2.length 5 = ((cutN 5 y.2.2).map (·.2.2)).length from by rw [List.length_map, cutN_len]] at ha hs hc2
     refine D1 rfl (st_call ha rfl Ty.c33 rfl (add_try (i := 0) (px := ⟨1, 1, fun _ => 0, t⟩) (zs := cutN 5 y.2.2) ((hs.store sq).tree tq) (fun w' h => (RdX.sl2 h ad2 (List.length_map ..).symm (cutN_rd (((hp w' h.sub).2 y hym).1.2)))) rfl hc2 (cutN_ok _ (by decide)) hfr.base rfl (by have := hfr.n; omega) (by have := hfr.last; have := hfr.len; omega) (by have := hfr.len; have := hfr.most; omega)) ?_); clear ha hs
     rintro e w ⟨z, ok, rfl, hadd⟩
     refine ⟨_, rfl, ?_⟩
     intro a ha
     refine ⟨fun h => absurd h (by decide), ?_⟩
     iterate 5 (refine DP hpk ha rfl ?_; clear ha a; intro a ha)
     refine DD <| TN <| WS <| WR ?_
     refine S1 ha ?_; clear ha a; intro a ha
     refine LN <| TN ?_
     refine WI ha (fun hc5 => ?_) (fun hc5 => ?_)
     ·
      obtain ⟨hze, h0, hno, hs⟩ := (hadd.resolve_left (fun h => by rw [h.1] at hc5; cases hc5)).2
      subst hze
      rw [← hade] at ha
      refine DW (m := 12) (fun w' => Rd w' b21 0 (shopC sq tq jq none 0 0 1)) [8, 9, 10] [0, 1, 2, 4, 5, 6, 7, 3, 8, 9, 10, 11] Ty.mixed (pk_blk (pk_then (pk_then (pk_blk (pk_then pk_body))))) (fun hpk => ?_)
      replace hs := hs.drew
      generalize w.drew = w at hs hpk ⊢
      have hC : Rd w b21 0 (shopC sq tq jq none 0 0 1) := hs.rdAll
      refine DP hpk ha rfl ?_; clear ha; (try clear a); intro a ha
      iterate 6 (refine DP hpk ha rfl ?_; clear ha a; intro a ha)
      refine DL hpk ha rfl (fun w hc => hc 2 _ rfl) hC ?_; clear ha a; intro a ha
      refine D1 rfl (st_set ha rfl (ex_load1 ha Tryz.underlying33 rfl (hC 1 _ rfl)) rfl ?_); clear ha a; intro a ha
      refine ⟨fun _ => hC, ?_⟩
      refine D1 rfl (st_call ha rfl Ty.c35 rfl (tree_epoch (hs.tree tq)) ?_); clear ha hs
      rintro e w ⟨rfl, hs⟩
      refine ⟨_, rfl, ?_⟩
      intro a ha
      replace hC : (fun w' => Rd w' b21 0 (shopC sq tq jq none 0 0 1)) w := hs.rdAll
      refine ⟨fun _ => hC, ?_⟩
      refine D1 rfl (st_set ha rfl (ex_build ha Ty.b77 Ty.t77 rfl) rfl ?_); clear ha a; intro a ha
      refine ⟨fun _ => hC, ?_⟩
      refine D1 rfl (st_call ha rfl Ty.c34 rfl (put_spec (hs.jobs jq) (by have := hfr.jl; omega)) ?_); clear ha hs
      rintro e w ⟨rfl, hs⟩
      refine ⟨_, rfl, ?_⟩
      intro a ha
      refine ⟨fun h => absurd h (by decide), ?_⟩
      change St W w (Jobs jq (putJ J ((T.last + 1 : Nat) : Int) (T.epoch : Int)) :: _) at hs
      refine DD <| BN <| TN <| WR ?_
      refine S1 ha ?_; clear ha a; intro a ha
      refine SK (st_set ha rfl (ex_addI ha (by omega) (by omega)) rfl ?_); clear ha a; intro a ha
      refine S1d ha ?_; clear ha a; intro a ha
      refine LN <| TN ?_
      exact ⟨min ys.length 6 - (i + 1), by omega, i + 1, _, _, _, ⟨rfl, by omega, hfr.add hA hT hPi h0 (by rw [List.length_map, cutN_len]; omega) hno⟩, ha.keep [2, 3, 4, 9, 10, 12], hs.sub⟩
     ·
      obtain ⟨hno, hs⟩ := (hadd.resolve_right (fun h => by rw [h.1] at hc5; cases hc5)).2
      rw [← hade] at ha
      refine WK <| BN <| TN <| WR ?_
      refine S1 ha ?_; clear ha; (try clear a); intro a ha
      refine SK (st_set ha rfl (ex_addI ha (by omega) (by omega)) rfl ?_); clear ha a; intro a ha
      refine S1d ha ?_; clear ha a; intro a ha
      refine LN <| TN ?_
      exact ⟨min ys.length 6 - (i + 1), by omega, i + 1, _, _, _, ⟨rfl, by omega, hfr.skip hPi hno⟩, ha.keep [2, 3, 4, 9, 10, 12], hs.sub⟩
    ·
     refine wp_exit <| TE <| TE <| blk_e <| TN <| WS <| WS ?_
     obtain rfl : i = min ys.length 6 := by omega
     clear hi
     refine WR ?_
     refine S1 ha ?_; clear ha; (try clear a); intro a ha
     refine LN <| TN <| wp_block ?_
     refine wp_loop_ghost (fun μ a w => ∃ (ks : List Kx) (adw : Option Addr) (cw : Nat), (μ = nw - ks.length ∧ ks.length ≤ nw ∧ Fresh p t room (min ys.length 6) ys (ks.map (·.1)) A T J) ∧ Fr a 114 [(3, .int .i64 nw), (4, .pointer (some ⟨b4, 0, none⟩)), (9, .pointer (some ⟨b21, 0, none⟩)), (15, .int .i64 ks.length)] ∧ St W w (blk b21 38 (shopC sq tq jq adw ks.length cw 1) :: Sl 31 1 adw ks.length cw (ptrs ks) :: All (ownK p adO cO tq jq sq) ks :: blk b4 24 (prV p adO cO) :: Tree tq sq T :: Store sq r A :: Jobs jq J :: RoP W p adO cO :: L)) (nw) ?_ ?_
     · exact ⟨[], none, 0, ⟨by simp, by simp, hfr⟩, ha.keep [3, 4, 9, 15], (show St W w (Sl 31 1 none ([] : List Kx).length 0 (ptrs []) :: All (ownK p adO cO tq jq sq) [] :: blk b21 38 (shopC sq tq jq none ([] : List Kx).length 0 1) :: _) from (hs.allNil (f := ownK p adO cO tq jq sq)).sl0 31 1 none).sub⟩
     ·
      clear ha hs
      rintro μ a w ⟨ks, adw, cw, ⟨rfl, hkl, hfr⟩, ha, hs⟩
      refine WS <| WS <| WR ?_
      refine S1 ha ?_; clear ha; (try clear a); intro a ha
      iterate 2 (refine S1 ha ?_; clear ha a; intro a ha)
      refine LN <| TN ?_
      refine WI ha (fun hc3 => ?_) (fun hc3 => ?_)
      ·
       refine WK <| TN <| WS <| wp_block <| WS ?_
       refine DW (m := 15) (fun w' => Rd w' b21 0 (shopC sq tq jq adw ks.length cw 1) ∧ Rd w' b4 0 (prV p adO cO)) [4, 8, 12] [1, 2, 3, 5, 6, 7, 9, 10, 11, 0, 4, 8, 12, 13, 14] Ty.mixed (pk_then (pk_blk (pk_then (pk_then (pk_blk (pk_then pk_body)))))) (fun hpk => ?_)
       replace hs := hs.drew
       generalize w.drew = w at hs hpk ⊢
       have hC : Rd w b21 0 (shopC sq tq jq adw ks.length cw 1) ∧ Rd w b4 0 (prV p adO cO) := ⟨hs.rdAll, hs.rdAll⟩
       refine DP hpk ha rfl ?_; clear ha; (try clear a); intro a ha
       iterate 8 (refine DP hpk ha rfl ?_; clear ha a; intro a ha)
       refine DH hpk ha rfl rfl (fun w hc => ex_loadN ha Tryz.underlying24 rfl Ty.t24 (hc.2)) hC ?_; clear ha a; intro a ha
       refine DL hpk ha rfl (fun w hc => hc.1 1 _ rfl) hC ?_; clear ha a; intro a ha
       refine DL hpk ha rfl (fun w hc => hc.1 2 _ rfl) hC ?_; clear ha a; intro a ha
       refine D1 rfl (st_set ha rfl (ex_load1 ha Tryz.underlying32 rfl (hC.1 0 _ rfl)) rfl ?_); clear ha a; intro a ha
       refine ⟨fun _ => hC, ?_⟩
       refine D1 rfl (st_call ha rfl Ty.c36 rfl (worker_new hs) ?_); clear ha hs
       rintro e w ⟨wb, rfl, hs⟩
       refine ⟨_, rfl, ?_⟩
       intro a ha
       refine ⟨fun h => absurd h (by decide), ?_⟩
       refine DP hpk ha rfl ?_; clear ha a; intro a ha
       refine DD <| TN <| WS <| WS <| WR ?_
       iterate 2 (refine S1 ha ?_; clear ha a; intro a ha)
       refine LN <| TN <| WFa ha <| WK <| TN <| WR ?_
       iterate 4 (refine S1 ha ?_; clear ha a; intro a ha)
       refine SL ha (hs.rd1 rfl) ?_; clear ha a; intro a ha
       refine S1 ha ?_; clear ha a; intro a ha
       refine SK (st_buildSlice ha rfl hs Tryz.underlying35 Ty.t31 rfl rfl rfl rfl (by decide) (by decide) ?_); clear ha hs a; (try clear w); intro b109 a w ha hs ho
       clear ho
       refine SK (st_append ha rfl hs Tryz.underlying35 Ty.t31 rfl rfl hs.rdAll rfl (by simp [Value.oneCell']) (by decide) (by decide) (by omega) ?_); clear ha hs a; (try clear w); intro ad110 c110 a w ha hs
       iterate 2 (refine S1 ha ?_; clear ha a; intro a ha)
       refine SK (st_store ha rfl hs Ty.t35 rfl (by simp [shopC]) ?_); clear ha hs a; (try clear w); intro a w ha hs
       have hs5 : St W w (blk b21 38 (shopC sq tq jq ad110 (ks ++ [(wk0, wb)]).length c110 1) :: Sl 31 1 ad110 (ks ++ [(wk0, wb)]).length c110 (ptrs (ks ++ [(wk0, wb)])) :: blk wb 80 (wkC p adO cO tq jq sq wk0) :: All (ownK p adO cO tq jq sq) ks :: blk b4 24 (prV p adO cO) :: Tree tq sq T :: Store sq r A :: Jobs jq J :: RoP W p adO cO :: L) := by
         have e1 : (ks ++ [(wk0, wb)]).length = ks.length + 1 := by simp
         have e2 : ptrs (ks ++ [(wk0, wb)]) = ptrs ks ++ [.pointer (some ⟨wb, 0, none⟩)] := by simp [ptrs]
         rw [e1, e2]
         change St W w (blk b21 38 (shopC sq tq jq ad110 (ks.length + 1) c110 1) :: Sl 31 1 ad110 (ks.length + 1) c110 (ptrs ks ++ [.pointer (some ⟨wb, 0, none⟩)]) :: _) at hs
         exact hs.sub
       have hs6 := St.allPush (f := ownK p adO cO tq jq sq) (x := (wk0, wb)) (l := ks) (hs5.sub (M := blk wb 80 (wkC p adO cO tq jq sq wk0) :: All (ownK p adO cO tq jq sq) ks :: blk b21 38 (shopC sq tq jq ad110 (ks ++ [(wk0, wb)]).length c110 1) :: Sl 31 1 ad110 (ks ++ [(wk0, wb)]).length c110 (ptrs (ks ++ [(wk0, wb)])) :: blk b4 24 (prV p adO cO) :: Tree tq sq T :: Store sq r A :: Jobs jq J :: RoP W p adO cO :: L))
       replace hs := hs6
       clear hs5 hs6
       refine LN <| BN <| TN <| WR ?_
       refine S1 ha ?_; clear ha a; intro a ha
       refine SK (st_set ha rfl (ex_addI ha (by omega) (by omega)) rfl ?_); clear ha a; intro a ha
       refine S1d ha ?_; clear ha a; intro a ha
       refine LN <| TN ?_
       have hkl2 : (ks ++ [(wk0, wb)]).length = ks.length + 1 := by simp
       refine ⟨nw - (ks.length + 1), by omega, ks ++ [(wk0, wb)], ad110, c110, ⟨by omega, by omega, ?_⟩, ?_, hs.sub⟩
       · rw [List.map_append]
         exact hfr.worker.perm (List.perm_append_singleton _ _).symm
       · rw [hkl2]; exact ha.keep [3, 4, 9, 15]
      ·
       refine wp_exit <| TE <| TE <| blk_e <| TN <| WS <| WR ?_
       refine S1 ha ?_; clear ha; (try clear a); intro a ha
       refine S1 ha ?_; clear ha a; intro a ha
       refine LN <| TN <| wp_ret ?_
       refine ret1 ha rfl ?_
       obtain rfl : ks.length = nw := by omega
       exact ⟨b21, sq, r, tq, jq, adw, cw, ks, A, T, J, t, rfl, ⟨rfl, ht2, hfr⟩, hs.sub⟩
   ·
    refine SO (s := 49) ha ?_; clear ha; (try clear a); intro a ha
    refine SO (s := 49) ha ?_; clear ha a; intro a ha
    refine PF ha ?_; clear ha a; intro a ha
    refine LN <| TN <| WFa ha <| wp_exit <| TE <| TE <| blk_e <| TN <| WS <| WS ?_
    obtain rfl : i = min ys.length 6 := by omega
    clear hi
    refine WR ?_
    refine S1 ha ?_; clear ha a; intro a ha
    refine LN <| TN <| wp_block ?_
    refine wp_loop_ghost (fun μ a w => ∃ (ks : List Kx) (adw : Option Addr) (cw : Nat), (μ = nw - ks.length ∧ ks.length ≤ nw ∧ Fresh p t room (min ys.length 6) ys (ks.map (·.1)) A T J) ∧ Fr a 114 [(3, .int .i64 nw), (4, .pointer (some ⟨b4, 0, none⟩)), (9, .pointer (some ⟨b21, 0, none⟩)), (15, .int .i64 ks.length)] ∧ St W w (blk b21 38 (shopC sq tq jq adw ks.length cw 1) :: Sl 31 1 adw ks.length cw (ptrs ks) :: All (ownK p adO cO tq jq sq) ks :: blk b4 24 (prV p adO cO) :: Tree tq sq T :: Store sq r A :: Jobs jq J :: RoP W p adO cO :: L)) (nw) ?_ ?_
    · exact ⟨[], none, 0, ⟨by simp, by simp, hfr⟩, ha.keep [3, 4, 9, 15], (show St W w (Sl 31 1 none ([] : List Kx).length 0 (ptrs []) :: All (ownK p adO cO tq jq sq) [] :: blk b21 38 (shopC sq tq jq none ([] : List Kx).length 0 1) :: _) from (hs.allNil (f := ownK p adO cO tq jq sq)).sl0 31 1 none).sub⟩
    ·
     clear ha hs
     rintro μ a w ⟨ks, adw, cw, ⟨rfl, hkl, hfr⟩, ha, hs⟩
     refine WS <| WS <| WR ?_
     refine S1 ha ?_; clear ha; (try clear a); intro a ha
     iterate 2 (refine S1 ha ?_; clear ha a; intro a ha)
     refine LN <| TN ?_
     refine WI ha (fun hc3 => ?_) (fun hc3 => ?_)
     ·
      refine WK <| TN <| WS <| wp_block <| WS ?_
      refine DW (m := 15) (fun w' => Rd w' b21 0 (shopC sq tq jq adw ks.length cw 1) ∧ Rd w' b4 0 (prV p adO cO)) [4, 8, 12] [1, 2, 3, 5, 6, 7, 9, 10, 11, 0, 4, 8, 12, 13, 14] Ty.mixed (pk_then (pk_blk (pk_then (pk_then (pk_blk (pk_then pk_body)))))) (fun hpk => ?_)
      replace hs := hs.drew
      generalize w.drew = w at hs hpk ⊢
      have hC : Rd w b21 0 (shopC sq tq jq adw ks.length cw 1) ∧ Rd w b4 0 (prV p adO cO) := ⟨hs.rdAll, hs.rdAll⟩
      refine DP hpk ha rfl ?_; clear ha; (try clear a); intro a ha
      iterate 8 (refine DP hpk ha rfl ?_; clear ha a; intro a ha)
      refine DH hpk ha rfl rfl (fun w hc => ex_loadN ha Tryz.underlying24 rfl Ty.t24 (hc.2)) hC ?_; clear ha a; intro a ha
      refine DL hpk ha rfl (fun w hc => hc.1 1 _ rfl) hC ?_; clear ha a; intro a ha
      refine DL hpk ha rfl (fun w hc => hc.1 2 _ rfl) hC ?_; clear ha a; intro a ha
      refine D1 rfl (st_set ha rfl (ex_load1 ha Tryz.underlying32 rfl (hC.1 0 _ rfl)) rfl ?_); clear ha a; intro a ha
      refine ⟨fun _ => hC, ?_⟩
      refine D1 rfl (st_call ha rfl Ty.c36 rfl (worker_new hs) ?_); clear ha hs
      rintro e w ⟨wb, rfl, hs⟩
      refine ⟨_, rfl, ?_⟩
      intro a ha
      refine ⟨fun h => absurd h (by decide), ?_⟩
      refine DP hpk ha rfl ?_; clear ha a; intro a ha
      refine DD <| TN <| WS <| WS <| WR ?_
      iterate 2 (refine S1 ha ?_; clear ha a; intro a ha)
      refine LN <| TN <| WFa ha <| WK <| TN <| WR ?_
      iterate 4 (refine S1 ha ?_; clear ha a; intro a ha)
      refine SL ha (hs.rd1 rfl) ?_; clear ha a; intro a ha
      refine S1 ha ?_; clear ha a; intro a ha
      refine SK (st_buildSlice ha rfl hs Tryz.underlying35 Ty.t31 rfl rfl rfl rfl (by decide) (by decide) ?_); clear ha hs a; (try clear w); intro b109 a w ha hs ho
      clear ho
      refine SK (st_append ha rfl hs Tryz.underlying35 Ty.t31 rfl rfl hs.rdAll rfl (by simp [Value.oneCell']) (by decide) (by decide) (by omega) ?_); clear ha hs a; (try clear w); intro ad110 c110 a w ha hs
      iterate 2 (refine S1 ha ?_; clear ha a; intro a ha)
      refine SK (st_store ha rfl hs Ty.t35 rfl (by simp [shopC]) ?_); clear ha hs a; (try clear w); intro a w ha hs
      have hs5 : St W w (blk b21 38 (shopC sq tq jq ad110 (ks ++ [(wk0, wb)]).length c110 1) :: Sl 31 1 ad110 (ks ++ [(wk0, wb)]).length c110 (ptrs (ks ++ [(wk0, wb)])) :: blk wb 80 (wkC p adO cO tq jq sq wk0) :: All (ownK p adO cO tq jq sq) ks :: blk b4 24 (prV p adO cO) :: Tree tq sq T :: Store sq r A :: Jobs jq J :: RoP W p adO cO :: L) := by
        have e1 : (ks ++ [(wk0, wb)]).length = ks.length + 1 := by simp
        have e2 : ptrs (ks ++ [(wk0, wb)]) = ptrs ks ++ [.pointer (some ⟨wb, 0, none⟩)] := by simp [ptrs]
        rw [e1, e2]
        change St W w (blk b21 38 (shopC sq tq jq ad110 (ks.length + 1) c110 1) :: Sl 31 1 ad110 (ks.length + 1) c110 (ptrs ks ++ [.pointer (some ⟨wb, 0, none⟩)]) :: _) at hs
        exact hs.sub
      have hs6 := St.allPush (f := ownK p adO cO tq jq sq) (x := (wk0, wb)) (l := ks) (hs5.sub (M := blk wb 80 (wkC p adO cO tq jq sq wk0) :: All (ownK p adO cO tq jq sq) ks :: blk b21 38 (shopC sq tq jq ad110 (ks ++ [(wk0, wb)]).length c110 1) :: Sl 31 1 ad110 (ks ++ [(wk0, wb)]).length c110 (ptrs (ks ++ [(wk0, wb)])) :: blk b4 24 (prV p adO cO) :: Tree tq sq T :: Store sq r A :: Jobs jq J :: RoP W p adO cO :: L))
      replace hs := hs6
      clear hs5 hs6
      refine LN <| BN <| TN <| WR ?_
      refine S1 ha ?_; clear ha a; intro a ha
      refine SK (st_set ha rfl (ex_addI ha (by omega) (by omega)) rfl ?_); clear ha a; intro a ha
      refine S1d ha ?_; clear ha a; intro a ha
      refine LN <| TN ?_
      have hkl2 : (ks ++ [(wk0, wb)]).length = ks.length + 1 := by simp
      refine ⟨nw - (ks.length + 1), by omega, ks ++ [(wk0, wb)], ad110, c110, ⟨by omega, by omega, ?_⟩, ?_, hs.sub⟩
      · rw [List.map_append]
        exact hfr.worker.perm (List.perm_append_singleton _ _).symm
      · rw [hkl2]; exact ha.keep [3, 4, 9, 15]
     ·
      refine wp_exit <| TE <| TE <| blk_e <| TN <| WS <| WR ?_
      refine S1 ha ?_; clear ha; (try clear a); intro a ha
      refine S1 ha ?_; clear ha a; intro a ha
      refine LN <| TN <| wp_ret ?_
      refine ret1 ha rfl ?_
      obtain rfl : ks.length = nw := by omega
      exact ⟨b21, sq, r, tq, jq, adw, cw, ks, A, T, J, t, rfl, ⟨rfl, ht2, hfr⟩, hs.sub⟩
end
end Go.Proofs.YtneafbkhaooelaaGreat

