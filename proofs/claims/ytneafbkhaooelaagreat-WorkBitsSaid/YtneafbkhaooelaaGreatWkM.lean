/- A worker's memory: the cells of a picture in the store. -/
import Derived.Test.YtneafbkhaooelaaGreatVm
import Derived.Test.YtneafbkhaooelaaGreatSnapL
namespace Go.Proofs.YtneafbkhaooelaaGreat
open Go.RowKit
set_option linter.unusedVariables false
set_option linter.unusedSimpArgs false
set_option maxRecDepth 10000
set_option synthInstance.maxSize 4000
set_option synthInstance.maxHeartbeats 400000

theorem pages_cnt (l : List Pic) (p : Nat) : (pagesOf l).count p = cnt l p := by
  induction l with
  | nil => rfl
  | cons x l ih =>
    have h1 : pagesOf (x :: l) = [x.p 0, x.p 1, x.p 2, x.p 3] ++ pagesOf l := rfl
    rw [h1, List.count_append, ih, cnt_cons, cntP_eq]
    simp only [List.count_cons, List.count_nil, beq_iff_eq]
    omega
theorem distinct_dup (p : Nat) : ∀ l : List Nat, distinct l + (l.count p - 1) ≤ l.length
  | [] => by simp [distinct]
  | x :: l => by
    have ih := distinct_dup p l
    rw [distinct, List.count_cons, List.length_cons]
    by_cases hx : x = p
    · subst hx
      by_cases hm : x ∈ l
      · have := List.count_pos_iff.2 hm
        simp [hm]; omega
      · have := List.count_eq_zero.2 hm
        simp [hm]; omega
    · have h1 : (x == p) = false := by simpa using hx
      simp only [h1, Bool.false_eq_true, if_false, Nat.add_zero]
      split <;> omega
theorem pages_len4 (l : List Pic) : (pagesOf l).length = 4 * l.length := by
  induction l with
  | nil => rfl
  | cons x l ih =>
    have h1 : pagesOf (x :: l) = [x.p 0, x.p 1, x.p 2, x.p 3] ++ pagesOf l := rfl
    rw [h1, List.length_append, ih, List.length_cons]; simp; omega
section
variable {W w : World} {L L' R : List SP} {q r i bc : Nat} {A : Sn} {x px : Pic}
theorem Store.shared (hs : St W w (Store q r A :: L)) {p : Nat} (h : 1 < cnt A.pics p) : A.used < 4 * A.pics.length := by
  have h1 := distinct_dup p (pagesOf A.pics)
  rw [← Store.used hs, pages_cnt, pages_len4] at h1
  omega
theorem snap_set_try {c : Nat} {v : Int} (hs : St W w (Store q r A :: L)) (hx : A.pics[i]? = some x) (hc : c < 32) :
    Calls Tryz.prog 151 #[.pointer (some ⟨q, 0, none⟩), .int .i64 x.id, .int .i64 c, .int .i32 v] w fun e w' => ∃ (ok : Bool) (p' : Nat → Nat), e = .returned (.bool ok) ∧ (ok = false → ¬ 4 * A.pics.length ≤ A.room) ∧
      ((ok = true ∧ St W w' (Store q r { A with pics := A.pics.set i { x with g := upd x.g c v, p := p' } } :: L)) ∨ (ok = false ∧ St W w' (Store q r A :: L))) := by
  have hk4 : c / 8 < 4 := by omega
  by_cases h1 : 1 < cnt A.pics (x.p (c / 8))
  · by_cases hu : A.used < A.room
    · exact (snap_set_own (v := v) hs hx hc h1 hu).mono fun e w' ⟨f, h2, _, hs⟩ => ⟨true, fun j => if j = c / 8 then f else x.p j, h2, fun h => (by cases h), .inl ⟨rfl, hs⟩⟩
    · have hsh := Store.shared hs h1
      exact (snap_set_full (v := v) hs hx hc h1 (by omega)).mono fun e w' ⟨h2, hs⟩ => ⟨false, x.p, h2, fun _ => by omega, .inr ⟨rfl, hs⟩⟩
  · have h3 : cnt A.pics (x.p (c / 8)) = 1 := by
      have h4 := cnt_mem (List.mem_of_getElem? hx) (x.p (c / 8))
      have h5 := cntP_pos (x := x) hk4
      omega
    exact (snap_set (v := v) hs hx hc h3).mono fun e w' ⟨h2, hs⟩ => ⟨true, x.p, h2, fun h => (by cases h), .inl ⟨rfl, hs⟩⟩
theorem gOk_upd {g : Nat → Int} {c : Nat} {v : Int} (h : gOk g) (hv : i32P v) : gOk (upd g c v) := fun j hj => by
  simp only [upd]
  split
  · exact hv
  · exact h j hj
def Jw (q r bc i : Nat) (A : Sn) (px : Pic) (g : Nat → Int) (bad : Bool) : SP := fun h => ∃ p' : Nat → Nat, (gOk g ∧ (bad = true → ¬ 4 * A.pics.length ≤ A.room)) ∧
  sepL [blk bc 133 [.pointer (some ⟨q, 0, none⟩), .int .i64 px.id, .bool bad], Store q r { A with pics := A.pics.set i ⟨px.id, px.refs, g, p'⟩ }] h
theorem Jw.open {g : Nat → Int} {bad : Bool} (hs : St W w (Jw q r bc i A px g bad :: L)) : ∃ p' : Nat → Nat, (gOk g ∧ (bad = true → ¬ 4 * A.pics.length ≤ A.room)) ∧
    St W w (blk bc 133 [.pointer (some ⟨q, 0, none⟩), .int .i64 px.id, .bool bad] :: Store q r { A with pics := A.pics.set i ⟨px.id, px.refs, g, p'⟩ } :: L) := by
  obtain ⟨p', h1, h2⟩ := hs.exi (ι := Nat → Nat) (p := fun _ => gOk g ∧ (bad = true → ¬ 4 * A.pics.length ≤ A.room)) (B := fun p' h => sepL [blk bc 133 [.pointer (some ⟨q, 0, none⟩), .int .i64 px.id, .bool bad], Store q r { A with pics := A.pics.set i ⟨px.id, px.refs, g, p'⟩ }] h) (fun h ⟨p', h1, h2⟩ => ⟨p', h1, h2⟩)
  exact ⟨p', h1, h2.open fun _ h => h⟩
theorem Jw.close {g : Nat → Int} {bad : Bool} {p' : Nat → Nat} (hs : St W w (blk bc 133 [.pointer (some ⟨q, 0, none⟩), .int .i64 px.id, .bool bad] :: Store q r { A with pics := A.pics.set i ⟨px.id, px.refs, g, p'⟩ } :: L)) (h1 : gOk g) (h2 : bad = true → ¬ 4 * A.pics.length ≤ A.room) :
    St W w (Jw q r bc i A px g bad :: L) := St.shut (M := [_, _]) hs (fun _ x => ⟨p', ⟨h1, h2⟩, x⟩)
theorem cells_get {g : Nat → Int} {bad : Bool} {c : Nat} (hx : i < A.pics.length) (hc : c < 32) (hs : St W w (Jw q r bc i A px g bad :: L)) :
    Calls Tryz.prog 155 (List.toArray [.pointer (some ⟨bc, 0, none⟩), .int .i64 c]) w fun e w' => e = .returned (.int .i32 (g c)) ∧ St W w' (Jw q r bc i A px g bad :: L) := by
  obtain ⟨p', ⟨h1, h2⟩, hs⟩ := Jw.open hs
  refine calls_enter Tryz.func155 rfl Tryz.ntmps155 (Nat.le_of_ble_eq_true rfl) ?_
  intro a ha
  replace ha : Fr a 21 [(0, _), (1, _)] := ha
  refine WS <| WR ?_
  refine S1 ha ?_; clear ha a; intro a ha
  refine LN <| TN <| WS ?_
  refine DW (m := 15) (Old w.drew) [7] [0, 1, 2, 4, 5, 6, 8, 3, 7, 9, 10, 11, 12, 13, 14] Ty.mixed (pk_then pk_body) (fun hpk => ?_)
  replace hs := hs.drew
  have hC := Old.refl w.drew
  generalize w.drew = w at hs hC hpk ⊢
  iterate 7 (refine DP hpk ha rfl ?_; clear ha a; intro a ha)
  refine DL hpk ha rfl (fun w hc => hc.cell (hs.rd1 rfl)) hC ?_; clear ha a; intro a ha
  refine D1 rfl (st_set ha rfl (ex_load1 ha Tryz.underlying36 rfl (hs.rd1 rfl)) rfl ?_); clear ha a; intro a ha
  refine ⟨fun _ => hC, ?_⟩
  refine D1 rfl (st_call ha rfl Ty.c52 rfl (snap_get (i := i) (x := ⟨px.id, px.refs, g, p'⟩) (hs.store q) (by simp [hx]) hc) ?_); clear ha hs
  rintro e w ⟨rfl, hs⟩
  refine ⟨_, rfl, ?_⟩
  intro a ha
  refine ⟨fun h => absurd h (by decide), ?_⟩
  iterate 5 (refine DP hpk ha rfl ?_; clear ha a; intro a ha)
  refine DD <| TN <| WS <| WR ?_
  refine S1 ha ?_; clear ha a; intro a ha
  refine S1d ha ?_; clear ha a; intro a ha
  refine LN <| TN <| wp_ret ?_
  refine ret1 ha rfl ?_
  exact ⟨rfl, Jw.close (p' := p') hs.sub h1 h2⟩
theorem cells_set {g : Nat → Int} {bad : Bool} {c : Nat} {v : Int} (hx : i < A.pics.length) (hc : c < 32) (hv : i32P v) (hs : St W w (Jw q r bc i A px g bad :: L)) :
    Calls Tryz.prog 156 (List.toArray [.pointer (some ⟨bc, 0, none⟩), .int .i64 c, .int .i32 v]) w fun e w' => ∃ (g' : Nat → Int) (bad' : Bool), e = .returned (.tuple #[]) ∧ ((bad' = true ∧ g' = g) ∨ (bad' = false ∧ bad = false ∧ g' = upd g c v)) ∧ St W w' (Jw q r bc i A px g' bad' :: L) := by
  obtain ⟨p', ⟨h1, h2⟩, hs⟩ := Jw.open hs
  refine calls_enter Tryz.func156 rfl Tryz.ntmps156 (Nat.le_of_ble_eq_true rfl) ?_
  intro a ha
  replace ha : Fr a 27 [(0, _), (1, _), (2, _)] := ha
  refine DW (m := 22) (Old w.drew) [13] [0, 1, 2, 3, 4, 5, 6, 7, 8, 10, 11, 12, 14, 15, 9, 13, 16, 17, 18, 19, 20, 21] Ty.mixed pk_body (fun hpk => ?_)
  replace hs := hs.drew
  have hC := Old.refl w.drew
  generalize w.drew = w at hs hC hpk ⊢
  iterate 4 (refine DP hpk ha rfl ?_; clear ha a; intro a ha)
  refine D1 rfl (st_set ha rfl (ex_load1 ha Tryz.underlying4 rfl (hs.rd1 rfl)) rfl ?_); clear ha a; intro a ha
  refine ⟨fun h => absurd h (by decide), ?_⟩
  refine DP hpk ha rfl ?_; clear ha a; intro a ha
  refine ha.by (s := 11) (fun hg5 ha => ?_) (fun hg5 ha => ?_)
  ·
   refine DO (s := 11) hpk ha rfl ?_; clear ha; (try clear a); intro a ha
   iterate 7 (refine DO (s := 11) hpk ha rfl ?_; clear ha a; intro a ha)
   iterate 2 (refine DOH (s := 11) hpk ha rfl hC ?_; clear ha a; intro a ha)
   iterate 2 (refine DO (s := 11) hpk ha rfl ?_; clear ha a; intro a ha)
   refine DT hpk ha rfl ?_; clear ha a; intro a ha
   iterate 2 (refine DP hpk ha rfl ?_; clear ha a; intro a ha)
   refine D1 rfl (st_store ha rfl hs Ty.t4 rfl (by simp) ?_); clear ha hs a; (try clear w); intro a w ha hs
   refine ⟨fun h => absurd h (by decide), ?_⟩
   refine DD ?_
   refine end0 ha rfl ?_
   exact ⟨g, true, rfl, .inl ⟨rfl, rfl⟩, Jw.close (p' := p') hs.sub h1 (fun _ => h2 hg5)⟩
  ·
   refine DPg (s := 11) hpk ha rfl ?_; clear ha; (try clear a); intro a ha
   iterate 7 (refine DPg (s := 11) hpk ha rfl ?_; clear ha a; intro a ha)
   refine DH hpk ha rfl (wgT ha rfl (s := 11)) (fun w hc => ex_load1 ha Tryz.underlying32 rfl (hc.cell (hs.rd1 rfl))) hC ?_; clear ha a; intro a ha
   refine D1 rfl (st_set ha (wgT ha rfl (s := 11)) (ex_load1 ha Tryz.underlying36 rfl (hs.rd1 rfl)) rfl ?_); clear ha a; intro a ha
   refine ⟨fun _ => hC, ?_⟩
   refine D1 rfl (st_call ha (wgT ha rfl (s := 11)) Ty.c151 rfl (snap_set_try (i := i) (x := ⟨px.id, px.refs, g, p'⟩) (v := v) (hs.store q) (by simp [hx]) hc) ?_); clear ha hs
   rintro e w ⟨ok, p2, rfl, hok, hcase⟩
   refine ⟨_, rfl, ?_⟩
   intro a ha
   refine ⟨fun h => absurd h (by decide), ?_⟩
   obtain ⟨hok1, hs⟩ : (ok = ok) ∧ St W w (Store q r { A with pics := A.pics.set i ⟨px.id, px.refs, if ok then upd g c v else g, if ok then p2 else p'⟩ } :: blk bc 133 [.pointer (some ⟨q, 0, none⟩), .int .i64 px.id, .bool bad] :: L) := by
     refine ⟨rfl, ?_⟩
     rcases hcase with ⟨rfl, hs⟩ | ⟨rfl, hs⟩
     · simp only [List.set_set] at hs
       exact hs
     · exact hs
   refine DPg (s := 11) hpk ha rfl ?_; clear ha a; intro a ha
   refine DF hpk ha rfl ?_; clear ha a; intro a ha
   iterate 2 (refine DP hpk ha rfl ?_; clear ha a; intro a ha)
   refine D1 rfl (st_store ha rfl hs Ty.t4 rfl (by simp) ?_); clear ha hs a; (try clear w); intro a w ha hs
   refine ⟨fun h => absurd h (by decide), ?_⟩
   refine DD ?_
   refine end0 ha rfl ?_
   refine ⟨if ok then upd g c v else g, !ok, rfl, ?_, Jw.close (p' := if ok then p2 else p') hs.sub ?_ (fun h => ?_)⟩
   · cases ok
     · exact .inl ⟨rfl, rfl⟩
     · exact .inr ⟨rfl, hg5, rfl⟩
   · cases ok
     · exact h1
     · exact gOk_upd h1 hv
   · have := hok (by simpa using h)
     simpa using this
theorem cells_mem (hx : i < A.pics.length) : MemS W 131 ⟨bc, 0, none⟩ 155 156 (Jw q r bc i A px) where
  mG := fun ad w => by kernel_rfl
  cG := Ty.c155
  mS := fun ad w => by kernel_rfl
  cS := Ty.c156
  ok := fun w L g bad h => by obtain ⟨_, ⟨h1, _⟩, _⟩ := Jw.open h; exact h1
  get := fun w L g bad c hc h => cells_get hx hc h
  set := fun w L g bad c v hc hv h => cells_set hx hc hv h
end
end Go.Proofs.YtneafbkhaooelaaGreat

