/- The walks of package job. -/
import Derived.Test.YtneafbkhaooelaaGreatTy
namespace Go.Proofs.YtneafbkhaooelaaGreat
open Go.RowKit
set_option linter.unusedVariables false
set_option linter.unusedSimpArgs false
set_option maxRecDepth 10000
set_option synthInstance.maxSize 4000
set_option synthInstance.maxHeartbeats 400000

/-- The cells of jobs. -/
def jc (l : List (Int × Int)) : List Value := l.flatMap fun j => [.int .i64 j.1, .int .i64 j.2]
theorem jc_len (l : List (Int × Int)) : (jc l).length = l.length * 2 := by
  induction l with
  | nil => rfl
  | cons x l ih => simp only [jc, List.flatMap_cons, List.length_append, List.length_cons, List.length_nil] at *; omega
theorem jc_app (l m : List (Int × Int)) : jc (l ++ m) = jc l ++ jc m := by simp [jc]
theorem jc_drop (l : List (Int × Int)) (i : Nat) : (jc l).drop (i * 2) = jc (l.drop i) := by
  induction i generalizing l with
  | zero => simp
  | succ i ih =>
    cases l with
    | nil => simp [jc]
    | cons x l =>
      have : (i + 1) * 2 = i * 2 + 2 := by omega
      rw [this]
      simp only [jc, List.flatMap_cons, List.drop_succ_cons] at *
      rw [← ih l]; simp
theorem jc_take (l : List (Int × Int)) (i : Nat) : (jc l).take (i * 2) = jc (l.take i) := by
  induction i generalizing l with
  | zero => simp [jc]
  | succ i ih =>
    cases l with
    | nil => simp [jc]
    | cons x l =>
      have : (i + 1) * 2 = i * 2 + 2 := by omega
      rw [this]
      simp only [jc, List.flatMap_cons, List.take_succ_cons] at *
      rw [← ih l]; simp
theorem jc_at (l : List (Int × Int)) (i : Nat) (h : i < l.length) : ((jc l).drop (i * 2)).take 2 = [.int .i64 l[i].1, .int .i64 l[i].2] := by
  rw [jc_drop, List.drop_eq_getElem_cons h]; simp only [jc, List.flatMap_cons, List.cons_append, List.nil_append, List.take_succ_cons, List.take_zero]

/-- The place of the first one; -1: there is none. -/
def fi (p : Int × Int → Bool) (l : List (Int × Int)) : Int := if l.findIdx p < l.length then (l.findIdx p : Int) else -1
theorem fi_any (p : Int × Int → Bool) (l : List (Int × Int)) : decide (0 ≤ fi p l) = l.any p := by
  unfold fi
  split <;> rename_i h
  · have := List.findIdx_lt_length.1 h
    simp only [List.any_eq_true.2 this]
    simp
  · rw [List.findIdx_lt_length] at h
    have : l.any p = false := by rw [← Bool.not_eq_true, List.any_eq_true]; exact h
    simp [this]
theorem fi_hit (p : Int × Int → Bool) (l : List (Int × Int)) (i : Nat) (hi : i < l.length) (h0 : ∀ j, (h : j < i) → p (l[j]'(by omega)) = false) (h1 : p l[i] = true) : fi p l = i := by
  have : l.findIdx p = i := (List.findIdx_eq hi).2 ⟨h1, fun j hj => h0 j hj⟩
  simp [fi, this, hi]
theorem fi_miss (p : Int × Int → Bool) (l : List (Int × Int)) (h0 : ∀ j, (h : j < l.length) → p l[j] = false) : fi p l = -1 := by
  have : ¬ l.findIdx p < l.length := by
    rw [List.findIdx_lt_length]; rintro ⟨x, hx, hp⟩
    obtain ⟨j, hj, rfl⟩ := List.mem_iff_getElem.1 hx
    rw [h0 j hj] at hp; cases hp
  simp [fi, this]

theorem upto_succ {q : Nat → Prop} {i : Nat} (h : ∀ j, j < i → q j) (h1 : q i) : ∀ j, j < i + 1 → q j := fun j hj => by
  rcases Nat.lt_or_ge j i with h' | h'
  · exact h j h'
  · obtain rfl : j = i := by omega
    exact h1

/-- A value that answers for jobs, out of what a list holds. -/
def Asks (W : World) (L : List SP) (f : Nat) (us : List Value) (p : Int × Int → Bool) : Prop :=
  ∀ w (x : Int × Int), St W w L → Calls Tryz.prog f ([Value.agg #[.int .i64 x.1, .int .i64 x.2]] ++ us).toArray w fun e w' => e = .returned (.bool (p x)) ∧ St W w' L

theorem len_nil {W w : World} {L : List SP} (hs : St W w L) :
    Calls Tryz.prog 15 #[.pointer none] w fun e w' => e = .returned (.int .i64 0) ∧ St W w' L := by
  refine calls_enter Tryz.func15 rfl Tryz.ntmps15 (Nat.le_of_ble_eq_true rfl) ?_
  intro a ha
  replace ha : Fr a 10 [(0, _)] := ha
  refine WS <| WR ?_
  refine S1 ha ?_; clear ha a; intro a ha
  refine LN <| TN <| WS <| WS <| WR ?_
  iterate 2 (refine S1 ha ?_; clear ha a; intro a ha)
  refine LN <| TN <| WTr ha <| WS <| WR ?_
  refine S1d ha ?_; clear ha a; intro a ha
  refine LN <| TN <| wp_ret <| TR ?_
  refine ret1 ha rfl ?_
  exact ⟨rfl, hs⟩

theorem len_some {W w : World} {L R : List SP} {a e : Nat} {s : Option Addr} {n c : Nat} (hs : St W w L) [Blk L a e [.slice s n c] R] :
    Calls Tryz.prog 15 #[.pointer (some ⟨a, 0, none⟩)] w fun e w' => e = .returned (.int .i64 n) ∧ St W w' L := by
  refine calls_enter Tryz.func15 rfl Tryz.ntmps15 (Nat.le_of_ble_eq_true rfl) ?_
  intro a ha
  replace ha : Fr a 10 [(0, _)] := ha
  refine WS <| WR ?_
  refine S1 ha ?_; clear ha a; intro a ha
  refine LN <| TN <| WS <| WS <| WR ?_
  iterate 2 (refine S1 ha ?_; clear ha a; intro a ha)
  refine LN <| TN <| WFa ha <| WK <| TN <| WS <| WR ?_
  iterate 3 (refine S1 ha ?_; clear ha a; intro a ha)
  refine SL ha (hs.rd1 rfl) ?_; clear ha a; intro a ha
  refine S1 ha ?_; clear ha a; intro a ha
  refine S1d ha ?_; clear ha a; intro a ha
  refine LN <| TN <| wp_ret ?_
  refine ret1 ha rfl ?_
  exact ⟨rfl, hs⟩

theorem put1 {W : World} {L R : List SP} {b e : Nat} {x1 x2 : Int} [Blk L b e [.int .i64 x1, .int .i64 x2] R] :
    Asks W L 65 [.pointer (some ⟨b, 0, none⟩)] (fun y => decide (y.1 = x1)) := by
  rintro w ⟨y1, y2⟩ hs
  refine calls_enter Tryz.func65 rfl Tryz.ntmps65 (Nat.le_of_ble_eq_true rfl) ?_
  intro a ha
  replace ha : Fr a 9 [(0, _), (1, _)] := ha
  refine WS <| WR ?_
  refine SK (st_box ha rfl hs rfl ?_); clear ha hs a; (try clear w); intro b2 a w ha hs ho
  clear ho
  refine S1 ha ?_; clear ha a; intro a ha
  refine LN <| TN <| WS <| WR ?_
  refine S1 ha ?_; clear ha a; intro a ha
  refine SL ha (hs.rd1 rfl) ?_; clear ha a; intro a ha
  refine S1 ha ?_; clear ha a; intro a ha
  refine SL ha (hs.rd1 rfl) ?_; clear ha a; intro a ha
  refine S1 ha ?_; clear ha a; intro a ha
  refine S1d ha ?_; clear ha a; intro a ha
  refine LN <| TN <| wp_ret ?_
  refine ret1 ha rfl ?_
  exact ⟨rfl, hs.tail⟩

theorem indexFunc {W w : World} {L R : List SP} {ad : Option Addr} {c f : Nat} {us : List Value} {l : List (Int × Int)} {p : Int × Int → Bool} (hs : St W w L) [pk : PickSl L ad l.length c 77 2 (jc l) R]
    (hc : callable Tryz.prog f = true) (hf : Asks W L f us p) (hl : l.length ≤ 140737488355328) :
    Calls Tryz.prog 82 #[.slice ad l.length c, .func (.func f) #[] us.toArray] w fun e w' => e = .returned (.int .i64 (fi p l)) ∧ St W w' L := by
  refine calls_enter Tryz.func82 rfl Tryz.ntmps82 (Nat.le_of_ble_eq_true rfl) ?_
  intro a ha
  replace ha : Fr a 19 [(0, _), (1, _)] := ha
  refine WS <| WR ?_
  refine S1 ha ?_; clear ha a; intro a ha
  refine LN <| TN <| WS <| WS <| WR ?_
  iterate 3 (refine S1 ha ?_; clear ha a; intro a ha)
  refine LN <| TN <| wp_block ?_
  refine wp_loop_ghost (fun μ a w => ∃ i : Nat, (μ = l.length - i ∧ i ≤ l.length ∧ (∀ j, j < i → ∀ h : j < l.length, p l[j] = false)) ∧ Fr a 19 [(0, .slice ad l.length c), (1, .func (.func f) #[] us.toArray), (4, .int .i64 0), (7, .int .i64 l.length), (8, .int .i64 i)] ∧ St W w L) (l.length) ?_ ?_
  · exact ⟨0, ⟨by simp, by simp, fun j h => by omega⟩, ha.keep [0, 1, 4, 7, 8], hs⟩
  ·
   clear ha hs
   rintro μ a w ⟨i, ⟨rfl, hi, hp⟩, ha, hs⟩
   refine WS <| WR ?_
   refine S1 ha ?_; clear ha; (try clear a); intro a ha
   refine LN <| TN <| WS ?_
   refine WI ha (fun hc0 => ?_) (fun hc0 => ?_)
   ·
    obtain ⟨b, off, rfl, hrd⟩ := hs.slRd ad (by omega)
    have hil : i < l.length := by omega
    have hr := hrd.part (i * 2) 2
    rw [jc_at l i hil] at hr
    refine WK <| TN <| WS <| wp_block <| WS <| WR ?_
    refine S1 ha ?_; clear ha; (try clear a); intro a ha
    refine S1 ha ?_; clear ha a; intro a ha
    refine LN <| TN <| WS <| WR ?_
    iterate 3 (refine S1 ha ?_; clear ha a; intro a ha)
    refine SK (st_set ha rfl (ex_indexAddr ha Tryz.underlying89 Ty.t77 (by omega)) rfl ?_); clear ha a; intro a ha
    refine SK (st_set ha rfl (ex_loadN ha Tryz.underlying77 rfl Ty.t77 (hr)) rfl ?_); clear ha a; intro a ha
    refine SK (st_callv ha rfl hc rfl (hf _ l[i] hs) ?_); clear ha hs
    rintro e w ⟨rfl, hs⟩
    refine ⟨_, rfl, ?_⟩
    intro a ha
    refine LN <| TN ?_
    refine WI ha (fun hc1 => ?_) (fun hc1 => ?_)
    ·
     refine WS <| WR ?_
     refine S1 ha ?_; clear ha; (try clear a); intro a ha
     refine S1d ha ?_; clear ha a; intro a ha
     refine LN <| TN <| wp_ret <| BR <| TR <| TR <| BR <| TR ?_
     refine ret1 ha rfl ?_
     exact ⟨by rw [fi_hit p l i hil (fun j hj => hp j hj (by omega)) hc1], hs⟩
    ·
     refine WK <| BN <| TN <| WR ?_
     refine SK (st_set ha rfl (ex_addI ha (by omega) (by omega)) rfl ?_); clear ha; (try clear a); intro a ha
     refine S1d ha ?_; clear ha a; intro a ha
     refine LN <| TN ?_
     exact ⟨l.length - (i + 1), by omega, i + 1, ⟨rfl, by omega, upto_succ hp (fun _ => hc1)⟩, ha.keep [0, 1, 4, 7, 8], hs⟩
   ·
    refine wp_exit <| TE <| TE <| blk_e <| TN <| WS <| WR ?_
    refine S1d ha ?_; clear ha; (try clear a); intro a ha
    refine LN <| TN <| wp_ret ?_
    refine ret1 ha rfl ?_
    exact ⟨by rw [fi_miss p l (fun j hj => hp j (by omega) hj)], hs⟩

theorem containsFunc {W w : World} {L R : List SP} {ad : Option Addr} {c f : Nat} {us : List Value} {l : List (Int × Int)} {p : Int × Int → Bool} (hs : St W w L) [pk : PickSl L ad l.length c 77 2 (jc l) R]
    (hc : callable Tryz.prog f = true) (hf : Asks W L f us p) (hl : l.length ≤ 140737488355328) :
    Calls Tryz.prog 64 #[.slice ad l.length c, .func (.func f) #[] us.toArray] w fun e w' => e = .returned (.bool (l.any p)) ∧ St W w' L := by
  refine calls_enter Tryz.func64 rfl Tryz.ntmps64 (Nat.le_of_ble_eq_true rfl) ?_
  intro a ha
  replace ha : Fr a 9 [(0, _), (1, _)] := ha
  refine WS <| WR ?_
  refine S1 ha ?_; clear ha a; intro a ha
  refine LN <| TN <| WS <| WR ?_
  iterate 2 (refine S1 ha ?_; clear ha a; intro a ha)
  refine SK (st_call ha rfl Ty.c82 rfl (indexFunc hs hc hf hl) ?_); clear ha hs
  rintro e w ⟨rfl, hs⟩
  refine ⟨_, rfl, ?_⟩
  intro a ha
  refine S1 ha ?_; clear ha a; intro a ha
  refine S1d ha ?_; clear ha a; intro a ha
  refine LN <| TN <| wp_ret ?_
  refine ret1 ha rfl ?_
  exact ⟨by rw [fi_any], hs⟩

/-! The jobs behind a pointer. -/
def Jobs (q : Nat) (l : List (Int × Int)) : SP := fun h => ∃ i : Option Addr × Nat, sepL [blk q 91 [.slice i.1 l.length i.2], Sl 77 2 i.1 l.length i.2 (jc l)] h
theorem Jobs.open {W w : World} {L : List SP} {q : Nat} {l : List (Int × Int)} (hs : St W w (Jobs q l :: L)) :
    ∃ ad c, St W w (blk q 91 [.slice ad l.length c] :: Sl 77 2 ad l.length c (jc l) :: L) := by
  obtain ⟨i, _, h⟩ := hs.exi (p := fun _ => True) (B := fun i : Option Addr × Nat => sepL [blk q 91 [.slice i.1 l.length i.2], Sl 77 2 i.1 l.length i.2 (jc l)]) (fun _ ⟨i, h⟩ => ⟨i, trivial, h⟩)
  exact ⟨i.1, i.2, h.open (fun _ x => x)⟩
theorem Jobs.shut {W w : World} {L R R2 : List SP} {q n c : Nat} {ad : Option Addr} {cs : List Value} {l : List (Int × Int)} (hs : St W w L) [k : Blk L q 91 [.slice ad n c] R] [k2 : PickSl R ad n c 77 2 cs R2]
    (hn : n = l.length) (hc : cs = jc l) : St W w (Jobs q l :: R2) := by
  subst hn; subst hc
  have h1 := (hs.perm k.perm).perm (List.Perm.cons _ k2.perm)
  exact St.shut (M := [_, _]) h1 fun _ x => ⟨(ad, c), x⟩

theorem new_spec {W w : World} {L : List SP} (hs : St W w L) :
    Calls Tryz.prog 30 #[] w fun e w' => ∃ q, e = .returned (.pointer (some ⟨q, 0, none⟩)) ∧ St W w' (Jobs q [] :: L) := by
  refine calls_enter Tryz.func30 rfl Tryz.ntmps30 (Nat.le_of_ble_eq_true rfl) ?_
  intro a ha
  replace ha : Fr a 3 [] := ha
  refine WS <| WR ?_
  refine S1 ha ?_; clear ha a; intro a ha
  refine LN <| TN <| WS <| WR ?_
  refine SK (st_set ha rfl (ex_build ha Ty.b91 Ty.t91 rfl) rfl ?_); clear ha a; intro a ha
  refine SK (st_box ha rfl hs rfl ?_); clear ha hs a; (try clear w); intro b2 a w ha hs ho
  clear ho
  refine S1d ha ?_; clear ha a; intro a ha
  refine LN <| TN <| wp_ret ?_
  refine ret1 ha rfl ?_
  exact ⟨_, rfl, by
    have h1 := (hs.sl0 77 2 none)
    exact (Jobs.shut (q := b2) (l := []) h1 rfl rfl).sub⟩

/-- May a job be put? -/
def mayPut (l : List (Int × Int)) (b : Int) : Bool := decide (l.length < 16) && !l.any (fun y => decide (y.1 = b))
theorem put_spec {W w : World} {L : List SP} {q : Nat} {l : List (Int × Int)} {b e : Int} (hs : St W w (Jobs q l :: L)) (hl : l.length ≤ 16) :
    Calls Tryz.prog 34 #[.pointer (some ⟨q, 0, none⟩), .agg #[.int .i64 b, .int .i64 e]] w fun r w' =>
      r = .returned (.bool (mayPut l b)) ∧ St W w' (Jobs q (if mayPut l b then l ++ [(b, e)] else l) :: L) := by
  obtain ⟨ad, c, hs⟩ := Jobs.open hs
  refine calls_enter Tryz.func34 rfl Tryz.ntmps34 (Nat.le_of_ble_eq_true rfl) ?_
  intro a ha
  replace ha : Fr a 33 [(0, _), (1, _)] := ha
  refine WS <| WR ?_
  refine SK (st_box ha rfl hs rfl ?_); clear ha hs a; (try clear w); intro b3 a w ha hs ho
  clear ho
  refine S1 ha ?_; clear ha a; intro a ha
  refine LN <| TN <| WS <| WS <| WR ?_
  iterate 3 (refine S1 ha ?_; clear ha a; intro a ha)
  iterate 3 (refine S1g (s := 7) ha ?_; clear ha a; intro a ha)
  refine SLg (s := 7) ha (hs.rd1 rfl) ?_; clear ha a; intro a ha
  iterate 2 (refine S1g (s := 7) ha ?_; clear ha a; intro a ha)
  refine PF ha ?_; clear ha a; intro a ha
  refine S1 ha ?_; clear ha a; intro a ha
  refine ha.by (s := 15) (fun hg10 ha => ?_) (fun hg10 ha => ?_)
  ·
   have hm : mayPut l b = false := by simp only [mayPut, Bool.and_eq_false_iff, decide_eq_false_iff_not]; left; omega
   refine SO (s := 15) ha ?_; clear ha; (try clear a); intro a ha
   iterate 5 (refine SO (s := 15) ha ?_; clear ha a; intro a ha)
   refine PT ha ?_; clear ha a; intro a ha
   refine LN <| TN <| WTr ha <| WS <| WR ?_
   refine S1d ha ?_; clear ha a; intro a ha
   refine LN <| TN <| wp_ret <| TR ?_
   refine ret1 ha rfl ?_
   exact ⟨by rw [hm], by rw [hm, if_neg (by decide)]; exact (Jobs.shut (q := q) (ad := ad) (l := l) hs rfl rfl).sub⟩
  ·
   refine S1g (s := 15) ha ?_; clear ha; (try clear a); intro a ha
   iterate 2 (refine S1g (s := 15) ha ?_; clear ha a; intro a ha)
   refine SLg (s := 15) ha (hs.rd1 rfl) ?_; clear ha a; intro a ha
   refine SK (st_set ha (wgT ha rfl (s := 15)) (ex_makeFunc ha) rfl ?_); clear ha a; intro a ha
   refine SK (st_call ha (wgT ha rfl (s := 15)) Ty.c64 rfl (containsFunc hs Ty.c65 put1 (by omega)) ?_); clear ha hs
   rintro e w ⟨rfl, hs⟩
   refine ⟨_, rfl, ?_⟩
   intro a ha
   refine PF ha ?_; clear ha a; intro a ha
   refine LN <| TN ?_
   refine WI ha (fun hc0 => ?_) (fun hc0 => ?_)
   ·
    have hm : mayPut l b = false := by simp only [mayPut, hc0, Bool.not_true, Bool.and_false]
    refine WS <| WR ?_
    refine S1d ha ?_; clear ha; (try clear a); intro a ha
    refine LN <| TN <| wp_ret <| TR ?_
    refine ret1 ha rfl ?_
    exact ⟨by rw [hm], by rw [hm, if_neg (by decide)]; exact (Jobs.shut (q := q) (ad := ad) (l := l) hs rfl rfl).sub⟩
   ·
    have hm : mayPut l b = true := by simp only [mayPut, hc0, Bool.not_false, Bool.and_true, decide_eq_true_eq]; omega
    refine WK <| TN <| WS ?_
    refine DW (m := 11) (Old w.drew) [5, 6] [0, 1, 2, 3, 4, 5, 6, 7, 8, 9, 10] Ty.mixed (pk_then pk_body) (fun hpk => ?_)
    replace hs := hs.drew
    have hC := Old.refl w.drew
    generalize w.drew = w at hs hC hpk ⊢
    refine DP hpk ha rfl ?_; clear ha; (try clear a); intro a ha
    iterate 3 (refine DP hpk ha rfl ?_; clear ha a; intro a ha)
    refine DL hpk ha rfl (fun w hc => hc.cell (hs.rd1 rfl)) hC ?_; clear ha a; intro a ha
    refine D1 rfl (st_set ha rfl (ex_loadN ha Tryz.underlying77 rfl Ty.t77 (hs.rdN 2)) rfl ?_); clear ha a; intro a ha
    refine ⟨fun _ => hC, ?_⟩
    refine D1 rfl (st_buildSlice ha rfl hs Tryz.underlying89 Ty.t77 rfl rfl rfl rfl (by decide) (by decide) ?_); clear ha hs a; (try clear w); intro b29 a w ha hs ho
    (try replace hC := hC.trans ho); clear ho
    refine ⟨fun _ => hC, ?_⟩
    refine D1 rfl (st_append ha rfl hs Tryz.underlying89 Ty.t77 rfl rfl hs.rdAll rfl (by simp [Value.oneCell']) (by decide) (by decide) (by omega) ?_); clear ha hs a; (try clear w); intro ad30 c30 a w ha hs
    refine ⟨fun h => absurd h (by decide), ?_⟩
    iterate 2 (refine DP hpk ha rfl ?_; clear ha a; intro a ha)
    refine D1 rfl (st_store ha rfl hs Ty.t89 rfl (by simp) ?_); clear ha hs a; (try clear w); intro a w ha hs
    refine ⟨fun h => absurd h (by decide), ?_⟩
    refine DD <| TN <| WS <| WR ?_
    refine S1d ha ?_; clear ha a; intro a ha
    refine LN <| TN <| wp_ret ?_
    refine ret1 ha rfl ?_
    exact ⟨by rw [hm], by rw [hm, if_pos rfl]; exact (Jobs.shut (q := q) (l := l ++ [(b, e)]) hs (by simp) (by simp [jc_app, jc])).sub⟩

theorem take_none {W w : World} {L : List SP} {q : Nat} (hs : St W w (Jobs q [] :: L)) :
    Calls Tryz.prog 66 #[.pointer (some ⟨q, 0, none⟩)] w fun r w' =>
      r = .returned (.tuple #[.agg #[.int .i64 0, .int .i64 0], .bool false]) ∧ St W w' (Jobs q [] :: L) := by
  obtain ⟨ad, c, hs⟩ := Jobs.open hs
  refine calls_enter Tryz.func66 rfl Tryz.ntmps66 (Nat.le_of_ble_eq_true rfl) ?_
  intro a ha
  replace ha : Fr a 24 [(0, _)] := ha
  refine WS <| WR ?_
  refine SK (st_alloc ha rfl hs Ty.t77 rfl ?_); clear ha hs a; (try clear w); intro b2 a w ha hs ho
  clear ho
  refine S1 ha ?_; clear ha a; intro a ha
  refine LN <| TN <| WS <| WS <| WR ?_
  refine S1 ha ?_; clear ha a; intro a ha
  refine SK (st_call ha rfl Ty.c15 rfl (len_some (a := q) hs) ?_); clear ha hs
  rintro e w ⟨rfl, hs⟩
  refine ⟨_, rfl, ?_⟩
  intro a ha
  refine S1 ha ?_; clear ha a; intro a ha
  refine LN <| TN ?_
  refine WI ha (fun hc0 => ?_) (fun hc0 => ?_)
  ·
   skip
   refine WS <| WR ?_
   refine SK (st_set ha rfl (ex_build ha Ty.b77 Ty.t77 rfl) rfl ?_); clear ha; (try clear a); intro a ha
   refine SK (st_storeAll ha rfl hs Ty.t77 (by simp [Value.oneCell']) (by rfl) ?_); clear ha hs a; (try clear w); intro a w ha hs
   refine S1d ha ?_; clear ha a; intro a ha
   refine LN <| TN <| wp_ret <| TR ?_
   refine retC2 ha rfl (run_loadN Tryz.underlying77 rfl Ty.t77 (hs.rdAll)) ?_
   exact ⟨rfl, (Jobs.shut (q := q) (ad := ad) (l := []) hs rfl rfl).sub⟩
  ·
   exact absurd rfl hc0

theorem take_some {W w : World} {L : List SP} {q : Nat} {x : Int × Int} {l : List (Int × Int)} (hs : St W w (Jobs q (x :: l) :: L)) :
    Calls Tryz.prog 66 #[.pointer (some ⟨q, 0, none⟩)] w fun r w' =>
      r = .returned (.tuple #[.agg #[.int .i64 x.1, .int .i64 x.2], .bool true]) ∧ St W w' (Jobs q l :: L) := by
  obtain ⟨ad, c, hs⟩ := Jobs.open hs
  have hcl := (hs.sl ad).2
  refine calls_enter Tryz.func66 rfl Tryz.ntmps66 (Nat.le_of_ble_eq_true rfl) ?_
  intro a ha
  replace ha : Fr a 24 [(0, _)] := ha
  refine WS <| WR ?_
  refine SK (st_alloc ha rfl hs Ty.t77 rfl ?_); clear ha hs a; (try clear w); intro b2 a w ha hs ho
  clear ho
  refine S1 ha ?_; clear ha a; intro a ha
  refine LN <| TN <| WS <| WS <| WR ?_
  refine S1 ha ?_; clear ha a; intro a ha
  refine SK (st_call ha rfl Ty.c15 rfl (len_some (a := q) hs) ?_); clear ha hs
  rintro e w ⟨rfl, hs⟩
  refine ⟨_, rfl, ?_⟩
  intro a ha
  refine S1 ha ?_; clear ha a; intro a ha
  refine LN <| TN ?_
  refine WI ha (fun hc0 => ?_) (fun hc0 => ?_)
  ·
   simp at hc0; omega
  ·
   refine WK <| TN <| WS ?_
   obtain ⟨b, off, rfl, hrd⟩ := hs.slRd ad (by simp)
   have hr := hrd.part 0 2
   rw [show 0 = 0 * 2 from rfl, jc_at (x :: l) 0 (by simp)] at hr
   refine WR ?_
   refine S1 ha ?_; clear ha; (try clear a); intro a ha
   iterate 2 (refine S1 ha ?_; clear ha a; intro a ha)
   refine SL ha (hs.rd1 rfl) ?_; clear ha a; intro a ha
   refine SK (st_set ha rfl (ex_indexAddr ha Tryz.underlying89 Ty.t77 (by simp)) rfl ?_); clear ha a; intro a ha
   refine SK (st_set ha rfl (ex_loadN ha Tryz.underlying77 rfl Ty.t77 (hr)) rfl ?_); clear ha a; intro a ha
   refine SK (st_alloc ha rfl hs Ty.t77 rfl ?_); clear ha hs a; (try clear w); intro b4 a w ha hs ho
   clear ho
   refine SK (st_storeAll ha rfl hs Ty.t77 (by simp [Value.oneCell']) (by rfl) ?_); clear ha hs a; (try clear w); intro a w ha hs
   refine LN <| TN <| WS <| WR ?_
   iterate 4 (refine S1 ha ?_; clear ha a; intro a ha)
   refine SL ha (hs.rd1 rfl) ?_; clear ha a; intro a ha
   refine SK (st_set ha rfl (ex_sliceL ha Tryz.underlying89 Ty.t77 (by simp)) rfl ?_); clear ha a; intro a ha
   replace hs := hs.cutSl (some ⟨b, off, none⟩) 1 (x :: l).length (by simp) (Nat.le_refl _)
   iterate 2 (refine S1 ha ?_; clear ha a; intro a ha)
   refine SK (st_store ha rfl hs Ty.t89 rfl (by simp) ?_); clear ha hs a; (try clear w); intro a w ha hs
   refine LN <| TN <| WS <| WR ?_
   refine SK (st_set ha rfl (ex_loadN ha Tryz.underlying77 rfl Ty.t77 (hs.rdN 2)) rfl ?_); clear ha a; intro a ha
   refine SK (st_storeAll ha rfl hs Ty.t77 (by simp [Value.oneCell']) (by rfl) ?_); clear ha hs a; (try clear w); intro a w ha hs
   refine S1d ha ?_; clear ha a; intro a ha
   refine LN <| TN <| wp_ret ?_
   refine retC2 ha rfl (run_loadN Tryz.underlying77 rfl Ty.t77 (hs.rdAll)) ?_
   exact ⟨rfl, (Jobs.shut (q := q) (l := l) hs (by simp) (by simp [jc]; rw [List.take_of_length_le]; exact Nat.le_of_eq (jc_len l))).sub⟩

/-! Cancel. -/
def kept (p : Int × Int → Bool) (l : List (Int × Int)) : List (Int × Int) := l.filter fun x => !p x
theorem kept_snoc (p : Int × Int → Bool) (l : List (Int × Int)) (j : Nat) (h : j < l.length) : kept p (l.take (j + 1)) = kept p (l.take j) ++ (if p l[j] then [] else [l[j]]) := by
  rw [List.take_succ_eq_append_getElem h, kept, List.filter_append]
  cases hp : p l[j] <;> simp [kept, hp]
theorem kept_le (p : Int × Int → Bool) (l : List (Int × Int)) (j : Nat) : (kept p (l.take j)).length ≤ j := by
  have := List.length_filter_le (fun x => !p x) (l.take j)
  have h2 : (l.take j).length ≤ j := List.length_take_le _ _
  unfold kept; omega
theorem fi_neg (p : Int × Int → Bool) (l : List (Int × Int)) (h : fi p l = -1) : kept p l = l := by
  unfold fi at h
  split at h
  · omega
  · rename_i h1
    rw [List.findIdx_lt_length] at h1
    exact List.filter_eq_self.2 fun x hx => by
      cases hp : p x with
      | false => rfl
      | true => exact absurd ⟨x, hx, hp⟩ h1
theorem fi_pos (p : Int × Int → Bool) (l : List (Int × Int)) (h : ¬ fi p l = -1) : ∃ k : Nat, fi p l = (k : Int) ∧ k < l.length ∧ kept p (l.take (k + 1)) = l.take k := by
  unfold fi at h ⊢
  split at h
  · rename_i h1
    refine ⟨l.findIdx p, by rw [if_pos h1], h1, ?_⟩
    rw [kept_snoc p l _ h1, List.findIdx_getElem (w := h1), if_pos rfl, List.append_nil]
    refine List.filter_eq_self.2 fun x hx => ?_
    obtain ⟨j, hj, rfl⟩ := List.mem_iff_getElem.1 hx
    simp only [List.length_take] at hj
    have := List.not_of_lt_findIdx (p := p) (xs := l) (i := j) (by omega)
    simp at this ⊢; exact this
  · exact absurd rfl h

theorem jc_mid {pre post : List Value} (l : List (Int × Int)) (i : Nat) (h : i < l.length) : ((pre ++ jc l ++ post).drop (pre.length + i * 2)).take 2 = [.int .i64 l[i].1, .int .i64 l[i].2] := by
  rw [List.append_assoc, ← List.drop_drop, List.drop_left, List.drop_append_of_le_length (by rw [jc_len]; omega), List.take_append_of_le_length (by simp [jc_len]; omega)]
  exact jc_at l i h
theorem jc_spl {pre post : List Value} (l : List (Int × Int)) (i : Nat) (x : Int × Int) (h : i < l.length) :
    splice (pre ++ jc l ++ post) (pre.length + i * 2) [.int .i64 x.1, .int .i64 x.2] = pre ++ jc (l.set i x) ++ post := by
  have e0 : l.set i x = l.take i ++ x :: l.drop (i + 1) := by rw [List.set_eq_take_append_cons_drop, if_pos h]
  have e1 : (pre ++ jc l ++ post).take (pre.length + i * 2) = pre ++ jc (l.take i) := by
    rw [List.append_assoc, List.take_append, List.take_of_length_le (by omega), show pre.length + i * 2 - pre.length = i * 2 from by omega, List.take_append_of_le_length (by rw [jc_len]; omega), jc_take]
  have e2 : (pre ++ jc l ++ post).drop (pre.length + i * 2 + 2) = jc (l.drop (i + 1)) ++ post := by
    rw [List.append_assoc, Nat.add_assoc, ← List.drop_drop, List.drop_left, show i * 2 + 2 = (i + 1) * 2 from by omega, List.drop_append_of_le_length (by rw [jc_len]; omega), jc_drop]
  rw [splice, e1]
  show _ ++ _ ++ (pre ++ jc l ++ post).drop (pre.length + i * 2 + 2) = _
  rw [e2, e0, jc_app]
  simp [jc]

/-- What is known in the loop of a delete: i elements are kept of the first j. -/
structure Dl (p : Int × Int → Bool) (l l' : List (Int × Int)) (i j : Nat) : Prop where
  len : l'.length = l.length
  le : j ≤ l.length
  lt : i < j
  cnt : i = (kept p (l.take j)).length
  fst : l'.take i = kept p (l.take j)
  snd : l'.drop j = l.drop j
theorem Dl.get {p l l' i j} (d : Dl p l l' i j) (h : j < l.length) : l'[j]'(by have := d.len; omega) = l[j] := by
  have h1 := d.snd
  rw [List.drop_eq_getElem_cons (by have := d.len; omega), List.drop_eq_getElem_cons h] at h1
  exact (List.cons.inj h1).1
theorem Dl.keep {p l l' i j} (d : Dl p l l' i j) (h : j < l.length) (hp : p l[j] = false) : Dl p l (l'.set i l[j]) (i + 1) (j + 1) := by
  have hi : i < l'.length := by have := d.len; have := d.lt; omega
  have hk := kept_snoc p l j h
  rw [hp] at hk
  refine ⟨by simp [d.len], by omega, by have := d.lt; omega, ?_, ?_, ?_⟩
  · rw [hk]; simp [← d.cnt]
  · rw [hk, ← d.fst, List.set_eq_take_append_cons_drop, if_pos hi, List.take_append, List.take_of_length_le (by simp; omega)]
    have : (l'.take i).length = i := by simp; omega
    simp [this]
  · have h1 := d.snd
    rw [List.drop_set_of_lt (by have := d.lt; omega)]
    have := congrArg (List.drop 1) h1
    simpa [List.drop_drop] using this
theorem Dl.skip {p l l' i j} (d : Dl p l l' i j) (h : j < l.length) (hp : p l[j] = true) : Dl p l l' i (j + 1) := by
  have hk := kept_snoc p l j h
  rw [hp] at hk
  simp only [if_true, List.append_nil] at hk
  refine ⟨d.len, by omega, by have := d.lt; omega, by rw [hk]; exact d.cnt, by rw [hk]; exact d.fst, ?_⟩
  have := congrArg (List.drop 1) d.snd
  simpa [List.drop_drop] using this

theorem put_nil {W w : World} {L : List SP} {b e : Int} (hs : St W w L) :
    Calls Tryz.prog 34 #[.pointer none, .agg #[.int .i64 b, .int .i64 e]] w fun r w' => r = .returned (.bool false) ∧ St W w' L := by
  refine calls_enter Tryz.func34 rfl Tryz.ntmps34 (Nat.le_of_ble_eq_true rfl) ?_
  intro a ha
  replace ha : Fr a 33 [(0, _), (1, _)] := ha
  refine WS <| WR ?_
  refine SK (st_box ha rfl hs rfl ?_); clear ha hs a; (try clear w); intro b3 a w ha hs ho
  clear ho
  refine S1 ha ?_; clear ha a; intro a ha
  refine LN <| TN <| WS <| WS <| WR ?_
  iterate 3 (refine S1 ha ?_; clear ha a; intro a ha)
  iterate 6 (refine SO (s := 7) ha ?_; clear ha a; intro a ha)
  refine PT ha ?_; clear ha a; intro a ha
  refine S1 ha ?_; clear ha a; intro a ha
  iterate 6 (refine SO (s := 15) ha ?_; clear ha a; intro a ha)
  refine PT ha ?_; clear ha a; intro a ha
  refine LN <| TN <| WTr ha <| WS <| WR ?_
  refine S1d ha ?_; clear ha a; intro a ha
  refine LN <| TN <| wp_ret <| TR ?_
  refine ret1 ha rfl ?_
  exact ⟨rfl, hs.sub⟩
theorem take_nil {W w : World} {L : List SP} (hs : St W w L) :
    Calls Tryz.prog 66 #[.pointer none] w fun r w' => r = .returned (.tuple #[.agg #[.int .i64 0, .int .i64 0], .bool false]) ∧ St W w' L := by
  refine calls_enter Tryz.func66 rfl Tryz.ntmps66 (Nat.le_of_ble_eq_true rfl) ?_
  intro a ha
  replace ha : Fr a 24 [(0, _)] := ha
  refine WS <| WR ?_
  refine SK (st_alloc ha rfl hs Ty.t77 rfl ?_); clear ha hs a; (try clear w); intro b2 a w ha hs ho
  clear ho
  refine S1 ha ?_; clear ha a; intro a ha
  refine LN <| TN <| WS <| WS <| WR ?_
  refine S1 ha ?_; clear ha a; intro a ha
  refine SK (st_call ha rfl Ty.c15 rfl (len_nil hs) ?_); clear ha hs
  rintro e w ⟨rfl, hs⟩
  refine ⟨_, rfl, ?_⟩
  intro a ha
  refine S1 ha ?_; clear ha a; intro a ha
  refine LN <| TN ?_
  refine WI ha (fun hc0 => ?_) (fun hc0 => ?_)
  ·
   refine WS <| WR ?_
   refine SK (st_set ha rfl (ex_build ha Ty.b77 Ty.t77 rfl) rfl ?_); clear ha; (try clear a); intro a ha
   refine SK (st_storeAll ha rfl hs Ty.t77 (by simp [Value.oneCell']) (by rfl) ?_); clear ha hs a; (try clear w); intro a w ha hs
   refine S1d ha ?_; clear ha a; intro a ha
   refine LN <| TN <| wp_ret <| TR ?_
   refine retC2 ha rfl (run_loadN Tryz.underlying77 rfl Ty.t77 (hs.rdAll)) ?_
   exact ⟨rfl, hs.sub⟩
  ·
   exact absurd rfl hc0
theorem len_jobs {W w : World} {L : List SP} {q : Nat} {l : List (Int × Int)} (hs : St W w (Jobs q l :: L)) :
    Calls Tryz.prog 15 #[.pointer (some ⟨q, 0, none⟩)] w fun e w' => e = .returned (.int .i64 l.length) ∧ St W w' (Jobs q l :: L) := by
  obtain ⟨ad, c, hs⟩ := Jobs.open hs
  exact (len_some (a := q) hs).mono fun e w' ⟨h1, h2⟩ => ⟨h1, (Jobs.shut (q := q) (ad := ad) (l := l) h2 rfl rfl).sub⟩
theorem take_any {W w : World} {L : List SP} {q : Nat} {l : List (Int × Int)} (hs : St W w (Jobs q l :: L)) :
    Calls Tryz.prog 66 #[.pointer (some ⟨q, 0, none⟩)] w fun r w' =>
      r = .returned (.tuple #[.agg #[.int .i64 (l.headD (0, 0)).1, .int .i64 (l.headD (0, 0)).2], .bool (!l.isEmpty)]) ∧ St W w' (Jobs q l.tail :: L) := by
  cases l with
  | nil => exact take_none hs
  | cons x l => exact take_some hs
/-- The jobs behind q are found in a list. -/
class PickJ (L : List SP) (q : Nat) (l : outParam (List (Int × Int))) (R : outParam (List SP)) : Prop where perm : L.Perm (Jobs q l :: R)
instance PickJ.head {L q l} : PickJ (Jobs q l :: L) q l L := ⟨List.Perm.refl _⟩
instance (priority := low) PickJ.tail {A L q l R} [h : PickJ L q l R] : PickJ (A :: L) q l (A :: R) := ⟨(List.Perm.cons A h.perm).trans (List.Perm.swap _ _ _)⟩
theorem St.jobs {W w : World} {L R : List SP} {l : List (Int × Int)} (hs : St W w L) (q : Nat) [k : PickJ L q l R] : St W w (Jobs q l :: R) := hs.perm k.perm
theorem dne {x : Int} : decide (x ≠ x) = false := by simp
end Go.Proofs.YtneafbkhaooelaaGreat

