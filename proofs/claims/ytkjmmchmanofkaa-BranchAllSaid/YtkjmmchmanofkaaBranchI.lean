/- BranchAll: the plain side of the law's three loops over its list. -/
import Derived.Test.YtkjmmchmanofkaaBranchH
namespace Go.Proofs.Ytkjmmchmanofkaa
open Go.RowKit
set_option linter.unusedVariables false
set_option linter.unusedSimpArgs false
set_option maxRecDepth 10000
set_option synthInstance.maxSize 4000
set_option synthInstance.maxHeartbeats 400000

/-- There is room, something is pressed, and none of the first k is the same. -/
def NewK (M : Nat) (ys : List Tw) (f : Int) (P : List (List UInt8)) (k : Nat) (wb : Bool) : Prop := wb = true ↔ (ys.length < M ∧ 0 < P.length ∧ ∀ j y, j < k → ys[j]? = some y → ¬ y.1.is f P)
section
variable {M k : Nat} {ys : List Tw} {f : Int} {P : List (List UInt8)} {wb : Bool} {y : Tw}
theorem NewK.step (h : NewK M ys f P k wb) (hy : ys[k]? = some y) {wb' : Bool} (hw : wb' = true ↔ (wb = true ∧ ¬ y.1.is f P)) : NewK M ys f P (k + 1) wb' := by
  unfold NewK at *
  rw [hw, h]
  constructor
  · rintro ⟨⟨h1, h2, h3⟩, h4⟩
    refine ⟨h1, h2, fun j z hj hz => ?_⟩
    by_cases hk : j = k
    · subst hk; rw [hy] at hz; cases hz; exact h4
    · exact h3 j z (by omega) hz
  · rintro ⟨h1, h2, h3⟩
    exact ⟨⟨h1, h2, fun j z hj hz => h3 j z (by omega) hz⟩, h3 k y (by omega) hy⟩
theorem NewK.all (h : NewK M ys f P ys.length wb) : wb = true ↔ ((ys.map (·.1)).length < M ∧ 0 < P.length ∧ ∀ y ∈ ys.map (·.1), ¬ y.is f P) := by
  unfold NewK at h
  rw [h, List.length_map]
  refine ⟨fun ⟨h1, h2, h3⟩ => ⟨h1, h2, fun y hy => ?_⟩, fun ⟨h1, h2, h3⟩ => ⟨h1, h2, fun j y _ hy => h3 y.1 (List.mem_map.2 ⟨y, List.mem_of_getElem? hy, rfl⟩)⟩⟩
  obtain ⟨z, hz, rfl⟩ := List.mem_map.1 hy
  obtain ⟨j, hj⟩ := List.mem_iff_getElem?.1 hz
  exact h3 j z (List.getElem?_eq_some_iff.1 hj).1 hj
end
section
variable {W w : World} {L L' R : List SP} {tq sq q r n c k m i : Nat} {ad : Option Addr} {A : Sn} {T : Tr} {x y : Br} {ys : List Tw} {p : List (List UInt8)} {t : Nat → Nat} {l l' : List Br}
theorem add_case {frm : Int} {ad2 : Option Addr} {c2 : Nat} {zs : List BBx} {wb : Bool} (hs : St W w (Tree tq q T :: Store q r A :: L)) (hr : ∀ w', St W w' L → RdX w' ad2 zs) (hz : zs.map (·.2.2) = p) (hc : p.length ≤ c2) (hok : OkP p)
    (hx : A.pics[0]? = some ⟨1, 1, fun _ => 0, t⟩) (hb : A.n + 1 < 1099511627776) (hl : T.last + 1 < 1099511627776) (hwb : wb = true ↔ (T.l.length < T.most ∧ 0 < p.length ∧ ∀ y ∈ T.l, ¬ y.is frm p)) :
    Calls Try.prog 14 #[.pointer (some ⟨tq, 0, none⟩), .int .i64 frm, .int .i64 ((1 : Nat) : Int), .slice ad2 p.length c2] w fun e w' => ∃ (z : Nat) (T' : Tr) (A' : Sn), e = .returned (.tuple #[.int .i64 z, .bool wb]) ∧ decide ((0 : Int) < (z : Int)) = wb ∧
      ((wb = false ∧ T' = T ∧ A' = A) ∨ (wb = true ∧ z = T.last + 1 ∧ T' = T.add frm p (A.last + 1) ∧ A' = A.add (fun _ => 0) t)) ∧ St W w' (Tree tq q T' :: Store q r A' :: L) := by
  rcases Nat.lt_or_ge T.l.length T.most with hm | hm
  · rcases Nat.eq_zero_or_pos p.length with h0 | h0
    · have hf : wb = false := by
        rw [Bool.eq_false_iff]; intro e; have := (hwb.1 e).2.1; omega
      subst hf
      exact (add_full hs (.inr h0)).mono fun e w' ⟨h1, hs⟩ => ⟨0, T, A, h1, rfl, .inl ⟨rfl, rfl, rfl⟩, hs⟩
    · by_cases hex : ∃ y ∈ T.l, y.is frm p
      · have hf : wb = false := by
          rw [Bool.eq_false_iff]; intro e
          obtain ⟨y, hy, his⟩ := hex
          exact (hwb.1 e).2.2 y hy his
        subst hf
        obtain ⟨y, hy, his⟩ := hex
        obtain ⟨j, hj⟩ := List.mem_iff_getElem?.1 hy
        have hbb : ∀ w', St W w' (Store q r A :: L) → RdBB w' ad2 p.length p := fun w' h => by
          have := (hr w' h.tail).bb
          rw [hz] at this
          rwa [show zs.length = p.length from by rw [← hz, List.length_map]] at this
        exact (add_dup hs hbb hc hok hj his).mono fun e w' ⟨h1, hs⟩ => ⟨0, T, A, h1, rfl, .inl ⟨rfl, rfl, rfl⟩, hs⟩
      · have ht : wb = true := hwb.2 ⟨hm, h0, fun y hy h => hex ⟨y, hy, h⟩⟩
        subst ht
        exact (add_ok (px := ⟨1, 1, fun _ => 0, t⟩) (i := 0) hs hr hz hc hok hx hb hl (fun y hy h => hex ⟨y, hy, h⟩) hm h0).mono fun e w' ⟨h1, hs⟩ => ⟨T.last + 1, _, _, h1, by simp, .inr ⟨rfl, rfl, rfl, rfl⟩, hs⟩
  · have hf : wb = false := by
      rw [Bool.eq_false_iff]; intro e; have := (hwb.1 e).1; omega
    subst hf
    exact (add_full hs (.inl hm)).mono fun e w' ⟨h1, hs⟩ => ⟨0, T, A, h1, rfl, .inl ⟨rfl, rfl, rfl⟩, hs⟩
theorem St.allFilter {α : Type} {f : α → SP} {l : List α} (g : α → Bool) (hs : St W w (All f l :: L)) : St W w (All f (l.filter g) :: L) := by
  have h1 := hs.allPerm (List.filter_append_perm g l).symm
  have h2 := h1.open (M := (l.filter g ++ l.filter (fun x => !g x)).map f) (fun _ x => x)
  rw [List.map_append] at h2
  have h3 := h2.perm (L' := (l.filter (fun x => !g x)).map f ++ ((l.filter g).map f ++ L)) (by
    rw [← List.append_assoc]
    exact List.perm_append_comm.append_right L)
  exact St.shut (M := (l.filter g).map f) h3.drop (fun _ x => x)
end

/-- The best one among the first k: its index, or -1. -/
def BestK (ys : List Tw) (f : Int) (P : List (List UInt8)) (k : Nat) (b : Int) : Prop :=
  (b = -1 ∧ ((ys.map (·.1)).take k).foldl (bestStep f P) br0 = br0) ∨ ∃ j y, j < k ∧ b = ((j : Nat) : Int) ∧ ys[j]? = some y ∧ 0 < y.1.done ∧ ((ys.map (·.1)).take k).foldl (bestStep f P) br0 = y.1
section
variable {k : Nat} {ys : List Tw} {f b : Int} {P : List (List UInt8)} {y : Tw}
theorem BestK.zero (ys : List Tw) (f : Int) (P : List (List UInt8)) : BestK ys f P 0 (-1) := .inl ⟨rfl, rfl⟩
theorem map_at (hy : ys[k]? = some y) : (ys.map (·.1))[k]? = some y.1 := by rw [List.getElem?_map, hy]; rfl
theorem BestK.hit (h : BestK ys f P k b) (hy : ys[k]? = some y) (h1 : y.1.frm = f) (h2 : 0 < y.1.done) (h3 : y.1.done ≤ P.length) (h4 : y.1.press.take y.1.done = P.take y.1.done) (h5 : b < 0 ∨ ∀ (j : Nat) (z : Tw), b = (j : Int) → ys[j]? = some z → z.1.done < y.1.done) (h6 : y.1.done ≤ y.1.press.length) :
    BestK ys f P (k + 1) (k : Int) := by
  refine .inr ⟨k, y, by omega, rfl, hy, h2, ?_⟩
  rw [best_succ (map_at hy)]
  refine if_pos ⟨h1, ?_, h3, ?_⟩
  · rcases h with ⟨_, h⟩ | ⟨j, z, _, hb, hz, hd, h⟩
    · rw [h]; exact h2
    · rw [h]
      exact h5.resolve_left (by omega) j z hb hz
  · rw [alikeP_iff, List.length_take, Nat.min_eq_left h6, Nat.min_eq_left h3, List.take_take, Nat.min_self, h4]
theorem BestK.miss (h : BestK ys f P k b) (hy : ys[k]? = some y) (h6 : y.1.done ≤ y.1.press.length)
    (hn : ¬ (y.1.frm = f ∧ 0 < y.1.done ∧ y.1.done ≤ P.length ∧ y.1.press.take y.1.done = P.take y.1.done ∧ (b < 0 ∨ ∀ (j : Nat) (z : Tw), b = (j : Int) → ys[j]? = some z → z.1.done < y.1.done))) : BestK ys f P (k + 1) b := by
  have hs : ((ys.map (·.1)).take (k + 1)).foldl (bestStep f P) br0 = ((ys.map (·.1)).take k).foldl (bestStep f P) br0 := by
    rw [best_succ (map_at hy)]
    refine if_neg fun ⟨g1, g2, g3, g4⟩ => hn ?_
    rw [alikeP_iff, List.length_take, Nat.min_eq_left h6, Nat.min_eq_left g3, List.take_take, Nat.min_self] at g4
    rcases h with ⟨hb, h⟩ | ⟨j, z, _, hb, hz, hd, h⟩
    · exact ⟨g1, by rw [h] at g2; exact g2, g3, g4, .inl (by omega)⟩
    · rw [h] at g2
      refine ⟨g1, by omega, g3, g4, .inr fun j' z' hb' hz' => ?_⟩
      obtain rfl : j' = j := by omega
      rw [hz] at hz'; cases hz'
      exact g2
  rcases h with ⟨hb, h⟩ | ⟨j, z, h1, hb, hz, hd, h⟩
  · exact .inl ⟨hb, hs.trans h⟩
  · exact .inr ⟨j, z, by omega, hb, hz, hd, hs.trans h⟩
theorem BestK.fin (h : BestK ys f P ys.length b) {T : Tr} (hT : T.l = ys.map (·.1)) :
    decide (0 < (T.best f P).done) = decide ((0 : Int) ≤ b) ∧ ∃ (j : Nat) (y : Tw), 0 ≤ b → b = (j : Int) ∧ ys[j]? = some y ∧ T.best f P = y.1 := by
  unfold BestK at h
  rw [List.take_of_length_le (by rw [List.length_map]; omega)] at h
  unfold Tr.best
  rw [hT]
  rcases h with ⟨hb, h⟩ | ⟨j, z, h1, hb, hz, hd, h⟩
  · rw [h, hb]
    exact ⟨rfl, 0, (⟨0, 0, [], 0, 0⟩, none, 0, []), fun h => absurd h (by decide)⟩
  · rw [h, hb]
    exact ⟨by rw [decide_eq_true hd, decide_eq_true (by omega)], j, z, fun _ => ⟨rfl, hz, rfl⟩⟩
end
theorem tw_snoc (ys : List Tw) (y : Tw) : rows tc ys ++ [tc y].flatten = rows tc (ys ++ [y]) := by rw [rows_app]; simp [rows]
/-- Does a branch go, at prune (kind 3) or clear? Is it left? -/
def goes (k f : Int) (P : List (List UInt8)) (x : Br) : Bool := if k = 3 then pruneP f P x else true
def kept (k f : Int) (P : List (List UInt8)) (x : Tw) : Bool := !goes k f P x.1
theorem kept_three {k f : Int} {P : List (List UInt8)} {x : Tw} (h : k = 3) : kept k f P x = (decide (x.1.frm = f) && alikeP x.1.press P) := by
  rw [kept, goes, if_pos h, pruneP]
  cases decide (x.1.frm = f) <;> cases alikeP x.1.press P <;> rfl
theorem kept_else {k f : Int} {P : List (List UInt8)} {x : Tw} (h : ¬ k = 3) : kept k f P x = false := by rw [kept, goes, if_neg h]; rfl
theorem goes_three {k f : Int} {P : List (List UInt8)} (h : k = 3) : goes k f P = pruneP f P := by funext x; rw [goes, if_pos h]
theorem goes_else {k f : Int} {P : List (List UInt8)} (h : ¬ k = 3) : goes k f P = fun _ => true := by funext x; rw [goes, if_neg h]
theorem kept_map (ys : List Tw) (k f : Int) (P : List (List UInt8)) : (ys.filter (kept k f P)).map (·.1) = (ys.map (·.1)).filter (fun x => !goes k f P x) := by
  induction ys with
  | nil => rfl
  | cons y ys ih =>
    rw [List.filter_cons, List.map_cons, List.filter_cons, ← ih]
    have h : kept k f P y = !goes k f P y.1 := rfl
    rw [h]
    cases goes k f P y.1 <;> rfl
end Go.Proofs.Ytkjmmchmanofkaa

