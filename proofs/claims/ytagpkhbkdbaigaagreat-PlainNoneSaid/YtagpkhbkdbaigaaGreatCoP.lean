/- Plain side of what a player knows: the document's P21 and P22. -/
import Derived.Test.YtagpkhbkdbaigaaGreatLinP
namespace Go.Proofs.YtagpkhbkdbaigaaGreat
open Go.RowKit
set_option linter.unusedVariables false
set_option linter.unusedSimpArgs false
set_option maxRecDepth 10000

/-- How a player plays, as it comes. -/
structure Cf where
  n : Int
  me : Int
  id : Int
  delay : Int
  window : Int
  guess : Int
  order : Int
  branches : Int
  workers : Int
  room : Int
def cfC (c : Cf) : List Value := [.int .i64 c.n, .int .i64 c.me, .int .i64 c.id, .int .i64 c.delay, .int .i64 c.window, .int .i64 c.guess, .int .i64 c.order, .int .i64 c.branches, .int .i64 c.workers, .int .i64 c.room]
theorem cfC_len (c : Cf) : (cfC c).length = 10 := rfl
theorem cfC_one (c : Cf) : ∀ v ∈ cfC c, v.oneCell' = true := by
  intro v hv
  simp [cfC] at hv
  rcases hv with rfl | rfl | rfl | rfl | rfl | rfl | rfl | rfl | rfl | rfl <;> rfl
def inI (n l h : Int) : Prop := l ≤ n ∧ n ≤ h
instance (n l h : Int) : Decidable (inI n l h) := inferInstanceAs (Decidable (_ ∧ _))
def mayCf (c : Cf) : Prop := (inI c.n 2 8 ∧ inI c.me 0 (c.n - 1) ∧ inI c.id 0 1099511627776) ∧ (inI c.delay 0 8 ∧ inI c.window 1 16 ∧ inI c.guess 1 3 ∧ inI c.order 0 3) ∧
  (c.order = 0 ∨ c.guess = 2) ∧ inI c.branches 0 8 ∧ inI c.workers 0 4 ∧ inI c.room 3 50
instance (c : Cf) : Decidable (mayCf c) := inferInstanceAs (Decidable (_ ∧ _))

/-- What is known of a player. -/
structure Pe where
  has : Nat
  heard : Nat
  frame : Nat
  sum : Nat
  apart : Bool
structure Ks where
  n : Nat
  me : Nat
  delay : Nat
  window : Nat
  id : Int
  guess : Int
  order : Int
  branches : Int
  workers : Int
  room : Int
  ls : List (List UInt8)
  ps : List Pe
  mr : List Nat
  ev : List (Nat × Nat × Nat)
  now : Nat
  cl : Bool
def ksCf (k : Ks) : Cf := ⟨k.n, k.me, k.id, k.delay, k.window, k.guess, k.order, k.branches, k.workers, k.room⟩
def pe0 (d : Nat) : Pe := ⟨d, 0, 0, 0, false⟩
/-- A player that begins. -/
def newK (c : Cf) : Ks := ⟨c.n.toNat, c.me.toNat, c.delay.toNat, c.window.toNat, c.id, c.guess, c.order, c.branches, c.workers, c.room,
  List.replicate c.n.toNat (List.replicate c.delay.toNat 0), List.replicate c.n.toNat (pe0 c.delay.toNat), [], [], 0, false⟩
def headK (k : Ks) : Nat := (k.ls.getD k.me []).length
def frontK (k : Ks) : Nat := frontL k.ls
def badP (mk : List Nat) (p : Pe) : Prop := p.apart = false ∧ 1 ≤ p.frame ∧ p.frame ≤ mk.length ∧ mk.getD (p.frame - 1) 0 ≠ p.sum
instance (mk : List Nat) (p : Pe) : Decidable (badP mk p) := inferInstanceAs (Decidable (_ ∧ _))
def peK (k : Ks) (i : Nat) : Pe := k.ps.getD i (pe0 0)
/-- A word is held against the marks. -/
def hold1 (k : Ks) (i : Nat) : Ks := if badP k.mr (peK k i) then { k with ps := k.ps.set i { peK k i with apart := true }, ev := k.ev ++ [(3, i, (peK k i).frame)] } else k
def holdN (k : Ks) : Nat → Ks
  | 0 => k
  | i + 1 => hold1 (holdN k i) i
def holdK (k : Ks) : Ks := holdN k k.ps.length
def markK (k : Ks) (s : Nat) : Ks := holdK (if k.mr.length < 1000 then { k with mr := k.mr ++ [s] } else k)
def pressK (b : UInt8) (k : Ks) : Int × Ks := if k.cl = true then (6, k) else if 1000 ≤ headK k then (4, k) else if k.window + frontK k ≤ headK k then (5, k) else (0, { k with ls := k.ls.set k.me (k.ls.getD k.me [] ++ [b]) })
def hearP (now head : Nat) (p : Pk) (x : Pe) : Pe :=
  let h := if x.has < p.ack.toNat ∧ p.ack.toNat ≤ head then p.ack.toNat else x.has
  if 0 < p.frame ∧ (x.frame : Int) ≤ p.frame then { x with heard := now, has := h, frame := p.frame.toNat, sum := p.sum } else { x with heard := now, has := h }
def hearK (k : Ks) (p : Pk) : Ks :=
  if p.kind = 2 then { k with ps := k.ps.set p.from'.toNat { peK k p.from'.toNat with heard := k.now }, ev := k.ev ++ [(1, p.from'.toNat, 0)], cl := true }
  else holdK { k with ls := k.ls.set p.from'.toNat (putLn (k.ls.getD p.from'.toNat []) p.first.toNat p.press), ps := k.ps.set p.from'.toNat (hearP k.now (headK k) p (peK k p.from'.toNat)) }
noncomputable def recvK (bs : List UInt8) (k : Ks) : Int × Ks := if k.cl = true then (6, k) else match decO bs with
  | none => (1, k)
  | some p => if p.to ≠ k.me ∨ (k.n : Int) ≤ p.from' ∨ p.id ≠ k.id then (1, k) else (0, hearK k p)
def mailPk (k : Ks) (i : Nat) : Pk := ⟨1, k.me, i, k.id, (peK k i).has, (k.ls.getD i []).length, k.mr.length, k.mr.getLastD 0, ((k.ls.getD k.me []).drop (peK k i).has).take 32⟩
def quitPk (k : Ks) (i : Nat) : Pk := ⟨2, k.me, i, k.id, 0, 0, 0, 0, []⟩
def othersK (k : Ks) : List Nat := (List.range k.n).filter (· ≠ k.me)
def lateP (k : Ks) (i : Nat) : Prop := (peK k i).heard + 40 ≤ k.now
instance (k : Ks) (i : Nat) : Decidable (lateP k i) := inferInstanceAs (Decidable (_ ≤ _))
/-- Mail: from, to, bytes. -/
abbrev Ml := Nat × Nat × List UInt8
def tickK (k : Ks) : List Ml × Ks := if k.cl = true then ([], k) else
  let k := { k with now := k.now + 1 }
  match (othersK k).find? (fun i => decide (lateP k i)) with
  | some i => ([], { k with ev := k.ev ++ [(2, i, 0)], cl := true })
  | none => ((othersK k).map fun i => (k.me, i, encO (mailPk k i)), k)
def quitK (k : Ks) : List Ml × Ks := if k.cl = true then ([], k) else ((othersK k).map fun i => (k.me, i, encO (quitPk k i)), { k with cl := true })

/-! What is always so. -/
def held (k : Ks) : Prop := ∀ i, i < k.ps.length → ¬ badP k.mr (peK k i)
structure WC (k : Ks) : Prop where
  n : 2 ≤ k.n ∧ k.n ≤ 8
  me : k.me < k.n
  id : 0 ≤ k.id ∧ k.id ≤ 1099511627776
  delay : k.delay ≤ 8
  window : 1 ≤ k.window ∧ k.window ≤ 16
  ls : k.ls.length = k.n
  ps : k.ps.length = k.n
  ln : ∀ l ∈ k.ls, l.length ≤ 1000
  mr : k.mr.length ≤ 1000
  mrs : ∀ s ∈ k.mr, s < 4294967296
  now : ∀ p ∈ k.ps, p.heard ≤ k.now
  pe : ∀ p ∈ k.ps, p.has ≤ 1000 ∧ p.frame ≤ 1000 ∧ p.sum < 4294967296
  evs : ∀ e ∈ k.ev, e.1 ≤ 3 ∧ 1 ≤ e.1 ∧ e.2.1 < 8 ∧ e.2.2 ≤ 1000 ∧ (e.1 = 3 ∨ e.2.2 = 0)
  evn : k.ev.length + k.ps.countP (fun p => !p.apart) + (if k.cl = true then 0 else 1) ≤ k.n + 1
section
variable {k : Ks} {i : Nat}
theorem WC.evl (h : WC k) : k.ev.length ≤ 9 := by have := h.evn; have := h.n; omega
theorem peK_mem (h : i < k.ps.length) : peK k i ∈ k.ps := by
  rw [peK, List.getD_eq_getElem?_getD, List.getElem?_eq_getElem h]; exact List.getElem_mem _
theorem ln_mem {ls : List (List UInt8)} (h : i < ls.length) : ls.getD i [] ∈ ls := by
  rw [List.getD_eq_getElem?_getD, List.getElem?_eq_getElem h]; exact List.getElem_mem _
theorem WC.pet (h : WC k) (hi : i < k.n) : (peK k i).has ≤ 1000 ∧ (peK k i).heard ≤ k.now ∧ (peK k i).frame ≤ 1000 ∧ (peK k i).sum < 4294967296 := by
  have hm := peK_mem (k := k) (i := i) (by rw [h.ps]; exact hi)
  exact ⟨(h.pe _ hm).1, h.now _ hm, (h.pe _ hm).2⟩
theorem WC.lnt (h : WC k) (hi : i < k.n) : (k.ls.getD i []).length ≤ 1000 := h.ln _ (ln_mem (by rw [h.ls]; exact hi))
theorem WC.headt (h : WC k) : headK k ≤ 1000 := h.lnt h.me
theorem WC.frontt (h : WC k) : frontK k ≤ headK k := frontL_le (ln_mem (by rw [h.ls]; exact h.me))
theorem mem_set {α : Type} {l : List α} {x y : α} (h : y ∈ l.set i x) : y ∈ l ∨ y = x := List.mem_or_eq_of_mem_set h
theorem WC.peSet (h : WC k) {p : Pe} {ev : List (Nat × Nat × Nat)} {cl : Bool} (hp : p.has ≤ 1000 ∧ p.frame ≤ 1000 ∧ p.sum < 4294967296) (hh : p.heard ≤ k.now)
    (he : ∀ e ∈ ev, e.1 ≤ 3 ∧ 1 ≤ e.1 ∧ e.2.1 < 8 ∧ e.2.2 ≤ 1000 ∧ (e.1 = 3 ∨ e.2.2 = 0)) (hn : ev.length + (k.ps.set i p).countP (fun p => !p.apart) + (if cl = true then 0 else 1) ≤ k.n + 1) : WC { k with ps := k.ps.set i p, ev := ev, cl := cl } :=
  { h with
    ps := by show (k.ps.set i p).length = _; rw [List.length_set]; exact h.ps
    now := fun q hq => by
      rcases mem_set hq with hq | rfl
      · exact h.now q hq
      · exact hh
    pe := fun q hq => by
      rcases mem_set hq with hq | rfl
      · exact h.pe q hq
      · exact hp
    evs := he
    evn := hn }
theorem count_set {l : List Pe} {p : Pe} (h : i < l.length) : (l.set i p).countP (fun p => !p.apart) + (if l[i].apart = true then 0 else 1) = l.countP (fun p => !p.apart) + (if p.apart = true then 0 else 1) := by
  have h1 : l.countP (fun p => !p.apart) = (l[i] :: l.eraseIdx i).countP (fun p => !p.apart) := List.Perm.countP_eq _ (erase_perm _ h)
  have hi : i < (l.set i p).length := by simpa using h
  have h2 : (l.set i p).countP (fun p => !p.apart) = ((l.set i p)[i] :: (l.set i p).eraseIdx i).countP (fun p => !p.apart) := List.Perm.countP_eq _ (erase_perm _ hi)
  rw [h1, h2, List.countP_cons, List.countP_cons, List.getElem_set_self, List.eraseIdx_set_eq]
  cases l[i].apart <;> cases p.apart <;> simp <;> omega
theorem WC.hold1 (h : WC k) (hi : i < k.n) : WC (hold1 k i) := by
  unfold Go.Proofs.YtagpkhbkdbaigaaGreat.hold1
  split
  · rename_i hb
    have hil : i < k.ps.length := by rw [h.ps]; exact hi
    have hp := h.pet hi
    have hpe : peK k i = k.ps[i] := by rw [peK, List.getD_eq_getElem?_getD, List.getElem?_eq_getElem hil]; rfl
    refine h.peSet ⟨hp.1, hp.2.2⟩ hp.2.1 (fun e he => ?_) ?_
    · rcases List.mem_append.1 he with he | he
      · exact h.evs e he
      · rw [List.mem_singleton] at he
        subst he
        have := h.n
        exact ⟨by simp, by simp, by simp; omega, hp.2.2.1, .inl rfl⟩
    · have hc := count_set (p := { peK k i with apart := true }) hil
      rw [← hpe, hb.1] at hc
      have := h.evn
      rw [List.length_append, List.length_singleton]
      simp at hc ⊢
      omega
  · exact h
theorem hold1_same (k : Ks) (i : Nat) : (hold1 k i).n = k.n ∧ (hold1 k i).mr = k.mr ∧ (hold1 k i).ls = k.ls ∧ (hold1 k i).cl = k.cl ∧ (hold1 k i).now = k.now ∧ (hold1 k i).me = k.me ∧ (hold1 k i).window = k.window ∧ (hold1 k i).id = k.id ∧ (hold1 k i).ps.length = k.ps.length := by
  unfold hold1
  split <;> simp
end
end Go.Proofs.YtagpkhbkdbaigaaGreat

