/- Plain side: two players, one of which is looked at. -/
import Derived.Test.YtagpkhbkdbaigaaGreatCoQ
namespace Go.Proofs.YtagpkhbkdbaigaaGreat
open Go.RowKit
set_option linter.unusedVariables false
set_option linter.unusedSimpArgs false
set_option maxRecDepth 10000

structure Two (p : Pr) (win me : Nat) (ls : List (List UInt8)) (s : Pl) : Prop where
  wf : WF' p s
  n : s.k.n = 2
  me : s.k.me = me
  id : s.k.id = 0
  cl : s.k.cl = false
  win : s.k.window = win
  now : s.k.now = 0
  ls : s.k.ls = ls
section
variable {p : Pr} {win me : Nat} {ls : List (List UInt8)} {s : Pl} {k : Ks}
theorem playP_same (h : WP p s) : (playP p s).k.n = s.k.n ∧ (playP p s).k.me = s.k.me ∧ (playP p s).k.id = s.k.id ∧ (playP p s).k.cl = s.k.cl ∧ (playP p s).k.window = s.k.window ∧ (playP p s).k.now = s.k.now ∧ (playP p s).k.ls = s.k.ls := by
  obtain ⟨_, h2, ps, ev, mr, h3⟩ := h.playP
  rw [h3]; exact ⟨rfl, rfl, rfl, rfl, rfl, rfl, rfl⟩
theorem Two.new {id : Int} {cf : Cf} (h : mayCf cf) (hc : cf = ⟨2, me, 0, 0, win, cf.guess, cf.order, cf.branches, cf.workers, cf.room⟩) : Two p win me [[], []] (newP p cf) := by
  obtain ⟨h1, h2, h3, h4, h5, h6, h7⟩ := playP_same (newP_ok (p := p) h)
  refine ⟨WF'.new h, ?_, ?_, ?_, ?_, ?_, ?_, ?_⟩
  · rw [newP, h1, hc]; rfl
  · rw [newP, h2, hc]; rfl
  · rw [newP, h3, hc]; rfl
  · rw [newP, h4]; rfl
  · rw [newP, h5, hc]; rfl
  · rw [newP, h6]; rfl
  · rw [newP, h7, hc]; rfl
theorem Two.len (h : Two p win me ls s) : ls.length = 2 := by have := h.wf.wc.ls; rw [h.ls, h.n] at this; exact this
theorem Two.melt (h : Two p win me ls s) : me < 2 := by have := h.wf.wc.me; rw [h.me, h.n] at this; exact this
theorem Two.ln (h : Two p win me ls s) {i : Nat} (hi : i < 2) : (ls.getD i []).length ≤ 1000 := by have := h.wf.wc.lnt (i := i) (by rw [h.n]; exact hi); rw [h.ls] at this; exact this
theorem Two.head (h : Two p win me ls s) : headK s.k = (ls.getD me []).length := by rw [headK, h.ls, h.me]
theorem Two.front (h : Two p win me ls s) : frontK s.k = frontL ls := by rw [frontK, h.ls]
theorem Two.mr (h : Two p win me ls s) : s.k.mr.length = frontL ls := by rw [h.wf.full, h.front]
theorem Two.game (h : Two p win me ls s) : s.g = gameAt p ls (frontL ls) := by rw [h.wf.game, h.ls, h.mr]
theorem Two.conf (h : Two p win me ls s) : confP s = (gameB (gameAt p ls (frontL ls)), frontL ls) := by rw [confP, h.game, h.front]
theorem Two.press (h : Two p win me ls s) (x : UInt8) (h1 : (ls.getD me []).length < 1000) (h2 : (ls.getD me []).length < win + frontL ls) : (pressP p x s).1 = 0 ∧ Two p win me (ls.set me (ls.getD me [] ++ [x])) (pressP p x s).2 := by
  have hk : pressK x s.k = (0, { s.k with ls := ls.set me (ls.getD me [] ++ [x]) }) := by
    rw [pressK, if_neg (by rw [h.cl]; decide), if_neg (by rw [h.head]; omega), if_neg (by rw [h.head, h.win, h.front]; omega), show s.k.ls.set s.k.me (s.k.ls.getD s.k.me [] ++ [x]) = ls.set me (ls.getD me [] ++ [x]) from by rw [h.ls, h.me]]
  have he := press_ext x s.k
  have hwp := h.wf.toWP.more (h.wf.wc.press x) (h.wf.held.press x) he.1 he.2
  obtain ⟨g1, g2, g3, g4, g5, g6, g7⟩ := playP_same hwp
  refine ⟨by rw [pressP, hk], h.wf.press x, ?_, ?_, ?_, ?_, ?_, ?_, ?_⟩
  · rw [pressP, g1, hk]; exact h.n
  · rw [pressP, g2, hk]; exact h.me
  · rw [pressP, g3, hk]; exact h.id
  · rw [pressP, g4, hk]; exact h.cl
  · rw [pressP, g5, hk]; exact h.win
  · rw [pressP, g6, hk]; exact h.now
  · rw [pressP, g7, hk]
theorem Two.recv (h : Two p win me ls s) {f : Nat} {bs : List UInt8} (hf : f ≤ 1000) (hb : bs.length ≤ 32) : (recvP p (encO ⟨1, ((1 - me : Nat) : Int), me, 0, f, 0, 0, 0, bs⟩) s).1 = 0 ∧ Two p win me (ls.set (1 - me) (putLn (ls.getD (1 - me) []) f bs)) (recvP p (encO ⟨1, ((1 - me : Nat) : Int), me, 0, f, 0, 0, 0, bs⟩) s).2 := by
  have hme := h.melt
  have hmay : mayPk ⟨1, ((1 - me : Nat) : Int), me, 0, f, 0, 0, 0, bs⟩ := by
    refine ⟨⟨by simp only; omega, by simp only; omega⟩, ⟨by simp only; omega, by simp only; omega⟩, by simp only; omega, ⟨by simp only; omega, by simp only; omega⟩, .inl ⟨rfl, ⟨by simp only; omega, by simp only; omega⟩, ⟨by show (0 : Int) ≤ 0; decide, by show (0 : Int) ≤ 1000; decide⟩, ⟨by show (0 : Int) ≤ 0; decide, by show (0 : Int) ≤ 1000; decide⟩, hb⟩⟩
  have hd := decO_enc hmay (by show 0 < 4294967296; decide)
  generalize hpk : (⟨1, ((1 - me : Nat) : Int), me, 0, f, 0, 0, 0, bs⟩ : Pk) = pk at hd hmay ⊢
  have hk : recvK (encO pk) s.k = (0, hearK s.k pk) := by
    rw [recvK, if_neg (by rw [h.cl]; decide), hd]
    show (if _ then _ else _) = _
    rw [if_neg ?_]
    subst hpk
    rw [h.n, h.id, h.me]
    rintro (h | h | h)
    · exact h rfl
    · simp only at h; omega
    · exact h rfl
  have he := recv_ext (encO pk) s.k
  have hwp := h.wf.toWP.more (h.wf.wc.recv (encO pk)).1 ((h.wf.wc.recv (encO pk)).2 h.wf.held) he.1 he.2
  obtain ⟨g1, g2, g3, g4, g5, g6, g7⟩ := playP_same hwp
  obtain ⟨ps, ev, h9, _⟩ := holdK_eq { s.k with ls := s.k.ls.set pk.from'.toNat (putLn (s.k.ls.getD pk.from'.toNat []) pk.first.toNat pk.press), ps := s.k.ps.set pk.from'.toNat (hearP s.k.now (headK s.k) pk (peK s.k pk.from'.toNat)) }
  have hh : hearK s.k pk = { s.k with ls := ls.set (1 - me) (putLn (ls.getD (1 - me) []) f bs), ps := ps, ev := ev } := by
    rw [hearK, if_neg (by rw [← hpk]; show ¬ (1 : Int) = 2; decide), h9]
    have e1 : pk.from'.toNat = 1 - me := by rw [← hpk]; rfl
    have e2 : pk.first.toNat = f := by rw [← hpk]; rfl
    have e3 : pk.press = bs := by rw [← hpk]
    rw [e1, e2, e3, h.ls]
  refine ⟨by rw [recvP, hk], h.wf.recv _, ?_, ?_, ?_, ?_, ?_, ?_, ?_⟩
  · rw [recvP, g1, hk, hh]; exact h.n
  · rw [recvP, g2, hk, hh]; exact h.me
  · rw [recvP, g3, hk, hh]; exact h.id
  · rw [recvP, g4, hk, hh]; exact h.cl
  · rw [recvP, g5, hk, hh]; exact h.win
  · rw [recvP, g6, hk, hh]; exact h.now
  · rw [recvP, g7, hk, hh]
theorem Two.tick (h : Two p win me ls s) : (tickK s.k).1.length = 1 ∧ (tickK s.k).2.cl = false := by
  have hme := h.melt
  have hf : (othersK { s.k with now := s.k.now + 1 }).find? (fun i => decide (lateP { s.k with now := s.k.now + 1 } i)) = none := by
    rw [List.find?_eq_none]
    intro i hi
    have h2 := othersK_mem.1 hi
    have h3 := (h.wf.wc.pet (i := i) h2.1).2.1
    have h4 : (peK ({ s.k with now := s.k.now + 1 } : Ks) i).heard = (peK s.k i).heard := rfl
    have h5 : ({ s.k with now := s.k.now + 1 } : Ks).now = s.k.now + 1 := rfl
    rw [decide_eq_true_eq, lateP, h4, h5, h.now]
    rw [h.now] at h3
    omega
  have ht : tickK s.k = ((othersK { s.k with now := s.k.now + 1 }).map fun i => (s.k.me, i, encO (mailPk { s.k with now := s.k.now + 1 } i)), { s.k with now := s.k.now + 1 }) := by
    rw [tickK, if_neg (by rw [h.cl]; decide)]
    simp only
    rw [hf]
  rw [ht]
  refine ⟨?_, h.cl⟩
  rw [List.length_map, othersK]
  show ((List.range s.k.n).filter (· ≠ s.k.me)).length = 1
  rw [h.n, h.me]
  have : me = 0 ∨ me = 1 := by omega
  rcases this with rfl | rfl <;> rfl
theorem encO_len (p : Pk) : (encO p).length ≤ 507 := by
  unfold encO
  split
  · rename_i h
    have := midPk_len h
    rw [encPk_len]; omega
  · simp
theorem front_two (a b : List UInt8) : frontL [a, b] = min a.length b.length := by
  simp [frontL, frontN]
end
end Go.Proofs.YtagpkhbkdbaigaaGreat

