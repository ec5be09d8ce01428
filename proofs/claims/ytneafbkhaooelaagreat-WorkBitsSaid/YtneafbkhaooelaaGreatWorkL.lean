/- What all laws of workers begin with. -/
import Derived.Test.YtneafbkhaooelaaGreatShop2
import Derived.Test.YtneafbkhaooelaaGreatArgP
namespace Go.Proofs.YtneafbkhaooelaaGreat
open Go.RowKit
set_option linter.unusedVariables false
set_option linter.unusedSimpArgs false
set_option maxRecDepth 10000
set_option synthInstance.maxSize 4000
set_option synthInstance.maxHeartbeats 400000

def cutT (s : ByteArray) (n : Nat) : ByteArray := if n < s.size then s.extract 0 n else s
theorem cutT_le (s : ByteArray) (n : Nat) : (cutT s n).size ≤ n := by
  unfold cutT
  split
  · rw [ByteArray.size_extract]; omega
  · omega
def cutP (K : Nat) (p : Pr) : Pr := ⟨cutT p.title 40, p.ops.take K⟩
section
variable {W w : World} {L L' R : List SP} {tq jq sq r wb i kk cO xb n c cw base m room nw : Nat} {ad adO adw : Option Addr} {A : Sn} {T : Tr} {J : Js} {k : Wk} {p : Pr} {x : Br} {px : Pic} {ks : List Kx} {t : Nat → Nat} {ys : List BBBx} {ws : List Wk}
theorem cut1_spec {s : ByteArray} {n : Nat} (hs : St W w L) : Calls Tryz.prog 26 #[.string s, .int .i64 n] w fun e w' => e = .returned (.string (cutT s n)) ∧ St W w' L := by
  refine calls_enter Tryz.func26 rfl Tryz.ntmps26 (Nat.le_of_ble_eq_true rfl) ?_
  intro a ha
  replace ha : Fr a 13 [(0, _), (1, _)] := ha
  refine WS <| WR ?_
  refine S1 ha ?_; clear ha a; intro a ha
  refine LN <| TN <| WS <| WS <| WR ?_
  refine S1 ha ?_; clear ha a; intro a ha
  refine SK (st_set ha rfl (ex_lenS ha Tryz.underlying9) rfl ?_); clear ha a; intro a ha
  iterate 2 (refine S1 ha ?_; clear ha a; intro a ha)
  refine LN <| TN ?_
  refine WI ha (fun hc0 => ?_) (fun hc0 => ?_)
  ·
   refine WS <| WR ?_
   refine S1 ha ?_; clear ha; (try clear a); intro a ha
   refine S1 ha ?_; clear ha a; intro a ha
   refine SK (st_set ha rfl (ex_sliceSH ha Tryz.underlying9 (by omega)) rfl ?_); clear ha a; intro a ha
   refine S1d ha ?_; clear ha a; intro a ha
   refine LN <| TN <| wp_ret <| TR ?_
   refine ret1 ha rfl ?_
   exact ⟨by rw [cutT, if_pos (by omega)], hs⟩
  ·
   refine WK <| TN <| WS <| WR ?_
   refine S1 ha ?_; clear ha; (try clear a); intro a ha
   refine S1d ha ?_; clear ha a; intro a ha
   refine LN <| TN <| wp_ret ?_
   refine ret1 ha rfl ?_
   exact ⟨by rw [cutT, if_neg (by omega)], hs⟩
theorem rows_takeO (K : Nat) (ops : List OpR) : (rows opR ops).take (K * 4) = rows opR (ops.take K) := rows_take opR_len ops K
theorem cut5_spec {K : Nat} (hs : St W w (RoP W p adO cO :: L)) : Calls Tryz.prog 9 #[.agg (prV p adO cO).toArray, .int .i64 K] w fun e w' => e = .returned (.agg (prV (cutP K p) adO cO).toArray) ∧ St W w' (RoP W (cutP K p) adO cO :: L) := by
  have hco := (hs.ro adO).2
  refine calls_enter Tryz.func9 rfl Tryz.ntmps9 (Nat.le_of_ble_eq_true rfl) ?_
  intro a ha
  replace ha : Fr a 20 [(0, _), (1, _)] := ha
  refine WS <| WR ?_
  refine SK (st_box ha rfl hs rfl ?_); clear ha hs a; (try clear w); intro b2 a w ha hs ho
  clear ho
  change St W w (blk b2 24 (prV p adO cO) :: _) at hs
  refine SK (st_alloc ha rfl hs Ty.t24 rfl ?_); clear ha hs a; (try clear w); intro b4 a w ha hs ho
  clear ho
  refine LN <| TN <| WS <| WR ?_
  refine S1 ha ?_; clear ha a; intro a ha
  refine SL ha (hs.rd1 rfl) ?_; clear ha a; intro a ha
  refine SK (st_call ha rfl Ty.c26 rfl (cut1_spec (n := 40) hs) ?_); clear ha hs
  rintro e w ⟨rfl, hs⟩
  refine ⟨_, rfl, ?_⟩
  intro a ha
  refine S1 ha ?_; clear ha a; intro a ha
  refine SK (st_store ha rfl hs Ty.t9 rfl (by simp [prV]) ?_); clear ha hs a; (try clear w); intro a w ha hs
  change St W w (blk b2 24 [.string (cutT p.title 40), .slice adO p.ops.length cO] :: _) at hs
  refine LN <| TN <| WS <| WS <| WR ?_
  refine S1 ha ?_; clear ha a; intro a ha
  refine SL ha (hs.rd1 rfl) ?_; clear ha a; intro a ha
  iterate 3 (refine S1 ha ?_; clear ha a; intro a ha)
  refine LN <| TN ?_
  refine WI ha (fun hc0 => ?_) (fun hc0 => ?_)
  ·
   have hl : (cutP K p).ops.length = K := by simp only [cutP, List.length_take]; omega
   refine WR ?_
   refine S1 ha ?_; clear ha; (try clear a); intro a ha
   refine SL ha (hs.rd1 rfl) ?_; clear ha a; intro a ha
   refine S1 ha ?_; clear ha a; intro a ha
   refine SK (st_set ha rfl (ex_sliceH ha Tryz.underlying22 Ty.t60 (by omega)) rfl ?_); clear ha a; intro a ha
   rw [cutAd_zero, Nat.sub_zero, Nat.sub_zero] at ha
   refine S1 ha ?_; clear ha a; intro a ha
   refine SK (st_store ha rfl hs Ty.t22 rfl (by simp) ?_); clear ha hs a; (try clear w); intro a w ha hs
   change St W w (blk b2 24 [.string (cutT p.title 40), .slice adO K cO] :: _) at hs
   refine LN <| TN <| WS <| WR ?_
   refine SK (st_set ha rfl (ex_loadN ha Tryz.underlying24 rfl Ty.t24 (hs.rdAll)) rfl ?_); clear ha a; intro a ha
   refine SK (st_storeAll ha rfl hs Ty.t24 (by simp [Value.oneCell']) (by rfl) ?_); clear ha hs a; (try clear w); intro a w ha hs
   refine LN <| TN <| wp_ret ?_
   refine retC1 ha rfl (run_loadN Tryz.underlying24 rfl Ty.t24 (hs.rdAll)) ?_
   refine ⟨by rw [prV, hl]; rfl, ?_⟩
   have h1 := (hs.pick (RoP W p adO cO)).roCut (m := K) (by omega)
   rw [rows_takeO] at h1
   have h2 : RoP W (cutP K p) adO cO = Ro W 60 4 adO K cO (rows opR (p.ops.take K)) := by rw [RoP, hl]; rfl
   rw [h2]; exact h1.sub
  ·
   have hl : (cutP K p).ops = p.ops := by simp only [cutP]; exact List.take_of_length_le (by omega)
   refine WK <| TN <| WS <| WR ?_
   refine SK (st_set ha rfl (ex_loadN ha Tryz.underlying24 rfl Ty.t24 (hs.rdAll)) rfl ?_); clear ha; (try clear a); intro a ha
   refine SK (st_storeAll ha rfl hs Ty.t24 (by simp [Value.oneCell']) (by rfl) ?_); clear ha hs a; (try clear w); intro a w ha hs
   refine LN <| TN <| wp_ret ?_
   refine retC1 ha rfl (run_loadN Tryz.underlying24 rfl Ty.t24 (hs.rdAll)) ?_
   refine ⟨by rw [prV, hl]; rfl, ?_⟩
   have h2 : RoP W (cutP K p) adO cO = RoP W p adO cO := by rw [RoP, RoP, hl]
   rw [h2]; exact hs.sub
theorem spent_one (k : Wk) : spent [k] = spentK k := by simp [spent]
/-- A worker alone does one bit of what is to do. -/
theorem one_bit {A' : Sn} {T' : Tr} {J' : Js} {k' : Wk} {z : Bool} {N : Nat} (h : Tok T J [k]) (hT : WT T) (hroom : 4 * A.pics.length ≤ A.room) (hb : Bit p A T J k z A' T' J' k') (hN : todo T.l + i = N + spentK k) :
    Tok T' J' [k'] ∧ ((z = true ∧ i < N ∧ todo T'.l + (i + 1) = N + spentK k') ∨ (z = false ∧ i = N ∧ A' = A ∧ T' = T ∧ J' = J ∧ k' = k ∧ k.busy = false)) := by
  obtain ⟨h1, h2⟩ := h.bit hT hroom hb
  refine ⟨h1, ?_⟩
  have hb1 := h.bound
  have hb2 := h1.bound
  rw [spent_one] at hb1 hb2
  rcases h2 with ⟨rfl, rfl, rfl, hJ, hJ', hk, rfl⟩ | ⟨rfl, h3⟩
  · right
    have hov := h.over hT hJ (by simpa using hk)
    have ht : todo T'.l = 0 := by
      simp only [todo]
      have : ∀ l : List Br, (∀ y ∈ l, y.done = y.press.length) → (l.map fun y => 3 * (y.press.length - y.done)).sum = 0 := by
        intro l
        induction l with
        | nil => intro _; rfl
        | cons y l ih =>
          intro hy
          rw [List.map_cons, List.sum_cons, ih (fun z hz => hy z (List.mem_cons_of_mem _ hz)), hy y (List.mem_cons_self ..)]
          omega
      exact this _ hov
    have hs0 : spentK k' = 0 := by simp [spentK, hk]
    exact ⟨rfl, by omega, rfl, rfl, by rw [hJ, hJ'], rfl, hk⟩
  · left
    rw [spent_one, spent_one] at h3
    exact ⟨rfl, by omega, by omega⟩
theorem spentK_busy {k : Wk} : (0 < spentK k ↔ k.busy = true) ∧ spentK k ≤ 2 := by
  unfold spentK
  cases k.busy <;> cases k.played <;> simp
/-- Where a worker stands that plays one branch alone. -/
theorem one_at {n : Nat} (hl : T.l = [x]) (hx : x.press.length = n) (hd : x.done ≤ n) (hN : todo T.l + i = 3 * n + spentK k) : x.done = i / 3 ∧ (k.busy = true ↔ i % 3 ≠ 0) := by
  have h1 : todo T.l = 3 * (n - x.done) := by rw [hl]; simp [todo, hx]
  have h2 := spentK_busy (k := k)
  rw [h1] at hN
  refine ⟨by omega, ?_⟩
  rw [← h2.1]; omega
def begP : Pr := ⟨⟨#[116]⟩, [⟨11, 1, 0, 0⟩]⟩
theorem begP_runes : runesAt begP.title 0 = [(116, 1)] := by
  have h1 : begP.title.size = 1 := rfl
  have h2 : Utf8.decode begP.title 0 = (116, 1) := dec_one (b := 116) rfl (by decide)
  rw [runesAt_in (by omega), adv, if_pos (by omega), h2, runesAt_out (by omega)]
theorem begP_ok : prOk begP := by
  refine ⟨⟨?_, by decide, by decide, ?_⟩, ?_⟩
  · rw [tOk, begP_runes]; decide
  · intro o ho
    simp [begP] at ho
    subst ho
    simp [i32O, i32P]
  · intro o ho
    simp [begP] at ho
    subst ho
    simp [okOp, cellP]
theorem begP_game : foldI begP 0 (fun _ => 0) [[7]] 1 = 7 := by
  have h1 : foldI begP 0 (fun _ => 0) [[7]] = frameI begP 0 [7] (fun _ => 0) := rfl
  rw [h1, frameI, runI_step (n := 199) (at' := 0) (o := ⟨11, 1, 0, 0⟩) rfl]
  have h2 : oneI begP 0 [7] (fun _ => 0) 0 ⟨11, 1, 0, 0⟩ = (upd (fun _ => 0) 1 7, 1, true) := by
    simp [oneI, valI, pressI]
  rw [h2]
  simp only [if_true]
  rw [runI_end (by decide)]
  rfl
end
end Go.Proofs.YtneafbkhaooelaaGreat

