/- core.Tick, Receive. -/
import Derived.Test.YtagpkhbkdbaigaaGreatCore3
namespace Go.Proofs.YtagpkhbkdbaigaaGreat
open Go.RowKit
set_option linter.unusedVariables false
set_option linter.unusedSimpArgs false
set_option maxRecDepth 10000
set_option synthInstance.maxSize 4000
set_option synthInstance.maxHeartbeats 400000

theorem find_at {α : Type} {p : α → Bool} : ∀ {l : List α} {j : Nat} {x : α}, (∀ y ∈ l.take j, p y = false) → l[j]? = some x → p x = true → l.find? p = some x
  | [], j, x, _, h, _ => by simp at h
  | y :: l, 0, x, _, h, hp => by
    obtain rfl : y = x := by simpa using h
    rw [List.find?_cons, hp]
  | y :: l, j + 1, x, ha, h, hp => by
    rw [List.find?_cons, ha y (by simp)]
    exact find_at (j := j) (fun z hz => ha z (by rw [List.take_succ_cons]; exact List.mem_cons_of_mem _ hz)) (by simpa using h) hp
theorem find_no {α : Type} {p : α → Bool} {l : List α} (h : ∀ y ∈ l, p y = false) : l.find? p = none := by
  rw [List.find?_eq_none]
  intro y hy hp
  rw [h y hy] at hp; cases hp
section
variable {W w : World} {L L' R : List SP} {n c m i e to : Nat} {ad adP : Option Addr} {k : Ks} {A : CoA} {B : CoB} {x : UInt8} {ms : List Ml} {p : Pk} {bs : List UInt8}
theorem core_tick (hs : St W w (CoreS B k :: L)) (hk : WC k) (hnw : k.now ≤ 1000000) : Calls Tryz.prog 63 #[.pointer (some ⟨B.cb, 0, none⟩)] w fun r w' => ∃ ad c, r = .returned (.slice ad (tickK k).1.length c) ∧ St W w' (OwnMl 172 ad (tickK k).1.length c (tickK k).1 :: CoreS B (tickK k).2 :: L) := by
  have hn := hk.n
  refine calls_enter Tryz.func63 rfl Tryz.ntmps63 (Nat.le_of_ble_eq_true rfl) ?_
  intro a ha
  replace ha : Fr a 61 [(0, _)] := ha
  refine WS <| WR ?_
  refine S1 ha ?_; clear ha a; intro a ha
  refine LN <| TN <| WS <| WS <| WR ?_
  refine S1 ha ?_; clear ha a; intro a ha
  refine SK (st_call ha rfl Ty.c66 rfl (core_closed hs) ?_); clear ha hs
  rintro e w ⟨rfl, hs⟩
  refine ⟨_, rfl, ?_⟩
  intro a ha
  refine LN <| TN ?_
  refine WI ha (fun hc0 => ?_) (fun hc0 => ?_)
  ·
   refine WS <| WR ?_
   refine S1d ha ?_; clear ha; (try clear a); intro a ha
   refine LN <| TN <| wp_ret <| TR ?_
   refine ret1 ha rfl ?_
   exact ⟨none, 0, by rw [tickK, if_pos hc0]; rfl, by rw [tickK, if_pos hc0]; exact OwnMl.nil hs⟩
  ·
   have hq : tickK k = (match (othersK { k with now := k.now + 1 }).find? (fun i => decide (lateP { k with now := k.now + 1 } i)) with
     | some i => ([], { k with now := k.now + 1, ev := k.ev ++ [(2, i, 0)], cl := true })
     | none => ((othersK { k with now := k.now + 1 }).map fun i => (k.me, i, encO (mailPk { k with now := k.now + 1 } i)), { k with now := k.now + 1 })) := by rw [tickK, if_neg (by rw [hc0]; decide)]; rfl
   obtain ⟨A, hs⟩ := CoreS.open hs
   refine WK <| TN <| WS <| WR ?_
   refine S1 ha ?_; clear ha; (try clear a); intro a ha
   iterate 2 (refine S1 ha ?_; clear ha a; intro a ha)
   refine SL ha (hs.rd1 rfl) ?_; clear ha a; intro a ha
   refine SK (st_set ha rfl (ex_addI ha (by omega) (by omega)) rfl ?_); clear ha a; intro a ha
   rw [show ((k.now : Nat) : Int) + 1 = ((k.now + 1 : Nat) : Int) from by omega] at ha
   iterate 2 (refine S1 ha ?_; clear ha a; intro a ha)
   refine SK (st_store ha rfl hs Ty.t3 rfl (by simp) ?_); clear ha hs a; (try clear w); intro a w ha hs
   refine LN ?_
   replace hs := CoreS.fold hs B { k with now := k.now + 1 } A
   have hk' : WC { k with now := k.now + 1 } := hk.nowUp
   have hev := hk.evl
   have hnw' : ({ k with now := k.now + 1 } : Ks).now ≤ 1000001 := by show k.now + 1 ≤ _; omega
   have hev' : ({ k with now := k.now + 1 } : Ks).ev.length ≤ 9 := hev
   have hq2 : tickK k = (match (othersK { k with now := k.now + 1 }).find? (fun i => decide (lateP { k with now := k.now + 1 } i)) with
     | some i => ([], { ({ k with now := k.now + 1 } : Ks) with ev := ({ k with now := k.now + 1 } : Ks).ev ++ [(2, i, 0)], cl := true })
     | none => ((othersK { k with now := k.now + 1 }).map fun i => (({ k with now := k.now + 1 } : Ks).me, i, encO (mailPk { k with now := k.now + 1 } i)), { k with now := k.now + 1 })) := hq
   clear hq
   have hn' : 2 ≤ ({ k with now := k.now + 1 } : Ks).n ∧ ({ k with now := k.now + 1 } : Ks).n ≤ 8 := hn
   generalize ({ k with now := k.now + 1 } : Ks) = k1 at hs hk' hq2 hnw' hev' hn'
   have hol := othersK_le k1
   refine TN <| WS <| WR ?_
   refine S1 ha ?_; clear ha a; intro a ha
   refine LN <| TN <| WS <| WS <| WR ?_
   refine S1 ha ?_; clear ha a; intro a ha
   refine SK (st_call ha rfl Ty.c108 rfl (core_others hs hk') ?_); clear ha hs
   rintro e w ⟨ado, co, rfl, hs⟩
   refine ⟨_, rfl, ?_⟩
   intro a ha
   iterate 2 (refine S1 ha ?_; clear ha a; intro a ha)
   refine LN ?_
   replace ha : Fr a 61 ((20, .int .i64 (0 : Nat)) :: (19, .int .i64 (othersK k1).length) :: (18, .slice ado (othersK k1).length co) :: (3, .slice none 0 0) :: (0, .pointer (some ⟨B.cb, 0, none⟩)) :: []) := ha.keep [20, 19, 18, 3, 0]
   refine TN <| wp_block ?_
   refine wp_loop_ghost (fun μ a w => ∃ (j : Nat), (μ = (othersK k1).length - j ∧ j ≤ (othersK k1).length ∧ ∀ y ∈ (othersK k1).take j, decide (lateP k1 y) = false) ∧ Fr a 61 [(0, .pointer (some ⟨B.cb, 0, none⟩)), (3, .slice none 0 0), (18, .slice ado (othersK k1).length co), (19, .int .i64 (othersK k1).length), (20, .int .i64 j)] ∧ St W w (Sl 3 1 ado (othersK k1).length co (ivn (othersK k1)) :: CoreS B k1 :: L)) ((othersK k1).length) ?_ ?_
   · exact ⟨0, ⟨rfl, by omega, fun y hy => by simp at hy⟩, ha.keep [0, 3, 18, 19, 20], hs⟩
   ·
    clear ha hs
    rintro μ a w ⟨j, ⟨rfl, hj, hno⟩, ha, hs⟩
    refine WS <| WR ?_
    refine S1 ha ?_; clear ha; (try clear a); intro a ha
    refine LN <| TN <| WS ?_
    refine WI ha (fun hc1 => ?_) (fun hc1 => ?_)
    ·
     have hjl : j < (othersK k1).length := by omega
     obtain ⟨i, hi⟩ : ∃ i, (othersK k1)[j]? = some i := ⟨_, List.getElem?_eq_getElem hjl⟩
     obtain ⟨bo, oo, rfl, hro⟩ := hs.slRd ado (by omega)
     have hin := (othersK_mem.1 (List.mem_of_getElem? hi)).1
     have hpt := hk'.pet hin
     have hil : i < k1.ps.length := by rw [hk'.ps]; exact hin
     have hcr := CoreS.rd (hs.tail)
     obtain ⟨cP, hpl⟩ := hcr.pl
     refine WK <| TN <| WS <| wp_block <| WS <| WR ?_
     refine SK (st_set ha rfl (ex_indexAddr ha Tryz.underlying63 Ty.t3 (by omega)) rfl ?_); clear ha; (try clear a); intro a ha
     rw [Nat.mul_one] at ha
     refine SL ha (hro j _ (ivn_at hi)) ?_; clear ha a; intro a ha
     refine S1 ha ?_; clear ha a; intro a ha
     refine LN <| TN <| WS ?_
     have hcw : CoR w.drew B k1 := CoreS.rd (hs.drew.tail)
     have hpw : w.drew.cell? ⟨B.cb, 11, none⟩ = some (.slice (some ⟨B.bp, B.op, none⟩) k1.ps.length cP) := hpl
     refine DW (m := 14) (Old w.drew) [7, 9, 10, 11] [0, 1, 2, 4, 5, 6, 8, 3, 7, 9, 10, 11, 12, 13] Ty.mixed (pk_then (pk_blk (pk_then (pk_then (pk_blk (pk_then pk_body)))))) (fun hpk => ?_)
     replace hs := hs.drew
     have hC := Old.refl w.drew
     generalize w.drew = w at hs hC hpk hcw hpw ⊢
     iterate 7 (refine DP hpk ha rfl ?_; clear ha a; intro a ha)
     refine DL hpk ha rfl (fun w hc => hc.cell (hcw.now)) hC ?_; clear ha a; intro a ha
     refine D1 rfl (st_set ha rfl (ex_load1 ha Tryz.underlying108 rfl (hpw)) rfl ?_); clear ha a; intro a ha
     refine ⟨fun _ => hC, ?_⟩
     refine D1 rfl (st_set ha rfl (ex_indexAddr ha Tryz.underlying108 Ty.t133 (by omega)) rfl ?_); clear ha a; intro a ha
     refine ⟨fun _ => hC, ?_⟩
     refine D1 rfl (st_set ha rfl (ex_fieldAddr (k := 1) ha Tryz.underlying133 rfl Ty.t3 rfl) rfl ?_); clear ha a; intro a ha
     refine ⟨fun _ => hC, ?_⟩
     refine D1 rfl (st_set ha rfl (ex_load1 ha Tryz.underlying3 rfl (hcw.pe i _ (peK_at hil) 1 _ rfl)) rfl ?_); clear ha a; intro a ha
     refine ⟨fun _ => hC, ?_⟩
     refine DQ hpk ha rfl rfl (fun w => ex_subI ha (by omega) (by omega)) ?_; clear ha a; intro a ha
     refine DP hpk ha rfl ?_; clear ha a; intro a ha
     refine DD <| TN ?_
     refine WI ha (fun hc2 => ?_) (fun hc2 => ?_)
     ·
      have hlt : lateP k1 i := by rw [lateP]; omega
      rw [find_at hno hi (decide_eq_true hlt)] at hq2
      refine WS <| WR ?_
      refine S1 ha ?_; clear ha; (try clear a); intro a ha
      refine S1 ha ?_; clear ha a; intro a ha
      refine SK (st_set ha rfl (ex_build ha Ty.b144 Ty.t144 rfl) rfl ?_); clear ha a; intro a ha
      refine SK (st_call ha rfl Ty.c90 rfl (core_note (e := (2, i, 0)) (hs.pick (CoreS B k1)) ⟨by simp, by simp, by show i < 8; omega, by simp, .inr rfl⟩ (by omega)) ?_); clear ha hs
      rintro e w ⟨rfl, hs⟩
      refine ⟨_, rfl, ?_⟩
      intro a ha
      refine LN <| TN <| WS ?_
      obtain ⟨A2, hs⟩ := CoreS.open hs
      refine WR ?_
      iterate 3 (refine S1 ha ?_; clear ha a; intro a ha)
      refine SK (st_store ha rfl hs Ty.t4 rfl (by simp) ?_); clear ha hs a; (try clear w); intro a w ha hs
      refine LN ?_
      replace hs := CoreS.fold hs B { k1 with ev := k1.ev ++ [(2, i, 0)], cl := true } A2
      refine TN <| WS <| WR ?_
      refine S1 ha ?_; clear ha a; intro a ha
      refine LN <| TN <| wp_ret <| BR <| TR <| TR <| BR <| TR ?_
      refine ret1 ha rfl ?_
      rw [hq2]
      exact ⟨none, 0, rfl, OwnMl.nil hs.sub⟩
     ·
      have hlt : ¬ lateP k1 i := by rw [lateP]; omega
      refine WK <| BN <| TN <| WR ?_
      refine SK (st_set ha rfl (ex_addI ha (by omega) (by omega)) rfl ?_); clear ha; (try clear a); intro a ha
      refine S1d ha ?_; clear ha a; intro a ha
      refine LN <| TN ?_
      exact ⟨(othersK k1).length - (j + 1), by omega, j + 1, ⟨rfl, by omega, fun y hy => by
        rw [List.take_succ_eq_append_getElem hjl, List.mem_append, List.mem_singleton] at hy
        rcases hy with hy | rfl
        · exact hno y hy
        · rw [(List.getElem?_eq_some_iff.1 hi).2]; exact decide_eq_false hlt⟩, ha.keep [0, 3, 18, 19, 20], hs⟩
    ·
     obtain rfl : j = (othersK k1).length := by omega
     rw [List.take_length] at hno
     rw [find_no hno] at hq2
     clear hno
     refine wp_exit <| TE <| TE <| blk_e <| TN <| WS <| WS <| WR ?_
     refine S1 ha ?_; clear ha; (try clear a); intro a ha
     refine SK (st_call ha rfl Ty.c108 rfl (core_others (hs.tail) hk') ?_); clear ha hs
     rintro e w ⟨ado2, co2, rfl, hs⟩
     refine ⟨_, rfl, ?_⟩
     intro a ha
     iterate 2 (refine S1 ha ?_; clear ha a; intro a ha)
     refine LN ?_
     replace hs := St.sl0 (St.allNil (f := mlo) hs) 172 3 none
     replace ha : Fr a 61 ((49, .int .i64 (0 : Nat)) :: (48, .int .i64 (othersK k1).length) :: (47, .slice ado2 (othersK k1).length co2) :: (3, .slice none 0 0) :: (0, .pointer (some ⟨B.cb, 0, none⟩)) :: []) := ha.keep [49, 48, 47, 3, 0]
     refine TN <| wp_block ?_
     refine wp_loop_ghost (fun μ a w => ∃ (j : Nat) (xs : List Mx) (ad : Option Addr) (c : Nat), (μ = (othersK k1).length - j ∧ j ≤ (othersK k1).length ∧ xs.map (·.2.2) = mailsT k1 j ∧ xs.length = j) ∧ Fr a 61 [(0, .pointer (some ⟨B.cb, 0, none⟩)), (3, .slice ad j c), (47, .slice ado2 (othersK k1).length co2), (48, .int .i64 (othersK k1).length), (49, .int .i64 j)] ∧ St W w (Sl 172 3 ad j c (rows mlC xs) :: All mlo xs :: Sl 3 1 ado2 (othersK k1).length co2 (ivn (othersK k1)) :: CoreS B k1 :: L)) ((othersK k1).length) ?_ ?_
     · exact ⟨0, [], none, 0, ⟨rfl, by omega, rfl, rfl⟩, ha.keep [0, 3, 47, 48, 49], hs⟩
     ·
      clear ha hs
      rintro μ a w ⟨j, xs, ad, c, ⟨rfl, hj, hxm, hxl⟩, ha, hs⟩
      refine WS <| WR ?_
      refine S1 ha ?_; clear ha; (try clear a); intro a ha
      refine LN <| TN <| WS ?_
      refine WI ha (fun hc3 => ?_) (fun hc3 => ?_)
      ·
       obtain ⟨i, hi⟩ : ∃ i, (othersK k1)[j]? = some i := ⟨_, List.getElem?_eq_getElem (by omega)⟩
       obtain ⟨bo, oo, rfl, hro⟩ := (hs.pick (Sl 3 1 ado2 (othersK k1).length co2 (ivn (othersK k1)))).slRd ado2 (by omega)
       have hin := (othersK_mem.1 (List.mem_of_getElem? hi)).1
       refine WK <| TN <| WS <| wp_block <| WS <| WR ?_
       refine SK (st_set ha rfl (ex_indexAddr ha Tryz.underlying63 Ty.t3 (by omega)) rfl ?_); clear ha; (try clear a); intro a ha
       rw [Nat.mul_one] at ha
       refine SL ha (hro j _ (ivn_at hi)) ?_; clear ha a; intro a ha
       refine S1 ha ?_; clear ha a; intro a ha
       refine LN <| TN <| WR ?_
       iterate 3 (refine S1 ha ?_; clear ha a; intro a ha)
       refine SK (st_call ha rfl Ty.c109 rfl (core_input (to := i) (hs.pick (CoreS B k1)) hk' hin) ?_); clear ha hs
       rintro e w ⟨ad2, c2, rfl, hs⟩
       refine ⟨_, rfl, ?_⟩
       intro a ha
       refine SK (st_buildSlice ha rfl hs Tryz.underlying65 Ty.t172 rfl rfl rfl rfl (by decide) (by decide) ?_); clear ha hs a; (try clear w); intro b57 a w ha hs ho
       clear ho
       refine SK (st_append ha rfl hs Tryz.underlying65 Ty.t172 rfl rfl hs.rdAll rfl (by simpa using mlC_one _) (by decide) (by decide) (by omega) ?_); clear ha hs a; (try clear w); intro ad58 c58 a w ha hs
       rw [show rows mlC xs ++ _ = rows mlC (xs ++ [(ad2, c2, (k1.me, i, encO (mailPk k1 i)))]) from by rw [rows_app]; rfl] at hs
       refine S1d ha ?_; clear ha a; intro a ha
       refine LN <| BN <| TN <| WR ?_
       refine SK (st_set ha rfl (ex_addI ha (by omega) (by omega)) rfl ?_); clear ha a; intro a ha
       refine S1d ha ?_; clear ha a; intro a ha
       refine LN <| TN ?_
       have hs2 := St.allPush (f := mlo) (x := (ad2, c2, (k1.me, i, encO (mailPk k1 i)))) (hs.sub (M := mlo (ad2, c2, (k1.me, i, encO (mailPk k1 i))) :: All mlo xs :: Sl 172 3 ad58 (j + 1) c58 (rows mlC (xs ++ [(ad2, c2, (k1.me, i, encO (mailPk k1 i)))])) :: Sl 3 1 (some ⟨bo, oo, none⟩) (othersK k1).length co2 (ivn (othersK k1)) :: CoreS B k1 :: L))
       exact ⟨(othersK k1).length - (j + 1), by omega, j + 1, xs ++ [(ad2, c2, (k1.me, i, encO (mailPk k1 i)))], ad58, c58, ⟨rfl, by omega, by
         have hjl : j < (othersK k1).length := by omega
         rw [List.map_append, hxm, mailsT, mailsT, List.take_succ_eq_append_getElem hjl, List.map_append, (List.getElem?_eq_some_iff.1 hi).2]; rfl, by rw [List.length_append, hxl]; rfl⟩, ha.keep [0, 3, 47, 48, 49], hs2.sub⟩
      ·
       refine wp_exit <| TE <| TE <| blk_e <| TN <| WS <| WR ?_
       refine S1 ha ?_; clear ha; (try clear a); intro a ha
       refine S1 ha ?_; clear ha a; intro a ha
       refine LN <| TN <| wp_ret ?_
       refine ret1 ha rfl ?_
       obtain rfl : j = (othersK k1).length := by omega
       rw [mailsT, List.take_length] at hxm
       have hll : ((othersK k1).map fun i => (k1.me, i, encO (mailPk k1 i))).length = (othersK k1).length := List.length_map _
       rw [hq2]
       refine ⟨ad, c, by rw [hll], ?_⟩
       rw [hll]
       exact OwnMl.close (xs := xs) hs.sub hxm hll
theorem WC.peer (h : WC k) {q : Pe} (hi : i < k.n) (hq : q.has ≤ 1000 ∧ q.frame ≤ 1000 ∧ q.sum < 4294967296) (hh : q.heard ≤ k.now) (ha : q.apart = (peK k i).apart) : WC { k with ps := k.ps.set i q } :=
  h.peSet (ev := k.ev) (cl := k.cl) hq hh h.evs (by rw [count_same (by rw [h.ps]; exact hi) ha]; exact h.evn)
theorem WC.line (h : WC k) {l : List UInt8} (hl : l.length ≤ 1000) : WC { k with ls := k.ls.set i l } :=
  { h with
    ls := by show (k.ls.set i l).length = _; rw [List.length_set]; exact h.ls
    ln := fun y hy => by
      rcases mem_set hy with hy | rfl
      · exact h.ln y hy
      · exact hl }
theorem getD_ne {ls : List (List UInt8)} {i j : Nat} {l : List UInt8} (h : i ≠ j) : (ls.set i l).getD j [] = ls.getD j [] := by
  rw [List.getD_eq_getElem?_getD, List.getElem?_set_ne h, ← List.getD_eq_getElem?_getD]
theorem CoreS.foldP (hs : St W w L) (B : CoB) (k : Ks) (A : CoA) (q1 q2 : Pe) [kk : Arr L [blk B.cb 111 (coC { k with ps := k.ps.set i q1 } B A), Sl 133 5 (some ⟨B.bp, B.op, none⟩) (k.ps.set i q1).length A.cP (rows peC (k.ps.set i q2)), Sl 38 1 A.adM k.mr.length A.cM (mrC k.mr), Sl 184 1 A.adE k.ev.length A.cE (k.ev.map evV), Qu B.qb B.lbs k.ls] R] : St W w (CoreS B { k with ps := k.ps.set i q2 } :: R) := by
  have h1 := hs.perm kk.perm
  rw [show coC { k with ps := k.ps.set i q1 } B A = coC { k with ps := k.ps.set i q2 } B A from by simp only [coC, List.length_set], show (k.ps.set i q1).length = (k.ps.set i q2).length from by simp only [List.length_set]] at h1
  exact CoreS.close (A := A) h1
theorem CoreS.foldQ (hs : St W w L) (B : CoB) (k : Ks) (A : CoA) (q2 : Pe) [kk : Arr L [blk B.cb 111 (coC k B A), Sl 133 5 (some ⟨B.bp, B.op, none⟩) k.ps.length A.cP (rows peC (k.ps.set i q2)), Sl 38 1 A.adM k.mr.length A.cM (mrC k.mr), Sl 184 1 A.adE k.ev.length A.cE (k.ev.map evV), Qu B.qb B.lbs k.ls] R] : St W w (CoreS B { k with ps := k.ps.set i q2 } :: R) := by
  have h1 := hs.perm kk.perm
  rw [show coC k B A = coC { k with ps := k.ps.set i q2 } B A from by simp only [coC, List.length_set], show k.ps.length = (k.ps.set i q2).length from by simp only [List.length_set]] at h1
  exact CoreS.close (A := A) h1
theorem recv_cl (h : k.cl = true) : recvK bs k = (6, k) := by rw [recvK, if_pos h]
theorem recv_none (h : k.cl = false) (hd : decO bs = none) : recvK bs k = (1, k) := by rw [recvK, if_neg (by rw [h]; decide), hd]
theorem recv_other (h : k.cl = false) (hd : decO bs = some p) (hx : p.to ≠ k.me ∨ (k.n : Int) ≤ p.from' ∨ p.id ≠ k.id) : recvK bs k = (1, k) := by
  rw [recvK, if_neg (by rw [h]; decide), hd]
  show (if _ then _ else _) = _
  rw [if_pos hx]
theorem recv_yes (h : k.cl = false) (hd : decO bs = some p) (hx : ¬ (p.to ≠ k.me ∨ (k.n : Int) ≤ p.from' ∨ p.id ≠ k.id)) : recvK bs k = (0, hearK k p) := by
  rw [recvK, if_neg (by rw [h]; decide), hd]
  show (if _ then _ else _) = _
  rw [if_neg hx]
set_option maxHeartbeats 2000000 in
theorem core_receive (hs : St W w (CoreS B k :: L)) (hk : WC k) (hb : bs.length ≤ 65536) (hc : bs.length ≤ c) (hp : ∀ w', St W w' L → RdB w' ad bs.length bs) :
    Calls Tryz.prog 41 #[.pointer (some ⟨B.cb, 0, none⟩), .slice ad bs.length c] w fun r w' => r = .returned (.int .i64 (recvK bs k).1) ∧ St W w' (CoreS B (recvK bs k).2 :: L) := by
  have hn := hk.n
  refine calls_enter Tryz.func41 rfl Tryz.ntmps41 (Nat.le_of_ble_eq_true rfl) ?_
  intro a ha
  replace ha : Fr a 127 [(0, _), (1, _)] := ha
  refine WS <| WR ?_
  refine S1 ha ?_; clear ha a; intro a ha
  refine LN <| TN <| WS <| WS <| WR ?_
  refine S1 ha ?_; clear ha a; intro a ha
  refine SK (st_call ha rfl Ty.c66 rfl (core_closed hs) ?_); clear ha hs
  rintro e w ⟨rfl, hs⟩
  refine ⟨_, rfl, ?_⟩
  intro a ha
  refine LN <| TN ?_
  refine WI ha (fun hc0 => ?_) (fun hc0 => ?_)
  ·
   refine WS <| WR ?_
   refine S1d ha ?_; clear ha; (try clear a); intro a ha
   refine LN <| TN <| wp_ret <| TR ?_
   refine ret1 ha rfl ?_
   exact ⟨by rw [recv_cl hc0], by rw [recv_cl hc0]; exact hs⟩
  ·
   refine WK <| TN <| WS <| WR ?_
   refine S1 ha ?_; clear ha; (try clear a); intro a ha
   refine SK (st_call ha rfl Ty.c89 rfl (packet_dec hs hb hc (fun w' hw => hp w' hw.tail)) ?_); clear ha hs
   rintro e w ⟨p, adP, cP, ok, rfl, hd, hs⟩
   refine ⟨_, rfl, ?_⟩
   intro a ha
   iterate 3 (refine S1 ha ?_; clear ha a; intro a ha)
   refine SK (st_alloc ha rfl hs Ty.t40 rfl ?_); clear ha hs a; (try clear w); intro b5 a w ha hs ho
   clear ho
   refine SK (st_storeAll ha rfl hs Ty.t40 (pkC_one p adP cP) (by rfl) ?_); clear ha hs a; (try clear w); intro a w ha hs
   refine S1 ha ?_; clear ha a; intro a ha
   refine LN <| TN <| WS <| WS ?_
   obtain ⟨A, hs⟩ := CoreS.open (hs.pick (CoreS B k))
   refine DW (m := 32) (Old w.drew) [9, 19, 29] [0, 1, 2, 3, 5, 6, 7, 8, 4, 9, 10, 11, 12, 13, 15, 16, 17, 18, 14, 19, 20, 21, 22, 23, 25, 26, 27, 28, 24, 29, 30, 31] Ty.mixed (pk_then (pk_then pk_body)) (fun hpk => ?_)
   replace hs := hs.drew
   have hC := Old.refl w.drew
   generalize w.drew = w at hs hC hpk ⊢
   iterate 3 (refine DP hpk ha rfl ?_; clear ha a; intro a ha)
   refine ha.by (s := 17) (fun hg2 ha => ?_) (fun hg2 ha => ?_)
   ·
    have hok : ok = false := by cases ok with | false => rfl | true => exact absurd rfl hg2
    have hdn : decO bs = none := by
      rcases hd with ⟨h, _⟩ | ⟨_, h, _⟩
      · rw [hok] at h; cases h
      · exact h
    refine DO (s := 17) hpk ha rfl ?_; clear ha; (try clear a); intro a ha
    iterate 4 (refine DO (s := 17) hpk ha rfl ?_; clear ha a; intro a ha)
    iterate 2 (refine DOH (s := 17) hpk ha rfl hC ?_; clear ha a; intro a ha)
    refine DO (s := 17) hpk ha rfl ?_; clear ha a; intro a ha
    refine DT hpk ha rfl ?_; clear ha a; intro a ha
    refine DP hpk ha rfl ?_; clear ha a; intro a ha
    iterate 5 (refine DO (s := 27) hpk ha rfl ?_; clear ha a; intro a ha)
    iterate 2 (refine DOH (s := 27) hpk ha rfl hC ?_; clear ha a; intro a ha)
    refine DO (s := 27) hpk ha rfl ?_; clear ha a; intro a ha
    refine DT hpk ha rfl ?_; clear ha a; intro a ha
    refine DP hpk ha rfl ?_; clear ha a; intro a ha
    iterate 5 (refine DO (s := 37) hpk ha rfl ?_; clear ha a; intro a ha)
    iterate 2 (refine DOH (s := 37) hpk ha rfl hC ?_; clear ha a; intro a ha)
    refine DO (s := 37) hpk ha rfl ?_; clear ha a; intro a ha
    refine DT hpk ha rfl ?_; clear ha a; intro a ha
    refine DD <| TN <| WTr ha <| WS <| WR ?_
    refine S1d ha ?_; clear ha a; intro a ha
    refine LN <| TN <| wp_ret <| TR ?_
    refine ret1 ha rfl ?_
    rw [recv_none hc0 hdn]; exact ⟨rfl, (CoreS.fold hs B k A).sub⟩
   ·
    have hok : ok = true := by cases ok with | true => rfl | false => exact absurd hg2 (by decide)
    have hds : decO bs = some p := by
      rcases hd with ⟨_, h⟩ | ⟨h, _⟩
      · exact h
      · rw [hok] at h; cases h
    obtain ⟨hmay, hps, _⟩ := decO_is hds
    have hfr0 := hmay.1
    refine DPg (s := 17) hpk ha rfl ?_; clear ha; (try clear a); intro a ha
    iterate 4 (refine DPg (s := 17) hpk ha rfl ?_; clear ha a; intro a ha)
    refine DH hpk ha rfl (wgT ha rfl (s := 17)) (fun w hc => ex_load1 ha Tryz.underlying3 rfl (hc.cell (hs.rd1 rfl))) hC ?_; clear ha a; intro a ha
    refine D1 rfl (st_set ha (wgT ha rfl (s := 17)) (ex_load1 ha Tryz.underlying3 rfl (hs.rd1 rfl)) rfl ?_); clear ha a; intro a ha
    refine ⟨fun _ => hC, ?_⟩
    refine DPg (s := 17) hpk ha rfl ?_; clear ha a; intro a ha
    refine DF hpk ha rfl ?_; clear ha a; intro a ha
    refine DP hpk ha rfl ?_; clear ha a; intro a ha
    refine ha.by (s := 27) (fun hg12 ha => ?_) (fun hg12 ha => ?_)
    ·
     refine DO (s := 27) hpk ha rfl ?_; clear ha; (try clear a); intro a ha
     iterate 4 (refine DO (s := 27) hpk ha rfl ?_; clear ha a; intro a ha)
     iterate 2 (refine DOH (s := 27) hpk ha rfl hC ?_; clear ha a; intro a ha)
     refine DO (s := 27) hpk ha rfl ?_; clear ha a; intro a ha
     refine DT hpk ha rfl ?_; clear ha a; intro a ha
     refine DP hpk ha rfl ?_; clear ha a; intro a ha
     iterate 5 (refine DO (s := 37) hpk ha rfl ?_; clear ha a; intro a ha)
     iterate 2 (refine DOH (s := 37) hpk ha rfl hC ?_; clear ha a; intro a ha)
     refine DO (s := 37) hpk ha rfl ?_; clear ha a; intro a ha
     refine DT hpk ha rfl ?_; clear ha a; intro a ha
     refine DD <| TN <| WTr ha <| WS <| WR ?_
     refine S1d ha ?_; clear ha a; intro a ha
     refine LN <| TN <| wp_ret <| TR ?_
     refine ret1 ha rfl ?_
     rw [recv_other hc0 hds (.inl hg12)]; exact ⟨rfl, (CoreS.fold hs B k A).sub⟩
    ·
     refine DPg (s := 27) hpk ha rfl ?_; clear ha; (try clear a); intro a ha
     iterate 4 (refine DPg (s := 27) hpk ha rfl ?_; clear ha a; intro a ha)
     refine DH hpk ha rfl (wgT ha rfl (s := 27)) (fun w hc => ex_load1 ha Tryz.underlying3 rfl (hc.cell (hs.rd1 rfl))) hC ?_; clear ha a; intro a ha
     refine D1 rfl (st_set ha (wgT ha rfl (s := 27)) (ex_load1 ha Tryz.underlying3 rfl (hs.rd1 rfl)) rfl ?_); clear ha a; intro a ha
     refine ⟨fun _ => hC, ?_⟩
     refine DPg (s := 27) hpk ha rfl ?_; clear ha a; intro a ha
     refine DF hpk ha rfl ?_; clear ha a; intro a ha
     refine DP hpk ha rfl ?_; clear ha a; intro a ha
     refine ha.by (s := 37) (fun hg22 ha => ?_) (fun hg22 ha => ?_)
     ·
      refine DO (s := 37) hpk ha rfl ?_; clear ha; (try clear a); intro a ha
      iterate 4 (refine DO (s := 37) hpk ha rfl ?_; clear ha a; intro a ha)
      iterate 2 (refine DOH (s := 37) hpk ha rfl hC ?_; clear ha a; intro a ha)
      refine DO (s := 37) hpk ha rfl ?_; clear ha a; intro a ha
      refine DT hpk ha rfl ?_; clear ha a; intro a ha
      refine DD <| TN <| WTr ha <| WS <| WR ?_
      refine S1d ha ?_; clear ha a; intro a ha
      refine LN <| TN <| wp_ret <| TR ?_
      refine ret1 ha rfl ?_
      rw [recv_other hc0 hds (.inr (.inl hg22))]; exact ⟨rfl, (CoreS.fold hs B k A).sub⟩
     ·
      refine DPg (s := 37) hpk ha rfl ?_; clear ha; (try clear a); intro a ha
      iterate 4 (refine DPg (s := 37) hpk ha rfl ?_; clear ha a; intro a ha)
      refine DH hpk ha rfl (wgT ha rfl (s := 37)) (fun w hc => ex_load1 ha Tryz.underlying2 rfl (hc.cell (hs.rd1 rfl))) hC ?_; clear ha a; intro a ha
      refine D1 rfl (st_set ha (wgT ha rfl (s := 37)) (ex_load1 ha Tryz.underlying2 rfl (hs.rd1 rfl)) rfl ?_); clear ha a; intro a ha
      refine ⟨fun _ => hC, ?_⟩
      refine DPg (s := 37) hpk ha rfl ?_; clear ha a; intro a ha
      refine DF hpk ha rfl ?_; clear ha a; intro a ha
      refine DD <| TN ?_
      refine WI ha (fun hc1 => ?_) (fun hc1 => ?_)
      ·
       refine WS <| WR ?_
       refine S1d ha ?_; clear ha; (try clear a); intro a ha
       refine LN <| TN <| wp_ret <| TR ?_
       refine ret1 ha rfl ?_
       rw [recv_other hc0 hds (.inr (.inr hc1))]; exact ⟨rfl, (CoreS.fold hs B k A).sub⟩
      ·
       have hno : ¬ (p.to ≠ k.me ∨ (k.n : Int) ≤ p.from' ∨ p.id ≠ k.id) := by
         rintro (h | h | h)
         · exact h hg12
         · omega
         · exact h hc1
       rw [recv_yes hc0 hds hno]
       clear hd hok
       obtain ⟨fr, hfr⟩ := Int.eq_ofNat_of_zero_le hfr0.1
       have hfn : fr < k.n := by omega
       have hfl : fr < k.ls.length := by rw [hk.ls]; exact hfn
       have hfp : fr < k.ps.length := by rw [hk.ps]; exact hfn
       have hfm : fr ≠ k.me := by have := hmay.2.2.1; omega
       have hpt := hk.pet hfn
       have hft : p.from'.toNat = fr := by omega
       refine WK <| TN <| WS ?_
       refine DW (m := 8) (Old w.drew) [5] [0, 1, 2, 4, 3, 5, 6, 7] Ty.mixed (pk_then pk_body) (fun hpk => ?_)
       replace hs := hs.drew
       have hC := Old.refl w.drew
       generalize w.drew = w at hs hC hpk ⊢
       refine DP hpk ha rfl ?_; clear ha; (try clear a); intro a ha
       iterate 3 (refine DP hpk ha rfl ?_; clear ha a; intro a ha)
       refine DL hpk ha rfl (fun w hc => hc.cell (hs.rd1 rfl)) hC ?_; clear ha a; intro a ha
       refine D1 rfl (st_set ha rfl (ex_load1 ha Tryz.underlying3 rfl (hs.rd1 rfl)) rfl ?_); clear ha a; intro a ha
       refine ⟨fun _ => hC, ?_⟩
       rw [hfr] at ha
       refine DQ hpk ha rfl rfl (fun w => ex_indexAddr ha Tryz.underlying108 Ty.t133 (by omega)) ?_; clear ha a; intro a ha
       refine DP hpk ha rfl ?_; clear ha a; intro a ha
       refine DD <| TN <| WS <| WR ?_
       iterate 4 (refine S1 ha ?_; clear ha a; intro a ha)
       refine SL ha (hs.rd1 rfl) ?_; clear ha a; intro a ha
       iterate 2 (refine S1 ha ?_; clear ha a; intro a ha)
       refine SK (st_storeS (off := B.op) (k := fr * 5 + 1) ha rfl hs Ty.t3 rfl (by omega) (by rw [rows_len peC_len]; omega) ?_); clear ha hs a; (try clear w); intro a w ha hs
       rw [rows_set1 peC_len k.ps { peK k fr with heard := k.now } hfp (by decide) (by rw [peK_el hfp]; rfl)] at hs
       have hk2 := hk.peer (q := { peK k fr with heard := k.now }) hfn ⟨hpt.1, hpt.2.2⟩ (Nat.le_refl _) rfl
       replace hs := CoreS.foldQ (i := fr) hs B k A { peK k fr with heard := k.now }
       refine LN <| TN <| WS <| WS <| WR ?_
       refine S1 ha ?_; clear ha a; intro a ha
       refine SL ha (hs.rd1 rfl) ?_; clear ha a; intro a ha
       refine S1 ha ?_; clear ha a; intro a ha
       refine LN <| TN ?_
       refine WI ha (fun hc2 => ?_) (fun hc2 => ?_)
       ·
        refine WS <| WR ?_
        refine S1 ha ?_; clear ha; (try clear a); intro a ha
        refine S1 ha ?_; clear ha a; intro a ha
        refine SL ha (hs.rd1 rfl) ?_; clear ha a; intro a ha
        rw [hfr] at ha
        refine SK (st_set ha rfl (ex_build ha Ty.b144 Ty.t144 rfl) rfl ?_); clear ha a; intro a ha
        refine SK (st_call ha rfl Ty.c90 rfl (core_note (e := (1, fr, 0)) hs ⟨by simp, by simp, by show fr < 8; omega, by simp, .inr rfl⟩ (by have := hk.evl; show k.ev.length ≤ 100; omega)) ?_); clear ha hs
        rintro e w ⟨rfl, hs⟩
        refine ⟨_, rfl, ?_⟩
        intro a ha
        refine LN <| TN <| WS ?_
        obtain ⟨A2, hs⟩ := CoreS.open hs
        refine WR ?_
        iterate 3 (refine S1 ha ?_; clear ha a; intro a ha)
        refine SK (st_store ha rfl hs Ty.t4 rfl (by simp) ?_); clear ha hs a; (try clear w); intro a w ha hs
        refine LN ?_
        replace hs := CoreS.fold hs B { k with ps := k.ps.set fr { peK k fr with heard := k.now }, ev := k.ev ++ [(1, fr, 0)], cl := true } A2
        refine TN <| WS <| WR ?_
        refine S1d ha ?_; clear ha a; intro a ha
        refine LN <| TN <| wp_ret <| TR ?_
        refine ret1 ha rfl ?_
        refine ⟨rfl, ?_⟩
        rw [hearK, if_pos hc2, hft]
        exact hs.sub
       ·
        refine WK <| TN <| WS ?_
        have hk1 : frP p.first ∧ frP p.ack ∧ frP p.frame ∧ p.press.length ≤ 32 := by
          rcases hmay.2.2.2.2 with h | h
          · exact h.2
          · exact absurd h.1 hc2
        simp only [frP] at hk1
        obtain ⟨fi, hfi⟩ := Int.eq_ofNat_of_zero_le hk1.1.1
        obtain ⟨ak, hak⟩ := Int.eq_ofNat_of_zero_le hk1.2.1.1
        obtain ⟨fm, hfm2⟩ := Int.eq_ofNat_of_zero_le hk1.2.2.1.1
        obtain ⟨D, hs, hD⟩ := CoreS.quX hs
        have hqr : ∀ w' L', St W w' (Qu B.qb B.lbs k.ls :: D :: L') → CoR w' B { k with ps := k.ps.set fr { peK k fr with heard := k.now } } := fun w' L' h => CoreS.rd (hD w' L' _ h)
        refine DW (m := 12) (fun w' => Rd w' b5 0 (pkC p adP cP) ∧ CoR w' B { k with ps := k.ps.set fr { peK k fr with heard := k.now } }) [5, 6, 8, 10] [0, 1, 2, 4, 7, 9, 3, 5, 8, 10, 6, 11] Ty.mixed (pk_then pk_body) (fun hpk => ?_)
        replace hs := hs.drew
        generalize w.drew = w at hs hpk ⊢
        have hC : Rd w b5 0 (pkC p adP cP) ∧ CoR w B { k with ps := k.ps.set fr { peK k fr with heard := k.now } } := ⟨hs.rdAll (b := b5), hqr _ _ hs⟩
        refine DP hpk ha rfl ?_; clear ha; (try clear a); intro a ha
        iterate 5 (refine DP hpk ha rfl ?_; clear ha a; intro a ha)
        refine DL hpk ha rfl (fun w hc => hc.2.cf 10 _ rfl) hC ?_; clear ha a; intro a ha
        refine DL hpk ha rfl (fun w hc => hc.1 1 _ rfl) hC ?_; clear ha a; intro a ha
        rw [hfr] at ha
        refine DL hpk ha rfl (fun w hc => hc.1 4 _ rfl) hC ?_; clear ha a; intro a ha
        rw [hfi] at ha
        refine DL hpk ha rfl (fun w hc => hc.1 5 _ rfl) hC ?_; clear ha a; intro a ha
        refine D1 rfl (st_call ha rfl Ty.c60 rfl (queue_line hs hfl) ?_); clear ha hs
        rintro e w ⟨rfl, hs⟩
        refine ⟨_, rfl, ?_⟩
        intro a ha
        replace hC : (fun w' => Rd w' b5 0 (pkC p adP cP) ∧ CoR w' B { k with ps := k.ps.set fr { peK k fr with heard := k.now } }) w := ⟨hs.rdAll (b := b5), hqr _ _ hs⟩
        refine ⟨fun _ => hC, ?_⟩
        refine D1 rfl (st_call ha rfl Ty.c91 rfl (q_put (fr := fi) (bs := p.press) hs hfl (hk.lnt hfn) (by omega) (fun w' hw => (hw.pick (Sl 5 1 adP p.press.length cP (bc p.press))).rdB adP p.press rfl rfl)) ?_); clear ha hs
        rintro e w ⟨nn, er, rfl, hs⟩
        refine ⟨_, rfl, ?_⟩
        intro a ha
        refine ⟨fun h => absurd h (by decide), ?_⟩
        refine DD ?_
        replace hs := hD _ _ _ hs
        have hk3 := hk2.line (i := fr) (l := putLn (k.ls.getD fr []) fi p.press) (putLn_len (hk.lnt hfn)).2
        have hhd : headK ({ k with ls := k.ls.set fr (putLn (k.ls.getD fr []) fi p.press), ps := k.ps.set fr { peK k fr with heard := k.now } } : Ks) = headK k := by
          show ((k.ls.set fr _).getD k.me []).length = _
          rw [getD_ne hfm]; rfl
        have hpe3 : (k.ps.set fr { peK k fr with heard := k.now })[fr]? = some { peK k fr with heard := k.now } := List.getElem?_set_self hfp
        refine TN ?_
        refine wp_seq_cut (M := fun a w => ∃ hh : Nat, hh = (if (peK k fr).has < ak ∧ ak ≤ headK k then ak else (peK k fr).has) ∧ Fr a 127 [(0, .pointer (some ⟨B.cb, 0, none⟩)), (5, .pointer (some ⟨b5, 0, none⟩)), (7, .pointer (some ⟨B.bp, B.op + fr * 5, none⟩))] ∧ St W w (CoreS B { k with ls := k.ls.set fr (putLn (k.ls.getD fr []) fi p.press), ps := k.ps.set fr { peK k fr with heard := k.now, has := hh } } :: blk b5 40 (pkC p adP cP) :: L)) ?_ ?_
        ·
         refine WS ?_
         refine DW (m := 14) (fun w' => Rd w' b5 0 (pkC p adP cP) ∧ CoR w' B { k with ls := k.ls.set fr (putLn (k.ls.getD fr []) fi p.press), ps := k.ps.set fr { peK k fr with heard := k.now } }) [5, 11] [0, 2, 3, 4, 1, 5, 6, 7, 8, 10, 9, 11, 12, 13] Ty.mixed (pk_then (pk_then pk_body)) (fun hpk => ?_)
         replace hs := hs.drew
         generalize w.drew = w at hs hpk ⊢
         have hC : Rd w b5 0 (pkC p adP cP) ∧ CoR w B { k with ls := k.ls.set fr (putLn (k.ls.getD fr []) fi p.press), ps := k.ps.set fr { peK k fr with heard := k.now } } := ⟨hs.rdAll (b := b5), CoreS.rd hs⟩
         refine DP hpk ha rfl ?_; clear ha; (try clear a); intro a ha
         iterate 3 (refine DP hpk ha rfl ?_; clear ha a; intro a ha)
         refine DL hpk ha rfl (fun w hc => hc.1 6 _ rfl) hC ?_; clear ha a; intro a ha
         refine D1 rfl (st_set ha rfl (ex_load1 ha Tryz.underlying3 rfl (hC.2.pe fr _ hpe3 0 (.int .i64 (peK k fr).has) rfl)) rfl ?_); clear ha a; intro a ha
         replace hC : (fun w' => Rd w' b5 0 (pkC p adP cP) ∧ CoR w' B { k with ls := k.ls.set fr (putLn (k.ls.getD fr []) fi p.press), ps := k.ps.set fr { peK k fr with heard := k.now } }) w := hC
         refine ⟨fun _ => hC, ?_⟩
         iterate 2 (refine DP hpk ha rfl ?_; clear ha a; intro a ha)
         refine ha.by (s := 91) (fun hg7 ha => ?_) (fun hg7 ha => ?_)
         ·
          refine DPg (s := 91) hpk ha rfl ?_; clear ha; (try clear a); intro a ha
          refine DPg (s := 91) hpk ha rfl ?_; clear ha a; intro a ha
          refine DH hpk ha rfl (wgT ha rfl (s := 91)) (fun w hc => ex_load1 ha Tryz.underlying3 rfl (hc.1 6 _ rfl)) hC ?_; clear ha a; intro a ha
          refine D1 rfl (st_call ha (wgT ha rfl (s := 91)) Ty.c26 rfl (core_head hs hk3) ?_); clear ha hs
          rintro e w ⟨rfl, hs⟩
          refine ⟨_, rfl, ?_⟩
          intro a ha
          replace hC : (fun w' => Rd w' b5 0 (pkC p adP cP) ∧ CoR w' B { k with ls := k.ls.set fr (putLn (k.ls.getD fr []) fi p.press), ps := k.ps.set fr { peK k fr with heard := k.now } }) w := ⟨hs.rdAll (b := b5), CoreS.rd hs⟩
          refine ⟨fun _ => hC, ?_⟩
          rw [hhd] at ha
          refine DPg (s := 91) hpk ha rfl ?_; clear ha a; intro a ha
          refine DT hpk ha rfl ?_; clear ha a; intro a ha
          refine DD <| TN ?_
          refine WI ha (fun hc3 => ?_) (fun hc3 => ?_)
          ·
           obtain ⟨A2, hs⟩ := CoreS.open hs
           refine WR ?_
           refine S1 ha ?_; clear ha; (try clear a); intro a ha
           refine S1 ha ?_; clear ha a; intro a ha
           refine SL ha (hs.rd1 (b := b5) rfl) ?_; clear ha a; intro a ha
           rw [hak] at ha
           iterate 2 (refine S1 ha ?_; clear ha a; intro a ha)
           refine SK (st_storeS (off := B.op) (k := fr * 5 + 0) ha rfl hs Ty.t3 rfl (by omega) (by rw [rows_len peC_len, List.length_set]; omega) ?_); clear ha hs a; (try clear w); intro a w ha hs
           rw [rows_set1 peC_len (k.ps.set fr { peK k fr with heard := k.now }) { peK k fr with heard := k.now, has := ak } (by rw [List.length_set]; exact hfp) (by decide) (by rw [List.getElem_set_self]; rfl), List.set_set] at hs
           replace hs := CoreS.foldP (i := fr) hs B { k with ls := k.ls.set fr (putLn (k.ls.getD fr []) fi p.press) } A2 { peK k fr with heard := k.now } { peK k fr with heard := k.now, has := ak }
           refine LN <| TN ?_
           exact ⟨ak, by rw [if_pos ⟨by omega, by omega⟩], ha.keep [0, 5, 7], hs.sub⟩
          ·
           refine WK <| TN ?_
           exact ⟨_, by rw [if_neg (by omega)], ha.keep [0, 5, 7], hs.sub⟩
         ·
          refine DO (s := 91) hpk ha rfl ?_; clear ha; (try clear a); intro a ha
          refine DO (s := 91) hpk ha rfl ?_; clear ha a; intro a ha
          iterate 2 (refine DOH (s := 91) hpk ha rfl hC ?_; clear ha a; intro a ha)
          refine DO (s := 91) hpk ha rfl ?_; clear ha a; intro a ha
          refine DF hpk ha rfl ?_; clear ha a; intro a ha
          refine DD <| TN <| WFa ha <| WK <| TN ?_
          exact ⟨_, by rw [if_neg (by omega)], ha.keep [0, 5, 7], hs.sub⟩
        ·
         clear ha; (try clear hs)
         intro a w hcut
         obtain ⟨hh, hhe, ha, hs⟩ := hcut
         refine wp_seq_cut (M := fun a w => ∃ q : Pe, (q = hearP k.now (headK k) p (peK k fr) ∧ WC { k with ls := k.ls.set fr (putLn (k.ls.getD fr []) fi p.press), ps := k.ps.set fr q }) ∧ Fr a 127 [(0, .pointer (some ⟨B.cb, 0, none⟩))] ∧ St W w (CoreS B { k with ls := k.ls.set fr (putLn (k.ls.getD fr []) fi p.press), ps := k.ps.set fr q } :: blk b5 40 (pkC p adP cP) :: L)) ?_ ?_
         ·
          refine WS ?_
          have hpe4 : (k.ps.set fr { peK k fr with heard := k.now, has := hh })[fr]? = some { peK k fr with heard := k.now, has := hh } := List.getElem?_set_self hfp
          have hcr : CoR w.drew B { k with ls := k.ls.set fr (putLn (k.ls.getD fr []) fi p.press), ps := k.ps.set fr { peK k fr with heard := k.now, has := hh } } := CoreS.rd hs.drew
          have hak2 : p.ack.toNat = ak := by omega
          have hfm3 : p.frame.toNat = fm := by omega
          have hP : hearP k.now (headK k) p (peK k fr) = (if 0 < p.frame ∧ ((peK k fr).frame : Int) ≤ p.frame then { peK k fr with heard := k.now, has := hh, frame := fm, sum := p.sum } else { peK k fr with heard := k.now, has := hh }) := by
            rw [hearP, hak2, hfm3, hhe]
          have hhb : hh ≤ 1000 := by rw [hhe]; split <;> omega
          refine DW (m := 12) (Old w.drew) [9] [0, 1, 2, 3, 4, 6, 7, 8, 5, 9, 10, 11] Ty.mixed (pk_then (pk_then pk_body)) (fun hpk => ?_)
          replace hs := hs.drew
          have hC := Old.refl w.drew
          generalize w.drew = w at hs hC hpk hcr ⊢
          refine DP hpk ha rfl ?_; clear ha; (try clear a); intro a ha
          refine D1 rfl (st_set ha rfl (ex_load1 ha Tryz.underlying3 rfl (hs.rd1 (b := b5) rfl)) rfl ?_); clear ha a; intro a ha
          refine ⟨fun h => absurd h (by decide), ?_⟩
          iterate 2 (refine DP hpk ha rfl ?_; clear ha a; intro a ha)
          refine ha.by (s := 106) (fun hg3 ha => ?_) (fun hg3 ha => ?_)
          ·
           refine DPg (s := 106) hpk ha rfl ?_; clear ha; (try clear a); intro a ha
           iterate 3 (refine DPg (s := 106) hpk ha rfl ?_; clear ha a; intro a ha)
           refine DH hpk ha rfl (wgT ha rfl (s := 106)) (fun w hc => ex_load1 ha Tryz.underlying3 rfl (hc.cell (hs.rd1 (b := b5) rfl))) hC ?_; clear ha a; intro a ha
           refine D1 rfl (st_set ha (wgT ha rfl (s := 106)) (ex_load1 ha Tryz.underlying3 rfl (hcr.pe fr _ hpe4 2 (.int .i64 (peK k fr).frame) rfl)) rfl ?_); clear ha a; intro a ha
           refine ⟨fun _ => hC, ?_⟩
           refine DPg (s := 106) hpk ha rfl ?_; clear ha a; intro a ha
           refine DT hpk ha rfl ?_; clear ha a; intro a ha
           refine DD <| TN ?_
           refine WI ha (fun hc4 => ?_) (fun hc4 => ?_)
           ·
            obtain ⟨A3, hs⟩ := CoreS.open hs
            refine DW (m := 12) (fun w' => Rd w' b5 0 (pkC p adP cP)) [5, 8] [0, 1, 2, 4, 3, 6, 7, 5, 8, 9, 10, 11] Ty.mixed (pk_then pk_body) (fun hpk => ?_)
            replace hs := hs.drew
            generalize w.drew = w at hs hpk ⊢
            have hC : Rd w b5 0 (pkC p adP cP) := hs.rdAll (b := b5)
            refine DP hpk ha rfl ?_; clear ha; (try clear a); intro a ha
            iterate 3 (refine DP hpk ha rfl ?_; clear ha a; intro a ha)
            refine DL hpk ha rfl (fun w hc => hc 7 _ rfl) hC ?_; clear ha a; intro a ha
            rw [hfm2] at ha
            iterate 2 (refine DP hpk ha rfl ?_; clear ha a; intro a ha)
            refine DL hpk ha rfl (fun w hc => hc 8 _ rfl) hC ?_; clear ha a; intro a ha
            refine D1 rfl (st_storeS (off := B.op) (k := fr * 5 + 2) ha rfl hs Ty.t3 rfl (by omega) (by rw [rows_len peC_len, List.length_set]; omega) ?_); clear ha hs a; (try clear w); intro a w ha hs
            replace hC : (fun w' => Rd w' b5 0 (pkC p adP cP)) w := hs.rdAll (b := b5)
            refine ⟨fun _ => hC, ?_⟩
            rw [rows_set1 peC_len (k.ps.set fr { peK k fr with heard := k.now, has := hh }) { peK k fr with heard := k.now, has := hh, frame := fm } (by rw [List.length_set]; exact hfp) (by decide) (by rw [List.getElem_set_self]; rfl), List.set_set] at hs
            iterate 2 (refine DP hpk ha rfl ?_; clear ha a; intro a ha)
            refine D1 rfl (st_storeS (off := B.op) (k := fr * 5 + 3) ha rfl hs Ty.t38 rfl (by omega) (by rw [rows_len peC_len, List.length_set]; omega) ?_); clear ha hs a; (try clear w); intro a w ha hs
            refine ⟨fun h => absurd h (by decide), ?_⟩
            rw [rows_set1 peC_len (k.ps.set fr { peK k fr with heard := k.now, has := hh, frame := fm }) { peK k fr with heard := k.now, has := hh, frame := fm, sum := p.sum } (by rw [List.length_set]; exact hfp) (by decide) (by rw [List.getElem_set_self]; rfl), List.set_set] at hs
            replace hs := CoreS.foldP (i := fr) hs B { k with ls := k.ls.set fr (putLn (k.ls.getD fr []) fi p.press) } A3 { peK k fr with heard := k.now, has := hh } { peK k fr with heard := k.now, has := hh, frame := fm, sum := p.sum }
            refine DD <| TN ?_
            exact ⟨_, ⟨by rw [hP, if_pos (by omega)], (hk.peer (q := { peK k fr with heard := k.now, has := hh, frame := fm, sum := p.sum }) hfn ⟨hhb, by show fm ≤ 1000; omega, hps⟩ (Nat.le_refl _) rfl).line (putLn_len (hk.lnt hfn)).2⟩, ha.keep [0], hs.sub⟩
           ·
            refine WK <| TN ?_
            exact ⟨_, ⟨by rw [hP, if_neg (by omega)], (hk.peer (q := { peK k fr with heard := k.now, has := hh }) hfn ⟨hhb, hpt.2.2⟩ (Nat.le_refl _) rfl).line (putLn_len (hk.lnt hfn)).2⟩, ha.keep [0], hs⟩
          ·
           refine DO (s := 106) hpk ha rfl ?_; clear ha; (try clear a); intro a ha
           iterate 3 (refine DO (s := 106) hpk ha rfl ?_; clear ha a; intro a ha)
           iterate 2 (refine DOH (s := 106) hpk ha rfl hC ?_; clear ha a; intro a ha)
           refine DO (s := 106) hpk ha rfl ?_; clear ha a; intro a ha
           refine DF hpk ha rfl ?_; clear ha a; intro a ha
           refine DD <| TN <| WFa ha <| WK <| TN ?_
           exact ⟨_, ⟨by rw [hP, if_neg (by omega)], (hk.peer (q := { peK k fr with heard := k.now, has := hh }) hfn ⟨hhb, hpt.2.2⟩ (Nat.le_refl _) rfl).line (putLn_len (hk.lnt hfn)).2⟩, ha.keep [0], hs⟩
         ·
          clear ha; (try clear hs)
          intro a w hcut
          obtain ⟨q, ⟨hqe, hk4⟩, ha, hs⟩ := hcut
          refine WS <| WR ?_
          refine S1 ha ?_; clear ha; (try clear a); intro a ha
          refine SK (st_call ha rfl Ty.c92 rfl (core_hold hs hk4) ?_); clear ha hs
          rintro e w ⟨rfl, hs⟩
          refine ⟨_, rfl, ?_⟩
          intro a ha
          refine LN <| TN <| WS <| WR ?_
          refine S1 ha ?_; clear ha a; intro a ha
          refine LN <| TN <| wp_ret ?_
          refine ret1 ha rfl ?_
          refine ⟨rfl, ?_⟩
          have hfi2 : p.first.toNat = fi := by omega
          rw [hearK, if_neg hc2, hft, hfi2, ← hqe]
          exact hs.sub
end
end Go.Proofs.YtagpkhbkdbaigaaGreat

