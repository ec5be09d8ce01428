/- core.others, mail, input, Tick, Quit. -/
import Derived.Test.YtagpkhbkdbaigaaGreatCore2
import Derived.Test.YtagpkhbkdbaigaaGreatPkt4
namespace Go.Proofs.YtagpkhbkdbaigaaGreat
open Go.RowKit
set_option linter.unusedVariables false
set_option linter.unusedSimpArgs false
set_option maxRecDepth 10000
set_option synthInstance.maxSize 4000
set_option synthInstance.maxHeartbeats 400000

def ivn (l : List Nat) : List Value := l.map fun i : Nat => Value.int .i64 (i : Int)
theorem ivn_len (l : List Nat) : (ivn l).length = l.length := by simp [ivn]
theorem ivn_at {l : List Nat} {i j : Nat} (h : l[i]? = some j) : (ivn l)[i]? = some (.int .i64 (j : Int)) := by rw [ivn, List.getElem?_map, h]; rfl
def othN (k : Ks) (i : Nat) : List Nat := (List.range i).filter (· ≠ k.me)
theorem othN_succ (k : Ks) (i : Nat) : othN k (i + 1) = if i = k.me then othN k i else othN k i ++ [i] := by
  rw [othN, List.range_succ, List.filter_append]
  by_cases h : i = k.me
  · rw [if_pos h]; simp [h, othN]
  · rw [if_neg h]; simp [h, othN]
theorem othN_le (k : Ks) : ∀ i, (othN k i).length ≤ i := fun i => by
  have := List.length_filter_le (fun x => decide (x ≠ k.me)) (List.range i)
  rw [List.length_range] at this
  exact this
/-! Mail. -/
abbrev Mx := Option Addr × Nat × Ml
def mlC (x : Mx) : List Value := [.int .i64 x.2.2.1, .int .i64 x.2.2.2.1, .slice x.1 x.2.2.2.2.length x.2.1]
theorem mlC_len (x : Mx) : (mlC x).length = 3 := rfl
theorem mlC_one (x : Mx) : ∀ v ∈ mlC x, v.oneCell' = true := by
  intro v hv
  simp [mlC] at hv
  rcases hv with rfl | rfl | rfl <;> rfl
def mlo (x : Mx) : SP := Sl 5 1 x.1 x.2.2.2.2.length x.2.1 (bc x.2.2.2.2)
/-- Mails of one's own, of type e. -/
def OwnMl (e : TypeId) (ad : Option Addr) (n c : Nat) (ms : List Ml) : SP := fun h => ∃ xs : List Mx, (xs.map (·.2.2) = ms ∧ ms.length = n) ∧ sepL [Sl e 3 ad n c (rows mlC xs), All mlo xs] h
section
variable {W w : World} {L L' R : List SP} {n c m i e to : Nat} {ad adP : Option Addr} {k : Ks} {A : CoA} {B : CoB} {x : UInt8} {ms : List Ml} {p : Pk}
theorem OwnMl.open (hs : St W w (OwnMl e ad n c ms :: L)) : ∃ xs : List Mx, xs.map (·.2.2) = ms ∧ ms.length = n ∧ St W w (Sl e 3 ad n c (rows mlC xs) :: All mlo xs :: L) := by
  obtain ⟨xs, ⟨h1, h2⟩, hs⟩ := hs.exi (ι := List Mx) (p := fun xs => xs.map (·.2.2) = ms ∧ ms.length = n) (B := fun xs h => sepL [Sl e 3 ad n c (rows mlC xs), All mlo xs] h) fun _ ⟨xs, h1, h2⟩ => ⟨xs, h1, h2⟩
  exact ⟨xs, h1, h2, hs.open (M := [_, _]) fun _ h => h⟩
theorem OwnMl.close {xs : List Mx} (hs : St W w (Sl e 3 ad n c (rows mlC xs) :: All mlo xs :: L)) (h1 : xs.map (·.2.2) = ms) (h2 : ms.length = n) : St W w (OwnMl e ad n c ms :: L) :=
  St.shut (M := [_, _]) hs fun _ h => ⟨xs, ⟨h1, h2⟩, h⟩
theorem OwnMl.nil (hs : St W w L) : St W w (OwnMl e none 0 0 [] :: L) := OwnMl.close (xs := []) (St.sl0 (St.allNil hs) e 3 none) rfl rfl
theorem core_others (hs : St W w (CoreS B k :: L)) (hk : WC k) : Calls Tryz.prog 108 #[.pointer (some ⟨B.cb, 0, none⟩)] w fun r w' => ∃ ad c, r = .returned (.slice ad (othersK k).length c) ∧ St W w' (Sl 3 1 ad (othersK k).length c (ivn (othersK k)) :: CoreS B k :: L) := by
  have hps := hk.ps
  have hn := hk.n
  obtain ⟨A, hs⟩ := CoreS.open hs
  refine calls_enter Tryz.func108 rfl Tryz.ntmps108 (Nat.le_of_ble_eq_true rfl) ?_
  intro a ha
  replace ha : Fr a 26 [(0, _)] := ha
  refine WS <| WR ?_
  refine S1 ha ?_; clear ha a; intro a ha
  refine LN <| TN <| WS <| WR ?_
  refine S1 ha ?_; clear ha a; intro a ha
  refine LN <| TN <| WS <| WS <| WR ?_
  iterate 3 (refine S1 ha ?_; clear ha a; intro a ha)
  refine SL ha (hs.rd1 rfl) ?_; clear ha a; intro a ha
  iterate 2 (refine S1 ha ?_; clear ha a; intro a ha)
  refine LN ?_
  rw [hps] at ha
  replace hs := CoreS.close hs
  replace hs := hs.sl0 3 1 none
  refine TN <| wp_block ?_
  refine wp_loop_ghost (fun μ a w => ∃ (i : Nat) (ad : Option Addr) (c : Nat), (μ = k.n - i ∧ i ≤ k.n) ∧ Fr a 26 [(0, .pointer (some ⟨B.cb, 0, none⟩)), (3, .slice ad (othN k i).length c), (9, .int .i64 k.n), (10, .int .i64 i)] ∧ St W w (Sl 3 1 ad (othN k i).length c (ivn (othN k i)) :: CoreS B k :: L)) (k.n) ?_ ?_
  · exact ⟨0, none, 0, ⟨rfl, by omega⟩, ha.keep [0, 3, 9, 10], hs⟩
  ·
   clear ha hs
   rintro μ a w ⟨i, ad, c, ⟨rfl, hi⟩, ha, hs⟩
   refine WS <| WR ?_
   refine S1 ha ?_; clear ha; (try clear a); intro a ha
   refine LN <| TN <| WS ?_
   refine WI ha (fun hc0 => ?_) (fun hc0 => ?_)
   ·
    have hol := othN_le k i
    have hsu := othN_succ k i
    refine WK <| TN <| WS <| wp_block <| WS <| WR ?_
    refine S1 ha ?_; clear ha; (try clear a); intro a ha
    refine S1 ha ?_; clear ha a; intro a ha
    refine LN <| TN <| WS <| WR ?_
    iterate 5 (refine S1 ha ?_; clear ha a; intro a ha)
    refine SL ha (((CoreS.rd hs.tail).cf 1 _ rfl)) ?_; clear ha a; intro a ha
    refine S1 ha ?_; clear ha a; intro a ha
    refine LN <| TN ?_
    refine WI ha (fun hc1 => ?_) (fun hc1 => ?_)
    ·
     rw [if_neg (by omega)] at hsu
     refine WR ?_
     refine S1 ha ?_; clear ha; (try clear a); intro a ha
     refine S1 ha ?_; clear ha a; intro a ha
     refine SK (st_buildSlice ha rfl hs Tryz.underlying63 Ty.t3 rfl rfl rfl rfl (by decide) (by decide) ?_); clear ha hs a; (try clear w); intro b22 a w ha hs ho
     clear ho
     refine SK (st_append ha rfl hs Tryz.underlying63 Ty.t3 rfl rfl hs.rdAll rfl (by simp [Value.oneCell']) (by decide) (by decide) (by omega) ?_); clear ha hs a; (try clear w); intro ad23 c23 a w ha hs
     rw [show ivn (othN k i) ++ _ = ivn (othN k (i + 1)) from by rw [hsu, ivn, ivn, List.map_append]; rfl, show (othN k i).length + 1 = (othN k (i + 1)).length from by rw [hsu, List.length_append]; rfl] at hs
     rw [show (othN k i).length + 1 = (othN k (i + 1)).length from by rw [hsu, List.length_append]; rfl] at ha
     refine S1d ha ?_; clear ha a; intro a ha
     refine LN <| BN <| TN <| WR ?_
     refine SK (st_set ha rfl (ex_addI ha (by omega) (by omega)) rfl ?_); clear ha a; intro a ha
     refine S1d ha ?_; clear ha a; intro a ha
     refine LN <| TN ?_
     exact ⟨k.n - (i + 1), by omega, i + 1, ad23, c23, ⟨rfl, by omega⟩, ha.keep [0, 3, 9, 10], hs.sub⟩
    ·
     rw [if_pos (by omega)] at hsu
     refine WK <| BN <| TN <| WR ?_
     refine SK (st_set ha rfl (ex_addI ha (by omega) (by omega)) rfl ?_); clear ha; (try clear a); intro a ha
     refine S1d ha ?_; clear ha a; intro a ha
     refine LN <| TN ?_
     exact ⟨k.n - (i + 1), by omega, i + 1, ad, c, ⟨rfl, by omega⟩, by rw [hsu]; exact ha.keep [0, 3, 9, 10], by rw [hsu]; exact hs⟩
   ·
    refine wp_exit <| TE <| TE <| blk_e <| TN <| WS <| WR ?_
    refine S1 ha ?_; clear ha; (try clear a); intro a ha
    refine S1 ha ?_; clear ha a; intro a ha
    refine LN <| TN <| wp_ret ?_
    refine ret1 ha rfl ?_
    obtain rfl : i = k.n := by omega
    exact ⟨ad, c, rfl, hs⟩
def sent (k : Ks) (to : Nat) (p : Pk) : Pk := { p with from' := k.me, to := to, id := k.id }
theorem core_mail (hs : St W w (CoreS B k :: L)) (hsum : p.sum < 4294967296) (hp : ∀ w', St W w' (CoreS B k :: L) → RdB w' adP p.press.length p.press) :
    Calls Tryz.prog 110 #[.pointer (some ⟨B.cb, 0, none⟩), .agg (pkC p adP c).toArray, .int .i64 to] w fun r w' => ∃ ad' c', r = .returned (.agg (mlC (ad', c', (k.me, to, encO (sent k to p)))).toArray) ∧ St W w' (mlo (ad', c', (k.me, to, encO (sent k to p))) :: CoreS B k :: L) := by
  refine calls_enter Tryz.func110 rfl Tryz.ntmps110 (Nat.le_of_ble_eq_true rfl) ?_
  intro a ha
  replace ha : Fr a 28 [(0, _), (1, _), (2, _)] := ha
  refine WS <| WR ?_
  refine SK (st_box ha rfl hs rfl ?_); clear ha hs a; (try clear w); intro b4 a w ha hs ho
  clear ho
  simp only [pkC] at hs
  refine SK (st_alloc ha rfl hs Ty.t172 rfl ?_); clear ha hs a; (try clear w); intro b6 a w ha hs ho
  clear ho
  refine LN <| TN <| WS ?_
  refine DW (m := 17) (fun w' => CoR w' B k) [10, 12, 13, 14] [0, 1, 2, 3, 5, 6, 7, 8, 9, 4, 11, 10, 12, 13, 14, 15, 16] Ty.mixed (pk_then pk_body) (fun hpk => ?_)
  replace hs := hs.drew
  generalize w.drew = w at hs hpk ⊢
  have hC : CoR w B k := CoreS.rd (hs.pick (CoreS B k))
  iterate 9 (refine DP hpk ha rfl ?_; clear ha a; intro a ha)
  refine DL hpk ha rfl (fun w hc => hc.cf 1 _ rfl) hC ?_; clear ha a; intro a ha
  refine DP hpk ha rfl ?_; clear ha a; intro a ha
  refine DL hpk ha rfl (fun w hc => hc.cf 2 _ rfl) hC ?_; clear ha a; intro a ha
  refine D1 rfl (st_store ha rfl hs Ty.t3 rfl (by simp) ?_); clear ha hs a; (try clear w); intro a w ha hs
  replace hC : (fun w' => CoR w' B k) w := CoreS.rd (hs.pick (CoreS B k))
  refine ⟨fun _ => hC, ?_⟩
  refine D1 rfl (st_set ha rfl (ex_fieldAddr (k := 2) ha Tryz.underlying40 rfl Ty.t3 rfl) rfl ?_); clear ha a; intro a ha
  refine ⟨fun _ => hC, ?_⟩
  refine D1 rfl (st_store ha rfl hs Ty.t3 rfl (by simp) ?_); clear ha hs a; (try clear w); intro a w ha hs
  replace hC : (fun w' => CoR w' B k) w := CoreS.rd (hs.pick (CoreS B k))
  refine ⟨fun _ => hC, ?_⟩
  refine DP hpk ha rfl ?_; clear ha a; intro a ha
  refine D1 rfl (st_store ha rfl hs Ty.t2 rfl (by simp) ?_); clear ha hs a; (try clear w); intro a w ha hs
  refine ⟨fun h => absurd h (by decide), ?_⟩
  refine DD <| TN <| WS ?_
  refine DW (m := 8) (fun w' => Rd w' b4 0 (pkC (sent k to p) adP c)) [3, 4, 5] [0, 2, 1, 3, 4, 5, 6, 7] Ty.mixed (pk_then pk_body) (fun hpk => ?_)
  replace hs := hs.drew
  generalize w.drew = w at hs hpk ⊢
  have hC : Rd w b4 0 (pkC (sent k to p) adP c) := hs.rdAll (b := b4)
  iterate 2 (refine DP hpk ha rfl ?_; clear ha a; intro a ha)
  refine DL hpk ha rfl (fun w hc => hc 1 _ rfl) hC ?_; clear ha a; intro a ha
  refine DL hpk ha rfl (fun w hc => hc 2 _ rfl) hC ?_; clear ha a; intro a ha
  refine D1 rfl (st_set ha rfl (ex_loadN ha Tryz.underlying40 rfl Ty.t40 (hC)) rfl ?_); clear ha a; intro a ha
  replace hC : (fun w' => Rd w' b4 0 (pkC (sent k to p) adP c)) w := hC
  refine ⟨fun _ => hC, ?_⟩
  refine D1 rfl (st_call ha rfl Ty.c131 rfl (packet_enc (p := sent k to p) (ad := adP) (c := c) hs hsum (fun w' hw => hp w' hw.sub)) ?_); clear ha hs
  rintro e w ⟨ad2, c2, rfl, hs⟩
  refine ⟨_, rfl, ?_⟩
  intro a ha
  replace hC : (fun w' => Rd w' b4 0 (pkC (sent k to p) adP c)) w := hs.rdAll (b := b4)
  refine ⟨fun _ => hC, ?_⟩
  refine DQ hpk ha rfl rfl (fun w => ex_build ha Ty.b172 Ty.t172 rfl) ?_; clear ha a; intro a ha
  refine D1 rfl (st_storeAll ha rfl hs Ty.t172 (by simp [Value.oneCell']) (by rfl) ?_); clear ha hs a; (try clear w); intro a w ha hs
  refine ⟨fun h => absurd h (by decide), ?_⟩
  refine DD <| TN <| wp_ret ?_
  refine retC1 ha rfl (run_loadN Tryz.underlying172 rfl Ty.t172 (hs.rdAll (b := b6))) ?_
  exact ⟨ad2, c2, rfl, hs.sub (M := Sl 5 1 ad2 (encO (sent k to p)).length c2 (bc (encO (sent k to p))) :: CoreS B k :: L)⟩
theorem lastD_get {l : List Nat} (h : 0 < l.length) : l.getD (l.length - 1) 0 = l.getLastD 0 := by
  rw [List.getLastD_eq_getLast?, List.getLast?_eq_getElem?, List.getD_eq_getElem?_getD]
theorem sent_mail (k : Ks) (to : Nat) : sent k to ⟨1, 0, 0, 0, (peK k to).has, (k.ls.getD to []).length, k.mr.length, k.mr.getLastD 0, ((k.ls.getD k.me []).drop (peK k to).has).take 32⟩ = mailPk k to := rfl
set_option maxHeartbeats 1000000 in
theorem core_input (hs : St W w (CoreS B k :: L)) (hk : WC k) (hto : to < k.n) : Calls Tryz.prog 109 #[.pointer (some ⟨B.cb, 0, none⟩), .int .i64 to] w fun r w' => ∃ ad' c', r = .returned (.agg (mlC (ad', c', (k.me, to, encO (mailPk k to)))).toArray) ∧ St W w' (mlo (ad', c', (k.me, to, encO (mailPk k to))) :: CoreS B k :: L) := by
  have hme : k.me < k.ls.length := by rw [hk.ls]; exact hk.me
  have htl : to < k.ls.length := by rw [hk.ls]; exact hto
  have htp : to < k.ps.length := by rw [hk.ps]; exact hto
  have hpt := hk.pet hto
  have hml := hk.lnt hk.me
  have hat := peK_at htp
  have hn := hk.n
  have hmr := hk.mr
  obtain ⟨A, hs⟩ := CoreS.open hs
  refine calls_enter Tryz.func109 rfl Tryz.ntmps109 (Nat.le_of_ble_eq_true rfl) ?_
  intro a ha
  replace ha : Fr a 62 [(0, _), (1, _)] := ha
  refine WS <| WR ?_
  refine SK (st_alloc ha rfl hs Ty.t172 rfl ?_); clear ha hs a; (try clear w); intro b4 a w ha hs ho
  clear ho
  refine LN <| TN ?_
  refine wp_seq_cut (M := fun a w => ∃ b5 : Nat, Fr a 62 [(0, .pointer (some ⟨B.cb, 0, none⟩)), (1, .int .i64 to), (4, .pointer (some ⟨b4, 0, none⟩)), (5, .pointer (some ⟨b5, 0, none⟩))] ∧ St W w (blk b5 40 [.int .i64 1, .int .i64 0, .int .i64 0, .int .i64 0, .int .i64 (peK k to).has, .slice none 0 0, .int .i64 (k.ls.getD to []).length, .int .i64 k.mr.length, .int .u32 0] :: blk b4 172 [.int .i64 0, .int .i64 0, .slice none 0 0] :: blk B.cb 111 (coC k B A) :: Sl 133 5 (some ⟨B.bp, B.op, none⟩) k.ps.length A.cP (rows peC k.ps) :: Sl 38 1 A.adM k.mr.length A.cM (mrC k.mr) :: Sl 184 1 A.adE k.ev.length A.cE (k.ev.map evV) :: Qu B.qb B.lbs k.ls :: L)) ?_ ?_
  ·
   refine DW (m := 23) (fun w' => Rd w' B.cb 0 (coC k B A) ∧ Rd w' B.bp (B.op + to * 5) (peC (peK k to))) [11, 13, 14, 18, 19, 21] [0, 1, 2, 4, 8, 9, 10, 12, 15, 16, 17, 3, 5, 6, 7, 11, 18, 19, 13, 14, 20, 21, 22] Ty.mixed (pk_then pk_body) (fun hpk => ?_)
   replace hs := hs.drew
   generalize w.drew = w at hs hpk ⊢
   have hC : Rd w B.cb 0 (coC k B A) ∧ Rd w B.bp (B.op + to * 5) (peC (peK k to)) := ⟨hs.rdAll (b := B.cb), rows_part peC_len (hs.slRdAt B.bp B.op (by omega)) hat⟩
   refine DP hpk ha rfl ?_; clear ha; (try clear a); intro a ha
   iterate 10 (refine DP hpk ha rfl ?_; clear ha a; intro a ha)
   refine DL hpk ha rfl (fun w hc => hc.1 11 _ rfl) hC ?_; clear ha a; intro a ha
   refine DQ hpk ha rfl rfl (fun w => ex_indexAddr ha Tryz.underlying108 Ty.t133 (by omega)) ?_; clear ha a; intro a ha
   refine DP hpk ha rfl ?_; clear ha a; intro a ha
   refine DL hpk ha rfl (fun w hc => hc.2 0 _ rfl) hC ?_; clear ha a; intro a ha
   refine DL hpk ha rfl (fun w hc => hc.1 10 _ rfl) hC ?_; clear ha a; intro a ha
   refine DL hpk ha rfl (fun w hc => hc.1 12 _ rfl) hC ?_; clear ha a; intro a ha
   refine DH hpk ha rfl rfl (fun w hc => ex_len ha Tryz.underlying109) hC ?_; clear ha a; intro a ha
   refine D2 (i := 13) (j := 21) [14, 20, 21, 22] [13, 14, 20, 22] (by kernel_rfl) rfl rfl ?_ ?_
   ·
    refine st_call ha rfl Ty.c60 rfl (queue_line (hs.pick (Qu B.qb B.lbs k.ls)) htl) ?_; clear ha hs
    rintro e w ⟨rfl, hs⟩
    refine ⟨_, rfl, ?_⟩
    intro a ha
    replace hC : (fun w' => Rd w' B.cb 0 (coC k B A) ∧ Rd w' B.bp (B.op + to * 5) (peC (peK k to))) w := ⟨hs.rdAll (b := B.cb), rows_part peC_len (hs.slRdAt B.bp B.op (by omega)) hat⟩
    refine ⟨fun _ => hC, ?_⟩
    refine D2 (i := 14) (j := 21) [20, 21, 22] [14, 20, 22] (by kernel_rfl) rfl rfl ?_ ?_
    ·
     refine st_call ha rfl Ty.c62 rfl (q_len (hs.pick (Qu B.qb B.lbs k.ls)) htl) ?_; clear ha hs
     rintro e w ⟨rfl, hs⟩
     refine ⟨_, rfl, ?_⟩
     intro a ha
     replace hC : (fun w' => Rd w' B.cb 0 (coC k B A) ∧ Rd w' B.bp (B.op + to * 5) (peC (peK k to))) w := ⟨hs.rdAll (b := B.cb), rows_part peC_len (hs.slRdAt B.bp B.op (by omega)) hat⟩
     refine ⟨fun _ => hC, ?_⟩
     refine DQ hpk ha rfl rfl (fun w => ex_build ha Ty.b40 Ty.t40 rfl) ?_; clear ha; (try clear a); intro a ha
     refine D1 rfl (st_alloc ha rfl hs Ty.t40 rfl ?_); clear ha hs a; (try clear w); intro b5 a w ha hs ho
     (try replace hC := hC.trans ho); clear ho
     replace hC : (fun w' => Rd w' B.cb 0 (coC k B A) ∧ Rd w' B.bp (B.op + to * 5) (peC (peK k to))) w := ⟨hs.rdAll (b := B.cb), rows_part peC_len (hs.slRdAt B.bp B.op (by omega)) hat⟩
     refine ⟨fun _ => hC, ?_⟩
     refine D1 rfl (st_storeAll ha rfl hs Ty.t40 (by simp [Value.oneCell']) (by rfl) ?_); clear ha hs a; (try clear w); intro a w ha hs
     refine ⟨fun h => absurd h (by decide), ?_⟩
     refine DD <| TN ?_
     exact ⟨_, ha.keep [0, 1, 4, 5], hs.sub⟩
    ·
     refine st_alloc ha rfl hs Ty.t40 rfl ?_; clear ha hs; (try clear a); (try clear w); intro b5 a w ha hs ho
     (try replace hC := hC.trans ho); clear ho
     replace hC : (fun w' => Rd w' B.cb 0 (coC k B A) ∧ Rd w' B.bp (B.op + to * 5) (peC (peK k to))) w := ⟨hs.rdAll (b := B.cb), rows_part peC_len (hs.slRdAt B.bp B.op (by omega)) hat⟩
     refine ⟨fun _ => hC, ?_⟩
     refine D1 rfl (st_call ha rfl Ty.c62 rfl (q_len (hs.pick (Qu B.qb B.lbs k.ls)) htl) ?_); clear ha hs
     rintro e w ⟨rfl, hs⟩
     refine ⟨_, rfl, ?_⟩
     intro a ha
     replace hC : (fun w' => Rd w' B.cb 0 (coC k B A) ∧ Rd w' B.bp (B.op + to * 5) (peC (peK k to))) w := ⟨hs.rdAll (b := B.cb), rows_part peC_len (hs.slRdAt B.bp B.op (by omega)) hat⟩
     refine ⟨fun _ => hC, ?_⟩
     refine DQ hpk ha rfl rfl (fun w => ex_build ha Ty.b40 Ty.t40 rfl) ?_; clear ha a; intro a ha
     refine D1 rfl (st_storeAll ha rfl hs Ty.t40 (by simp [Value.oneCell']) (by rfl) ?_); clear ha hs a; (try clear w); intro a w ha hs
     refine ⟨fun h => absurd h (by decide), ?_⟩
     refine DD <| TN ?_
     exact ⟨_, ha.keep [0, 1, 4, 5], hs.sub⟩
   ·
    refine st_alloc ha rfl hs Ty.t40 rfl ?_; clear ha hs; (try clear a); (try clear w); intro b5 a w ha hs ho
    (try replace hC := hC.trans ho); clear ho
    replace hC : (fun w' => Rd w' B.cb 0 (coC k B A) ∧ Rd w' B.bp (B.op + to * 5) (peC (peK k to))) w := ⟨hs.rdAll (b := B.cb), rows_part peC_len (hs.slRdAt B.bp B.op (by omega)) hat⟩
    refine ⟨fun _ => hC, ?_⟩
    refine D1 rfl (st_call ha rfl Ty.c60 rfl (queue_line (hs.pick (Qu B.qb B.lbs k.ls)) htl) ?_); clear ha hs
    rintro e w ⟨rfl, hs⟩
    refine ⟨_, rfl, ?_⟩
    intro a ha
    replace hC : (fun w' => Rd w' B.cb 0 (coC k B A) ∧ Rd w' B.bp (B.op + to * 5) (peC (peK k to))) w := ⟨hs.rdAll (b := B.cb), rows_part peC_len (hs.slRdAt B.bp B.op (by omega)) hat⟩
    refine ⟨fun _ => hC, ?_⟩
    refine D1 rfl (st_call ha rfl Ty.c62 rfl (q_len (hs.pick (Qu B.qb B.lbs k.ls)) htl) ?_); clear ha hs
    rintro e w ⟨rfl, hs⟩
    refine ⟨_, rfl, ?_⟩
    intro a ha
    replace hC : (fun w' => Rd w' B.cb 0 (coC k B A) ∧ Rd w' B.bp (B.op + to * 5) (peC (peK k to))) w := ⟨hs.rdAll (b := B.cb), rows_part peC_len (hs.slRdAt B.bp B.op (by omega)) hat⟩
    refine ⟨fun _ => hC, ?_⟩
    refine DQ hpk ha rfl rfl (fun w => ex_build ha Ty.b40 Ty.t40 rfl) ?_; clear ha a; intro a ha
    refine D1 rfl (st_storeAll ha rfl hs Ty.t40 (by simp [Value.oneCell']) (by rfl) ?_); clear ha hs a; (try clear w); intro a w ha hs
    refine ⟨fun h => absurd h (by decide), ?_⟩
    refine DD <| TN ?_
    exact ⟨_, ha.keep [0, 1, 4, 5], hs.sub⟩
  ·
   clear ha; (try clear hs)
   intro a w hcut
   obtain ⟨b5, ha, hs⟩ := hcut
   refine wp_seq_cut (M := fun a w => ∃ (adp : Option Addr) (cp : Nat), Fr a 62 [(0, .pointer (some ⟨B.cb, 0, none⟩)), (1, .int .i64 to), (4, .pointer (some ⟨b4, 0, none⟩)), (5, .pointer (some ⟨b5, 0, none⟩))] ∧ St W w (blk b5 40 [.int .i64 1, .int .i64 0, .int .i64 0, .int .i64 0, .int .i64 (peK k to).has, .slice adp (((k.ls.getD k.me []).drop (peK k to).has).take 32).length cp, .int .i64 (k.ls.getD to []).length, .int .i64 k.mr.length, .int .u32 0] :: Sl 5 1 adp (((k.ls.getD k.me []).drop (peK k to).has).take 32).length cp (bc (((k.ls.getD k.me []).drop (peK k to).has).take 32)) :: blk b4 172 [.int .i64 0, .int .i64 0, .slice none 0 0] :: blk B.cb 111 (coC k B A) :: Sl 133 5 (some ⟨B.bp, B.op, none⟩) k.ps.length A.cP (rows peC k.ps) :: Sl 38 1 A.adM k.mr.length A.cM (mrC k.mr) :: Sl 184 1 A.adE k.ev.length A.cE (k.ev.map evV) :: Qu B.qb B.lbs k.ls :: L)) ?_ ?_
   ·
    refine DW (m := 15) (fun w' => Rd w' B.cb 0 (coC k B A) ∧ Rd w' b5 0 [.int .i64 1, .int .i64 0, .int .i64 0, .int .i64 0, .int .i64 (peK k to).has, .slice none 0 0, .int .i64 (k.ls.getD to []).length, .int .i64 k.mr.length, .int .u32 0]) [8, 9, 11] [0, 1, 2, 4, 5, 6, 7, 10, 3, 8, 11, 9, 12, 13, 14] Ty.mixed (pk_then pk_body) (fun hpk => ?_)
    replace hs := hs.drew
    generalize w.drew = w at hs hpk ⊢
    have hC : Rd w B.cb 0 (coC k B A) ∧ Rd w b5 0 [.int .i64 1, .int .i64 0, .int .i64 0, .int .i64 0, .int .i64 (peK k to).has, .slice none 0 0, .int .i64 (k.ls.getD to []).length, .int .i64 k.mr.length, .int .u32 0] := ⟨hs.rdAll (b := B.cb), hs.rdAll (b := b5)⟩
    refine DP hpk ha rfl ?_; clear ha; (try clear a); intro a ha
    iterate 7 (refine DP hpk ha rfl ?_; clear ha a; intro a ha)
    refine DL hpk ha rfl (fun w hc => hc.1 10 _ rfl) hC ?_; clear ha a; intro a ha
    refine DL hpk ha rfl (fun w hc => hc.1 1 _ rfl) hC ?_; clear ha a; intro a ha
    refine DL hpk ha rfl (fun w hc => hc.2 4 _ rfl) hC ?_; clear ha a; intro a ha
    refine D1 rfl (st_call ha rfl Ty.c60 rfl (queue_line (hs.pick (Qu B.qb B.lbs k.ls)) hme) ?_); clear ha hs
    rintro e w ⟨rfl, hs⟩
    refine ⟨_, rfl, ?_⟩
    intro a ha
    replace hC : (fun w' => Rd w' B.cb 0 (coC k B A) ∧ Rd w' b5 0 [.int .i64 1, .int .i64 0, .int .i64 0, .int .i64 0, .int .i64 (peK k to).has, .slice none 0 0, .int .i64 (k.ls.getD to []).length, .int .i64 k.mr.length, .int .u32 0]) w := ⟨hs.rdAll (b := B.cb), hs.rdAll (b := b5)⟩
    refine ⟨fun _ => hC, ?_⟩
    refine D1 rfl (st_call ha rfl Ty.c139 rfl (q_from (k := 32) (hs.pick (Qu B.qb B.lbs k.ls)) hme hml hpt.1 (by decide)) ?_); clear ha hs
    rintro e w ⟨adp, cp, rfl, hs⟩
    refine ⟨_, rfl, ?_⟩
    intro a ha
    refine ⟨fun h => absurd h (by decide), ?_⟩
    refine DP hpk ha rfl ?_; clear ha a; intro a ha
    refine D1 rfl (st_store ha rfl hs Ty.t22 rfl (by simp) ?_); clear ha hs a; (try clear w); intro a w ha hs
    refine ⟨fun h => absurd h (by decide), ?_⟩
    refine DD <| TN ?_
    exact ⟨adp, cp, ha.keep [0, 1, 4, 5], hs.sub⟩
   ·
    clear ha; (try clear hs)
    intro a w hcut
    obtain ⟨adp, cp, ha, hs⟩ := hcut
    refine wp_seq_cut (M := fun a w => Fr a 62 [(0, .pointer (some ⟨B.cb, 0, none⟩)), (1, .int .i64 to), (4, .pointer (some ⟨b4, 0, none⟩)), (5, .pointer (some ⟨b5, 0, none⟩))] ∧ St W w (blk b5 40 [.int .i64 1, .int .i64 0, .int .i64 0, .int .i64 0, .int .i64 (peK k to).has, .slice adp (((k.ls.getD k.me []).drop (peK k to).has).take 32).length cp, .int .i64 (k.ls.getD to []).length, .int .i64 k.mr.length, .int .u32 (k.mr.getLastD 0 : Nat)] :: Sl 5 1 adp (((k.ls.getD k.me []).drop (peK k to).has).take 32).length cp (bc (((k.ls.getD k.me []).drop (peK k to).has).take 32)) :: blk b4 172 [.int .i64 0, .int .i64 0, .slice none 0 0] :: CoreS B k :: L)) ?_ ?_
    ·
     refine WS <| WR ?_
     refine S1 ha ?_; clear ha; (try clear a); intro a ha
     iterate 2 (refine S1 ha ?_; clear ha a; intro a ha)
     refine SL ha (hs.rd1 rfl) ?_; clear ha a; intro a ha
     iterate 2 (refine S1 ha ?_; clear ha a; intro a ha)
     refine LN <| TN <| WS <| WR ?_
     iterate 2 (refine S1 ha ?_; clear ha a; intro a ha)
     refine LN <| TN ?_
     refine WI ha (fun hc0 => ?_) (fun hc0 => ?_)
     ·
      obtain ⟨bm, om, hme2, hrm⟩ := (hs.pick (Sl 38 1 A.adM k.mr.length A.cM (mrC k.mr))).slRd A.adM (by omega)
      refine WR ?_
      refine S1 ha ?_; clear ha; (try clear a); intro a ha
      iterate 2 (refine S1 ha ?_; clear ha a; intro a ha)
      refine SL ha (hs.rd1 rfl) ?_; clear ha a; intro a ha
      rw [hme2] at ha
      refine S1 ha ?_; clear ha a; intro a ha
      refine SK (st_set ha rfl (ex_subI ha (by omega) (by omega)) rfl ?_); clear ha a; intro a ha
      rw [show ((k.mr.length : Nat) : Int) - 1 = ((k.mr.length - 1 : Nat) : Int) from by omega] at ha
      refine SK (st_set ha rfl (ex_indexAddr ha Tryz.underlying109 Ty.t38 (by omega)) rfl ?_); clear ha a; intro a ha
      rw [Nat.mul_one] at ha
      refine SL ha (hrm (k.mr.length - 1) _ (mrC_get (by omega))) ?_; clear ha a; intro a ha
      refine S1 ha ?_; clear ha a; intro a ha
      refine SK (st_store ha rfl hs Ty.t38 rfl (by simp) ?_); clear ha hs a; (try clear w); intro a w ha hs
      refine LN <| TN ?_
      rw [lastD_get (by omega)] at hs
      exact ⟨ha.keep [0, 1, 4, 5], (CoreS.fold hs B k A).sub⟩
     ·
      refine WK <| TN ?_
      have h0 : k.mr.getLastD 0 = 0 := by rw [List.eq_nil_of_length_eq_zero (l := k.mr) (by omega)]; rfl
      exact ⟨ha.keep [0, 1, 4, 5], by rw [h0]; exact (CoreS.fold hs B k A).sub⟩
    ·
     clear ha; (try clear hs)
     intro a w hcut
     obtain ⟨ha, hs⟩ := hcut
     refine WS <| WR ?_
     refine S1 ha ?_; clear ha; (try clear a); intro a ha
     refine SK (st_set ha rfl (ex_loadN ha Tryz.underlying40 rfl Ty.t40 (hs.rdAll (b := b5))) rfl ?_); clear ha a; intro a ha
     refine S1 ha ?_; clear ha a; intro a ha
     refine SK (st_call ha rfl Ty.c110 rfl (core_mail (p := ⟨1, 0, 0, 0, (peK k to).has, (k.ls.getD to []).length, k.mr.length, k.mr.getLastD 0, ((k.ls.getD k.me []).drop (peK k to).has).take 32⟩) (adP := adp) (c := cp) (hs.pick (CoreS B k)) (by
       show k.mr.getLastD 0 < 4294967296
       rw [List.getLastD_eq_getLast?]
       cases hl : k.mr.getLast? with
       | none => decide
       | some s => exact hk.mrs s (List.mem_of_getLast? hl)) (fun w' hw => (hw.pick (Sl 5 1 adp (((k.ls.getD k.me []).drop (peK k to).has).take 32).length cp (bc (((k.ls.getD k.me []).drop (peK k to).has).take 32)))).rdB adp _ rfl rfl)) ?_); clear ha hs
     rintro e w ⟨ad2, c2, rfl, hs⟩
     refine ⟨_, rfl, ?_⟩
     intro a ha
     rw [sent_mail] at ha hs
     refine SK (st_storeAll ha rfl hs Ty.t172 (mlC_one _) (by rfl) ?_); clear ha hs a; (try clear w); intro a w ha hs
     refine LN <| TN <| wp_ret ?_
     refine retC1 ha rfl (run_loadN Tryz.underlying172 rfl Ty.t172 (hs.rdAll (b := b4))) ?_
     exact ⟨ad2, c2, rfl, hs.sub⟩
theorem sent_quit (k : Ks) (i : Nat) : sent k i ⟨2, 0, 0, 0, 0, 0, 0, 0, []⟩ = quitPk k i := rfl
def mailsT (k : Ks) (j : Nat) : List Ml := ((othersK k).take j).map fun i => (k.me, i, encO (mailPk k i))
def mailsQ (k : Ks) (j : Nat) : List Ml := ((othersK k).take j).map fun i => (k.me, i, encO (quitPk k i))
theorem othersK_le (k : Ks) : (othersK k).length ≤ k.n := othN_le k k.n
theorem core_quit (hs : St W w (CoreS B k :: L)) (hk : WC k) : Calls Tryz.prog 64 #[.pointer (some ⟨B.cb, 0, none⟩)] w fun r w' => ∃ ad c, r = .returned (.slice ad (quitK k).1.length c) ∧ St W w' (OwnMl 172 ad (quitK k).1.length c (quitK k).1 :: CoreS B (quitK k).2 :: L) := by
  have hn := hk.n
  have hol := othersK_le k
  refine calls_enter Tryz.func64 rfl Tryz.ntmps64 (Nat.le_of_ble_eq_true rfl) ?_
  intro a ha
  replace ha : Fr a 27 [(0, _)] := ha
  refine WS <| WR ?_
  refine S1 ha ?_; clear ha a; intro a ha
  refine LN <| TN <| WS <| WS <| WR ?_
  refine S1 ha ?_; clear ha a; intro a ha
  refine SK (st_call ha rfl Ty.c66 rfl (core_closed hs) ?_); clear ha hs
  rintro e w ⟨rfl, hs⟩
  refine ⟨_, rfl, ?_⟩
  intro a ha
  refine LN <| TN ?_
  refine WI ha (fun hc0 => ?_) (fun hc0 => ?_)
  ·
   refine WS <| WR ?_
   refine S1d ha ?_; clear ha; (try clear a); intro a ha
   refine LN <| TN <| wp_ret <| TR ?_
   refine ret1 ha rfl ?_
   exact ⟨none, 0, by rw [quitK, if_pos hc0]; rfl, by rw [quitK, if_pos hc0]; exact OwnMl.nil hs⟩
  ·
   have hq : quitK k = ((othersK k).map fun i => (k.me, i, encO (quitPk k i)), { k with cl := true }) := by rw [quitK, if_neg (by rw [hc0]; decide)]
   obtain ⟨A, hs⟩ := CoreS.open hs
   refine WK <| TN <| WS <| WR ?_
   refine S1 ha ?_; clear ha; (try clear a); intro a ha
   iterate 2 (refine S1 ha ?_; clear ha a; intro a ha)
   refine SK (st_store ha rfl hs Ty.t4 rfl (by simp) ?_); clear ha hs a; (try clear w); intro a w ha hs
   refine LN ?_
   replace hs := CoreS.mk' (B := B) (L' := L) (k := { k with cl := true }) hs A
   refine TN <| WS <| WR ?_
   refine S1 ha ?_; clear ha a; intro a ha
   refine LN <| TN <| WS <| WS <| WR ?_
   refine S1 ha ?_; clear ha a; intro a ha
   refine SK (st_call ha rfl Ty.c108 rfl (core_others hs (by exact (hk.quit).1 |> fun h => by rw [hq] at h; exact h)) ?_); clear ha hs
   rintro e w ⟨ado, co, rfl, hs⟩
   refine ⟨_, rfl, ?_⟩
   intro a ha
   iterate 2 (refine S1 ha ?_; clear ha a; intro a ha)
   refine LN ?_
   replace hs := St.sl0 (St.allNil (f := mlo) hs) 172 3 none
   replace ha : Fr a 27 ((14, .int .i64 (0 : Nat)) :: (13, .int .i64 (othersK k).length) :: (12, .slice ado (othersK k).length co) :: (3, .slice none 0 0) :: (0, .pointer (some ⟨B.cb, 0, none⟩)) :: []) := ha.keep [14, 13, 12, 3, 0]
   refine TN <| wp_block ?_
   refine wp_loop_ghost (fun μ a w => ∃ (j : Nat) (xs : List Mx) (ad : Option Addr) (c : Nat), (μ = (othersK k).length - j ∧ j ≤ (othersK k).length ∧ xs.map (·.2.2) = mailsQ k j ∧ xs.length = j) ∧ Fr a 27 [(0, .pointer (some ⟨B.cb, 0, none⟩)), (3, .slice ad j c), (12, .slice ado (othersK k).length co), (13, .int .i64 (othersK k).length), (14, .int .i64 j)] ∧ St W w (Sl 172 3 ad j c (rows mlC xs) :: All mlo xs :: Sl 3 1 ado (othersK k).length co (ivn (othersK k)) :: CoreS B { k with cl := true } :: L)) ((othersK k).length) ?_ ?_
   · exact ⟨0, [], none, 0, ⟨rfl, by omega, rfl, rfl⟩, ha.keep [0, 3, 12, 13, 14], hs⟩
   ·
    clear ha hs
    rintro μ a w ⟨j, xs, ad, c, ⟨rfl, hj, hxm, hxl⟩, ha, hs⟩
    refine WS <| WR ?_
    refine S1 ha ?_; clear ha; (try clear a); intro a ha
    refine LN <| TN <| WS ?_
    refine WI ha (fun hc1 => ?_) (fun hc1 => ?_)
    ·
     obtain ⟨i, hi⟩ : ∃ i, (othersK k)[j]? = some i := ⟨_, List.getElem?_eq_getElem (by omega)⟩
     obtain ⟨bo, oo, rfl, hro⟩ := (hs.pick (Sl 3 1 ado (othersK k).length co (ivn (othersK k)))).slRd ado (by omega)
     refine WK <| TN <| WS <| wp_block <| WS <| WR ?_
     refine SK (st_set ha rfl (ex_indexAddr ha Tryz.underlying63 Ty.t3 (by omega)) rfl ?_); clear ha; (try clear a); intro a ha
     rw [Nat.mul_one] at ha
     refine SL ha (hro j _ (ivn_at hi)) ?_; clear ha a; intro a ha
     refine S1 ha ?_; clear ha a; intro a ha
     refine LN <| TN <| WR ?_
     iterate 2 (refine S1 ha ?_; clear ha a; intro a ha)
     refine SK (st_set ha rfl (ex_build ha Ty.b40 Ty.t40 rfl) rfl ?_); clear ha a; intro a ha
     refine S1 ha ?_; clear ha a; intro a ha
     refine SK (st_call ha rfl Ty.c110 rfl (core_mail (k := { k with cl := true }) (to := i) (p := ⟨2, 0, 0, 0, 0, 0, 0, 0, []⟩) (adP := none) (c := 0) (hs.pick (CoreS B { k with cl := true })) (by decide) (fun w' hw => RdB.nil)) ?_); clear ha hs
     rintro e w ⟨ad2, c2, rfl, hs⟩
     refine ⟨_, rfl, ?_⟩
     intro a ha
     rw [show sent { k with cl := true } i ⟨2, 0, 0, 0, 0, 0, 0, 0, []⟩ = quitPk k i from rfl] at ha hs
     refine SK (st_buildSlice ha rfl hs Tryz.underlying65 Ty.t172 rfl rfl rfl rfl (by decide) (by decide) ?_); clear ha hs a; (try clear w); intro b23 a w ha hs ho
     clear ho
     refine SK (st_append ha rfl hs Tryz.underlying65 Ty.t172 rfl rfl hs.rdAll rfl (by simpa using mlC_one _) (by decide) (by decide) (by omega) ?_); clear ha hs a; (try clear w); intro ad24 c24 a w ha hs
     rw [show rows mlC xs ++ _ = rows mlC (xs ++ [(ad2, c2, (k.me, i, encO (quitPk k i)))]) from by rw [rows_app]; rfl] at hs
     refine S1d ha ?_; clear ha a; intro a ha
     refine LN <| BN <| TN <| WR ?_
     refine SK (st_set ha rfl (ex_addI ha (by omega) (by omega)) rfl ?_); clear ha a; intro a ha
     refine S1d ha ?_; clear ha a; intro a ha
     refine LN <| TN ?_
     have hs2 := St.allPush (f := mlo) (x := (ad2, c2, (k.me, i, encO (quitPk k i)))) (hs.sub (M := mlo (ad2, c2, (k.me, i, encO (quitPk k i))) :: All mlo xs :: Sl 172 3 ad24 (j + 1) c24 (rows mlC (xs ++ [(ad2, c2, (k.me, i, encO (quitPk k i)))])) :: Sl 3 1 (some ⟨bo, oo, none⟩) (othersK k).length co (ivn (othersK k)) :: CoreS B { k with cl := true } :: L))
     exact ⟨(othersK k).length - (j + 1), by omega, j + 1, xs ++ [(ad2, c2, (k.me, i, encO (quitPk k i)))], ad24, c24, ⟨rfl, by omega, by
       have hjl : j < (othersK k).length := by omega
       rw [List.map_append, hxm, mailsQ, mailsQ, List.take_succ_eq_append_getElem hjl, List.map_append, (List.getElem?_eq_some_iff.1 hi).2]; rfl, by rw [List.length_append, hxl]; rfl⟩, ha.keep [0, 3, 12, 13, 14], hs2.sub⟩
    ·
     refine wp_exit <| TE <| TE <| blk_e <| TN <| WS <| WR ?_
     refine S1 ha ?_; clear ha; (try clear a); intro a ha
     refine S1 ha ?_; clear ha a; intro a ha
     refine LN <| TN <| wp_ret ?_
     refine ret1 ha rfl ?_
     obtain rfl : j = (othersK k).length := by omega
     rw [mailsQ, List.take_length] at hxm
     have hll : ((othersK k).map fun i => (k.me, i, encO (quitPk k i))).length = (othersK k).length := List.length_map _
     rw [hq]
     refine ⟨ad, c, by rw [hll], ?_⟩
     rw [hll]
     exact OwnMl.close (xs := xs) hs.sub hxm hll
end
end Go.Proofs.YtagpkhbkdbaigaaGreat

