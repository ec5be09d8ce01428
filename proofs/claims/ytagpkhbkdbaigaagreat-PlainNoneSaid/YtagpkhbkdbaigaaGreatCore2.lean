/- core.hold, Press, Mark, Events. -/
import Derived.Test.YtagpkhbkdbaigaaGreatCore
namespace Go.Proofs.YtagpkhbkdbaigaaGreat
open Go.RowKit
set_option linter.unusedVariables false
set_option linter.unusedSimpArgs false
set_option maxRecDepth 10000
set_option synthInstance.maxSize 4000
set_option synthInstance.maxHeartbeats 400000

theorem mrC_get {l : List Nat} {i : Nat} (h : i < l.length) : (mrC l)[i]? = some (.int .u32 (l.getD i 0 : Nat)) := by
  rw [mrC, List.getElem?_map, List.getElem?_eq_getElem h, List.getD_eq_getElem?_getD, List.getElem?_eq_getElem h]; rfl
theorem mrC_len (l : List Nat) : (mrC l).length = l.length := by simp [mrC]
theorem peK_at {k : Ks} {i : Nat} (h : i < k.ps.length) : k.ps[i]? = some (peK k i) := by
  rw [peK, List.getD_eq_getElem?_getD, List.getElem?_eq_getElem h]; rfl
theorem peK_el {k : Ks} {i : Nat} (h : i < k.ps.length) : k.ps[i] = peK k i := by
  rw [peK, List.getD_eq_getElem?_getD, List.getElem?_eq_getElem h]; rfl
section
variable {W w : World} {L L' R : List SP} {n c m i : Nat} {ad : Option Addr} {k : Ks} {A : CoA} {B : CoB} {x : UInt8}
theorem core_hold (hs : St W w (CoreS B k :: L)) (hk : WC k) : Calls Tryz.prog 92 #[.pointer (some ⟨B.cb, 0, none⟩)] w fun r w' => r = .returned (.tuple #[]) ∧ St W w' (CoreS B (holdK k) :: L) := by
  have hpl : k.ps.length = k.n := hk.ps
  obtain ⟨A0, hs⟩ := CoreS.open hs
  refine calls_enter Tryz.func92 rfl Tryz.ntmps92 (Nat.le_of_ble_eq_true rfl) ?_
  intro a ha
  replace ha : Fr a 71 [(0, _)] := ha
  refine WS <| WR ?_
  iterate 3 (refine S1 ha ?_; clear ha a; intro a ha)
  refine SL ha (hs.rd1 rfl) ?_; clear ha a; intro a ha
  iterate 2 (refine S1 ha ?_; clear ha a; intro a ha)
  refine LN ?_
  replace hs := CoreS.close hs
  refine TN <| wp_block ?_
  refine wp_loop_ghost (fun μ a w => ∃ (i : Nat), (μ = k.ps.length - i ∧ i ≤ k.ps.length) ∧ Fr a 71 [(0, .pointer (some ⟨B.cb, 0, none⟩)), (8, .int .i64 k.ps.length), (9, .int .i64 i)] ∧ St W w (CoreS B (holdN k i) :: L)) (k.ps.length) ?_ ?_
  · exact ⟨0, ⟨rfl, by omega⟩, ha.keep [0, 8, 9], hs⟩
  ·
   clear ha hs
   rintro μ a w ⟨i, ⟨rfl, hi⟩, ha, hs⟩
   refine WS <| WR ?_
   refine S1 ha ?_; clear ha; (try clear a); intro a ha
   refine LN <| TN <| WS ?_
   refine WI ha (fun hc0 => ?_) (fun hc0 => ?_)
   ·
    have hil : i < k.ps.length := by omega
    have hkk := hk.holdN (i := i) (by omega)
    have hkl := holdN_len k i
    have hnx : holdN k (i + 1) = hold1 (holdN k i) i := rfl
    rw [hold1] at hnx
    generalize holdN k i = kk at hs hkk hkl hnx
    rw [← hkl] at hil
    have hpt := hkk.pet (i := i) (by rw [← hkk.ps]; exact hil)
    have hat := peK_at hil
    have hi8 : i < 8 := by have := hkk.n; have := hkk.ps; omega
    obtain ⟨A, hs⟩ := CoreS.open hs
    have hrp := rows_part peC_len (hs.slRdAt B.bp B.op (by omega)) hat
    refine WK <| TN <| WS <| wp_block <| WS <| WR ?_
    refine S1 ha ?_; clear ha; (try clear a); intro a ha
    refine S1 ha ?_; clear ha a; intro a ha
    refine LN <| TN <| WS <| WR ?_
    iterate 3 (refine S1 ha ?_; clear ha a; intro a ha)
    refine SL ha (hs.rd1 rfl) ?_; clear ha a; intro a ha
    refine S1 ha ?_; clear ha a; intro a ha
    refine SK (st_set ha rfl (ex_indexAddr ha Tryz.underlying108 Ty.t133 (by omega)) rfl ?_); clear ha a; intro a ha
    refine S1 ha ?_; clear ha a; intro a ha
    refine LN <| TN <| WS <| WS ?_
    have hrp : Rd w.drew B.bp (B.op + i * 5) (peC (peK kk i)) := hrp
    have hrc : Rd w.drew B.cb 0 (coC kk B A) := hs.drew.rdAll
    refine DW (m := 41) (Old w.drew) [13, 14, 31, 35, 36, 37, 38] [0, 1, 2, 3, 4, 5, 6, 7, 8, 10, 11, 12, 9, 13, 14, 15, 16, 17, 18, 19, 20, 21, 22, 23, 24, 25, 26, 28, 29, 30, 32, 33, 34, 27, 31, 35, 36, 37, 38, 39, 40] Ty.mixed (pk_then (pk_then (pk_blk (pk_then (pk_then (pk_blk pk_body)))))) (fun hpk => ?_)
    replace hs := hs.drew
    have hC := Old.refl w.drew
    generalize w.drew = w at hs hC hpk hrp hrc ⊢
    iterate 3 (refine DP hpk ha rfl ?_; clear ha a; intro a ha)
    refine D1 rfl (st_set ha rfl (ex_load1 ha Tryz.underlying3 rfl (hrp 2 _ rfl)) rfl ?_); clear ha a; intro a ha
    refine ⟨fun h => absurd h (by decide), ?_⟩
    iterate 2 (refine DP hpk ha rfl ?_; clear ha a; intro a ha)
    refine ha.by (s := 23) (fun hg5 ha => ?_) (fun hg5 ha => ?_)
    ·
     refine DO (s := 23) hpk ha rfl ?_; clear ha; (try clear a); intro a ha
     iterate 5 (refine DO (s := 23) hpk ha rfl ?_; clear ha a; intro a ha)
     iterate 3 (refine DOH (s := 23) hpk ha rfl hC ?_; clear ha a; intro a ha)
     refine DO (s := 23) hpk ha rfl ?_; clear ha a; intro a ha
     refine DT hpk ha rfl ?_; clear ha a; intro a ha
     refine DP hpk ha rfl ?_; clear ha a; intro a ha
     iterate 4 (refine DO (s := 35) hpk ha rfl ?_; clear ha a; intro a ha)
     refine DT hpk ha rfl ?_; clear ha a; intro a ha
     refine DP hpk ha rfl ?_; clear ha a; intro a ha
     iterate 9 (refine DO (s := 41) hpk ha rfl ?_; clear ha a; intro a ha)
     iterate 6 (refine DOH (s := 41) hpk ha rfl hC ?_; clear ha a; intro a ha)
     refine DO (s := 41) hpk ha rfl ?_; clear ha a; intro a ha
     refine DT hpk ha rfl ?_; clear ha a; intro a ha
     refine DD <| TN <| WTr ha <| wp_exit <| TE <| blk_e <| TN <| WR ?_
     refine SK (st_set ha rfl (ex_addI ha (by omega) (by omega)) rfl ?_); clear ha a; intro a ha
     refine S1d ha ?_; clear ha a; intro a ha
     refine LN <| TN ?_
     rw [if_neg (fun h => by have := h.2.1; omega)] at hnx
     exact ⟨k.ps.length - (i + 1), by omega, i + 1, ⟨rfl, by omega⟩, ha.keep [0, 8, 9], by rw [hnx]; exact CoreS.close hs⟩
    ·
     refine DPg (s := 23) hpk ha rfl ?_; clear ha; (try clear a); intro a ha
     iterate 5 (refine DPg (s := 23) hpk ha rfl ?_; clear ha a; intro a ha)
     refine DH hpk ha rfl (wgT ha rfl (s := 23)) (fun w hc => ex_load1 ha Tryz.underlying3 rfl (hc.cell (hrp 2 _ rfl))) hC ?_; clear ha a; intro a ha
     refine D1 rfl (st_set ha (wgT ha rfl (s := 23)) (ex_load1 ha Tryz.underlying109 rfl (hrc 12 _ rfl)) rfl ?_); clear ha a; intro a ha
     refine ⟨fun _ => hC, ?_⟩
     refine D1 rfl (st_set ha (wgT ha rfl (s := 23)) (ex_len ha Tryz.underlying109) rfl ?_); clear ha a; intro a ha
     refine ⟨fun _ => hC, ?_⟩
     refine DPg (s := 23) hpk ha rfl ?_; clear ha a; intro a ha
     refine DF hpk ha rfl ?_; clear ha a; intro a ha
     refine DP hpk ha rfl ?_; clear ha a; intro a ha
     refine ha.by (s := 35) (fun hg17 ha => ?_) (fun hg17 ha => ?_)
     ·
      refine DO (s := 35) hpk ha rfl ?_; clear ha; (try clear a); intro a ha
      iterate 3 (refine DO (s := 35) hpk ha rfl ?_; clear ha a; intro a ha)
      refine DT hpk ha rfl ?_; clear ha a; intro a ha
      refine DP hpk ha rfl ?_; clear ha a; intro a ha
      iterate 9 (refine DO (s := 41) hpk ha rfl ?_; clear ha a; intro a ha)
      iterate 6 (refine DOH (s := 41) hpk ha rfl hC ?_; clear ha a; intro a ha)
      refine DO (s := 41) hpk ha rfl ?_; clear ha a; intro a ha
      refine DT hpk ha rfl ?_; clear ha a; intro a ha
      refine DD <| TN <| WTr ha <| wp_exit <| TE <| blk_e <| TN <| WR ?_
      refine SK (st_set ha rfl (ex_addI ha (by omega) (by omega)) rfl ?_); clear ha a; intro a ha
      refine S1d ha ?_; clear ha a; intro a ha
      refine LN <| TN ?_
      rw [if_neg (fun h => by have := h.2.2.1; omega)] at hnx
      exact ⟨k.ps.length - (i + 1), by omega, i + 1, ⟨rfl, by omega⟩, ha.keep [0, 8, 9], by rw [hnx]; exact CoreS.close hs⟩
     ·
      refine DPg (s := 35) hpk ha rfl ?_; clear ha; (try clear a); intro a ha
      iterate 2 (refine DPg (s := 35) hpk ha rfl ?_; clear ha a; intro a ha)
      refine D1 rfl (st_set ha (wgT ha rfl (s := 35)) (ex_load1 ha Tryz.underlying4 rfl (hrp 4 _ rfl)) rfl ?_); clear ha a; intro a ha
      refine ⟨fun h => absurd h (by decide), ?_⟩
      refine DF hpk ha rfl ?_; clear ha a; intro a ha
      refine DP hpk ha rfl ?_; clear ha a; intro a ha
      refine ha.by (s := 41) (fun hg23 ha => ?_) (fun hg23 ha => ?_)
      ·
       refine DO (s := 41) hpk ha rfl ?_; clear ha; (try clear a); intro a ha
       iterate 8 (refine DO (s := 41) hpk ha rfl ?_; clear ha a; intro a ha)
       iterate 6 (refine DOH (s := 41) hpk ha rfl hC ?_; clear ha a; intro a ha)
       refine DO (s := 41) hpk ha rfl ?_; clear ha a; intro a ha
       refine DT hpk ha rfl ?_; clear ha a; intro a ha
       refine DD <| TN <| WTr ha <| wp_exit <| TE <| blk_e <| TN <| WR ?_
       refine SK (st_set ha rfl (ex_addI ha (by omega) (by omega)) rfl ?_); clear ha a; intro a ha
       refine S1d ha ?_; clear ha a; intro a ha
       refine LN <| TN ?_
       rw [if_neg (fun h => by have := h.1; rw [hg23] at this; cases this)] at hnx
       exact ⟨k.ps.length - (i + 1), by omega, i + 1, ⟨rfl, by omega⟩, ha.keep [0, 8, 9], by rw [hnx]; exact CoreS.close hs⟩
      ·
       have hml : (peK kk i).frame - 1 < kk.mr.length := by omega
       obtain ⟨bm, om, hme, hrm⟩ := hs.slRd A.adM (by omega)
       have hrc2 := hrc 12 _ rfl
       rw [hme] at hrc2
       refine DPg (s := 41) hpk ha rfl ?_; clear ha; (try clear a); intro a ha
       iterate 8 (refine DPg (s := 41) hpk ha rfl ?_; clear ha a; intro a ha)
       refine DH hpk ha rfl (wgT ha rfl (s := 41)) (fun w hc => ex_load1 ha Tryz.underlying38 rfl (hc.cell (hrp 3 _ rfl))) hC ?_; clear ha a; intro a ha
       refine DH hpk ha rfl (wgT ha rfl (s := 41)) (fun w hc => ex_load1 ha Tryz.underlying109 rfl (hc.cell (hrc2))) hC ?_; clear ha a; intro a ha
       refine D1 rfl (st_set ha (wgT ha rfl (s := 41)) (ex_load1 ha Tryz.underlying3 rfl (hrp 2 _ rfl)) rfl ?_); clear ha a; intro a ha
       refine ⟨fun _ => hC, ?_⟩
       refine D1 rfl (st_set ha (wgT ha rfl (s := 41)) (ex_subI ha (by omega) (by omega)) rfl ?_); clear ha a; intro a ha
       refine ⟨fun _ => hC, ?_⟩
       rw [show (((peK kk i).frame : Nat) : Int) - 1 = (((peK kk i).frame - 1 : Nat) : Int) from by omega] at ha
       refine D1 rfl (st_set ha (wgT ha rfl (s := 41)) (ex_indexAddr ha Tryz.underlying109 Ty.t38 hml) rfl ?_); clear ha a; intro a ha
       refine ⟨fun _ => hC, ?_⟩
       rw [Nat.mul_one] at ha
       refine D1 rfl (st_set ha (wgT ha rfl (s := 41)) (ex_load1 ha Tryz.underlying38 rfl (hrm ((peK kk i).frame - 1) _ (mrC_get hml))) rfl ?_); clear ha a; intro a ha
       refine ⟨fun _ => hC, ?_⟩
       refine DPg (s := 41) hpk ha rfl ?_; clear ha a; intro a ha
       refine DF hpk ha rfl ?_; clear ha a; intro a ha
       refine DD <| TN ?_
       refine WI ha (fun hc1 => ?_) (fun hc1 => ?_)
       ·
        refine wp_exit <| TE <| blk_e <| TN <| WR ?_
        refine SK (st_set ha rfl (ex_addI ha (by omega) (by omega)) rfl ?_); clear ha; (try clear a); intro a ha
        refine S1d ha ?_; clear ha a; intro a ha
        refine LN <| TN ?_
        rw [if_neg (fun h => by have := h.2.2.2; omega)] at hnx
        exact ⟨k.ps.length - (i + 1), by omega, i + 1, ⟨rfl, by omega⟩, ha.keep [0, 8, 9], by rw [hnx]; exact CoreS.close hs⟩
       ·
        refine WK <| TN <| WS ?_
        rw [if_pos ⟨hg23, by omega, by omega, by omega⟩] at hnx
        refine WR ?_
        refine S1 ha ?_; clear ha; (try clear a); intro a ha
        iterate 2 (refine S1 ha ?_; clear ha a; intro a ha)
        refine SK (st_storeS (off := B.op) (k := i * 5 + 4) ha rfl hs Ty.t4 rfl (by omega) (by rw [rows_len peC_len]; omega) ?_); clear ha hs a; (try clear w); intro a w ha hs
        rw [rows_set1 peC_len kk.ps { peK kk i with apart := true } hil (by decide) (by rw [peK_el hil]; rfl)] at hs
        have hll : (kk.ps.set i { peK kk i with apart := true }).length = kk.ps.length := List.length_set
        rw [show coC kk B A = coC { kk with ps := kk.ps.set i { peK kk i with apart := true } } B A from by simp only [coC, hll], ← hll] at hs
        replace hs := CoreS.mk' (L' := L) (B := B) (k := { kk with ps := kk.ps.set i { peK kk i with apart := true } }) hs A
        refine LN <| TN <| WR ?_
        iterate 5 (refine S1 ha ?_; clear ha a; intro a ha)
        refine SL ha (((CoreS.rd hs).pe i { peK kk i with apart := true } (by rw [List.getElem?_set_self hil])) 2 _ rfl) ?_; clear ha a; intro a ha
        refine SK (st_set ha rfl (ex_build ha Ty.b144 Ty.t144 rfl) rfl ?_); clear ha a; intro a ha
        refine SK (st_call ha rfl Ty.c90 rfl (core_note (e := (3, i, (peK kk i).frame)) hs ⟨by simp, by simp, by have := hkk.n; have := hkk.ps; show i < 8; omega, hpt.2.2.1, .inl rfl⟩ (by have := hkk.evl; show kk.ev.length ≤ 100; omega)) ?_); clear ha hs
        rintro e w ⟨rfl, hs⟩
        refine ⟨_, rfl, ?_⟩
        intro a ha
        refine LN <| BN <| TN <| WR ?_
        refine SK (st_set ha rfl (ex_addI ha (by omega) (by omega)) rfl ?_); clear ha a; intro a ha
        refine S1d ha ?_; clear ha a; intro a ha
        refine LN <| TN ?_
        exact ⟨k.ps.length - (i + 1), by omega, i + 1, ⟨rfl, by omega⟩, ha.keep [0, 8, 9], by rw [hnx]; exact hs⟩
   ·
    refine wp_exit <| TE <| TE <| blk_e ?_
    refine end0 ha rfl ?_
    obtain rfl : i = k.ps.length := by omega
    exact ⟨rfl, hs⟩
theorem core_mark {s : Nat} (hs : St W w (CoreS B k :: L)) (hk : WC k) (hl : k.mr.length < 1000) (hss : s < 4294967296) : Calls Tryz.prog 86 #[.pointer (some ⟨B.cb, 0, none⟩), .int .u32 s] w fun r w' => r = .returned (.tuple #[]) ∧ St W w' (CoreS B (markK k s) :: L) := by
  have hkm : WC { k with mr := k.mr ++ [s] } := { hk with
      mr := by show (k.mr ++ [s]).length ≤ 1000; rw [List.length_append, List.length_singleton]; omega
      mrs := fun x hx => by
        rcases List.mem_append.1 hx with hx | hx
        · exact hk.mrs x hx
        · rw [List.mem_singleton] at hx; rw [hx]; exact hss }
  obtain ⟨A, hs⟩ := CoreS.open hs
  refine calls_enter Tryz.func86 rfl Tryz.ntmps86 (Nat.le_of_ble_eq_true rfl) ?_
  intro a ha
  replace ha : Fr a 26 [(0, _), (1, _)] := ha
  refine WS <| WS <| WR ?_
  iterate 3 (refine S1 ha ?_; clear ha a; intro a ha)
  iterate 3 (refine S1g (s := 6) ha ?_; clear ha a; intro a ha)
  refine SLg (s := 6) ha (hs.rd1 rfl) ?_; clear ha a; intro a ha
  iterate 2 (refine S1g (s := 6) ha ?_; clear ha a; intro a ha)
  refine PF ha ?_; clear ha a; intro a ha
  refine LN <| TN ?_
  rw [decide_eq_false (by omega)] at ha
  refine WFa ha <| WK <| TN <| WS <| WR ?_
  iterate 4 (refine S1 ha ?_; clear ha a; intro a ha)
  refine SL ha (hs.rd1 rfl) ?_; clear ha a; intro a ha
  refine S1 ha ?_; clear ha a; intro a ha
  refine SK (st_buildSlice ha rfl hs Tryz.underlying109 Ty.t38 rfl rfl rfl rfl (by decide) (by decide) ?_); clear ha hs a; (try clear w); intro b20 a w ha hs ho
  clear ho
  refine SK (st_append ha rfl hs Tryz.underlying109 Ty.t38 rfl rfl hs.rdAll rfl (by simp [Value.oneCell']) (by decide) (by decide) (by omega) ?_); clear ha hs a; (try clear w); intro ad21 c21 a w ha hs
  rw [show mrC k.mr ++ _ = mrC (k.mr ++ [s]) from by rw [mrC, mrC, List.map_append]; rfl, show k.mr.length + 1 = (k.mr ++ [s]).length from by simp] at hs
  rw [show k.mr.length + 1 = (k.mr ++ [s]).length from by simp] at ha
  iterate 2 (refine S1 ha ?_; clear ha a; intro a ha)
  refine SK (st_store ha rfl hs Ty.t109 rfl (by simp) ?_); clear ha hs a; (try clear w); intro a w ha hs
  refine LN ?_
  replace hs := CoreS.mk' (B := B) (L' := L) (k := { k with mr := k.mr ++ [s] }) hs { A with adM := ad21, cM := c21 }
  refine TN <| WR ?_
  refine S1 ha ?_; clear ha a; intro a ha
  refine SK (st_call ha rfl Ty.c92 rfl (core_hold hs hkm) ?_); clear ha hs
  rintro e w ⟨rfl, hs⟩
  refine ⟨_, rfl, ?_⟩
  intro a ha
  refine LN ?_
  refine end0 ha rfl ?_
  exact ⟨rfl, by rw [markK, if_pos hl]; exact hs⟩
theorem core_events (hs : St W w (CoreS B k :: L)) : Calls Tryz.prog 65 #[.pointer (some ⟨B.cb, 0, none⟩)] w fun r w' => ∃ ad c, r = .returned (.slice ad k.ev.length c) ∧ St W w' (Sl 184 1 ad k.ev.length c (k.ev.map evV) :: CoreS B { k with ev := [] } :: L) := by
  obtain ⟨A, hs⟩ := CoreS.open hs
  refine calls_enter Tryz.func65 rfl Tryz.ntmps65 (Nat.le_of_ble_eq_true rfl) ?_
  intro a ha
  replace ha : Fr a 14 [(0, _)] := ha
  refine WS <| WR ?_
  refine S1 ha ?_; clear ha a; intro a ha
  refine LN <| TN <| WS <| WS <| WR ?_
  iterate 2 (refine S1 ha ?_; clear ha a; intro a ha)
  refine LN <| TN <| WFa ha <| WK <| TN <| WS <| WR ?_
  iterate 3 (refine S1 ha ?_; clear ha a; intro a ha)
  refine SL ha (hs.rd1 rfl) ?_; clear ha a; intro a ha
  refine S1 ha ?_; clear ha a; intro a ha
  refine LN <| TN <| WS <| WR ?_
  iterate 3 (refine S1 ha ?_; clear ha a; intro a ha)
  refine SK (st_store ha rfl hs Ty.t67 rfl (by simp) ?_); clear ha hs a; (try clear w); intro a w ha hs
  refine LN <| TN <| WS <| WR ?_
  refine S1 ha ?_; clear ha a; intro a ha
  refine S1d ha ?_; clear ha a; intro a ha
  refine LN <| TN <| wp_ret ?_
  refine ret1 ha rfl ?_
  refine ⟨A.adE, A.cE, rfl, ?_⟩
  replace hs := hs.sl0 184 1 none
  refine St.perm (L := CoreS B { k with ev := [] } :: Sl 184 1 A.adE k.ev.length A.cE (k.ev.map evV) :: L) ?_ (List.Perm.swap _ _ _)
  refine CoreS.close (A := ⟨A.cP, A.adM, A.cM, none, 0⟩) ?_
  exact hs.sub (M := blk B.cb 111 [.int .i64 k.n, .int .i64 k.me, .int .i64 k.id, .int .i64 k.delay, .int .i64 k.window, .int .i64 k.guess, .int .i64 k.order, .int .i64 k.branches, .int .i64 k.workers, .int .i64 k.room, .pointer (some ⟨B.qb, 0, none⟩), .slice (some ⟨B.bp, B.op, none⟩) k.ps.length A.cP, .slice A.adM k.mr.length A.cM, .slice none 0 0, .int .i64 k.now, .bool k.cl] :: Sl 133 5 (some ⟨B.bp, B.op, none⟩) k.ps.length A.cP (rows peC k.ps) :: Sl 38 1 A.adM k.mr.length A.cM (mrC k.mr) :: Sl 184 1 none 0 0 [] :: Qu B.qb B.lbs k.ls :: Sl 184 1 A.adE k.ev.length A.cE (k.ev.map evV) :: L)
theorem core_press (hs : St W w (CoreS B k :: L)) (hk : WC k) : Calls Tryz.prog 40 #[.pointer (some ⟨B.cb, 0, none⟩), .int .u8 (x.toNat : Nat)] w fun r w' => r = .returned (.int .i64 (pressK x k).1) ∧ St W w' (CoreS B (pressK x k).2 :: L) := by
  have hme : k.me < k.ls.length := by rw [hk.ls]; exact hk.me
  have hhd := hk.headt
  have hfr : frontL k.ls ≤ headK k := hk.frontt
  refine calls_enter Tryz.func40 rfl Tryz.ntmps40 (Nat.le_of_ble_eq_true rfl) ?_
  intro a ha
  replace ha : Fr a 39 [(0, _), (1, _)] := ha
  refine WS <| WR ?_
  refine S1 ha ?_; clear ha a; intro a ha
  refine LN <| TN <| WS <| wp_block <| WS <| WR ?_
  refine S1 ha ?_; clear ha a; intro a ha
  refine SK (st_call ha rfl Ty.c66 rfl (core_closed hs) ?_); clear ha hs
  rintro e w ⟨rfl, hs⟩
  refine ⟨_, rfl, ?_⟩
  intro a ha
  refine S1 ha ?_; clear ha a; intro a ha
  refine LN <| TN ?_
  refine WI ha (fun hc0 => ?_) (fun hc0 => ?_)
  ·
   refine WS <| WR ?_
   refine S1d ha ?_; clear ha; (try clear a); intro a ha
   refine LN <| TN <| wp_ret <| BR <| TR ?_
   refine ret1 ha rfl ?_
   exact ⟨by rw [pressK, if_pos hc0], by rw [pressK, if_pos hc0]; exact hs⟩
  ·
   have hcl : ¬ k.cl = true := by rw [hc0]; decide
   refine WS <| WR ?_
   refine S1 ha ?_; clear ha; (try clear a); intro a ha
   refine SK (st_call ha rfl Ty.c26 rfl (core_head hs hk) ?_); clear ha hs
   rintro e w ⟨rfl, hs⟩
   refine ⟨_, rfl, ?_⟩
   intro a ha
   iterate 2 (refine S1 ha ?_; clear ha a; intro a ha)
   refine LN <| TN ?_
   refine WI ha (fun hc1 => ?_) (fun hc1 => ?_)
   ·
    refine WS <| WR ?_
    refine S1d ha ?_; clear ha; (try clear a); intro a ha
    refine LN <| TN <| wp_ret <| BR <| TR ?_
    refine ret1 ha rfl ?_
    exact ⟨by rw [pressK, if_neg hcl, if_pos (by omega)], by rw [pressK, if_neg hcl, if_pos (by omega)]; exact hs⟩
   ·
    refine WS ?_
    refine DW (m := 15) (fun w' => CoR w' B k) [1, 6, 7, 12] [0, 2, 3, 4, 8, 9, 10, 11, 5, 12, 1, 6, 7, 13, 14] Ty.mixed (pk_then (pk_blk (pk_then pk_body))) (fun hpk => ?_)
    replace hs := hs.drew
    generalize w.drew = w at hs hpk ⊢
    have hC : CoR w B k := CoreS.rd hs
    refine DP hpk ha rfl ?_; clear ha; (try clear a); intro a ha
    iterate 7 (refine DP hpk ha rfl ?_; clear ha a; intro a ha)
    refine DL hpk ha rfl (fun w hc => hc.cf 10 _ rfl) hC ?_; clear ha a; intro a ha
    refine DL hpk ha rfl (fun w hc => hc.cf 4 _ rfl) hC ?_; clear ha a; intro a ha
    refine D1 rfl (st_call ha rfl Ty.c26 rfl (core_head hs hk) ?_); clear ha hs
    rintro e w ⟨rfl, hs⟩
    refine ⟨_, rfl, ?_⟩
    intro a ha
    replace hC : (fun w' => CoR w' B k) w := CoreS.rd hs
    refine ⟨fun _ => hC, ?_⟩
    obtain ⟨D, hs, hD⟩ := CoreS.qu hs
    refine D1 rfl (st_call ha rfl Ty.c49 rfl (queue_front hs hk.lne (by rw [hk.ls]; exact hk.n.2)) ?_); clear ha hs
    rintro e w ⟨rfl, hs⟩
    refine ⟨_, rfl, ?_⟩
    intro a ha
    replace hC : (fun w' => CoR w' B k) w := CoreS.rd (hD _ _ hs)
    refine ⟨fun _ => hC, ?_⟩
    replace hs := hD _ _ hs
    refine D1 rfl (st_set ha rfl (ex_subI ha (by omega) (by omega)) rfl ?_); clear ha a; intro a ha
    refine ⟨fun _ => hC, ?_⟩
    iterate 2 (refine DP hpk ha rfl ?_; clear ha a; intro a ha)
    refine DD <| TN ?_
    refine WI ha (fun hc2 => ?_) (fun hc2 => ?_)
    ·
     refine WS <| WR ?_
     refine S1d ha ?_; clear ha; (try clear a); intro a ha
     refine LN <| TN <| wp_ret <| BR <| TR ?_
     refine ret1 ha rfl ?_
     exact ⟨by rw [pressK, if_neg hcl, if_neg (by omega), if_pos (by rw [frontK]; omega)], by rw [pressK, if_neg hcl, if_neg (by omega), if_pos (by rw [frontK]; omega)]; exact hs⟩
    ·
     refine WK <| BN <| TN <| WS ?_
     refine DW (m := 13) (fun w' => CoR w' B k) [8] [0, 1, 2, 4, 5, 6, 7, 10, 3, 8, 9, 11, 12] Ty.mixed (pk_then pk_body) (fun hpk => ?_)
     replace hs := hs.drew
     generalize w.drew = w at hs hpk ⊢
     have hC : CoR w B k := CoreS.rd hs
     refine DP hpk ha rfl ?_; clear ha; (try clear a); intro a ha
     iterate 7 (refine DP hpk ha rfl ?_; clear ha a; intro a ha)
     refine DL hpk ha rfl (fun w hc => hc.cf 10 _ rfl) hC ?_; clear ha a; intro a ha
     refine D1 rfl (st_set ha rfl (ex_load1 ha Tryz.underlying3 rfl (hC.cf 1 _ rfl)) rfl ?_); clear ha a; intro a ha
     refine ⟨fun _ => hC, ?_⟩
     obtain ⟨D, hs, hD⟩ := CoreS.quX hs
     refine D1 rfl (st_call ha rfl Ty.c60 rfl (queue_line hs hme) ?_); clear ha hs
     rintro e w ⟨rfl, hs⟩
     refine ⟨_, rfl, ?_⟩
     intro a ha
     refine ⟨fun h => absurd h (by decide), ?_⟩
     refine D1 rfl (st_call ha rfl Ty.c88 rfl (q_add hs hme (by simp only [headK] at hc1; omega)) ?_); clear ha hs
     rintro e w ⟨rfl, hs⟩
     refine ⟨_, rfl, ?_⟩
     intro a ha
     refine ⟨fun h => absurd h (by decide), ?_⟩
     replace ha := ha.del 4
     refine DP hpk ha rfl ?_; clear ha a; intro a ha
     refine DD <| TN <| wp_ret ?_
     refine ret1 ha rfl ?_
     have hpk : pressK x k = (0, { k with ls := k.ls.set k.me (k.ls.getD k.me [] ++ [x]) }) := by rw [pressK, if_neg hcl, if_neg (by omega), if_neg (by rw [frontK]; omega)]
     rw [hpk]
     exact ⟨rfl, hD _ _ _ hs⟩
end
end Go.Proofs.YtagpkhbkdbaigaaGreat

