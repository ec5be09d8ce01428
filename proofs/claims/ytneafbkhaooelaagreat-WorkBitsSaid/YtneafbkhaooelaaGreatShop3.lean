/- A shop is right. -/
import Derived.Test.YtneafbkhaooelaaGreatWorkB
namespace Go.Proofs.YtneafbkhaooelaaGreat
open Go.RowKit
set_option linter.unusedVariables false
set_option linter.unusedSimpArgs false
set_option maxRecDepth 10000
set_option synthInstance.maxSize 4000
set_option synthInstance.maxHeartbeats 400000

def busyN (ws : List Wk) : Nat := (ws.filter (·.busy)).length
theorem busyN_held (ws : List Wk) : (heldW ws).length = busyN ws := by simp [heldW, busyN]
theorem busyN_succ {ws : List Wk} {i : Nat} {k : Wk} (h : ws[i]? = some k) : busyN (ws.take (i + 1)) = busyN (ws.take i) + if k.busy then 1 else 0 := by
  rw [busyN, busyN, filter_succ h, List.length_append]
  cases k.busy <;> simp
theorem RdX.take {w : World} {ad : Option Addr} {zs : List BBx} (h : RdX w ad zs) (n : Nat) : RdX w ad (zs.take n) := by
  refine ⟨fun h0 => ?_, fun x hx => h.2 x (List.mem_of_mem_take hx)⟩
  obtain ⟨b, off, e, hr⟩ := h.1 (by rw [List.length_take] at h0; omega)
  refine ⟨b, off, e, fun j v hj => hr j v ?_⟩
  rw [List.map_take, List.getElem?_take] at hj
  split at hj
  · exact hj
  · cases hj
section
variable {W w : World} {L L' R : List SP} {tq jq sq r wb i kk cO xb n c cw base m room nw : Nat} {ad adO adw : Option Addr} {A : Sn} {T : Tr} {J : Js} {k : Wk} {p : Pr} {x : Br} {px : Pic} {ks : List Kx} {t : Nat → Nat} {ys : List BBBx} {ws : List Wk}
theorem refFold_len {fr : Int} {g : Nat → Int} {adP : Option Addr} {cP m : Nat} {P : List (List UInt8)} {zs : List BBx} (hs : St W w (RoP W p adO cO :: L)) (hm : P.length = m) (hpr : prOk p) (hsz : p.title.size ≤ 1000000000) (hg : gOk g) (hP : P.length ≤ 65536 ∧ ∀ b ∈ P, b.length ≤ 1099511627776) (hz : zs.map (·.2.2) = P) (hf : -1099511627776 ≤ fr ∧ fr ≤ 1099511627776) (hp : ∀ w', St W w' L → RdX w' adP zs) :
    Calls Tryz.prog 42 #[.agg (prV p adO cO).toArray, .agg (ints .i32 32 g).toArray, .int .i64 fr, .slice adP m cP] w fun e w' => e = .returned (.agg (ints .i32 32 (foldI p fr g P)).toArray) ∧ gOk (foldI p fr g P) ∧ St W w' (RoP W p adO cO :: L) := by
  subst hm; exact refFold_spec hs hpr hsz hg hP hz hf hp
theorem right_spec (hs : St W w (blk xb 38 (shopC sq tq jq adw ks.length cw 1) :: Sl 31 1 adw ks.length cw (ptrs ks) :: All (ownK p adO cO tq jq sq) ks :: Tree tq sq T :: Store sq r A :: RoP W p adO cO :: L))
    (hI : Inv p 0 (fun _ => 0) t base A T (ks.map (·.1))) (hpr : prOk p) (hsz : p.title.size ≤ 1000000000) (hkl : ks.length ≤ 100) :
    Calls Tryz.prog 14 #[.pointer (some ⟨xb, 0, none⟩), .agg (prV p adO cO).toArray] w fun e w' => e = .returned (.bool true) ∧
      St W w' (blk xb 38 (shopC sq tq jq adw ks.length cw 1) :: Sl 31 1 adw ks.length cw (ptrs ks) :: All (ownK p adO cO tq jq sq) ks :: Tree tq sq T :: Store sq r A :: RoP W p adO cO :: L) := by
  have hT := Tree.wt (hs.tree tq)
  have hA := (Store.facts (hs.store sq)).1
  have hTm := hT.most
  have hlen := hI.len
  rw [busyN_held] at hlen
  refine calls_enter Tryz.func14 rfl Tryz.ntmps14 (Nat.le_of_ble_eq_true rfl) ?_
  intro a ha
  replace ha : Fr a 86 [(0, _), (1, _)] := ha
  refine WS <| WR ?_
  refine SK (st_box ha rfl hs rfl ?_); clear ha hs a; (try clear w); intro b3 a w ha hs ho
  clear ho
  change St W w (blk b3 24 (prV p adO cO) :: _) at hs
  refine S1 ha ?_; clear ha a; intro a ha
  refine LN <| TN <| WS <| WR ?_
  iterate 3 (refine S1 ha ?_; clear ha a; intro a ha)
  refine SL ha (hs.rd1 rfl) ?_; clear ha a; intro a ha
  refine SK (st_call ha rfl Ty.c13 rfl (tree_all (hs.tree tq)) ?_); clear ha hs
  rintro e w ⟨adl, cl, rfl, hs⟩
  refine ⟨_, rfl, ?_⟩
  intro a ha
  refine S1 ha ?_; clear ha a; intro a ha
  refine LN <| TN <| WS <| WR ?_
  refine S1 ha ?_; clear ha a; intro a ha
  refine LN <| TN <| WS <| WS <| WR ?_
  refine S1 ha ?_; clear ha a; intro a ha
  refine LN <| TN <| wp_block ?_
  refine wp_loop_ghost (fun μ a w => ∃ (i : Nat), (μ = ks.length - i ∧ i ≤ ks.length) ∧ Fr a 86 [(0, .pointer (some ⟨xb, 0, none⟩)), (3, .pointer (some ⟨b3, 0, none⟩)), (5, .slice adl T.l.length cl), (6, .int .i64 (busyN ((ks.map (·.1)).take i))), (7, .int .i64 i)] ∧ St W w (OwnBr adl T.l.length cl T.l :: blk b3 24 (prV p adO cO) :: blk xb 38 (shopC sq tq jq adw ks.length cw 1) :: Sl 31 1 adw ks.length cw (ptrs ks) :: All (ownK p adO cO tq jq sq) ks :: Tree tq sq T :: Store sq r A :: RoP W p adO cO :: L)) (ks.length) ?_ ?_
  · exact ⟨0, ⟨by simp, by simp⟩, ha.keep [0, 3, 5, 6, 7], hs.sub⟩
  ·
   clear ha hs
   rintro μ a w ⟨i, ⟨rfl, hi⟩, ha, hs⟩
   refine WS <| WS <| WR ?_
   refine S1 ha ?_; clear ha; (try clear a); intro a ha
   iterate 3 (refine S1 ha ?_; clear ha a; intro a ha)
   refine SL ha (hs.rd1 rfl) ?_; clear ha a; intro a ha
   iterate 2 (refine S1 ha ?_; clear ha a; intro a ha)
   refine LN <| TN ?_
   refine WI ha (fun hc0 => ?_) (fun hc0 => ?_)
   ·
    obtain ⟨⟨k, wb⟩, hk⟩ : ∃ x, ks[i]? = some x := ⟨_, List.getElem?_eq_getElem (by omega)⟩
    obtain ⟨bw, ow, rfl, hrw⟩ := hs.slRd adw (by omega)
    have hcw := hrw i _ (ptrs_at hk)
    have hbs := busyN_succ (ws := ks.map (·.1)) (i := i) (k := k) (by rw [List.getElem?_map, hk]; rfl)
    have hbl : busyN ((ks.map (·.1)).take i) ≤ i := by
      have h1 := List.length_filter_le (fun k : Wk => k.busy) ((ks.map (·.1)).take i)
      rw [List.length_take] at h1
      show _ ≤ i
      simp only [busyN]; omega
    refine WK <| TN <| WS <| wp_block <| WS <| WR ?_
    refine S1 ha ?_; clear ha; (try clear a); intro a ha
    iterate 2 (refine S1 ha ?_; clear ha a; intro a ha)
    refine SL ha (hs.rd1 rfl) ?_; clear ha a; intro a ha
    refine S1 ha ?_; clear ha a; intro a ha
    refine SK (st_set ha rfl (ex_indexAddr ha Tryz.underlying35 Ty.t31 (by omega)) rfl ?_); clear ha a; intro a ha
    rw [Nat.mul_one] at ha
    refine SL ha (hcw) ?_; clear ha a; intro a ha
    refine SK (st_call ha rfl Ty.c16 rfl (shop_busy (hs.pick (All (ownK p adO cO tq jq sq) ks)) hk) ?_); clear ha hs
    rintro e w ⟨rfl, hs⟩
    refine ⟨_, rfl, ?_⟩
    intro a ha
    refine LN <| TN ?_
    refine WI ha (fun hc1 => ?_) (fun hc1 => ?_)
    ·
     refine WR ?_
     refine S1 ha ?_; clear ha; (try clear a); intro a ha
     refine SK (st_set ha rfl (ex_addI ha (by omega) (by omega)) rfl ?_); clear ha a; intro a ha
     refine S1d ha ?_; clear ha a; intro a ha
     refine LN <| BN <| TN <| WR ?_
     refine S1 ha ?_; clear ha a; intro a ha
     refine SK (st_set ha rfl (ex_addI ha (by omega) (by omega)) rfl ?_); clear ha a; intro a ha
     refine S1d ha ?_; clear ha a; intro a ha
     refine LN <| TN ?_
     rw [hc1] at hbs
     refine ⟨ks.length - (i + 1), by omega, i + 1, ⟨rfl, by omega⟩, ?_, hs.sub⟩
     rw [hbs]; exact ha.keep [0, 3, 5, 6, 7]
    ·
     refine WK <| BN <| TN <| WR ?_
     refine S1 ha ?_; clear ha; (try clear a); intro a ha
     refine SK (st_set ha rfl (ex_addI ha (by omega) (by omega)) rfl ?_); clear ha a; intro a ha
     refine S1d ha ?_; clear ha a; intro a ha
     refine LN <| TN ?_
     rw [hc1] at hbs
     refine ⟨ks.length - (i + 1), by omega, i + 1, ⟨rfl, by omega⟩, ?_, hs.sub⟩
     rw [hbs]; exact ha.keep [0, 3, 5, 6, 7]
   ·
    refine wp_exit <| TE <| TE <| blk_e <| TN <| WS <| WS ?_
    obtain rfl : i = ks.length := by omega
    rw [List.take_of_length_le (by simp)] at ha
    obtain ⟨ys, hy1, hy2, hs⟩ := OwnBr.open hs
    have hyl : ys.length = T.l.length := by rw [← hy1, List.length_map]
    refine WR ?_
    refine S1 ha ?_; clear ha; (try clear a); intro a ha
    refine LN <| TN <| wp_block ?_
    refine wp_loop_ghost (fun μ a w => ∃ (j : Nat), (μ = T.l.length - j ∧ j ≤ T.l.length) ∧ Fr a 86 [(0, .pointer (some ⟨xb, 0, none⟩)), (3, .pointer (some ⟨b3, 0, none⟩)), (5, .slice adl T.l.length cl), (6, .int .i64 (busyN (ks.map (·.1)))), (8, .int .i64 j)] ∧ St W w (Sl 43 5 adl T.l.length cl (rows brc ys) :: All bro ys :: blk b3 24 (prV p adO cO) :: blk xb 38 (shopC sq tq jq adw ks.length cw 1) :: Sl 31 1 adw ks.length cw (ptrs ks) :: All (ownK p adO cO tq jq sq) ks :: Tree tq sq T :: Store sq r A :: RoP W p adO cO :: L)) (T.l.length) ?_ ?_
    · exact ⟨0, ⟨by simp, by simp⟩, ha.keep [0, 3, 5, 6, 8], hs.sub⟩
    ·
     clear ha hs
     rintro μ a w ⟨j, ⟨rfl, hj⟩, ha, hs⟩
     refine WS <| WS <| WR ?_
     refine S1 ha ?_; clear ha; (try clear a); intro a ha
     iterate 3 (refine S1 ha ?_; clear ha a; intro a ha)
     refine LN <| TN ?_
     refine WI ha (fun hc2 => ?_) (fun hc2 => ?_)
     ·
      obtain ⟨⟨x, ax, cx⟩, hx⟩ : ∃ x, ys[j]? = some x := ⟨_, List.getElem?_eq_getElem (by omega)⟩
      have hxT : x ∈ T.l := by rw [← hy1]; exact List.mem_map.2 ⟨_, List.mem_of_getElem? hx, rfl⟩
      obtain ⟨i2, px, hpx, hpid⟩ := hI.ofBr hxT
      have hgx := (hI.brs x hxT).2 px (List.mem_of_getElem? hpx) hpid
      have hxo := hT.ok x hxT
      obtain ⟨bl, ol, rfl, hrl⟩ := hs.slRd adl (by omega)
      have hrx := row_rd hrl hx
      clear hrl
      refine WK <| TN <| WS <| wp_block ?_
      refine wp_seq_cut (M := fun a w => ∃ b9 : Nat, Fr a 86 [(0, .pointer (some ⟨xb, 0, none⟩)), (3, .pointer (some ⟨b3, 0, none⟩)), (5, .slice (some ⟨bl, ol, none⟩) T.l.length cl), (6, .int .i64 (busyN (ks.map (·.1)))), (8, .int .i64 j), (9, .pointer (some ⟨b9, 0, none⟩)), (10, .bool true)] ∧ St W w (blk b9 62 (ints .i32 32 px.g) :: Sl 43 5 (some ⟨bl, ol, none⟩) T.l.length cl (rows brc ys) :: All bro ys :: blk b3 24 (prV p adO cO) :: blk xb 38 (shopC sq tq jq adw ks.length cw 1) :: Sl 31 1 adw ks.length cw (ptrs ks) :: All (ownK p adO cO tq jq sq) ks :: Tree tq sq T :: Store sq r A :: RoP W p adO cO :: L)) ?_ ?_
      ·
       replace hrx : Rd w.drew bl (ol + j * 5) (brC x ax cx) := hrx
       refine DW (m := 16) (fun w' => Rd w' xb 0 (shopC sq tq jq adw ks.length cw 1) ∧ Rd w' bl (ol + j * 5) (brC x ax cx)) [8, 13] [0, 1, 2, 4, 5, 6, 7, 3, 8, 9, 10, 11, 12, 13, 14, 15] Ty.mixed (pk_then (pk_blk (pk_then (pk_then (pk_blk (pk_then pk_body)))))) (fun hpk => ?_)
       replace hs := hs.drew
       generalize w.drew = w at hs hpk hrx ⊢
       have hC : Rd w xb 0 (shopC sq tq jq adw ks.length cw 1) ∧ Rd w bl (ol + j * 5) (brC x ax cx) := ⟨hs.rdAll, hrx⟩
       refine DP hpk ha rfl ?_; clear ha; (try clear a); intro a ha
       iterate 4 (refine DP hpk ha rfl ?_; clear ha a; intro a ha)
       refine DQ hpk ha rfl rfl (fun w => ex_indexAddr ha Tryz.underlying39 Ty.t43 (by omega)) ?_; clear ha a; intro a ha
       refine DP hpk ha rfl ?_; clear ha a; intro a ha
       refine DL hpk ha rfl (fun w hc => hc.1 0 _ rfl) hC ?_; clear ha a; intro a ha
       refine DL hpk ha rfl (fun w hc => hc.2 4 _ rfl) hC ?_; clear ha a; intro a ha
       refine D2 (i := 9) (j := 13) [10, 11, 12, 13, 14, 15] [9, 10, 11, 12, 14, 15] (by kernel_rfl) rfl rfl ?_ ?_
       ·
        refine st_call ha rfl Ty.c25 rfl (snap_state_id (hs.store sq) hpx hpid) ?_; clear ha hs
        rintro e w ⟨rfl, hs⟩
        refine ⟨_, rfl, ?_⟩
        intro a ha
        refine ⟨fun h => absurd h (by decide), ?_⟩
        refine DP hpk ha rfl ?_; clear ha; (try clear a); intro a ha
        iterate 2 (refine DP hpk ha rfl ?_; clear ha a; intro a ha)
        refine D1 rfl (st_alloc ha rfl hs Ty.t62 rfl ?_); clear ha hs a; (try clear w); intro b9 a w ha hs ho
        (try replace hC := hC.trans ho); clear ho
        replace hC : (fun w' => Rd w' xb 0 (shopC sq tq jq adw ks.length cw 1) ∧ Rd w' bl (ol + j * 5) (brC x ax cx)) w := ⟨hs.rdAll, row_rd (hs.slRdAt bl ol (by omega)) hx⟩
        refine ⟨fun _ => hC, ?_⟩
        change St W w (blk b9 62 (ints .i32 32 (fun _ => 0)) :: _) at hs
        refine D1 rfl (st_storeAll ha rfl hs Ty.t62 ints_one (by rw [ints_len, ints_len]) ?_); clear ha hs a; (try clear w); intro a w ha hs
        refine ⟨fun h => absurd h (by decide), ?_⟩
        refine DP hpk ha rfl ?_; clear ha a; intro a ha
        refine DD <| TN ?_
        exact ⟨_, ha.keep [0, 3, 5, 6, 8, 9, 10], hs.sub⟩
       ·
        refine st_alloc ha rfl hs Ty.t62 rfl ?_; clear ha hs; (try clear a); (try clear w); intro b9 a w ha hs ho
        (try replace hC := hC.trans ho); clear ho
        replace hC : (fun w' => Rd w' xb 0 (shopC sq tq jq adw ks.length cw 1) ∧ Rd w' bl (ol + j * 5) (brC x ax cx)) w := ⟨hs.rdAll, row_rd (hs.slRdAt bl ol (by omega)) hx⟩
        refine ⟨fun _ => hC, ?_⟩
        change St W w (blk b9 62 (ints .i32 32 (fun _ => 0)) :: _) at hs
        refine D1 rfl (st_call ha rfl Ty.c25 rfl (snap_state_id (hs.store sq) hpx hpid) ?_); clear ha hs
        rintro e w ⟨rfl, hs⟩
        refine ⟨_, rfl, ?_⟩
        intro a ha
        refine ⟨fun h => absurd h (by decide), ?_⟩
        iterate 3 (refine DP hpk ha rfl ?_; clear ha a; intro a ha)
        refine D1 rfl (st_storeAll ha rfl hs Ty.t62 ints_one (by rw [ints_len, ints_len]) ?_); clear ha hs a; (try clear w); intro a w ha hs
        refine ⟨fun h => absurd h (by decide), ?_⟩
        refine DP hpk ha rfl ?_; clear ha a; intro a ha
        refine DD <| TN ?_
        exact ⟨_, ha.keep [0, 3, 5, 6, 8, 9, 10], hs.sub⟩
      ·
       clear ha; (try clear hs)
       intro a w hcut
       obtain ⟨b9, ha, hs⟩ := hcut
       refine WS ?_
       obtain ⟨zs, hz, hzc, hs⟩ := St.brOut (hs.pick (All bro ys)) hx
       have hrx2 := row_rd (hs.drew.slRdAt bl ol (by omega)) hx
       refine DW (m := 20) (fun w' => Rd w' b9 0 (ints .i32 32 px.g) ∧ Rd w' b3 0 (prV p adO cO) ∧ Rd w' bl (ol + j * 5) (brC x ax cx)) [4, 10, 15, 16, 17] [0, 1, 2, 5, 6, 7, 8, 9, 11, 12, 13, 14, 3, 4, 10, 15, 16, 17, 18, 19] Ty.mixed (pk_then (pk_blk (pk_then (pk_then (pk_blk (pk_then pk_body)))))) (fun hpk => ?_)
       replace hs := hs.drew
       generalize w.drew = w at hs hpk hrx2 ⊢
       have hC : Rd w b9 0 (ints .i32 32 px.g) ∧ Rd w b3 0 (prV p adO cO) ∧ Rd w bl (ol + j * 5) (brC x ax cx) := ⟨hs.rdAll, hs.rdAll, hrx2⟩
       refine DP hpk ha rfl ?_; clear ha; (try clear a); intro a ha
       iterate 2 (refine DP hpk ha rfl ?_; clear ha a; intro a ha)
       refine DQ hpk ha rfl (wgT ha rfl (s := 56)) (fun w => ex_buildA0 ha Tryz.underlying87 Ty.t87 Ty.t21) ?_; clear ha a; intro a ha
       change Fr a 86 ((59, .agg (ints .i32 32 (fun _ => 0)).toArray) :: _) at ha
       iterate 2 (refine DPg (s := 56) hpk ha rfl ?_; clear ha a; intro a ha)
       refine DQ hpk ha rfl (wgT ha rfl (s := 56)) (fun w => ex_indexAddr ha Tryz.underlying39 Ty.t43 (by omega)) ?_; clear ha a; intro a ha
       iterate 3 (refine DPg (s := 56) hpk ha rfl ?_; clear ha a; intro a ha)
       refine DQ hpk ha rfl (wgT ha rfl (s := 56)) (fun w => ex_indexAddr ha Tryz.underlying39 Ty.t43 (by omega)) ?_; clear ha a; intro a ha
       refine DPg (s := 56) hpk ha rfl ?_; clear ha a; intro a ha
       refine DH hpk ha rfl (wgT ha rfl (s := 56)) (fun w hc => ex_loadN ha Tryz.underlying62 rfl Ty.t62 (hc.1)) hC ?_; clear ha a; intro a ha
       refine DH hpk ha rfl (wgT ha rfl (s := 56)) (fun w hc => ex_loadN ha Tryz.underlying24 rfl Ty.t24 (hc.2.1)) hC ?_; clear ha a; intro a ha
       refine DH hpk ha rfl (wgT ha rfl (s := 56)) (fun w hc => ex_load1 ha Tryz.underlying41 rfl (hc.2.2 2 _ rfl)) hC ?_; clear ha a; intro a ha
       refine D1 rfl (st_set ha (wgT ha rfl (s := 56)) (ex_load1 ha Tryz.underlying3 rfl (hC.2.2 3 _ rfl)) rfl ?_); clear ha a; intro a ha
       refine ⟨fun _ => hC, ?_⟩
       refine D1 rfl (st_set ha (wgT ha rfl (s := 56)) (ex_sliceH ha Tryz.underlying41 Ty.t47 (by omega)) rfl ?_); clear ha a; intro a ha
       refine ⟨fun _ => hC, ?_⟩
       rw [cutAd_zero, Nat.sub_zero, Nat.sub_zero] at ha
       refine D1 rfl (st_call ha (wgT ha rfl (s := 56)) Ty.c42 rfl (refFold_len (P := x.press.take x.done) (zs := zs.take x.done) (hs.pick (RoP W p adO cO)) (by rw [List.length_take]; omega) hpr hsz (fun j _ => by simp [i32P]) ⟨by rw [List.length_take]; have := hxo.1.1; omega, fun b hb => hxo.1.2 b (List.mem_of_mem_take hb)⟩ (by rw [List.map_take, hz]) (by omega) (fun w' h => (St.rdX (h.sub (M := Sl 47 1 ax x.press.length cx (zs.map bbv) :: All bbo zs :: []))).take x.done)) ?_); clear ha hs
       rintro e w ⟨rfl, _, hs⟩
       refine ⟨_, rfl, ?_⟩
       intro a ha
       replace hC : (fun w' => Rd w' b9 0 (ints .i32 32 px.g) ∧ Rd w' b3 0 (prV p adO cO) ∧ Rd w' bl (ol + j * 5) (brC x ax cx)) w := ⟨hs.rdAll, hs.rdAll, row_rd (hs.slRdAt bl ol (by omega)) hx⟩
       refine ⟨fun _ => hC, ?_⟩
       refine DQ hpk ha rfl (wgT ha rfl (s := 56)) (fun w => ex_neqA ha Tryz.underlying87 Tryz.underlying21 Ty.t21 (by kernel_rfl) Tryz.eqGuardType87) ?_; clear ha a; intro a ha
       rw [hgx, sameN_self, Bool.not_true] at ha
       refine DF hpk ha rfl ?_; clear ha a; intro a ha
       refine DD <| TN <| WFa ha <| WK <| BN <| TN <| WR ?_
       refine S1 ha ?_; clear ha a; intro a ha
       refine SK (st_set ha rfl (ex_addI ha (by omega) (by omega)) rfl ?_); clear ha a; intro a ha
       refine S1d ha ?_; clear ha a; intro a ha
       refine LN <| TN ?_
       exact ⟨T.l.length - (j + 1), by omega, j + 1, ⟨rfl, by omega⟩, ha.keep [0, 3, 5, 6, 8], (St.brIn (n := x.press.length) (L' := Sl 43 5 (some ⟨bl, ol, none⟩) T.l.length cl (rows brc ys) :: blk b3 24 (prV p adO cO) :: blk xb 38 (shopC sq tq jq adw ks.length cw 1) :: Sl 31 1 adw ks.length cw (ptrs ks) :: All (ownK p adO cO tq jq sq) ks :: Tree tq sq T :: Store sq r A :: RoP W p adO cO :: L) (hs.sub (M := Sl 47 1 ax x.press.length cx (zs.map bbv) :: All bbo zs :: All bro (ys.eraseIdx j) :: Sl 43 5 (some ⟨bl, ol, none⟩) T.l.length cl (rows brc ys) :: blk b3 24 (prV p adO cO) :: blk xb 38 (shopC sq tq jq adw ks.length cw 1) :: Sl 31 1 adw ks.length cw (ptrs ks) :: All (ownK p adO cO tq jq sq) ks :: Tree tq sq T :: Store sq r A :: RoP W p adO cO :: L)) hx hz rfl).sub⟩
     ·
      refine wp_exit <| TE <| TE <| blk_e <| TN <| WS ?_
      have hbn : busyN (ks.map (·.1)) ≤ ks.length := by
        have h1 := List.length_filter_le (fun k : Wk => k.busy) (ks.map (·.1))
        rw [List.length_map] at h1
        exact h1
      refine WR ?_
      refine S1 ha ?_; clear ha; (try clear a); intro a ha
      iterate 2 (refine S1 ha ?_; clear ha a; intro a ha)
      refine SL ha (hs.rd1 rfl) ?_; clear ha a; intro a ha
      refine SK (st_call ha rfl Ty.c22 rfl (snap_live (hs.store sq)) ?_); clear ha hs
      rintro e w ⟨adv, cv, rfl, hs⟩
      refine ⟨_, rfl, ?_⟩
      intro a ha
      iterate 3 (refine S1 ha ?_; clear ha a; intro a ha)
      refine SK (st_set ha rfl (ex_addI ha (by omega) (by omega)) rfl ?_); clear ha a; intro a ha
      refine S1 ha ?_; clear ha a; intro a ha
      refine SK (st_set ha rfl (ex_addI ha (by omega) (by omega)) rfl ?_); clear ha a; intro a ha
      iterate 2 (refine S1 ha ?_; clear ha a; intro a ha)
      refine LN <| TN <| wp_ret ?_
      refine ret1 ha rfl ?_
      exact ⟨by rw [decide_eq_true (by omega)], hs.sub⟩
end
end Go.Proofs.YtneafbkhaooelaaGreat

