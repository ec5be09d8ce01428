/- The walks of package snap, further. -/
import Derived.Test.YtneafbkhaooelaaGreatSnap
namespace Go.Proofs.YtneafbkhaooelaaGreat
open Go.RowKit
set_option linter.unusedVariables false
set_option linter.unusedSimpArgs false
set_option maxRecDepth 10000
set_option synthInstance.maxSize 4000
set_option synthInstance.maxHeartbeats 400000

/-- Values that can be read behind a slice. -/
def RdV (w : World) (ad : Option Addr) (m : Nat) (vs : List Value) : Prop := vs.length = m ∧ (0 < m → ∃ b off, ad = some ⟨b, off, none⟩ ∧ Rd w b off vs)
def I32 (zs : List Int) : List Value := zs.map (.int .i32)
def ofL (zs : List Int) (j : Nat) : Int := zs.getD j 0

section
variable {W w : World} {L L' R : List SP} {q r b m i pb : Nat} {A : Sn} {ps : List Pg} {xs : List (Pic × Nat)} {x y : Pic}
theorem snap_room (hs : St W w (Store q r A :: L)) :
    Calls Tryz.prog 23 #[.pointer (some ⟨q, 0, none⟩)] w fun e w' => e = .returned (.pointer (some ⟨r, 0, none⟩)) ∧ St W w' (Store q r A :: L) := by
  obtain ⟨b, m, ps, xs, h1, hw, hr, hs⟩ := Store.open hs
  refine calls_enter Tryz.func23 rfl Tryz.ntmps23 (Nat.le_of_ble_eq_true rfl) ?_
  intro a ha
  replace ha : Fr a 9 [(0, _)] := ha
  refine WS <| WR ?_
  refine S1 ha ?_; clear ha a; intro a ha
  refine LN <| TN <| WS <| WS <| WR ?_
  iterate 2 (refine S1 ha ?_; clear ha a; intro a ha)
  refine LN <| TN <| WFa ha <| WK <| TN <| WS <| WR ?_
  iterate 3 (refine S1 ha ?_; clear ha a; intro a ha)
  refine SL ha (hs.rd1 rfl) ?_; clear ha a; intro a ha
  refine S1d ha ?_; clear ha a; intro a ha
  refine LN <| TN <| wp_ret ?_
  refine ret1 ha rfl ?_
  exact ⟨rfl, Store.close (b := b) (m := m) hs h1 hw hr⟩
theorem snap_used (hs : St W w (Store q r A :: L)) :
    Calls Tryz.prog 24 #[.pointer (some ⟨r, 0, none⟩)] w fun e w' => e = .returned (.int .i64 A.used) ∧ St W w' (Store q r A :: L) := by
  obtain ⟨b, m, ps, xs, h1, hw, hr, hs⟩ := Store.open hs
  refine (page_used (hs.pick (Room r b ps))).mono fun e w' ⟨h2, hs⟩ => ?_
  rw [hr.used] at h2
  exact ⟨h2, Store.close (b := b) (m := m) (ps := ps) hs h1 hw hr⟩
theorem snap_prefs {k : Nat} (hs : St W w (Store q r A :: L)) (hx : A.pics[i]? = some x) (hk : k < 4) :
    Calls Tryz.prog 152 #[.pointer (some ⟨r, 0, none⟩), .int .i64 ((x.p k : Int) + 1)] w fun e w' => e = .returned (.int .i64 (cnt A.pics (x.p k))) ∧ St W w' (Store q r A :: L) := by
  obtain ⟨b, m, ps, xs, h1, hw, hr, hs⟩ := Store.open hs
  obtain ⟨hp1, hp2, hp3⟩ := hr.live (List.mem_of_getElem? hx) hk
  refine (page_refs (hs.pick (Room r b ps)) hp1 hp2).mono fun e w' ⟨h2, hs⟩ => ?_
  rw [hr.refs _ _ (List.getElem?_eq_getElem hp1)] at h2
  exact ⟨h2, Store.close (b := b) (m := m) (ps := ps) hs h1 hw hr⟩
theorem snap_has {n : Int} (hs : St W w (Store q r A :: L)) :
    Calls Tryz.prog 57 #[.pointer (some ⟨q, 0, none⟩), .int .i64 n] w fun e w' => e = .returned (.bool (decide (n ≤ ((A.room - A.used : Nat) : Int)))) ∧ St W w' (Store q r A :: L) := by
  obtain ⟨b, m, ps, xs, h1, hw, hr, hs⟩ := Store.open hs
  refine calls_enter Tryz.func57 rfl Tryz.ntmps57 (Nat.le_of_ble_eq_true rfl) ?_
  intro a ha
  replace ha : Fr a 16 [(0, _), (1, _)] := ha
  refine WS <| WR ?_
  refine S1 ha ?_; clear ha a; intro a ha
  refine LN <| TN <| WS <| WR ?_
  iterate 3 (refine S1 ha ?_; clear ha a; intro a ha)
  iterate 4 (refine S1g (s := 7) ha ?_; clear ha a; intro a ha)
  refine SLg (s := 7) ha (hs.rd1 rfl) ?_; clear ha a; intro a ha
  refine SK (st_call ha (wgT ha rfl (s := 7)) Ty.c79 rfl (page_free (hs.pick (Room r b ps))) ?_); clear ha hs
  rintro e w ⟨rfl, hs⟩
  refine ⟨_, rfl, ?_⟩
  intro a ha
  refine S1g (s := 7) ha ?_; clear ha a; intro a ha
  refine PT ha ?_; clear ha a; intro a ha
  refine S1d ha ?_; clear ha a; intro a ha
  refine LN <| TN <| wp_ret ?_
  refine ret1 ha rfl ?_
  exact ⟨by rw [hr.used, hr.len], Store.close (b := b) (m := m) (ps := ps) hs h1 hw hr⟩
theorem snap_has_nil {n : Int} (hs : St W w L) :
    Calls Tryz.prog 57 #[.pointer none, .int .i64 n] w fun e w' => e = .returned (.bool false) ∧ St W w' L := by
  refine calls_enter Tryz.func57 rfl Tryz.ntmps57 (Nat.le_of_ble_eq_true rfl) ?_
  intro a ha
  replace ha : Fr a 16 [(0, _), (1, _)] := ha
  refine WS <| WR ?_
  refine S1 ha ?_; clear ha a; intro a ha
  refine LN <| TN <| WS <| WR ?_
  iterate 3 (refine S1 ha ?_; clear ha a; intro a ha)
  iterate 7 (refine SO (s := 7) ha ?_; clear ha a; intro a ha)
  refine PF ha ?_; clear ha a; intro a ha
  refine S1d ha ?_; clear ha a; intro a ha
  refine LN <| TN <| wp_ret ?_
  refine ret1 ha rfl ?_
  exact ⟨rfl, hs⟩
theorem snap_live (hs : St W w (Store q r A :: L)) :
    Calls Tryz.prog 22 #[.pointer (some ⟨q, 0, none⟩)] w fun e w' => ∃ ad c, e = .returned (.slice ad A.pics.length c) ∧ St W w' (Sl 36 1 ad A.pics.length c (A.pics.map fun x => .int .i64 x.id) :: Store q r A :: L) := by
  obtain ⟨b, m, ps, xs, h1, hw, hr, hs⟩ := Store.open hs
  have hlen : (kvs xs).length = A.pics.length := by rw [← h1]; simp [kvs]
  have hpw : ((kvs xs).map (·.1)).Pairwise (· < ·) := by
    have : (kvs xs).map (·.1) = (A.pics.map (·.id)).map (fun n : Nat => (n : Int)) := by rw [← h1]; simp [kvs]
    rw [this, List.pairwise_map]
    exact hw.sorted.imp fun h => by omega
  have hval : ((kvs xs).map fun p => Value.int .i64 p.1) = A.pics.map fun x => Value.int .i64 x.id := by rw [← h1]; simp [kvs]
  refine calls_enter Tryz.func22 rfl Tryz.ntmps22 (Nat.le_of_ble_eq_true rfl) ?_
  intro a ha
  replace ha : Fr a 11 [(0, _)] := ha
  refine WS <| WR ?_
  refine S1 ha ?_; clear ha a; intro a ha
  refine LN <| TN <| WS <| WS <| WR ?_
  iterate 2 (refine S1 ha ?_; clear ha a; intro a ha)
  refine LN <| TN <| WFa ha <| WK <| TN <| WS <| WR ?_
  iterate 3 (refine S1 ha ?_; clear ha a; intro a ha)
  refine SL ha (hs.rd1 rfl) ?_; clear ha a; intro a ha
  refine SK (st_call ha rfl Ty.c51 rfl (maps_keys (m := m) hs) ?_); clear ha hs
  rintro e w ⟨b8, rfl, hs⟩
  refine ⟨_, rfl, ?_⟩
  intro a ha
  refine SK (st_call ha rfl Ty.c50 rfl (sorted_keys (m := m) (kvs := kvs xs) ((hs.pick (mp m (kvs xs))).pick (blk b8 101 [.map (some m)])) hpw (by rw [hlen]; have := hw.many; have := hw.bound; omega)) ?_); clear ha hs
  rintro e w ⟨ad, c, rfl, hs⟩
  refine ⟨_, rfl, ?_⟩
  intro a ha
  rw [hlen, hval] at *
  refine S1d ha ?_; clear ha a; intro a ha
  refine LN <| TN <| wp_ret ?_
  refine ret1 ha rfl ?_
  refine ⟨ad, c, rfl, ?_⟩
  have h4 := Store.close (A := A) (q := q) (r := r) (last := A.last) (xs := xs) (L' := Sl 36 1 ad A.pics.length c (A.pics.map fun x => .int .i64 x.id) :: L) (b := b) (m := m) (ps := ps) hs h1 hw hr
  exact h4.perm (List.Perm.swap _ _ _)
theorem snap_state (hs : St W w (Store q r A :: L)) (hx : A.pics[i]? = some x) :
    Calls Tryz.prog 25 #[.pointer (some ⟨q, 0, none⟩), .int .i64 x.id] w fun e w' => e = .returned (.tuple #[.agg (ints .i32 32 x.g).toArray, .bool true]) ∧ St W w' (Store q r A :: L) := by
  refine calls_enter Tryz.func25 rfl Tryz.ntmps25 (Nat.le_of_ble_eq_true rfl) ?_
  intro a ha
  replace ha : Fr a 27 [(0, _), (1, _)] := ha
  refine WS <| WR ?_
  refine SK (st_alloc ha rfl hs Ty.t62 rfl ?_); clear ha hs a; (try clear w); intro b4 a w ha hs ho
  clear ho
  change St W w (blk b4 62 (ints .i32 32 (fun _ => 0)) :: _) at hs
  refine S1 ha ?_; clear ha a; intro a ha
  refine LN <| TN <| WS <| WR ?_
  refine SK (st_alloc ha rfl hs Ty.t62 rfl ?_); clear ha hs a; (try clear w); intro b6 a w ha hs ho
  clear ho
  change St W w (blk b6 62 (ints .i32 32 (fun j => if j < 0 then x.g j else 0)) :: _) at hs
  refine LN <| TN <| WS <| WS ?_
  obtain ⟨b, m, ps, xs, h1, hw, hr, hs⟩ := Store.open (hs.pick (Store q r A))
  obtain ⟨pb, hxs⟩ := own_at h1 hx
  refine WR ?_
  iterate 2 (refine S1 ha ?_; clear ha a; intro a ha)
  refine SK (st_call ha rfl Ty.c48 rfl (snap_at hs h1 hw hxs) ?_); clear ha hs
  rintro e w ⟨rfl, hs⟩
  refine ⟨_, rfl, ?_⟩
  intro a ha
  refine S1 ha ?_; clear ha a; intro a ha
  refine LN <| TN <| WFa ha <| WK <| TN <| WS <| WS ?_
  replace hs := Store.close (A := A) (q := q) (r := r) (last := A.last) (xs := xs) (L' := blk b6 62 (ints .i32 32 (fun j => if j < 0 then x.g j else 0)) :: blk b4 62 (ints .i32 32 (fun _ => 0)) :: L) (b := b) (m := m) (ps := ps) hs h1 hw hr
  refine WR ?_
  refine S1 ha ?_; clear ha a; intro a ha
  refine LN <| TN <| wp_block ?_
  refine wp_loop_ghost (fun μ a w => ∃ k : Nat, (μ = 32 - k ∧ k ≤ 32) ∧ Fr a 27 [(0, .pointer (some ⟨q, 0, none⟩)), (1, .int .i64 x.id), (4, .pointer (some ⟨b4, 0, none⟩)), (6, .pointer (some ⟨b6, 0, none⟩)), (13, .int .i64 k)] ∧ St W w (blk b6 62 (ints .i32 32 (fun j => if j < k then x.g j else 0)) :: Store q r A :: blk b4 62 (ints .i32 32 (fun _ => 0)) :: L)) (32) ?_ ?_
  · exact ⟨0, ⟨by simp, by simp⟩, ha.keep [0, 1, 4, 6, 13], hs.sub⟩
  ·
   clear ha hs
   rintro μ a w ⟨k, ⟨rfl, hk⟩, ha, hs⟩
   refine WS <| WR ?_
   refine S1 ha ?_; clear ha; (try clear a); intro a ha
   refine LN <| TN <| WS ?_
   refine WI ha (fun hc1 => ?_) (fun hc1 => ?_)
   ·
    refine WK <| TN <| WS <| wp_block <| WS <| WR ?_
    refine S1 ha ?_; clear ha; (try clear a); intro a ha
    refine S1 ha ?_; clear ha a; intro a ha
    refine LN <| TN <| WR ?_
    iterate 4 (refine S1 ha ?_; clear ha a; intro a ha)
    refine SK (st_call ha rfl Ty.c52 rfl (snap_get (hs.pick (Store q r A)) hx (by omega)) ?_); clear ha hs
    rintro e w ⟨rfl, hs⟩
    refine ⟨_, rfl, ?_⟩
    intro a ha
    iterate 3 (refine S1 ha ?_; clear ha a; intro a ha)
    refine SK (st_set ha rfl (ex_indexAddrA ha Tryz.underlying62 Ty.t21 (by omega)) rfl ?_); clear ha a; intro a ha
    rw [Nat.zero_add, Nat.mul_one] at ha
    refine SK (st_store ha rfl hs Ty.t21 rfl (by rw [ints_len]; omega) ?_); clear ha hs a; (try clear w); intro a w ha hs
    rw [ints_set, show (fun i => if i = k then x.g k else if i < k then x.g i else 0) = (fun i => if i < k + 1 then x.g i else 0) from by
        funext i
        by_cases h : i = k
        · subst h; simp
        · rw [if_neg h]; by_cases h2 : i < k
          · rw [if_pos h2, if_pos (by omega)]
          · rw [if_neg h2, if_neg (by omega)]] at hs
    refine LN <| BN <| TN <| WR ?_
    refine SK (st_set ha rfl (ex_addI ha (by omega) (by omega)) rfl ?_); clear ha a; intro a ha
    refine S1d ha ?_; clear ha a; intro a ha
    refine LN <| TN ?_
    exact ⟨32 - (k + 1), by omega, k + 1, ⟨rfl, by omega⟩, ha.keep [0, 1, 4, 6, 13], hs.sub⟩
   ·
    obtain rfl : k = 32 := by omega
    rw [ints_congr (g' := x.g) (fun j hj => if_pos hj)] at hs
    refine wp_exit <| TE <| TE <| blk_e <| TN <| WS <| WR ?_
    refine SK (st_set ha rfl (ex_loadN ha Tryz.underlying62 rfl Ty.t62 (hs.rdAll)) rfl ?_); clear ha; (try clear a); intro a ha
    refine SK (st_storeAll ha rfl hs Ty.t62 ints_one (by rw [ints_len, ints_len]) ?_); clear ha hs a; (try clear w); intro a w ha hs
    refine S1 ha ?_; clear ha a; intro a ha
    refine LN <| TN <| wp_ret ?_
    refine retC2 ha rfl (run_loadN Tryz.underlying62 rfl Ty.t62 (hs.rdAll)) ?_
    exact ⟨rfl, hs.sub⟩
theorem snap_state_no {X : Int} (hs : St W w (Store q r A :: L)) (hn : ∀ y ∈ A.pics, (y.id : Int) ≠ X) :
    Calls Tryz.prog 25 #[.pointer (some ⟨q, 0, none⟩), .int .i64 X] w fun e w' => e = .returned (.tuple #[.agg (ints .i32 32 (fun _ => 0)).toArray, .bool false]) ∧ St W w' (Store q r A :: L) := by
  refine calls_enter Tryz.func25 rfl Tryz.ntmps25 (Nat.le_of_ble_eq_true rfl) ?_
  intro a ha
  replace ha : Fr a 27 [(0, _), (1, _)] := ha
  refine WS <| WR ?_
  refine SK (st_alloc ha rfl hs Ty.t62 rfl ?_); clear ha hs a; (try clear w); intro b4 a w ha hs ho
  clear ho
  change St W w (blk b4 62 (ints .i32 32 (fun _ => 0)) :: _) at hs
  refine S1 ha ?_; clear ha a; intro a ha
  refine LN <| TN <| WS <| WR ?_
  refine SK (st_alloc ha rfl hs Ty.t62 rfl ?_); clear ha hs a; (try clear w); intro b6 a w ha hs ho
  clear ho
  change St W w (blk b6 62 (ints .i32 32 (fun _ => 0)) :: _) at hs
  refine LN <| TN <| WS <| WS ?_
  obtain ⟨b, m, ps, xs, h1, hw, hr, hs⟩ := Store.open (hs.pick (Store q r A))
  refine WR ?_
  iterate 2 (refine S1 ha ?_; clear ha a; intro a ha)
  refine SK (st_call ha rfl Ty.c48 rfl (snap_at_no hs h1 hn) ?_); clear ha hs
  rintro e w ⟨rfl, hs⟩
  refine ⟨_, rfl, ?_⟩
  intro a ha
  refine S1 ha ?_; clear ha a; intro a ha
  refine LN <| TN <| WTr ha <| WS <| WR ?_
  refine SK (st_set ha rfl (ex_loadN ha Tryz.underlying62 rfl Ty.t62 (hs.rdAll)) rfl ?_); clear ha a; intro a ha
  refine SK (st_storeAll ha rfl hs Ty.t62 ints_one rfl ?_); clear ha hs a; (try clear w); intro a w ha hs
  refine S1d ha ?_; clear ha a; intro a ha
  refine LN <| TN <| wp_ret <| TR ?_
  refine retC2 ha rfl (run_loadN Tryz.underlying62 rfl Ty.t62 (hs.rdAll)) ?_
  exact ⟨rfl, Store.close (b := b) (m := m) hs h1 hw hr⟩
theorem snap_state_nil {X : Int} (hs : St W w L) :
    Calls Tryz.prog 25 #[.pointer none, .int .i64 X] w fun e w' => e = .returned (.tuple #[.agg (ints .i32 32 (fun _ => 0)).toArray, .bool false]) ∧ St W w' L := by
  refine calls_enter Tryz.func25 rfl Tryz.ntmps25 (Nat.le_of_ble_eq_true rfl) ?_
  intro a ha
  replace ha : Fr a 27 [(0, _), (1, _)] := ha
  refine WS <| WR ?_
  refine SK (st_alloc ha rfl hs Ty.t62 rfl ?_); clear ha hs a; (try clear w); intro b4 a w ha hs ho
  clear ho
  change St W w (blk b4 62 (ints .i32 32 (fun _ => 0)) :: _) at hs
  refine S1 ha ?_; clear ha a; intro a ha
  refine LN <| TN <| WS <| WR ?_
  refine SK (st_alloc ha rfl hs Ty.t62 rfl ?_); clear ha hs a; (try clear w); intro b6 a w ha hs ho
  clear ho
  change St W w (blk b6 62 (ints .i32 32 (fun _ => 0)) :: _) at hs
  refine LN <| TN <| WS <| WS <| WR ?_
  iterate 2 (refine S1 ha ?_; clear ha a; intro a ha)
  refine SK (st_call ha rfl Ty.c48 rfl (snap_at_nil hs) ?_); clear ha hs
  rintro e w ⟨rfl, hs⟩
  refine ⟨_, rfl, ?_⟩
  intro a ha
  refine S1 ha ?_; clear ha a; intro a ha
  refine LN <| TN <| WTr ha <| WS <| WR ?_
  refine SK (st_set ha rfl (ex_loadN ha Tryz.underlying62 rfl Ty.t62 (hs.rdAll)) rfl ?_); clear ha a; intro a ha
  refine SK (st_storeAll ha rfl hs Ty.t62 ints_one rfl ?_); clear ha hs a; (try clear w); intro a w ha hs
  refine S1d ha ?_; clear ha a; intro a ha
  refine LN <| TN <| wp_ret <| TR ?_
  refine retC2 ha rfl (run_loadN Tryz.underlying62 rfl Ty.t62 (hs.rdAll)) ?_
  exact ⟨rfl, hs.sub⟩

/-! New. -/
theorem cnt_none (p : Nat) : cnt [] p = 0 := rfl
theorem snap_new {n : Nat} (hs : St W w L) (hn : n ≤ 50) :
    Calls Tryz.prog 29 #[.int .i64 n] w fun e w' => ∃ q r, e = .returned (.pointer (some ⟨q, 0, none⟩)) ∧ St W w' (Store q r ⟨0, 4 * n, 0, []⟩ :: L) := by
  refine calls_enter Tryz.func29 rfl Tryz.ntmps29 (Nat.le_of_ble_eq_true rfl) ?_
  intro a ha
  replace ha : Fr a 11 [(0, _)] := ha
  refine WS <| WR ?_
  refine S1 ha ?_; clear ha a; intro a ha
  refine LN <| TN <| WS <| WR ?_
  refine S1 ha ?_; clear ha a; intro a ha
  refine SK (st_set ha rfl (ex_max ha) rfl ?_); clear ha a; intro a ha
  refine SK (st_set ha rfl (ex_min ha) rfl ?_); clear ha a; intro a ha
  rw [show min (max (n : Int) 0) 50 = (n : Int) from by omega] at ha
  refine SK (st_set ha rfl (ex_mulI ha (by omega) (by omega)) rfl ?_); clear ha a; intro a ha
  rw [show (4 : Int) * (n : Int) = ((4 * n : Nat) : Int) from by omega] at ha
  refine SK (st_call ha rfl Ty.c56 rfl (page_new hs (by omega)) ?_); clear ha hs
  rintro e w ⟨r, b, rfl, hs⟩
  refine ⟨_, rfl, ?_⟩
  intro a ha
  refine SK (st_makeMap ha rfl hs rfl ?_); clear ha hs a; (try clear w); intro b8 a w ha hs ho
  clear ho
  refine SK (st_set ha rfl (ex_build ha Ty.b103 Ty.t103 rfl) rfl ?_); clear ha a; intro a ha
  refine SK (st_box ha rfl hs rfl ?_); clear ha hs a; (try clear w); intro b10 a w ha hs ho
  clear ho
  refine S1d ha ?_; clear ha a; intro a ha
  refine LN <| TN <| wp_ret ?_
  refine ret1 ha rfl ?_
  have h7 : St W w (All ownP [] :: blk b10 103 [.pointer (some ⟨r, 0, none⟩), .map (some b8), .int .i64 ((0 : Nat) : Int)] :: mp b8 (kvs []) :: Room r b (List.replicate (4 * n) pg0) :: L) := St.allNil hs
  refine ⟨b10, r, rfl, Store.close (A := ⟨0, 4 * n, 0, []⟩) (last := 0) (b := b) (m := b8) (xs := []) (ps := List.replicate (4 * n) pg0) h7 rfl ⟨by simp only; omega, by simp, Nat.le_refl _, by simp, by simp, by simp⟩ ⟨by simp, fun p q hq => ?_, by simp⟩⟩
  obtain ⟨_, rfl⟩ := List.getElem?_eq_some_iff.1 hq
  rw [List.getElem_replicate]; rfl

/-! quintainlaw8.Of; a page of a state. -/
theorem state_page {g : Nat → Int} {k : Nat} (hs : St W w L) (hk : k < 4) :
    Calls Tryz.prog 59 #[.agg (ints .i32 32 g).toArray, .int .i64 k] w fun e w' => e = .returned (.agg (ints .i32 8 (fun j => g (8 * k + j))).toArray) ∧ St W w' L := by
  refine calls_enter Tryz.func59 rfl Tryz.ntmps59 (Nat.le_of_ble_eq_true rfl) ?_
  intro a ha
  replace ha : Fr a 18 [(0, _), (1, _)] := ha
  refine WS <| WR ?_
  refine SK (st_box ha rfl hs rfl ?_); clear ha hs a; (try clear w); intro b2 a w ha hs ho
  clear ho
  refine SK (st_alloc ha rfl hs Ty.t112 rfl ?_); clear ha hs a; (try clear w); intro b4 a w ha hs ho
  clear ho
  change St W w (blk b4 112 (ints .i32 8 (fun _ => 0)) :: _) at hs
  refine LN <| TN <| WS <| WR ?_
  refine SK (st_alloc ha rfl hs Ty.t112 rfl ?_); clear ha hs a; (try clear w); intro b5 a w ha hs ho
  clear ho
  change St W w (blk b5 112 (ints .i32 8 (fun _ => 0)) :: _) at hs
  refine LN <| TN <| WS <| WS <| WR ?_
  iterate 3 (refine S1 ha ?_; clear ha a; intro a ha)
  rw [decide_eq_true (by omega)] at ha
  iterate 2 (refine S1g (s := 8) ha ?_; clear ha a; intro a ha)
  refine PT ha ?_; clear ha a; intro a ha
  refine LN <| TN ?_
  rw [decide_eq_true (by omega)] at ha
  refine WTr ha ?_
  have hpart : ((ints .i32 32 g).drop (k * 8)).take 8 = ints .i32 8 (fun j => g (8 * k + j)) := by rw [Nat.mul_comm k 8]; exact ints_sub g (by omega)
  refine DW (m := 5) (Old w.drew) [] [0, 1, 2, 3, 4] Ty.mixed (pk_then pk_body) (fun hpk => ?_)
  replace hs := hs.drew
  have hC := Old.refl w.drew
  generalize w.drew = w at hs hC hpk ⊢
  refine DQ hpk ha rfl rfl (fun w => ex_slicePA ha Tryz.underlying112 Ty.t21) ?_; clear ha a; intro a ha
  refine DP hpk ha rfl ?_; clear ha a; intro a ha
  refine DQ hpk ha rfl rfl (fun w => ex_mulI ha (by omega) (by omega)) ?_; clear ha a; intro a ha
  rw [show ((k : Int) * 8) = ((k * 8 : Nat) : Int) from by omega] at ha
  refine DQ hpk ha rfl rfl (fun w => ex_sliceLPA ha Tryz.underlying62 Ty.t21 (by omega)) ?_; clear ha a; intro a ha
  rw [Nat.zero_add, Nat.mul_one] at ha
  refine D1 rfl (st_copy ha rfl hs Tryz.underlying144 Ty.t21 rfl (k := 8) (vs := ints .i32 8 (fun j => g (8 * k + j))) (by omega) (by rw [← hpart]; exact hs.rdN 8) (ints_len _ _ _) ints_one (by rw [ints_len, ints_len]; decide) ?_); clear ha hs a; (try clear w); intro a w ha hs
  refine ⟨fun h => absurd h (by decide), ?_⟩
  rw [show splice (ints .i32 8 (fun _ => 0)) 0 (ints .i32 8 (fun j => g (8 * k + j))) = ints .i32 8 (fun j => g (8 * k + j)) from by simp [splice, ints_len]] at hs
  refine DD <| TN <| WS <| WR ?_
  refine SK (st_set ha rfl (ex_loadN ha Tryz.underlying112 rfl Ty.t112 (hs.rdAll)) rfl ?_); clear ha a; intro a ha
  refine SK (st_storeAll ha rfl hs Ty.t112 ints_one (by rw [ints_len, ints_len]) ?_); clear ha hs a; (try clear w); intro a w ha hs
  refine LN <| TN <| wp_ret ?_
  refine retC1 ha rfl (run_loadN Tryz.underlying112 rfl Ty.t112 (hs.rdAll)) ?_
  exact ⟨rfl, hs.sub⟩

/-! Make. -/
structure Made (ps : List Pg) (g : Nat → Int) (t : Nat → Nat) (k : Nat) (ps' : List Pg) : Prop where
  len : ps'.length = ps.length
  new : ∀ j, j < k → ∃ q, ps'[t j]? = some q ∧ q.refs = 1 ∧ ∀ l, l < 8 → q.g l = g (8 * j + l)
  was : ∀ j, j < k → ∃ q, ps[t j]? = some q ∧ q.refs = 0
  apart : ∀ j l, j < k → l < k → t j = t l → j = l
  old : ∀ p, (∀ j, j < k → t j ≠ p) → ps'[p]? = ps[p]?
  used : usedN ps' = usedN ps + k
theorem Made.zero (ps : List Pg) (g : Nat → Int) (t : Nat → Nat) : Made ps g t 0 ps := ⟨rfl, fun _ h => by omega, fun _ h => by omega, fun _ _ h => by omega, fun _ _ => rfl, rfl⟩
theorem Made.free {ps ps' : List Pg} {g : Nat → Int} {t : Nat → Nat} {k : Nat} (h : Made ps g t k ps') (hu : usedN ps + k < ps.length) : ∃ f, freeI ps' f := by
  rcases free_cases ps' with hno | hf
  · have := used_full hno
    rw [h.used, h.len] at this; omega
  · exact hf
theorem Made.step {ps ps' : List Pg} {g : Nat → Int} {t : Nat → Nat} {k f : Nat} (h : Made ps g t k ps') (hf : freeI ps' f) {g1 : Nat → Int} (hg : ∀ l, l < 8 → g1 l = g (8 * k + l)) :
    Made ps g (fun j => if j = k then f else t j) (k + 1) (ps'.set f ⟨g1, 1⟩) := by
  obtain ⟨hf1, hf2, _⟩ := hf
  have hne : ∀ j, j < k → t j ≠ f := fun j hj e => by
    obtain ⟨q, h1, h2, _⟩ := h.new j hj
    rw [e, List.getElem?_eq_getElem hf1] at h1
    cases h1; omega
  have hpf : ps[f]? = some ps'[f] := by rw [← h.old f hne, List.getElem?_eq_getElem hf1]
  refine ⟨by rw [List.length_set]; exact h.len, fun j hj => ?_, fun j hj => ?_, fun j l hj hl e => ?_, fun p hp => ?_, ?_⟩
  · by_cases hjk : j = k
    · subst hjk
      exact ⟨⟨g1, 1⟩, by simp [hf1], rfl, hg⟩
    · obtain ⟨q, h1, h2, h3⟩ := h.new j (by omega)
      exact ⟨q, by simp only [if_neg hjk]; rw [List.getElem?_set_ne (Ne.symm (hne j (by omega)))]; exact h1, h2, h3⟩
  · by_cases hjk : j = k
    · subst hjk
      exact ⟨_, by simp only [if_true]; exact hpf, hf2⟩
    · simp only [if_neg hjk]; exact h.was j (by omega)
  · by_cases h1 : j = k <;> by_cases h2 : l = k
    · omega
    · rw [if_pos h1, if_neg h2] at e; exact absurd e.symm (hne l (by omega))
    · rw [if_neg h1, if_pos h2] at e; exact absurd e (hne j (by omega))
    · rw [if_neg h1, if_neg h2] at e; exact h.apart j l (by omega) (by omega) e
  · have h1 := hp k (by omega)
    simp only [if_true] at h1
    rw [List.getElem?_set_ne h1]
    refine h.old p fun j hj e => ?_
    have := hp j (by omega)
    rw [if_neg (by omega)] at this
    exact this e
  · have := List.countP_set (p := fun p : Pg => decide (0 < p.refs)) (a := ⟨g1, 1⟩) hf1
    have hu := h.used
    simp only [usedN] at hu ⊢
    rw [this, hu]
    simp [hf2, Nat.add_assoc]
theorem Made.rel {ps ps' : List Pg} {g : Nat → Int} {t : Nat → Nat} (h : Made ps g t 4 ps') (hr : Rel A ps) : Rel (A.add g t) ps' := by
  have hz : ∀ j, j < 4 → cnt A.pics (t j) = 0 := fun j hj => by
    obtain ⟨q, h1, h2⟩ := h.was j hj
    rw [← hr.refs _ _ h1]; exact h2
  refine ⟨h.len.trans hr.len, fun p q hq => ?_, fun y hy k hk => ?_⟩
  · simp only [Sn.add, cnt_app, cnt_cons, cnt_nil, Nat.add_zero]
    by_cases hp : ∃ j, j < 4 ∧ t j = p
    · obtain ⟨j, hj, rfl⟩ := hp
      obtain ⟨q', h1, h2, _⟩ := h.new j hj
      rw [h1] at hq; cases hq
      rw [hz j hj, h2, cntP_eq]
      have ha := fun l (hl : l < 4) (e : t l = t j) => h.apart l j hl hj e
      simp only
      rcases (by omega : j = 0 ∨ j = 1 ∨ j = 2 ∨ j = 3) with rfl | rfl | rfl | rfl
      · rw [if_pos rfl, if_neg (fun e => by have := ha 1 (by omega) e; omega), if_neg (fun e => by have := ha 2 (by omega) e; omega), if_neg (fun e => by have := ha 3 (by omega) e; omega)]
      · rw [if_pos rfl, if_neg (fun e => by have := ha 0 (by omega) e; omega), if_neg (fun e => by have := ha 2 (by omega) e; omega), if_neg (fun e => by have := ha 3 (by omega) e; omega)]
      · rw [if_pos rfl, if_neg (fun e => by have := ha 0 (by omega) e; omega), if_neg (fun e => by have := ha 1 (by omega) e; omega), if_neg (fun e => by have := ha 3 (by omega) e; omega)]
      · rw [if_pos rfl, if_neg (fun e => by have := ha 0 (by omega) e; omega), if_neg (fun e => by have := ha 1 (by omega) e; omega), if_neg (fun e => by have := ha 2 (by omega) e; omega)]
    · have hn : ∀ j, j < 4 → t j ≠ p := fun j hj e => hp ⟨j, hj, e⟩
      rw [h.old p hn] at hq
      rw [hr.refs p q hq, cntP_zero (x := ⟨A.last + 1, 1, g, t⟩) hn]
      rfl
  · simp only [Sn.add] at hy
    rcases List.mem_append.1 hy with hy | hy
    · obtain ⟨q, h1, h2⟩ := hr.page y hy k hk
      refine ⟨q, ?_, h2⟩
      rw [h.old _ fun j hj e => ?_]
      · exact h1
      · have h3 := hz j hj
        have h4 := cnt_mem hy (t j)
        rw [e] at h3 h4
        have := cntP_pos (x := y) hk
        omega
    · simp at hy; subst hy
      obtain ⟨q, h1, h2, h3⟩ := h.new k hk
      exact ⟨q, h1, h3⟩

/-- A picture under way: its pages' numbers. -/
def pcs (P : Nat → Int) : List Value := ints .i64 4 P ++ [.int .i64 0]
theorem pcs_len (P : Nat → Int) : (pcs P).length = 5 := by simp [pcs, ints_len]
theorem pcs_at {P : Nat → Int} {k : Nat} (h : k < 4) : (pcs P)[k]? = some (.int .i64 (P k)) := by
  rw [pcs, List.getElem?_append_left (by rw [ints_len]; exact h), ints_get _ h]
theorem pcs_set {P : Nat → Int} {k : Nat} (v : Int) (h : k < 4) : (pcs P).set k (.int .i64 v) = pcs (fun j => if j = k then v else P j) := by
  rw [pcs, List.set_append_left _ _ (by rw [ints_len]; exact h), ints_set, pcs]
def tP (t : Nat → Nat) (k : Nat) : Nat → Int := fun j => if j < k then (t j : Int) + 1 else 0
theorem tP_set (t : Nat → Nat) (k f : Nat) : (fun j => if j = k then ((f : Int) + 1) else tP t k j) = tP (fun j => if j = k then f else t j) (k + 1) := by
  funext j
  simp only [tP]
  by_cases h : j = k
  · subst h; simp
  · rw [if_neg h, if_neg h]
    by_cases h2 : j < k
    · rw [if_pos h2, if_pos (by omega)]
    · rw [if_neg h2, if_neg (by omega)]
def gP (g : Nat → Int) (k j : Nat) : Nat → Int := fun l => if l < j then g (8 * k + l) else 0
theorem gP_zero (g : Nat → Int) (k : Nat) : gP g k 0 = fun _ => 0 := by funext l; simp [gP]
theorem gP_set (g : Nat → Int) (k j : Nat) : (fun l => if l = j then g (8 * k + j) else gP g k j l) = gP g k (j + 1) := by
  funext l
  simp only [gP]
  by_cases h : l = j
  · subst h; simp
  · rw [if_neg h]
    by_cases h2 : l < j
    · rw [if_pos h2, if_pos (by omega)]
    · rw [if_neg h2, if_neg (by omega)]
theorem snap_make_no {s : List Value} (hs : St W w (Store q r A :: L)) (hu : A.room < A.used + 4) :
    Calls Tryz.prog 32 #[.pointer (some ⟨q, 0, none⟩), .agg s.toArray] w fun e w' => e = .returned (.tuple #[.int .i64 0, .bool false]) ∧ St W w' (Store q r A :: L) := by
  refine calls_enter Tryz.func32 rfl Tryz.ntmps32 (Nat.le_of_ble_eq_true rfl) ?_
  intro a ha
  replace ha : Fr a 50 [(0, _), (1, _)] := ha
  refine WS <| WR ?_
  refine SK (st_box ha rfl hs rfl ?_); clear ha hs a; (try clear w); intro b3 a w ha hs ho
  clear ho
  iterate 2 (refine S1 ha ?_; clear ha a; intro a ha)
  refine LN <| TN <| WS <| WS <| WR ?_
  refine S1 ha ?_; clear ha a; intro a ha
  refine SK (st_call ha rfl Ty.c57 rfl (snap_has (hs.pick (Store q r A))) ?_); clear ha hs
  rintro e w ⟨rfl, hs⟩
  refine ⟨_, rfl, ?_⟩
  intro a ha
  rw [decide_eq_false (by omega)] at ha
  refine S1 ha ?_; clear ha a; intro a ha
  refine LN <| TN <| WTr ha <| WS <| WR ?_
  iterate 2 (refine S1d ha ?_; clear ha a; intro a ha)
  refine LN <| TN <| wp_ret <| TR ?_
  refine ret2 ha rfl ?_
  exact ⟨rfl, hs.sub⟩
theorem snap_make_nil {s : List Value} (hs : St W w L) :
    Calls Tryz.prog 32 #[.pointer none, .agg s.toArray] w fun e w' => e = .returned (.tuple #[.int .i64 0, .bool false]) ∧ St W w' L := by
  refine calls_enter Tryz.func32 rfl Tryz.ntmps32 (Nat.le_of_ble_eq_true rfl) ?_
  intro a ha
  replace ha : Fr a 50 [(0, _), (1, _)] := ha
  refine WS <| WR ?_
  refine SK (st_box ha rfl hs rfl ?_); clear ha hs a; (try clear w); intro b3 a w ha hs ho
  clear ho
  iterate 2 (refine S1 ha ?_; clear ha a; intro a ha)
  refine LN <| TN <| WS <| WS <| WR ?_
  refine S1 ha ?_; clear ha a; intro a ha
  refine SK (st_call ha rfl Ty.c57 rfl (snap_has_nil hs) ?_); clear ha hs
  rintro e w ⟨rfl, hs⟩
  refine ⟨_, rfl, ?_⟩
  intro a ha
  refine S1 ha ?_; clear ha a; intro a ha
  refine LN <| TN <| WTr ha <| WS <| WR ?_
  iterate 2 (refine S1d ha ?_; clear ha a; intro a ha)
  refine LN <| TN <| wp_ret <| TR ?_
  refine ret2 ha rfl ?_
  exact ⟨rfl, hs.sub⟩
theorem snap_make {g : Nat → Int} (hs : St W w (Store q r A :: L)) (hu : A.used + 4 ≤ A.room) (hb : A.n + 1 < 1099511627776) :
    Calls Tryz.prog 32 #[.pointer (some ⟨q, 0, none⟩), .agg (ints .i32 32 g).toArray] w fun e w' => ∃ t : Nat → Nat, e = .returned (.tuple #[.int .i64 ((A.last + 1 : Nat) : Int), .bool true]) ∧
      ((∀ j, j < 4 → t j < A.room ∧ cnt A.pics (t j) = 0) ∧ ∀ j l, j < 4 → l < 4 → t j = t l → j = l) ∧ St W w' (Store q r (A.add g t) :: L) := by
  refine calls_enter Tryz.func32 rfl Tryz.ntmps32 (Nat.le_of_ble_eq_true rfl) ?_
  intro a ha
  replace ha : Fr a 50 [(0, _), (1, _)] := ha
  refine WS <| WR ?_
  refine SK (st_box ha rfl hs rfl ?_); clear ha hs a; (try clear w); intro b3 a w ha hs ho
  clear ho
  iterate 2 (refine S1 ha ?_; clear ha a; intro a ha)
  refine LN <| TN <| WS <| WS <| WR ?_
  refine S1 ha ?_; clear ha a; intro a ha
  refine SK (st_call ha rfl Ty.c57 rfl (snap_has (hs.pick (Store q r A))) ?_); clear ha hs
  rintro e w ⟨rfl, hs⟩
  refine ⟨_, rfl, ?_⟩
  intro a ha
  rw [decide_eq_true (by omega)] at ha
  refine S1 ha ?_; clear ha a; intro a ha
  refine LN <| TN <| WFa ha <| WK <| TN <| WS ?_
  obtain ⟨b, m, ps, xs, h1, hw, hr, hs⟩ := Store.open hs
  have hun := hr.used
  have hrl := hr.len
  refine WR ?_
  refine SK (st_alloc ha rfl hs Ty.t100 rfl ?_); clear ha hs a; (try clear w); intro b6 a w ha hs ho
  clear ho
  change St W w (blk b6 100 (pcs (tP (fun _ => 0) 0)) :: _) at hs
  refine LN <| TN <| WS <| WS <| WR ?_
  refine S1 ha ?_; clear ha a; intro a ha
  refine LN <| TN <| wp_block ?_
  refine wp_loop_ghost (fun μ a w => ∃ (k : Nat) (t : Nat → Nat) (ps' : List Pg), (μ = 4 - k ∧ k ≤ 4 ∧ Made ps g t k ps') ∧ Fr a 50 [(0, .pointer (some ⟨q, 0, none⟩)), (3, .pointer (some ⟨b3, 0, none⟩)), (6, .pointer (some ⟨b6, 0, none⟩)), (13, .int .i64 k)] ∧ St W w (Room r b ps' :: blk b6 100 (pcs (tP t k)) :: blk b3 62 (ints .i32 32 g) :: blk q 103 [.pointer (some ⟨r, 0, none⟩), .map (some m), .int .i64 A.last] :: mp m (kvs xs) :: All ownP xs :: L)) (4) ?_ ?_
  · exact ⟨0, fun _ => 0, ps, ⟨by simp, by simp, Made.zero _ _ _⟩, ha.keep [0, 3, 6, 13], hs.sub⟩
  ·
   clear ha hs
   rintro μ a w ⟨k, t, ps', ⟨rfl, hk, hm⟩, ha, hs⟩
   refine WS <| WR ?_
   refine S1 ha ?_; clear ha; (try clear a); intro a ha
   refine LN <| TN <| WS ?_
   refine WI ha (fun hc1 => ?_) (fun hc1 => ?_)
   ·
    refine WK <| TN <| WS <| wp_block <| WS <| WR ?_
    refine S1 ha ?_; clear ha; (try clear a); intro a ha
    refine S1 ha ?_; clear ha a; intro a ha
    refine LN <| TN <| WS ?_
    have hmu := hm.used
    obtain ⟨f, hf⟩ := hm.free (by omega)
    have hst := fun (g1 : Nat → Int) h => hm.step (g1 := g1) hf h
    have hf1 := hf.1
    refine WR ?_
    iterate 4 (refine S1 ha ?_; clear ha a; intro a ha)
    refine SL ha (hs.rd1 rfl) ?_; clear ha a; intro a ha
    refine SK (st_call ha rfl Ty.c58 rfl (page_take_some (hs.pick (Room r b ps')) hf) ?_); clear ha hs
    rintro e w ⟨rfl, hs⟩
    refine ⟨_, rfl, ?_⟩
    intro a ha
    iterate 4 (refine S1 ha ?_; clear ha a; intro a ha)
    refine SK (st_set ha rfl (ex_indexAddrA ha Tryz.underlying98 Ty.t3 (by omega)) rfl ?_); clear ha a; intro a ha
    rw [Nat.zero_add, Nat.mul_one] at ha
    refine SK (st_store ha rfl hs Ty.t3 rfl (by rw [pcs_len]; omega) ?_); clear ha hs a; (try clear w); intro a w ha hs
    rw [pcs_set _ (by omega), tP_set] at hs
    refine LN <| TN <| WS <| WR ?_
    refine SK (st_set ha rfl (ex_loadN ha Tryz.underlying62 rfl Ty.t62 (hs.rdN 32)) rfl ?_); clear ha a; intro a ha
    rw [show ((ints .i32 32 g).drop 0).take 32 = ints .i32 32 g from by rw [List.drop_zero, List.take_of_length_le (by rw [ints_len]; exact Nat.le_refl _)]] at ha
    refine S1 ha ?_; clear ha a; intro a ha
    refine SK (st_call ha rfl Ty.c59 rfl (state_page hs (by omega)) ?_); clear ha hs
    rintro e w ⟨rfl, hs⟩
    refine ⟨_, rfl, ?_⟩
    intro a ha
    refine S1 ha ?_; clear ha a; intro a ha
    refine LN <| TN <| wp_block ?_
    refine wp_loop_ghost (fun μ a w => ∃ j : Nat, (μ = 8 - j ∧ j ≤ 8) ∧ Fr a 50 [(0, .pointer (some ⟨q, 0, none⟩)), (3, .pointer (some ⟨b3, 0, none⟩)), (6, .pointer (some ⟨b6, 0, none⟩)), (7, .int .i64 k), (13, .int .i64 k), (29, .agg (ints .i32 8 (fun j => g (8 * k + j))).toArray), (30, .int .i64 j)] ∧ St W w (Room r b (ps'.set f ⟨gP g k j, 1⟩) :: blk b6 100 (pcs (tP (fun j => if j = k then f else t j) (k + 1))) :: blk b3 62 (ints .i32 32 g) :: blk q 103 [.pointer (some ⟨r, 0, none⟩), .map (some m), .int .i64 A.last] :: mp m (kvs xs) :: All ownP xs :: L)) (8) ?_ ?_
    · exact ⟨0, ⟨by simp, by simp⟩, ha.keep [0, 3, 6, 7, 13, 29, 30], by rw [gP_zero]; rw [show pg1 = (⟨fun _ => 0, 1⟩ : Pg) from rfl] at hs; exact hs.sub⟩
    ·
     clear ha hs
     rintro μ a w ⟨j, ⟨rfl, hj⟩, ha, hs⟩
     refine WS <| WR ?_
     refine S1 ha ?_; clear ha; (try clear a); intro a ha
     refine LN <| TN <| WS ?_
     refine WI ha (fun hc2 => ?_) (fun hc2 => ?_)
     ·
      refine WK <| TN <| WS <| wp_block <| WS <| WR ?_
      refine S1 ha ?_; clear ha; (try clear a); intro a ha
      refine SK (st_set ha rfl (ex_index1 ha Tryz.underlying112 Tryz.underlying21 rfl Ty.t21 (by omega) (ints_get _ (by omega))) rfl ?_); clear ha a; intro a ha
      iterate 2 (refine S1 ha ?_; clear ha a; intro a ha)
      refine LN <| TN ?_
      refine DW (m := 11) (Old w.drew) [7] [0, 1, 2, 4, 5, 6, 8, 9, 3, 7, 10] Ty.mixed (pk_blk (pk_then (pk_then (pk_blk (pk_blk (pk_then (pk_then (pk_blk (pk_then pk_body))))))))) (fun hpk => ?_)
      replace hs := hs.drew
      have hC := Old.refl w.drew
      generalize w.drew = w at hs hC hpk ⊢
      iterate 5 (refine DP hpk ha rfl ?_; clear ha a; intro a ha)
      refine DQ hpk ha rfl rfl (fun w => ex_indexAddrA ha Tryz.underlying98 Ty.t3 (by omega)) ?_; clear ha a; intro a ha
      rw [Nat.zero_add, Nat.mul_one] at ha
      iterate 2 (refine DP hpk ha rfl ?_; clear ha a; intro a ha)
      refine DL hpk ha rfl (fun w hc => hc.cell (hs.rd1 rfl)) hC ?_; clear ha a; intro a ha
      refine D1 rfl (st_set ha rfl (ex_load1 ha Tryz.underlying3 rfl (hs.rd1 (pcs_at (by omega)))) rfl ?_); clear ha a; intro a ha
      refine ⟨fun _ => hC, ?_⟩
      rw [show tP (fun j => if j = k then f else t j) (k + 1) k = (f : Int) + 1 from by simp [tP]] at ha
      have hfl : f < (ps'.set f ⟨gP g k j, 1⟩).length := by rw [List.length_set]; exact hf1
      have hfe : (ps'.set f ⟨gP g k j, 1⟩)[f] = ⟨gP g k j, 1⟩ := by rw [List.getElem_set_self]
      refine D1 rfl (st_call ha rfl Ty.c60 rfl (page_set (hs.pick (Room r b (ps'.set f ⟨gP g k j, 1⟩))) hfl (by rw [hfe]) (show j < 8 by omega)) ?_); clear ha hs
      rintro e w ⟨rfl, hs⟩
      refine ⟨_, rfl, ?_⟩
      intro a ha
      refine ⟨fun h => absurd h (by decide), ?_⟩
      rw [hfe, List.set_set, gP_set] at hs
      refine DD <| BN <| TN <| WR ?_
      refine SK (st_set ha rfl (ex_addI ha (by omega) (by omega)) rfl ?_); clear ha a; intro a ha
      refine S1d ha ?_; clear ha a; intro a ha
      refine LN <| TN ?_
      exact ⟨8 - (j + 1), by omega, j + 1, ⟨rfl, by omega⟩, ha.keep [0, 3, 6, 7, 13, 29, 30], hs.sub⟩
     ·
      obtain rfl : j = 8 := by omega
      have hst8 := hst (gP g k 8) (fun l hl => by simp [gP, hl])
      refine wp_exit <| TE <| TE <| blk_e <| BN <| TN <| WR ?_
      refine SK (st_set ha rfl (ex_addI ha (by omega) (by omega)) rfl ?_); clear ha; (try clear a); intro a ha
      refine S1d ha ?_; clear ha a; intro a ha
      refine LN <| TN ?_
      exact ⟨4 - (k + 1), by omega, k + 1, _, _, ⟨rfl, by omega, hst8⟩, ha.keep [0, 3, 6, 13], hs.sub⟩
   ·
    obtain rfl : k = 4 := by omega
    have hcs : pcs (tP t 4) = Pic.cells ⟨A.last + 1, 0, g, t⟩ := by
      rw [pcs, Pic.cells]
      rw [ints_congr (g := tP t 4) (g' := fun k => (t k : Int) + 1) (fun j hj => if_pos hj)]
      rfl
    rw [hcs] at hs
    have hwA := hw.add hb g t
    have hrA := hm.rel hr
    refine wp_exit <| TE <| TE <| blk_e <| TN <| WS <| WR ?_
    refine S1 ha ?_; clear ha; (try clear a); intro a ha
    refine SK (st_set ha rfl (ex_loadN ha Tryz.underlying100 rfl Ty.t100 (hs.rdAll)) rfl ?_); clear ha a; intro a ha
    refine SK (st_call ha rfl Ty.c61 rfl (snap_add (x := ⟨A.last + 1, 0, g, t⟩) (q := q) (r := r) (m := m) (last := A.last) (xs := xs) (L := Room r b ps' :: All ownP xs :: L) hs.sub (by have := hw.bound; have := hw.last; omega) (kvs_new h1 hw)) ?_); clear ha hs
    rintro e w ⟨pb, rfl, hs⟩
    refine ⟨_, rfl, ?_⟩
    intro a ha
    iterate 2 (refine S1 ha ?_; clear ha a; intro a ha)
    refine LN <| TN <| wp_ret ?_
    refine ret2 ha rfl ?_
    refine ⟨t, rfl, ⟨fun j hj => ?_, fun j l hj hl e => hm.apart j l hj hl e⟩, ?_⟩
    · obtain ⟨q', h5, h6⟩ := hm.was j hj
      have h7 := (List.getElem?_eq_some_iff.1 h5).1
      exact ⟨by omega, by rw [← hr.refs _ _ h5]; exact h6⟩
    · have h6 := St.allPush (f := ownP) (l := xs) (x := (⟨A.last + 1, 1, g, t⟩, pb)) (hs.sub (M := blk pb 100 (Pic.cells ⟨A.last + 1, 1, g, t⟩) :: All ownP xs :: blk q 103 [.pointer (some ⟨r, 0, none⟩), .map (some m), .int .i64 ((A.last + 1 : Nat) : Int)] :: mp m (kvs xs ++ [(((A.last + 1 : Nat) : Int), .pointer (some ⟨pb, 0, none⟩))]) :: Room r b ps' :: L))
      rw [show kvs xs ++ [(((A.last + 1 : Nat) : Int), Value.pointer (some ⟨pb, 0, none⟩))] = kvs (xs ++ [(⟨A.last + 1, 1, g, t⟩, pb)]) from by simp [kvs]] at h6
      exact Store.close (last := A.last + 1) (b := b) (m := m) (xs := xs ++ [(⟨A.last + 1, 1, g, t⟩, pb)]) h6 (by simp [Sn.add, h1]) hwA hrA
end
end Go.Proofs.YtneafbkhaooelaaGreat

