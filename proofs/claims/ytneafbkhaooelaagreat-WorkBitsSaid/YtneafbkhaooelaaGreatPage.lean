/- The walks of package page. -/
import Derived.Test.YtneafbkhaooelaaGreatTy
import Derived.Test.YtneafbkhaooelaaGreatRow
import Derived.Test.YtneafbkhaooelaaGreatMake
namespace Go.Proofs.YtneafbkhaooelaaGreat
open Go.RowKit
set_option linter.unusedVariables false
set_option linter.unusedSimpArgs false
set_option maxRecDepth 10000
set_option synthInstance.maxSize 4000
set_option synthInstance.maxHeartbeats 400000

/-- A page: its eight numbers, and how often it is held. -/
structure Pg where
  g : Nat → Int
  refs : Nat
def Pg.cells (p : Pg) : List Value := ints .i32 8 p.g ++ [.int .i64 p.refs]
def pgc (ps : List Pg) : List Value := rows Pg.cells ps
def pg0 : Pg := ⟨fun _ => 0, 0⟩
def pg1 : Pg := ⟨fun _ => 0, 1⟩
theorem Pg.len (p : Pg) : p.cells.length = 9 := by simp [Pg.cells, ints_len]
theorem pgc_len (ps : List Pg) : (pgc ps).length = ps.length * 9 := rows_len Pg.len ps
theorem Pg.one (p : Pg) : ∀ v ∈ p.cells, v.oneCell' = true := by
  intro v hv
  rcases List.mem_append.1 hv with h | h
  · exact ints_one v h
  · simp at h; subst h; rfl
theorem pgc_one (ps : List Pg) : ∀ v ∈ pgc ps, v.oneCell' = true := rows_one Pg.one ps
theorem pgc_ref {ps : List Pg} {i : Nat} (h : i < ps.length) : (pgc ps)[i * 9 + 8]? = some (.int .i64 ps[i].refs) := rows_get Pg.len ps h (by simp [Pg.cells, ints_len])
theorem pgc_at {ps : List Pg} {i k : Nat} (h : i < ps.length) (hk : k < 8) : (pgc ps)[i * 9 + k]? = some (.int .i32 (ps[i].g k)) := rows_get Pg.len ps h (by
  rw [Pg.cells, List.getElem?_append_left (by rw [ints_len]; exact hk), ints_get _ hk])
theorem pgc_setref {ps : List Pg} {i r : Nat} (h : i < ps.length) : (pgc ps).set (i * 9 + 8) (.int .i64 r) = pgc (ps.set i ⟨ps[i].g, r⟩) := rows_set1 Pg.len ps _ h (by decide) (by
  rw [Pg.cells, List.set_append_right _ _ (by rw [ints_len]; exact Nat.le_refl _), ints_len]; rfl)
theorem pgc_setat {ps : List Pg} {i k : Nat} {v : Int} (h : i < ps.length) (hk : k < 8) : (pgc ps).set (i * 9 + k) (.int .i32 v) = pgc (ps.set i ⟨fun j => if j = k then v else ps[i].g j, ps[i].refs⟩) := rows_set1 Pg.len ps _ h (by omega) (by
  rw [Pg.cells, List.set_append_left _ _ (by rw [ints_len]; exact hk), ints_set]; rfl)
theorem pgc_setpage {ps : List Pg} {i : Nat} (p : Pg) (h : i < ps.length) : splice (pgc ps) (i * 9) p.cells = pgc (ps.set i p) := rows_set Pg.len ps p h
theorem pgc_cells {ps : List Pg} {i : Nat} (h : i < ps.length) : ((pgc ps).drop (i * 9)).take 8 = ints .i32 8 ps[i].g := by
  have := rows_sub (k := 0) (m := 8) Pg.len ps h (by decide)
  simp only [Nat.add_zero, List.drop_zero] at this
  rw [pgc, this, Pg.cells, List.take_left' (ints_len _ _ _)]
theorem pgc_setcells {ps : List Pg} {i : Nat} {g : Nat → Int} (h : i < ps.length) : splice (pgc ps) (i * 9) (ints .i32 8 g) = pgc (ps.set i ⟨g, ps[i].refs⟩) := by
  have := splice_at (k := 0) (vs := ints .i32 8 g) Pg.len ps ⟨g, ps[i].refs⟩ h (by rw [ints_len]; decide) (by
    simp only [splice, Pg.cells, List.take_zero, List.nil_append, ints_len, Nat.zero_add]
    rw [List.drop_left' (ints_len _ _ _)])
  rw [Nat.add_zero] at this; exact this

/-- The room of pages behind a pointer. -/
def Room (q b : Nat) (ps : List Pg) : SP := fun h => (ps.length ≤ 200 ∧ ∀ p ∈ ps, p.refs < 4611686018427387904) ∧ sepL [blk q 111 [.slice (some ⟨b, 0, none⟩) ps.length ps.length], blk b 114 (pgc ps)] h
theorem Room.open {W w : World} {L : List SP} {q b : Nat} {ps : List Pg} (hs : St W w (Room q b ps :: L)) : (ps.length ≤ 200 ∧ ∀ p ∈ ps, p.refs < 4611686018427387904) ∧
    St W w (blk q 111 [.slice (some ⟨b, 0, none⟩) ps.length ps.length] :: blk b 114 (pgc ps) :: L) :=
  ⟨hs.tell fun _ h => h.1, hs.open fun _ h => h.2⟩
theorem Room.close {W w : World} {L L' R : List SP} {q b n : Nat} {ps : List Pg} (hs : St W w L) (hn : ps.length = n) (h : ps.length ≤ 200 ∧ ∀ p ∈ ps, p.refs < 4611686018427387904)
    [k : Arr L (blk q 111 [.slice (some ⟨b, 0, none⟩) n n] :: blk b 114 (pgc ps) :: L') R] : St W w (Room q b ps :: L') := by
  subst hn
  exact St.shut (M := [_, _]) (hs.sub (M := blk q 111 [.slice (some ⟨b, 0, none⟩) ps.length ps.length] :: blk b 114 (pgc ps) :: L')) (fun _ x => ⟨h, x⟩)

theorem made9 (n : Nat) : (madeCells (Value.cells (.agg #[.int .i32 0, .int .i32 0, .int .i32 0, .int .i32 0, .int .i32 0, .int .i32 0, .int .i32 0, .int .i32 0, .int .i64 0])) (n * 9)).toList = pgc (List.replicate n pg0) := by
  apply List.ext_getElem?
  intro i
  by_cases hi : i < n * 9
  · obtain ⟨j, k, hk, rfl⟩ : ∃ j k, k < 9 ∧ i = j * 9 + k := ⟨i / 9, i % 9, Nat.mod_lt _ (by decide), by omega⟩
    have hj : j < (List.replicate n pg0).length := by simp; omega
    have hv : (Pg.cells pg0)[k]? = some ((Pg.cells pg0)[k]'(by rw [Pg.len]; exact hk)) := List.getElem?_eq_getElem _
    rw [pgc, rows_get Pg.len _ hj (by rw [List.getElem_replicate]; exact hv)]
    simp only [madeCells, Value.cells, Array.toList_map, List.getElem?_map]
    rw [Array.toList_range, List.getElem?_range hi]
    have h1 : (j * 9 + k) % 9 = k := by omega
    simp only [Option.map_some, List.size_toArray, List.length_cons, List.length_nil, Nat.reduceAdd, h1, Option.some.injEq]
    rcases k with _ | _ | _ | _ | _ | _ | _ | _ | _ | k <;> first | rfl | omega
  · rw [List.getElem?_eq_none, List.getElem?_eq_none]
    · rw [pgc_len]; simp; omega
    · simp [madeCells]; omega

theorem page_new {W w : World} {L : List SP} {n : Nat} (hs : St W w L) (hn : n ≤ 200) :
    Calls Tryz.prog 56 #[.int .i64 n] w fun e w' => ∃ q b, e = .returned (.pointer (some ⟨q, 0, none⟩)) ∧ St W w' (Room q b (List.replicate n pg0) :: L) := by
  refine calls_enter Tryz.func56 rfl Tryz.ntmps56 (Nat.le_of_ble_eq_true rfl) ?_
  intro a ha
  replace ha : Fr a 9 [(0, _)] := ha
  refine WS <| WR ?_
  refine S1 ha ?_; clear ha a; intro a ha
  refine LN <| TN <| WS <| WR ?_
  refine S1 ha ?_; clear ha a; intro a ha
  refine SK (st_set ha rfl (ex_max ha) rfl ?_); clear ha a; intro a ha
  refine SK (st_set ha rfl (ex_min ha) rfl ?_); clear ha a; intro a ha
  rw [show min (max (n : Int) 0) 200 = (n : Int) from by omega] at ha
  refine SK (st_makeSlice ha rfl hs Tryz.underlying109 Ty.t114 rfl (by omega) (by omega) ?_); clear ha hs a; (try clear w); intro b6 a w ha hs ho
  clear ho
  rw [made9] at hs
  refine SK (st_set ha rfl (ex_build ha Ty.b111 Ty.t111 rfl) rfl ?_); clear ha a; intro a ha
  refine SK (st_box ha rfl hs rfl ?_); clear ha hs a; (try clear w); intro b8 a w ha hs ho
  clear ho
  refine S1d ha ?_; clear ha a; intro a ha
  refine LN <| TN <| wp_ret ?_
  refine ret1 ha rfl ?_
  refine ⟨b8, b6, rfl, (Room.close (n := _) hs List.length_replicate ⟨by simp; exact hn, ?_⟩)⟩
  intro p hp
  rw [(List.mem_replicate.1 hp).2]; decide

section
variable {W w : World} {L : List SP} {q b i : Nat} {ps : List Pg}
theorem page_at (hs : St W w (Room q b ps :: L)) (hi : i < ps.length) (hr : 0 < ps[i].refs) :
    Calls Tryz.prog 73 #[.pointer (some ⟨q, 0, none⟩), .int .i64 ((i : Int) + 1)] w fun e w' => e = .returned (.pointer (some ⟨b, i * 9, none⟩)) ∧ St W w' (Room q b ps :: L) := by
  obtain ⟨hp, hs⟩ := Room.open hs
  refine calls_enter Tryz.func73 rfl Tryz.ntmps73 (Nat.le_of_ble_eq_true rfl) ?_
  intro a ha
  replace ha : Fr a 39 [(0, _), (1, _)] := ha
  refine WS <| WR ?_
  refine S1 ha ?_; clear ha a; intro a ha
  refine LN <| TN <| WS <| WS <| WR ?_
  iterate 3 (refine S1 ha ?_; clear ha a; intro a ha)
  iterate 2 (refine S1g (s := 7) ha ?_; clear ha a; intro a ha)
  refine PF ha ?_; clear ha a; intro a ha
  refine S1 ha ?_; clear ha a; intro a ha
  rw [decide_eq_false (by omega)] at ha
  iterate 4 (refine S1g (s := 11) ha ?_; clear ha a; intro a ha)
  refine SLg (s := 11) ha (hs.rd1 rfl) ?_; clear ha a; intro a ha
  iterate 2 (refine S1g (s := 11) ha ?_; clear ha a; intro a ha)
  refine PF ha ?_; clear ha a; intro a ha
  refine S1 ha ?_; clear ha a; intro a ha
  rw [decide_eq_false (by omega)] at ha
  iterate 3 (refine S1g (s := 20) ha ?_; clear ha a; intro a ha)
  refine SLg (s := 20) ha (hs.rd1 rfl) ?_; clear ha a; intro a ha
  refine S1g (s := 20) ha ?_; clear ha a; intro a ha
  refine SK (st_set ha (wgT ha rfl (s := 20)) (ex_subI ha (by omega) (by omega)) rfl ?_); clear ha a; intro a ha
  rw [show (i : Int) + 1 - 1 = (i : Int) from by omega] at ha
  refine SK (st_set ha (wgT ha rfl (s := 20)) (ex_indexAddr ha Tryz.underlying109 Ty.t114 (by omega)) rfl ?_); clear ha a; intro a ha
  refine S1g (s := 20) ha ?_; clear ha a; intro a ha
  rw [Nat.zero_add] at ha
  refine SLg (s := 20) ha (hs.rd1 (pgc_ref hi)) ?_; clear ha a; intro a ha
  refine S1g (s := 20) ha ?_; clear ha a; intro a ha
  refine PF ha ?_; clear ha a; intro a ha
  refine LN <| TN ?_
  rw [decide_eq_false (by omega)] at ha
  refine WFa ha <| WK <| TN <| WS <| WR ?_
  iterate 3 (refine S1 ha ?_; clear ha a; intro a ha)
  refine SL ha (hs.rd1 rfl) ?_; clear ha a; intro a ha
  refine S1 ha ?_; clear ha a; intro a ha
  refine SK (st_set ha rfl (ex_subI ha (by omega) (by omega)) rfl ?_); clear ha a; intro a ha
  rw [show (i : Int) + 1 - 1 = (i : Int) from by omega] at ha
  refine SK (st_set ha rfl (ex_indexAddr ha Tryz.underlying109 Ty.t114 (by omega)) rfl ?_); clear ha a; intro a ha
  refine S1d ha ?_; clear ha a; intro a ha
  rw [Nat.zero_add] at ha
  refine LN <| TN <| wp_ret ?_
  refine ret1 ha rfl ?_
  exact ⟨rfl, (Room.close (n := _) hs rfl hp)⟩
theorem St.pgRd {R : List SP} {e : Nat} (hs : St W w L) [k : Blk L b e (pgc ps) R] (hi : i < ps.length) : Rd w b (i * 9) (ints .i32 8 ps[i].g) := by
  rw [← pgc_cells hi]; exact hs.rdN 8
theorem St.pgRd9 {R : List SP} {e : Nat} (hs : St W w L) [k : Blk L b e (pgc ps) R] (hi : i < ps.length) : Rd w b (i * 9) ps[i].cells := by
  rw [← rows_at Pg.len ps i hi]; exact hs.rdN 9
theorem page_refs (hs : St W w (Room q b ps :: L)) (hi : i < ps.length) (hr : 0 < ps[i].refs) :
    Calls Tryz.prog 152 #[.pointer (some ⟨q, 0, none⟩), .int .i64 ((i : Int) + 1)] w fun e w' => e = .returned (.int .i64 ps[i].refs) ∧ St W w' (Room q b ps :: L) := by
  refine calls_enter Tryz.func152 rfl Tryz.ntmps152 (Nat.le_of_ble_eq_true rfl) ?_
  intro a ha
  replace ha : Fr a 15 [(0, _), (1, _)] := ha
  refine WS <| WR ?_
  refine S1 ha ?_; clear ha a; intro a ha
  refine LN <| TN <| WS <| WR ?_
  iterate 2 (refine S1 ha ?_; clear ha a; intro a ha)
  refine SK (st_call ha rfl Ty.c73 rfl (page_at hs hi hr) ?_); clear ha hs
  rintro e w ⟨rfl, hs⟩
  refine ⟨_, rfl, ?_⟩
  intro a ha
  refine S1 ha ?_; clear ha a; intro a ha
  refine LN <| TN <| WS <| WS <| WR ?_
  iterate 2 (refine S1 ha ?_; clear ha a; intro a ha)
  refine LN <| TN <| WFa ha <| WK <| TN <| WS ?_
  obtain ⟨hp, hs⟩ := Room.open hs
  refine WR ?_
  iterate 3 (refine S1 ha ?_; clear ha a; intro a ha)
  refine SL ha (hs.rd1 (pgc_ref hi)) ?_; clear ha a; intro a ha
  refine S1d ha ?_; clear ha a; intro a ha
  refine LN <| TN <| wp_ret ?_
  refine ret1 ha rfl ?_
  exact ⟨rfl, (Room.close (n := _) hs rfl hp)⟩
theorem refsSet {ps : List Pg} {i r : Nat} {g : Nat → Int} (hp : ps.length ≤ 200 ∧ ∀ p ∈ ps, p.refs < 4611686018427387904) (hr : r < 4611686018427387904) :
    (ps.set i ⟨g, r⟩).length ≤ 200 ∧ ∀ p ∈ ps.set i ⟨g, r⟩, p.refs < 4611686018427387904 := by
  refine ⟨by rw [List.length_set]; exact hp.1, fun p h => ?_⟩
  rcases List.mem_or_eq_of_mem_set h with h | h
  · exact hp.2 p h
  · rw [h]; exact hr
theorem page_hold (hs : St W w (Room q b ps :: L)) (hi : i < ps.length) (hr : 0 < ps[i].refs) (hb : ps[i].refs + 1 < 4611686018427387904) :
    Calls Tryz.prog 80 #[.pointer (some ⟨q, 0, none⟩), .int .i64 ((i : Int) + 1)] w fun e w' => e = .returned (.bool true) ∧ St W w' (Room q b (ps.set i ⟨ps[i].g, ps[i].refs + 1⟩) :: L) := by
  refine calls_enter Tryz.func80 rfl Tryz.ntmps80 (Nat.le_of_ble_eq_true rfl) ?_
  intro a ha
  replace ha : Fr a 20 [(0, _), (1, _)] := ha
  refine WS <| WR ?_
  refine S1 ha ?_; clear ha a; intro a ha
  refine LN <| TN <| WS <| WR ?_
  iterate 2 (refine S1 ha ?_; clear ha a; intro a ha)
  refine SK (st_call ha rfl Ty.c73 rfl (page_at hs hi hr) ?_); clear ha hs
  rintro e w ⟨rfl, hs⟩
  refine ⟨_, rfl, ?_⟩
  intro a ha
  refine S1 ha ?_; clear ha a; intro a ha
  refine LN <| TN <| WS <| WS <| WR ?_
  iterate 2 (refine S1 ha ?_; clear ha a; intro a ha)
  refine LN <| TN <| WTr ha ?_
  obtain ⟨hp, hs⟩ := Room.open hs
  refine WR ?_
  iterate 3 (refine S1 ha ?_; clear ha a; intro a ha)
  refine SL ha (hs.rd1 (pgc_ref hi)) ?_; clear ha a; intro a ha
  refine SK (st_set ha rfl (ex_addI ha (by omega) (by omega)) rfl ?_); clear ha a; intro a ha
  iterate 2 (refine S1 ha ?_; clear ha a; intro a ha)
  refine SK (st_store ha rfl hs Ty.t3 rfl (by rw [pgc_len]; omega) ?_); clear ha hs a; (try clear w); intro a w ha hs
  rw [show ((ps[i].refs : Int) + 1) = ((ps[i].refs + 1 : Nat) : Int) from rfl, pgc_setref hi] at hs
  refine LN <| TN <| WS <| WR ?_
  iterate 2 (refine S1 ha ?_; clear ha a; intro a ha)
  refine S1d ha ?_; clear ha a; intro a ha
  refine LN <| TN <| wp_ret ?_
  refine ret1 ha rfl ?_
  exact ⟨rfl, (Room.close (n := ps.length) hs List.length_set (refsSet hp hb))⟩
theorem page_drop (hs : St W w (Room q b ps :: L)) (hi : i < ps.length) (hr : 0 < ps[i].refs) :
    Calls Tryz.prog 49 #[.pointer (some ⟨q, 0, none⟩), .int .i64 ((i : Int) + 1)] w fun e w' => e = .returned (.bool true) ∧ St W w' (Room q b (ps.set i ⟨ps[i].g, ps[i].refs - 1⟩) :: L) := by
  refine calls_enter Tryz.func49 rfl Tryz.ntmps49 (Nat.le_of_ble_eq_true rfl) ?_
  intro a ha
  replace ha : Fr a 20 [(0, _), (1, _)] := ha
  refine WS <| WR ?_
  refine S1 ha ?_; clear ha a; intro a ha
  refine LN <| TN <| WS <| WR ?_
  iterate 2 (refine S1 ha ?_; clear ha a; intro a ha)
  refine SK (st_call ha rfl Ty.c73 rfl (page_at hs hi hr) ?_); clear ha hs
  rintro e w ⟨rfl, hs⟩
  refine ⟨_, rfl, ?_⟩
  intro a ha
  refine S1 ha ?_; clear ha a; intro a ha
  refine LN <| TN <| WS <| WS <| WR ?_
  iterate 2 (refine S1 ha ?_; clear ha a; intro a ha)
  refine LN <| TN <| WTr ha ?_
  obtain ⟨hp, hs⟩ := Room.open hs
  have hb := hp.2 _ (List.getElem_mem hi)
  refine WR ?_
  iterate 3 (refine S1 ha ?_; clear ha a; intro a ha)
  refine SL ha (hs.rd1 (pgc_ref hi)) ?_; clear ha a; intro a ha
  refine SK (st_set ha rfl (ex_subI ha (by omega) (by omega)) rfl ?_); clear ha a; intro a ha
  iterate 2 (refine S1 ha ?_; clear ha a; intro a ha)
  refine SK (st_store ha rfl hs Ty.t3 rfl (by rw [pgc_len]; omega) ?_); clear ha hs a; (try clear w); intro a w ha hs
  rw [show ((ps[i].refs : Int) - 1) = ((ps[i].refs - 1 : Nat) : Int) from by omega, pgc_setref hi] at hs
  refine LN <| TN <| WS <| WR ?_
  iterate 2 (refine S1 ha ?_; clear ha a; intro a ha)
  refine S1d ha ?_; clear ha a; intro a ha
  refine LN <| TN <| wp_ret ?_
  refine ret1 ha rfl ?_
  exact ⟨rfl, (Room.close (n := ps.length) hs List.length_set (refsSet hp (by omega)))⟩
theorem page_get {k : Nat} (hs : St W w (Room q b ps :: L)) (hi : i < ps.length) (hr : 0 < ps[i].refs) (hk : k < 8) :
    Calls Tryz.prog 77 #[.pointer (some ⟨q, 0, none⟩), .int .i64 ((i : Int) + 1), .int .i64 k] w fun e w' => e = .returned (.tuple #[.int .i32 (ps[i].g k), .bool true]) ∧ St W w' (Room q b ps :: L) := by
  refine calls_enter Tryz.func77 rfl Tryz.ntmps77 (Nat.le_of_ble_eq_true rfl) ?_
  intro a ha
  replace ha : Fr a 28 [(0, _), (1, _), (2, _)] := ha
  refine WS <| WR ?_
  iterate 2 (refine S1 ha ?_; clear ha a; intro a ha)
  refine LN <| TN <| WS <| WR ?_
  iterate 2 (refine S1 ha ?_; clear ha a; intro a ha)
  refine SK (st_call ha rfl Ty.c73 rfl (page_at hs hi hr) ?_); clear ha hs
  rintro e w ⟨rfl, hs⟩
  refine ⟨_, rfl, ?_⟩
  intro a ha
  refine S1 ha ?_; clear ha a; intro a ha
  refine LN <| TN <| WS <| WS <| WR ?_
  iterate 3 (refine S1 ha ?_; clear ha a; intro a ha)
  iterate 2 (refine S1g (s := 14) ha ?_; clear ha a; intro a ha)
  refine PF ha ?_; clear ha a; intro a ha
  refine S1 ha ?_; clear ha a; intro a ha
  rw [decide_eq_false (by omega)] at ha
  iterate 2 (refine S1g (s := 18) ha ?_; clear ha a; intro a ha)
  refine PF ha ?_; clear ha a; intro a ha
  refine LN <| TN ?_
  rw [decide_eq_false (by omega)] at ha
  refine WFa ha <| WK <| TN <| WS ?_
  obtain ⟨hp, hs⟩ := Room.open hs
  refine WR ?_
  iterate 4 (refine S1 ha ?_; clear ha a; intro a ha)
  refine SK (st_set ha rfl (ex_indexAddrA ha Tryz.underlying112 Ty.t21 (by omega)) rfl ?_); clear ha a; intro a ha
  rw [Nat.mul_one] at ha
  refine SL ha (hs.rd1 (pgc_at hi hk)) ?_; clear ha a; intro a ha
  iterate 2 (refine S1d ha ?_; clear ha a; intro a ha)
  refine LN <| TN <| wp_ret ?_
  refine ret2 ha rfl ?_
  exact ⟨rfl, (Room.close (n := _) hs rfl hp)⟩
theorem page_set {k : Nat} {v : Int} (hs : St W w (Room q b ps :: L)) (hi : i < ps.length) (hr : ps[i].refs = 1) (hk : k < 8) :
    Calls Tryz.prog 60 #[.pointer (some ⟨q, 0, none⟩), .int .i64 ((i : Int) + 1), .int .i64 k, .int .i32 v] w fun e w' => e = .returned (.bool true) ∧ St W w' (Room q b (ps.set i ⟨fun j => if j = k then v else ps[i].g j, 1⟩) :: L) := by
  refine calls_enter Tryz.func60 rfl Tryz.ntmps60 (Nat.le_of_ble_eq_true rfl) ?_
  intro a ha
  replace ha : Fr a 36 [(0, _), (1, _), (2, _), (3, _)] := ha
  refine WS <| WR ?_
  refine S1 ha ?_; clear ha a; intro a ha
  refine LN <| TN <| WS <| WR ?_
  iterate 2 (refine S1 ha ?_; clear ha a; intro a ha)
  refine SK (st_call ha rfl Ty.c73 rfl (page_at hs hi (by omega)) ?_); clear ha hs
  rintro e w ⟨rfl, hs⟩
  refine ⟨_, rfl, ?_⟩
  intro a ha
  refine S1 ha ?_; clear ha a; intro a ha
  refine LN <| TN <| WS <| WS <| WR ?_
  iterate 3 (refine S1 ha ?_; clear ha a; intro a ha)
  iterate 2 (refine S1g (s := 15) ha ?_; clear ha a; intro a ha)
  refine PF ha ?_; clear ha a; intro a ha
  refine S1 ha ?_; clear ha a; intro a ha
  rw [decide_eq_false (by omega)] at ha
  iterate 2 (refine S1g (s := 19) ha ?_; clear ha a; intro a ha)
  refine PF ha ?_; clear ha a; intro a ha
  refine S1 ha ?_; clear ha a; intro a ha
  obtain ⟨hp, hs⟩ := Room.open hs
  rw [decide_eq_false (by omega)] at ha
  iterate 3 (refine S1g (s := 23) ha ?_; clear ha a; intro a ha)
  refine SLg (s := 23) ha (hs.rd1 (pgc_ref hi)) ?_; clear ha a; intro a ha
  refine S1g (s := 23) ha ?_; clear ha a; intro a ha
  refine PF ha ?_; clear ha a; intro a ha
  refine LN <| TN ?_
  rw [decide_eq_false (by omega)] at ha
  refine WFa ha <| WK <| TN <| WS <| WR ?_
  iterate 5 (refine S1 ha ?_; clear ha a; intro a ha)
  refine SK (st_set ha rfl (ex_indexAddrA ha Tryz.underlying112 Ty.t21 (by omega)) rfl ?_); clear ha a; intro a ha
  rw [Nat.mul_one] at ha
  refine SK (st_store ha rfl hs Ty.t21 rfl (by rw [pgc_len]; omega) ?_); clear ha hs a; (try clear w); intro a w ha hs
  rw [pgc_setat hi hk, hr] at hs
  refine LN <| TN <| WS <| WR ?_
  refine S1d ha ?_; clear ha a; intro a ha
  refine LN <| TN <| wp_ret ?_
  refine ret1 ha rfl ?_
  exact ⟨rfl, (Room.close (n := ps.length) hs List.length_set (refsSet hp (by omega)))⟩

/-- The first page that is not in use. -/
def freeI (ps : List Pg) (i : Nat) : Prop := ∃ h : i < ps.length, ps[i].refs = 0 ∧ ∀ j, (hj : j < i) → 0 < ps[j].refs
def noneFree (ps : List Pg) : Prop := ∀ j, (h : j < ps.length) → 0 < ps[j].refs
theorem free_cases (ps : List Pg) : noneFree ps ∨ ∃ i, freeI ps i := by
  have aux : ∀ n, (∀ j, (h : j < ps.length) → j < n → 0 < ps[j].refs) ∨ ∃ i, freeI ps i := by
    intro n
    induction n with
    | zero => exact .inl fun j _ h => by omega
    | succ n ih =>
      rcases ih with h | h
      · by_cases hn : n < ps.length
        · by_cases h0 : ps[n].refs = 0
          · exact .inr ⟨n, hn, h0, fun j hj => h j (by omega) hj⟩
          · refine .inl fun j hj hjn => ?_
            rcases Nat.lt_or_ge j n with h1 | h1
            · exact h j hj h1
            · obtain rfl : j = n := by omega
              omega
        · exact .inl fun j hj hjn => h j hj (by omega)
      · exact .inr h
  rcases aux ps.length with h | h
  · exact .inl fun j hj => h j hj hj
  · exact .inr h
theorem page_take_some (hs : St W w (Room q b ps :: L)) (hf : freeI ps i) :
    Calls Tryz.prog 58 #[.pointer (some ⟨q, 0, none⟩)] w fun e w' => e = .returned (.tuple #[.int .i64 ((i : Int) + 1), .bool true]) ∧ St W w' (Room q b (ps.set i pg1) :: L) := by
  obtain ⟨hi, h0, hlow⟩ := hf
  obtain ⟨hp, hs⟩ := Room.open hs
  refine calls_enter Tryz.func58 rfl Tryz.ntmps58 (Nat.le_of_ble_eq_true rfl) ?_
  intro a ha
  replace ha : Fr a 34 [(0, _)] := ha
  refine WS <| WR ?_
  iterate 2 (refine S1 ha ?_; clear ha a; intro a ha)
  refine LN <| TN <| WS <| WS <| WR ?_
  iterate 2 (refine S1 ha ?_; clear ha a; intro a ha)
  refine LN <| TN <| WFa ha <| WK <| TN <| WS <| WS <| WR ?_
  iterate 3 (refine S1 ha ?_; clear ha a; intro a ha)
  refine SL ha (hs.rd1 rfl) ?_; clear ha a; intro a ha
  iterate 2 (refine S1 ha ?_; clear ha a; intro a ha)
  refine LN <| TN <| wp_block ?_
  refine wp_loop_ghost (fun μ a w => ∃ k : Nat, (μ = i - k ∧ k ≤ i) ∧ Fr a 34 [(0, .pointer (some ⟨q, 0, none⟩)), (11, .int .i64 ps.length), (12, .int .i64 k)] ∧ St W w (blk q 111 [.slice (some ⟨b, 0, none⟩) ps.length ps.length] :: blk b 114 (pgc ps) :: L)) (i) ?_ ?_
  · exact ⟨0, ⟨by simp, by simp⟩, ha.keep [0, 11, 12], hs.sub⟩
  ·
   clear ha hs
   rintro μ a w ⟨k, ⟨rfl, hk⟩, ha, hs⟩
   refine WS <| WR ?_
   refine S1 ha ?_; clear ha; (try clear a); intro a ha
   refine LN <| TN <| WS ?_
   rw [decide_eq_true (by omega)] at ha
   refine WTr ha <| WK <| TN <| WS <| wp_block <| WS <| WR ?_
   iterate 2 (refine S1 ha ?_; clear ha a; intro a ha)
   refine LN <| TN <| WS <| WR ?_
   iterate 3 (refine S1 ha ?_; clear ha a; intro a ha)
   refine SL ha (hs.rd1 rfl) ?_; clear ha a; intro a ha
   refine S1 ha ?_; clear ha a; intro a ha
   refine SK (st_set ha rfl (ex_indexAddr ha Tryz.underlying109 Ty.t114 (by omega)) rfl ?_); clear ha a; intro a ha
   rw [Nat.zero_add] at ha
   refine S1 ha ?_; clear ha a; intro a ha
   refine SL ha (hs.rd1 (pgc_ref (by omega))) ?_; clear ha a; intro a ha
   refine S1 ha ?_; clear ha a; intro a ha
   refine LN <| TN ?_
   refine WI ha (fun hc2 => ?_) (fun hc2 => ?_)
   ·
    obtain rfl : k = i := by
        rcases Nat.lt_or_ge k i with h | h
        · have := hlow k h; omega
        · omega
    refine WS <| WR ?_
    refine S1 ha ?_; clear ha; (try clear a); intro a ha
    iterate 2 (refine S1 ha ?_; clear ha a; intro a ha)
    refine SL ha (hs.rd1 rfl) ?_; clear ha a; intro a ha
    refine S1 ha ?_; clear ha a; intro a ha
    refine SK (st_set ha rfl (ex_build ha Ty.b114 Ty.t114 rfl) rfl ?_); clear ha a; intro a ha
    refine SK (st_set ha rfl (ex_indexAddr ha Tryz.underlying109 Ty.t114 (by omega)) rfl ?_); clear ha a; intro a ha
    rw [Nat.zero_add] at ha
    refine SK (st_storeN ha rfl hs Ty.t114 (by simp [Value.oneCell']) (by rw [pgc_len]; simp; omega) ?_); clear ha hs a; (try clear w); intro a w ha hs
    replace hs := hs.bring b
    change St W w (blk b 114 (splice (pgc ps) (k * 9) pg1.cells) :: _) at hs
    rw [pgc_setpage pg1 hi] at hs
    refine LN <| TN <| WS <| WR ?_
    refine S1 ha ?_; clear ha a; intro a ha
    refine SK (st_set ha rfl (ex_addI ha (by omega) (by omega)) rfl ?_); clear ha a; intro a ha
    iterate 2 (refine S1 ha ?_; clear ha a; intro a ha)
    refine LN <| TN <| wp_ret <| BR <| TR <| TR <| BR <| TR ?_
    refine ret2 ha rfl ?_
    exact ⟨rfl, (Room.close (n := ps.length) hs List.length_set (refsSet (g := fun _ => 0) (r := 1) hp (by omega)))⟩
   ·
    have hki : k < i := by
        rcases Nat.lt_or_ge k i with h | h
        · exact h
        · obtain rfl : k = i := by omega
          omega
    refine WK <| BN <| TN <| WR ?_
    refine SK (st_set ha rfl (ex_addI ha (by omega) (by omega)) rfl ?_); clear ha; (try clear a); intro a ha
    refine S1d ha ?_; clear ha a; intro a ha
    refine LN <| TN ?_
    exact ⟨i - (k + 1), by omega, k + 1, ⟨rfl, by omega⟩, ha.keep [0, 11, 12], hs.sub⟩
theorem page_take_none (hs : St W w (Room q b ps :: L)) (hf : noneFree ps) :
    Calls Tryz.prog 58 #[.pointer (some ⟨q, 0, none⟩)] w fun e w' => e = .returned (.tuple #[.int .i64 0, .bool false]) ∧ St W w' (Room q b ps :: L) := by
  obtain ⟨hp, hs⟩ := Room.open hs
  refine calls_enter Tryz.func58 rfl Tryz.ntmps58 (Nat.le_of_ble_eq_true rfl) ?_
  intro a ha
  replace ha : Fr a 34 [(0, _)] := ha
  refine WS <| WR ?_
  iterate 2 (refine S1 ha ?_; clear ha a; intro a ha)
  refine LN <| TN <| WS <| WS <| WR ?_
  iterate 2 (refine S1 ha ?_; clear ha a; intro a ha)
  refine LN <| TN <| WFa ha <| WK <| TN <| WS <| WS <| WR ?_
  iterate 3 (refine S1 ha ?_; clear ha a; intro a ha)
  refine SL ha (hs.rd1 rfl) ?_; clear ha a; intro a ha
  iterate 2 (refine S1 ha ?_; clear ha a; intro a ha)
  refine LN <| TN <| wp_block ?_
  refine wp_loop_ghost (fun μ a w => ∃ k : Nat, (μ = ps.length - k ∧ k ≤ ps.length) ∧ Fr a 34 [(0, .pointer (some ⟨q, 0, none⟩)), (11, .int .i64 ps.length), (12, .int .i64 k)] ∧ St W w (blk q 111 [.slice (some ⟨b, 0, none⟩) ps.length ps.length] :: blk b 114 (pgc ps) :: L)) (ps.length) ?_ ?_
  · exact ⟨0, ⟨by simp, by simp⟩, ha.keep [0, 11, 12], hs.sub⟩
  ·
   clear ha hs
   rintro μ a w ⟨k, ⟨rfl, hk⟩, ha, hs⟩
   refine WS <| WR ?_
   refine S1 ha ?_; clear ha; (try clear a); intro a ha
   refine LN <| TN <| WS ?_
   refine WI ha (fun hc1 => ?_) (fun hc1 => ?_)
   ·
    refine WK <| TN <| WS <| wp_block <| WS <| WR ?_
    refine S1 ha ?_; clear ha; (try clear a); intro a ha
    refine S1 ha ?_; clear ha a; intro a ha
    refine LN <| TN <| WS <| WR ?_
    iterate 3 (refine S1 ha ?_; clear ha a; intro a ha)
    refine SL ha (hs.rd1 rfl) ?_; clear ha a; intro a ha
    refine S1 ha ?_; clear ha a; intro a ha
    refine SK (st_set ha rfl (ex_indexAddr ha Tryz.underlying109 Ty.t114 (by omega)) rfl ?_); clear ha a; intro a ha
    rw [Nat.zero_add] at ha
    refine S1 ha ?_; clear ha a; intro a ha
    have hk2 := hf k (by omega)
    refine SL ha (hs.rd1 (pgc_ref (by omega))) ?_; clear ha a; intro a ha
    refine S1 ha ?_; clear ha a; intro a ha
    refine LN <| TN ?_
    rw [decide_eq_false (by omega)] at ha
    refine WFa ha <| WK <| BN <| TN <| WR ?_
    refine SK (st_set ha rfl (ex_addI ha (by omega) (by omega)) rfl ?_); clear ha a; intro a ha
    refine S1d ha ?_; clear ha a; intro a ha
    refine LN <| TN ?_
    exact ⟨ps.length - (k + 1), by omega, k + 1, ⟨rfl, by omega⟩, ha.keep [0, 11, 12], hs.sub⟩
   ·
    refine wp_exit <| TE <| TE <| blk_e <| TN <| WS <| WR ?_
    refine S1 ha ?_; clear ha; (try clear a); intro a ha
    refine S1 ha ?_; clear ha a; intro a ha
    refine LN <| TN <| wp_ret ?_
    refine ret2 ha rfl ?_
    exact ⟨rfl, (Room.close (n := _) hs rfl hp)⟩
theorem page_copy_none (hs : St W w (Room q b ps :: L)) (hi : i < ps.length) (hr : 0 < ps[i].refs) (hf : noneFree ps) :
    Calls Tryz.prog 153 #[.pointer (some ⟨q, 0, none⟩), .int .i64 ((i : Int) + 1)] w fun e w' => e = .returned (.tuple #[.int .i64 0, .bool false]) ∧ St W w' (Room q b ps :: L) := by
  refine calls_enter Tryz.func153 rfl Tryz.ntmps153 (Nat.le_of_ble_eq_true rfl) ?_
  intro a ha
  replace ha : Fr a 31 [(0, _), (1, _)] := ha
  refine WS <| WR ?_
  iterate 2 (refine S1 ha ?_; clear ha a; intro a ha)
  refine LN <| TN <| WS <| WR ?_
  iterate 2 (refine S1 ha ?_; clear ha a; intro a ha)
  refine SK (st_call ha rfl Ty.c73 rfl (page_at hs hi hr) ?_); clear ha hs
  rintro e w ⟨rfl, hs⟩
  refine ⟨_, rfl, ?_⟩
  intro a ha
  refine S1 ha ?_; clear ha a; intro a ha
  refine LN <| TN <| WS <| WS <| WR ?_
  iterate 2 (refine S1 ha ?_; clear ha a; intro a ha)
  refine LN <| TN <| WFa ha <| WK <| TN <| WS <| WR ?_
  refine S1 ha ?_; clear ha a; intro a ha
  refine SK (st_call ha rfl Ty.c58 rfl (page_take_none hs hf) ?_); clear ha hs
  rintro e w ⟨rfl, hs⟩
  refine ⟨_, rfl, ?_⟩
  intro a ha
  iterate 5 (refine S1 ha ?_; clear ha a; intro a ha)
  refine LN <| TN <| WS <| WS <| WR ?_
  refine S1 ha ?_; clear ha a; intro a ha
  refine LN <| TN <| WFa ha <| WK <| TN <| WS <| WR ?_
  iterate 2 (refine S1 ha ?_; clear ha a; intro a ha)
  iterate 2 (refine S1d ha ?_; clear ha a; intro a ha)
  refine LN <| TN <| wp_ret ?_
  refine ret2 ha rfl ?_
  exact ⟨rfl, hs⟩
theorem page_copy_some {k : Nat} (hs : St W w (Room q b ps :: L)) (hi : i < ps.length) (hr : 0 < ps[i].refs) (hf : freeI ps k) :
    Calls Tryz.prog 153 #[.pointer (some ⟨q, 0, none⟩), .int .i64 ((i : Int) + 1)] w fun e w' => e = .returned (.tuple #[.int .i64 ((k : Int) + 1), .bool true]) ∧ St W w' (Room q b (ps.set k ⟨ps[i].g, 1⟩) :: L) := by
  have hk := hf.1
  have hne : k ≠ i := by
    rintro rfl
    obtain ⟨_, h, _⟩ := hf
    omega
  have hkl : k < (ps.set k pg1).length := by rw [List.length_set]; exact hk
  have hil : i < (ps.set k pg1).length := by rw [List.length_set]; exact hi
  have e1 : (ps.set k pg1)[k] = pg1 := by rw [List.getElem_set_self]
  have e2 : (ps.set k pg1)[i] = ps[i] := by rw [List.getElem_set_ne hne]
  refine calls_enter Tryz.func153 rfl Tryz.ntmps153 (Nat.le_of_ble_eq_true rfl) ?_
  intro a ha
  replace ha : Fr a 31 [(0, _), (1, _)] := ha
  refine WS <| WR ?_
  iterate 2 (refine S1 ha ?_; clear ha a; intro a ha)
  refine LN <| TN <| WS <| WR ?_
  iterate 2 (refine S1 ha ?_; clear ha a; intro a ha)
  refine SK (st_call ha rfl Ty.c73 rfl (page_at hs hi hr) ?_); clear ha hs
  rintro e w ⟨rfl, hs⟩
  refine ⟨_, rfl, ?_⟩
  intro a ha
  refine S1 ha ?_; clear ha a; intro a ha
  refine LN <| TN <| WS <| WS <| WR ?_
  iterate 2 (refine S1 ha ?_; clear ha a; intro a ha)
  refine LN <| TN <| WFa ha <| WK <| TN <| WS <| WR ?_
  refine S1 ha ?_; clear ha a; intro a ha
  refine SK (st_call ha rfl Ty.c58 rfl (page_take_some hs hf) ?_); clear ha hs
  rintro e w ⟨rfl, hs⟩
  refine ⟨_, rfl, ?_⟩
  intro a ha
  iterate 5 (refine S1 ha ?_; clear ha a; intro a ha)
  refine LN <| TN <| WS <| WS <| WR ?_
  refine S1 ha ?_; clear ha a; intro a ha
  refine LN <| TN <| WTr ha ?_
  refine DW (m := 10) (fun w' => Rd w' b (i * 9) (ints .i32 8 ps[i].g)) [2] [0, 1, 3, 4, 5, 6, 2, 7, 8, 9] Ty.mixed (pk_then pk_body) (fun hpk => ?_)
  replace hs := hs.drew
  generalize w.drew = w at hs hpk ⊢
  have hC : Rd w b (i * 9) (ints .i32 8 ps[i].g) := by
      have := St.pgRd (b := b) (e := 114) (Room.open hs).2 hil
      rwa [e2] at this
  iterate 5 (refine DP hpk ha rfl ?_; clear ha a; intro a ha)
  refine DH hpk ha rfl rfl (fun w hc => ex_loadN ha Tryz.underlying112 rfl Ty.t112 (hc)) hC ?_; clear ha a; intro a ha
  refine D1 rfl (st_call ha rfl Ty.c73 rfl (page_at hs hkl (by rw [e1]; decide)) ?_); clear ha hs
  rintro e w ⟨rfl, hs⟩
  refine ⟨_, rfl, ?_⟩
  intro a ha
  replace hC : (fun w' => Rd w' b (i * 9) (ints .i32 8 ps[i].g)) w := by
      have := St.pgRd (b := b) (e := 114) (Room.open hs).2 hil
      rwa [e2] at this
  refine ⟨fun _ => hC, ?_⟩
  iterate 2 (refine DP hpk ha rfl ?_; clear ha a; intro a ha)
  obtain ⟨hp, hs⟩ := Room.open hs
  refine D1 rfl (st_storeN ha rfl hs Ty.t112 ints_one (by rw [pgc_len, ints_len]; omega) ?_); clear ha hs a; (try clear w); intro a w ha hs
  refine ⟨fun h => absurd h (by decide), ?_⟩
  rw [pgc_setcells hkl, List.set_set, e1, show pg1.refs = 1 from rfl] at hs
  refine DD <| TN <| WS <| WR ?_
  iterate 2 (refine S1 ha ?_; clear ha a; intro a ha)
  iterate 2 (refine S1d ha ?_; clear ha a; intro a ha)
  refine LN <| TN <| wp_ret ?_
  refine ret2 ha rfl ?_
  exact ⟨rfl, (Room.close (n := (ps.set k pg1).length) hs (by rw [List.length_set, List.length_set]) (by have := refsSet (g := ps[i].g) (r := 1) (i := k) hp (by decide); rwa [List.set_set] at this))⟩

/-- How many are in use. -/
def usedN (ps : List Pg) : Nat := ps.countP fun p => decide (0 < p.refs)
theorem used_le (ps : List Pg) : usedN ps ≤ ps.length := List.countP_le_length
theorem used_succ {ps : List Pg} {k : Nat} (h : k < ps.length) : usedN (ps.take (k + 1)) = usedN (ps.take k) + if 0 < ps[k].refs then 1 else 0 := by
  rw [usedN, List.take_succ_eq_append_getElem h, List.countP_append, usedN, List.countP_singleton]
  by_cases h : 0 < ps[k].refs <;> simp [h]
theorem page_used (hs : St W w (Room q b ps :: L)) :
    Calls Tryz.prog 24 #[.pointer (some ⟨q, 0, none⟩)] w fun e w' => e = .returned (.int .i64 (usedN ps)) ∧ St W w' (Room q b ps :: L) := by
  obtain ⟨hp, hs⟩ := Room.open hs
  refine calls_enter Tryz.func24 rfl Tryz.ntmps24 (Nat.le_of_ble_eq_true rfl) ?_
  intro a ha
  replace ha : Fr a 24 [(0, _)] := ha
  refine WS <| WR ?_
  refine S1 ha ?_; clear ha a; intro a ha
  refine LN <| TN <| WS <| WS <| WR ?_
  iterate 2 (refine S1 ha ?_; clear ha a; intro a ha)
  refine LN <| TN <| WFa ha <| WK <| TN <| WS <| WR ?_
  refine S1 ha ?_; clear ha a; intro a ha
  refine LN <| TN <| WS <| WS <| WR ?_
  iterate 3 (refine S1 ha ?_; clear ha a; intro a ha)
  refine SL ha (hs.rd1 rfl) ?_; clear ha a; intro a ha
  iterate 2 (refine S1 ha ?_; clear ha a; intro a ha)
  refine LN <| TN <| wp_block ?_
  refine wp_loop_ghost (fun μ a w => ∃ k : Nat, (μ = ps.length - k ∧ k ≤ ps.length) ∧ Fr a 24 [(3, .int .i64 (usedN (ps.take k))), (11, .slice (some ⟨b, 0, none⟩) ps.length ps.length), (12, .int .i64 ps.length), (13, .int .i64 k)] ∧ St W w (blk q 111 [.slice (some ⟨b, 0, none⟩) ps.length ps.length] :: blk b 114 (pgc ps) :: L)) (ps.length) ?_ ?_
  · exact ⟨0, ⟨by simp, by simp⟩, ha.keep [3, 11, 12, 13], hs.sub⟩
  ·
   clear ha hs
   rintro μ a w ⟨k, ⟨rfl, hk⟩, ha, hs⟩
   have hul := used_le (ps.take k)
   rw [List.length_take] at hul
   refine WS <| WR ?_
   refine S1 ha ?_; clear ha; (try clear a); intro a ha
   refine LN <| TN <| WS ?_
   refine WI ha (fun hc1 => ?_) (fun hc1 => ?_)
   ·
    have hk3 : k < ps.length := by omega
    have hul2 := used_succ hk3
    refine WK <| TN <| WS <| wp_block <| WS <| WR ?_
    refine SK (st_set ha rfl (ex_indexAddr ha Tryz.underlying109 Ty.t114 (by omega)) rfl ?_); clear ha; (try clear a); intro a ha
    rw [Nat.zero_add] at ha
    refine SK (st_set ha rfl (ex_loadN ha Tryz.underlying114 rfl Ty.t114 (hs.pgRd9 hk3)) rfl ?_); clear ha a; intro a ha
    refine SK (st_alloc ha rfl hs Ty.t114 rfl ?_); clear ha hs a; (try clear w); intro b5 a w ha hs ho
    clear ho
    refine SK (st_storeN ha rfl hs Ty.t114 (Pg.one _) (by rw [Pg.len]; exact Nat.le_refl _) ?_); clear ha hs a; (try clear w); intro a w ha hs
    rw [show splice _ 0 ps[k].cells = ps[k].cells from by simp [splice, Pg.len]] at hs
    refine LN <| TN <| WS <| WR ?_
    refine S1 ha ?_; clear ha a; intro a ha
    refine SL ha (hs.rd1 (show ps[k].cells[8]? = some (.int .i64 ps[k].refs) from by simp [Pg.cells, ints_len])) ?_; clear ha a; intro a ha
    refine S1 ha ?_; clear ha a; intro a ha
    refine LN <| TN ?_
    refine WI ha (fun hc2 => ?_) (fun hc2 => ?_)
    ·
     rw [if_pos (by omega)] at hul2
     refine WR ?_
     refine S1 ha ?_; clear ha; (try clear a); intro a ha
     refine SK (st_set ha rfl (ex_addI ha (by omega) (by omega)) rfl ?_); clear ha a; intro a ha
     refine S1d ha ?_; clear ha a; intro a ha
     refine LN <| BN <| TN <| WR ?_
     refine SK (st_set ha rfl (ex_addI ha (by omega) (by omega)) rfl ?_); clear ha a; intro a ha
     refine S1d ha ?_; clear ha a; intro a ha
     refine LN <| TN ?_
     exact ⟨ps.length - (k + 1), by omega, k + 1, ⟨rfl, by omega⟩, by rw [hul2]; exact ha.keep [3, 11, 12, 13], hs.sub⟩
    ·
     rw [if_neg (by omega)] at hul2
     refine WK <| BN <| TN <| WR ?_
     refine SK (st_set ha rfl (ex_addI ha (by omega) (by omega)) rfl ?_); clear ha; (try clear a); intro a ha
     refine S1d ha ?_; clear ha a; intro a ha
     refine LN <| TN ?_
     exact ⟨ps.length - (k + 1), by omega, k + 1, ⟨rfl, by omega⟩, by rw [hul2]; exact ha.keep [3, 11, 12, 13], hs.sub⟩
   ·
    refine wp_exit <| TE <| TE <| blk_e <| TN <| WS <| WR ?_
    refine S1 ha ?_; clear ha; (try clear a); intro a ha
    refine S1 ha ?_; clear ha a; intro a ha
    refine LN <| TN <| wp_ret ?_
    refine ret1 ha rfl ?_
    obtain rfl : k = ps.length := by omega
    rw [List.take_length]
    exact ⟨rfl, (Room.close (n := _) hs rfl hp)⟩
theorem page_free (hs : St W w (Room q b ps :: L)) :
    Calls Tryz.prog 79 #[.pointer (some ⟨q, 0, none⟩)] w fun e w' => e = .returned (.int .i64 ((ps.length - usedN ps : Nat) : Int)) ∧ St W w' (Room q b ps :: L) := by
  have hul := used_le ps
  have hp := (Room.open hs).1
  refine calls_enter Tryz.func79 rfl Tryz.ntmps79 (Nat.le_of_ble_eq_true rfl) ?_
  intro a ha
  replace ha : Fr a 13 [(0, _)] := ha
  refine WS <| WR ?_
  refine S1 ha ?_; clear ha a; intro a ha
  refine LN <| TN <| WS <| WS <| WR ?_
  iterate 2 (refine S1 ha ?_; clear ha a; intro a ha)
  refine LN <| TN <| WFa ha <| WK <| TN <| WS ?_
  refine DW (m := 9) (fun w' => w'.cell? ⟨q, 0, none⟩ = some (.slice (some ⟨b, 0, none⟩) ps.length ps.length)) [6] [0, 1, 2, 5, 3, 4, 6, 7, 8] Ty.mixed (pk_then pk_body) (fun hpk => ?_)
  replace hs := hs.drew
  generalize w.drew = w at hs hpk ⊢
  have hC : w.cell? ⟨q, 0, none⟩ = some (.slice (some ⟨b, 0, none⟩) ps.length ps.length) := (Room.open hs).2.rd1 rfl
  iterate 4 (refine DP hpk ha rfl ?_; clear ha a; intro a ha)
  refine DL hpk ha rfl (fun w hc => hc) hC ?_; clear ha a; intro a ha
  refine DP hpk ha rfl ?_; clear ha a; intro a ha
  refine D1 rfl (st_call ha rfl Ty.c24 rfl (page_used hs) ?_); clear ha hs
  rintro e w ⟨rfl, hs⟩
  refine ⟨_, rfl, ?_⟩
  intro a ha
  replace hC : (fun w' => w'.cell? ⟨q, 0, none⟩ = some (.slice (some ⟨b, 0, none⟩) ps.length ps.length)) w := (Room.open hs).2.rd1 rfl
  refine ⟨fun _ => hC, ?_⟩
  refine DQ hpk ha rfl rfl (fun w => ex_subI ha (by omega) (by omega)) ?_; clear ha a; intro a ha
  replace ha := ha.del 2
  refine DP hpk ha rfl ?_; clear ha a; intro a ha
  refine DD <| TN <| wp_ret ?_
  refine ret1 ha rfl ?_
  exact ⟨by rw [show ((ps.length - usedN ps : Nat) : Int) = (ps.length : Int) - (usedN ps : Int) from by omega], hs⟩
end
end Go.Proofs.YtneafbkhaooelaaGreat

