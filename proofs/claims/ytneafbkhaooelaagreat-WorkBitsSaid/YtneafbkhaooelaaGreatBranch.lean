/- The walks of package branch. -/
import Derived.Test.YtneafbkhaooelaaGreatBB
import Derived.Test.YtneafbkhaooelaaGreatSnap2
namespace Go.Proofs.YtneafbkhaooelaaGreat
open Go.RowKit
set_option linter.unusedVariables false
set_option linter.unusedSimpArgs false
set_option maxRecDepth 10000
set_option synthInstance.maxSize 4000
set_option synthInstance.maxHeartbeats 400000

/-- A branch. -/
structure Br where
  id : Nat
  frm : Int
  press : List (List UInt8)
  done : Nat
  snap : Nat
/-- A tree. -/
structure Tr where
  most : Nat
  l : List Br
  last : Nat
  epoch : Nat
/-- Presses of a size that can be copied. -/
def OkP (p : List (List UInt8)) : Prop := p.length ≤ 65536 ∧ ∀ b ∈ p, b.length ≤ 1099511627776
def brC (x : Br) (ad : Option Addr) (c : Nat) : List Value := [.int .i64 x.id, .int .i64 x.frm, .slice ad x.press.length c, .int .i64 x.done, .int .i64 x.snap]
abbrev Bx := Br × Option Addr × Nat
def brc (x : Bx) : List Value := brC x.1 x.2.1 x.2.2
def bro (x : Bx) : SP := OwnBB x.2.1 x.1.press.length x.2.2 x.1.press
theorem brc_len (x : Bx) : (brc x).length = 5 := rfl
theorem brc_one (x : Bx) : ∀ v ∈ brc x, v.oneCell' = true := by
  intro v hv
  simp [brc, brC] at hv
  rcases hv with rfl | rfl | rfl | rfl | rfl <;> rfl
structure WT (T : Tr) : Prop where
  most : T.most ≤ 8 ∧ T.l.length ≤ T.most
  last : T.last < 1099511627776
  epoch : T.epoch < 1099511627776
  ids : (T.l.map (·.id)).Pairwise (· < ·)
  ok : ∀ x ∈ T.l, OkP x.press ∧ x.done ≤ x.press.length ∧ 1 ≤ x.id ∧ x.id ≤ T.last
/-- A tree behind a pointer; sq: its store. -/
def Tree (tq sq : Nat) (T : Tr) : SP := fun h => ∃ ad c xs, (xs.map (·.1) = T.l ∧ WT T) ∧
  sepL [blk tq 85 [.pointer (some ⟨sq, 0, none⟩), .int .i64 T.most, .slice ad T.l.length c, .int .i64 T.last, .int .i64 T.epoch], Sl 43 5 ad T.l.length c (rows brc xs), All bro xs] h

section
variable {W w : World} {L L' R : List SP} {tq sq q r n c k : Nat} {ad : Option Addr} {A : Sn} {T : Tr} {x y : Br} {xs : List Bx} {p : List (List UInt8)}
theorem Tree.open (hs : St W w (Tree tq sq T :: L)) : ∃ ad c xs, xs.map (·.1) = T.l ∧ WT T ∧
    St W w (blk tq 85 [.pointer (some ⟨sq, 0, none⟩), .int .i64 T.most, .slice ad T.l.length c, .int .i64 T.last, .int .i64 T.epoch] :: Sl 43 5 ad T.l.length c (rows brc xs) :: All bro xs :: L) := by
  obtain ⟨⟨ad, c, xs⟩, ⟨h1, h2⟩, h4⟩ := hs.exi (ι := Option Addr × Nat × List Bx) (p := fun i => i.2.2.map (·.1) = T.l ∧ WT T)
    (B := fun i h => sepL [blk tq 85 [.pointer (some ⟨sq, 0, none⟩), .int .i64 T.most, .slice i.1 T.l.length i.2.1, .int .i64 T.last, .int .i64 T.epoch], Sl 43 5 i.1 T.l.length i.2.1 (rows brc i.2.2), All bro i.2.2] h)
    (fun h ⟨ad, c, xs, h1, h2⟩ => ⟨(ad, c, xs), h1, h2⟩)
  exact ⟨ad, c, xs, h1, h2, h4.open fun _ h => h⟩
theorem Tree.close {most last epoch : Nat} (hs : St W w L) [k : Arr L (blk tq 85 [.pointer (some ⟨sq, 0, none⟩), .int .i64 most, .slice ad n c, .int .i64 last, .int .i64 epoch] :: Sl 43 5 ad n c (rows brc xs) :: All bro xs :: L') R]
    (h1 : xs.map (·.1) = T.l) (h2 : WT T) (e1 : T.most = most := by rfl) (e2 : T.l.length = n := by rfl) (e3 : T.last = last := by rfl) (e4 : T.epoch = epoch := by rfl) : St W w (Tree tq sq T :: L') := by
  subst e1 e2 e3 e4
  exact St.shut (M := [_, _, _]) (hs.sub (M := blk tq 85 [.pointer (some ⟨sq, 0, none⟩), .int .i64 T.most, .slice ad T.l.length c, .int .i64 T.last, .int .i64 T.epoch] :: Sl 43 5 ad T.l.length c (rows brc xs) :: All bro xs :: L')) (fun _ x => ⟨ad, c, xs, ⟨h1, h2⟩, x⟩)
theorem Tree.same (ad : Option Addr) (c : Nat) (xs : List Bx) (hs : St W w L) [k : Arr L (blk tq 85 [.pointer (some ⟨sq, 0, none⟩), .int .i64 T.most, .slice ad T.l.length c, .int .i64 T.last, .int .i64 T.epoch] :: Sl 43 5 ad T.l.length c (rows brc xs) :: All bro xs :: L') R]
    (h1 : xs.map (·.1) = T.l) (h2 : WT T) : St W w (Tree tq sq T :: L') :=
  St.shut (M := [_, _, _]) (hs.sub (M := blk tq 85 [.pointer (some ⟨sq, 0, none⟩), .int .i64 T.most, .slice ad T.l.length c, .int .i64 T.last, .int .i64 T.epoch] :: Sl 43 5 ad T.l.length c (rows brc xs) :: All bro xs :: L')) (fun _ x => ⟨ad, c, xs, ⟨h1, h2⟩, x⟩)
class PickT (L : List SP) (tq : Nat) (sq : outParam Nat) (T : outParam Tr) (R : outParam (List SP)) : Prop where perm : L.Perm (Tree tq sq T :: R)
instance PickT.head {L tq sq T} : PickT (Tree tq sq T :: L) tq sq T L := ⟨List.Perm.refl _⟩
instance (priority := low) PickT.tail {B L tq sq T R} [h : PickT L tq sq T R] : PickT (B :: L) tq sq T (B :: R) := ⟨(List.Perm.cons B h.perm).trans (List.Perm.swap _ _ _)⟩
theorem St.tree (hs : St W w L) (tq : Nat) [k : PickT L tq sq T R] : St W w (Tree tq sq T :: R) := hs.perm k.perm
theorem Tree.wt (hs : St W w (Tree tq sq T :: L)) : WT T := by obtain ⟨_, _, _, _, h, _⟩ := Tree.open hs; exact h

theorem bx_at (h1 : xs.map (·.1) = T.l) (hx : T.l[k]? = some x) : ∃ ad c, xs[k]? = some (x, ad, c) := by
  rw [← h1, List.getElem?_map] at hx
  obtain ⟨⟨y, ad, c⟩, h2, rfl⟩ := Option.map_eq_some_iff.1 hx
  exact ⟨ad, c, h2⟩
theorem row_rd {b off : Nat} (hr : Rd w b off (rows brc xs)) {ad' : Option Addr} {c' : Nat} (hx : xs[k]? = some (x, ad', c')) : Rd w b (off + k * 5) (brC x ad' c') := by
  obtain ⟨hi, he⟩ := List.getElem?_eq_some_iff.1 hx
  have := hr.part (k * 5) 5
  rw [rows_at brc_len xs k hi, he] at this
  exact this
/-- What is read of the presses of one branch. -/
theorem All.rdBB (hs : St W w (All bro xs :: L)) {ad' : Option Addr} {c' : Nat} (hx : xs[k]? = some (x, ad', c')) : RdBB w ad' x.press.length x.press ∧ x.press.length ≤ c' := by
  obtain ⟨hi, he⟩ := List.getElem?_eq_some_iff.1 hx
  have h := hs.allOut hi
  rw [he] at h
  have h2 : St W w (OwnBB ad' x.press.length c' x.press :: _) := h
  exact ⟨OwnBB.rd h2, (OwnBB.le h2).2⟩

theorem tree_new {s : Nat} {m : Int} (hs : St W w L) : Calls Tryz.prog 31 #[.pointer (some ⟨s, 0, none⟩), .int .i64 m] w fun e w' => ∃ tq, e = .returned (.pointer (some ⟨tq, 0, none⟩)) ∧ St W w' (Tree tq s ⟨(min (max m 0) 8).toNat, [], 0, 0⟩ :: L) := by
  refine calls_enter Tryz.func31 rfl Tryz.ntmps31 (Nat.le_of_ble_eq_true rfl) ?_
  intro a ha
  replace ha : Fr a 11 [(0, _), (1, _)] := ha
  refine WS <| WR ?_
  refine S1 ha ?_; clear ha a; intro a ha
  refine LN <| TN <| WS <| WR ?_
  iterate 2 (refine S1 ha ?_; clear ha a; intro a ha)
  refine SK (st_set ha rfl (ex_max ha) rfl ?_); clear ha a; intro a ha
  refine SK (st_set ha rfl (ex_min ha) rfl ?_); clear ha a; intro a ha
  refine SK (st_set ha rfl (ex_build ha Ty.b85 Ty.t85 rfl) rfl ?_); clear ha a; intro a ha
  refine SK (st_box ha rfl hs rfl ?_); clear ha hs a; (try clear w); intro b10 a w ha hs ho
  clear ho
  refine S1d ha ?_; clear ha a; intro a ha
  refine LN <| TN <| wp_ret ?_
  refine ret1 ha rfl ?_
  rw [show min (max m 0) 8 = (((min (max m 0) 8).toNat : Nat) : Int) from by omega] at hs
  have h : St W w (Sl 43 5 none 0 0 (rows brc []) :: All bro [] :: blk b10 85 [.pointer (some ⟨s, 0, none⟩), .int .i64 (((min (max m 0) 8).toNat : Nat) : Int), .slice none 0 0, .int .i64 ((0 : Nat) : Int), .int .i64 ((0 : Nat) : Int)] :: L) := (hs.allNil (f := bro)).sl0 43 5 none
  exact ⟨b10, rfl, Tree.close (T := ⟨(min (max m 0) 8).toNat, [], 0, 0⟩) (most := (min (max m 0) 8).toNat) (ad := none) (c := 0) (n := 0) (last := 0) (epoch := 0) (xs := []) h rfl ⟨⟨by simp only; omega, Nat.zero_le _⟩, by simp, by simp, by simp, by simp⟩⟩

/-- The first ones, as many as both have. -/
def alikeP (a b : List (List UInt8)) : Bool := a.take (min a.length b.length) == b.take (min a.length b.length)
theorem alike_pure {u v : List (List UInt8)} {ad2 : Option Addr} {c2 : Nat} (ha' : RdBB w ad u.length u) (hb' : RdBB w ad2 v.length v) (hc1 : u.length ≤ c) (hc2 : v.length ≤ c2) (hb : u.length ≤ 1099511627776) :
    Calls Tryz.prog 46 #[.slice ad u.length c, .slice ad2 v.length c2] w fun e w' => e = .returned (.bool (alikeP u v)) ∧ w' = w.drew := by
  obtain ⟨W, hw0⟩ : ∃ W, w = W := ⟨w, rfl⟩
  have hs : St W w [] := hw0 ▸ St.start w
  refine calls_enter Tryz.func46 rfl Tryz.ntmps46 (Nat.le_of_ble_eq_true rfl) ?_
  intro a ha
  replace ha : Fr a 18 [(0, _), (1, _)] := ha
  refine WS <| WR ?_
  refine S1 ha ?_; clear ha a; intro a ha
  refine LN <| TN <| WS <| WR ?_
  iterate 4 (refine S1 ha ?_; clear ha a; intro a ha)
  refine SK (st_set ha rfl (ex_min ha) rfl ?_); clear ha a; intro a ha
  rw [show min (u.length : Int) (v.length : Int) = ((min u.length v.length : Nat) : Int) from by omega] at ha
  refine S1 ha ?_; clear ha a; intro a ha
  refine LN <| TN <| WS ?_
  have ha2 : RdBB w.drew ad u.length u := ha'
  have hb2 : RdBB w.drew ad2 v.length v := hb'
  refine DW (m := 8) (fun _ => True) [] [0, 1, 2, 3, 4, 5, 6, 7] Ty.mixed (pk_then pk_body) (fun hpk => ?_)
  replace hs := hs.drew
  generalize w.drew = w at hs hpk ha2 hb2 ⊢
  have hC := trivial
  iterate 2 (refine DP hpk ha rfl ?_; clear ha a; intro a ha)
  refine DQ hpk ha rfl rfl (fun w => ex_sliceH ha Tryz.underlying41 Ty.t47 (by omega)) ?_; clear ha a; intro a ha
  iterate 2 (refine DP hpk ha rfl ?_; clear ha a; intro a ha)
  refine DQ hpk ha rfl rfl (fun w => ex_sliceH ha Tryz.underlying41 Ty.t47 (by omega)) ?_; clear ha a; intro a ha
  rw [cutAd_zero, cutAd_zero, Nat.sub_zero, Nat.sub_zero, Nat.sub_zero] at ha
  refine D1 rfl (st_call ha rfl Ty.c71 rfl (equal_func (p := u.take (min u.length v.length)) (q := v.take (min u.length v.length)) (ha2.take (by omega)) (hb2.take (by omega)) (by omega)) ?_); clear ha hs
  rintro e w ⟨rfl, rfl⟩
  refine ⟨_, rfl, ?_⟩
  intro a ha
  refine ⟨fun h => absurd h (by decide), ?_⟩
  replace ha := ha.del 4
  refine DP hpk ha rfl ?_; clear ha a; intro a ha
  refine DD <| TN <| wp_ret ?_
  refine ret1 ha rfl ?_
  exact ⟨rfl, rfl⟩
theorem alike_spec {u v : List (List UInt8)} {ad2 : Option Addr} {c2 : Nat} (hs : St W w L) (ha' : RdBB w ad u.length u) (hb' : RdBB w ad2 v.length v) (hc1 : u.length ≤ c) (hc2 : v.length ≤ c2) (hb : u.length ≤ 1099511627776) :
    Calls Tryz.prog 46 #[.slice ad u.length c, .slice ad2 v.length c2] w fun e w' => e = .returned (.bool (alikeP u v)) ∧ St W w' L :=
  (alike_pure ha' hb' hc1 hc2 hb).mono fun e w' ⟨h1, h2⟩ => ⟨h1, by subst h2; exact hs.drew⟩
theorem clone_spec {m : Nat} {zs : List BBx} (hs : St W w L) (hr : ∀ w', St W w' L → RdX w' ad zs) (hm : zs.length = m) (hok : OkP (zs.map (·.2.2))) :
    Calls Tryz.prog 63 #[.slice ad m c] w fun e w' => ∃ ad' c', e = .returned (.slice ad' m c') ∧ St W w' (OwnBB ad' m c' (zs.map (·.2.2)) :: L) := by
  obtain ⟨hok1, hok2⟩ := hok
  rw [List.length_map] at hok1
  refine calls_enter Tryz.func63 rfl Tryz.ntmps63 (Nat.le_of_ble_eq_true rfl) ?_
  intro a ha
  replace ha : Fr a 19 [(0, _)] := ha
  refine WS <| WR ?_
  refine S1 ha ?_; clear ha a; intro a ha
  refine LN <| TN <| WS <| WR ?_
  refine S1 ha ?_; clear ha a; intro a ha
  refine LN <| TN <| WS <| WS ?_
  replace hs := OwnBB.nil hs
  refine WR ?_
  iterate 3 (refine S1 ha ?_; clear ha a; intro a ha)
  refine LN <| TN <| wp_block ?_
  refine wp_loop_ghost (fun μ a w => ∃ (k : Nat) (ad3 : Option Addr) (c3 : Nat), (μ = m - k ∧ k ≤ m) ∧ Fr a 19 [(3, .slice ad3 k c3), (6, .slice ad m c), (7, .int .i64 m), (8, .int .i64 k)] ∧ St W w (OwnBB ad3 k c3 ((zs.map (·.2.2)).take k) :: L)) (m) ?_ ?_
  · exact ⟨0, none, 0, ⟨by simp, by simp⟩, ha.keep [3, 6, 7, 8], hs⟩
  ·
   clear ha hs
   rintro μ a w ⟨k, ad3, c3, ⟨rfl, hk⟩, ha, hs⟩
   refine WS <| WR ?_
   refine S1 ha ?_; clear ha; (try clear a); intro a ha
   refine LN <| TN <| WS ?_
   refine WI ha (fun hc0 => ?_) (fun hc0 => ?_)
   ·
    refine WK <| TN <| WS <| wp_block <| WS ?_
    obtain ⟨b1, o1, rfl, h1⟩ := (hr _ hs.tail).1 (by omega)
    have hx1 : zs[k]? = some zs[k] := List.getElem?_eq_getElem (by omega)
    have hbl := hok2 zs[k].2.2 (List.mem_map.2 ⟨zs[k], List.getElem_mem _, rfl⟩)
    have hcell := h1 k _ (by rw [List.getElem?_map, hx1]; rfl)
    refine WR ?_
    refine SK (st_set ha rfl (ex_indexAddr ha Tryz.underlying41 Ty.t47 (by omega)) rfl ?_); clear ha; (try clear a); intro a ha
    rw [Nat.mul_one] at ha
    refine SL ha (hcell) ?_; clear ha a; intro a ha
    refine S1 ha ?_; clear ha a; intro a ha
    refine LN <| TN <| WR ?_
    iterate 2 (refine S1 ha ?_; clear ha a; intro a ha)
    refine SK (st_call ha rfl Ty.c81 rfl (bytes_clone (bs := zs[k].2.2) hs (fun w' h => (hr _ h.tail).2 _ (List.getElem_mem _)) hbl) ?_); clear ha hs
    rintro e w ⟨ad4, c4, rfl, hs⟩
    refine ⟨_, rfl, ?_⟩
    intro a ha
    refine SK (st_buildSlice ha rfl hs Tryz.underlying41 Ty.t47 rfl rfl rfl rfl (by decide) (by decide) ?_); clear ha hs a; (try clear w); intro b15 a w ha hs ho
    clear ho
    obtain ⟨ys, hy1, hy2, hs⟩ := OwnBB.open (hs.pick (OwnBB ad3 k c3 ((zs.map (·.2.2)).take k)))
    refine SK (st_append ha rfl hs Tryz.underlying41 Ty.t47 rfl rfl hs.rdAll rfl (by simp [Value.oneCell']) (by decide) (by decide) (by omega) ?_); clear ha hs a; (try clear w); intro ad16 c16 a w ha hs
    have h8 := St.allPush (f := bbo) (l := ys) (x := (ad4, c4, zs[k].2.2)) (hs.sub (M := Sl 5 1 ad4 zs[k].2.2.length c4 (bc zs[k].2.2) :: All bbo ys :: Sl 47 1 ad16 (k + 1) c16 (ys.map bbv ++ [[.slice ad4 zs[k].2.2.length c4]].flatten) :: L))
    have h9 : St W w (All bbo (ys ++ [(ad4, c4, zs[k].2.2)]) :: Sl 47 1 ad16 (k + 1) c16 ((ys ++ [(ad4, c4, zs[k].2.2)]).map bbv) :: L) := by
      rw [List.map_append]; exact h8
    have hkl : k < (zs.map (·.2.2)).length := by rw [List.length_map]; omega
    have h10 := OwnBB.close (p := (zs.map (·.2.2)).take (k + 1)) (ad := ad16) (n := k + 1) (c := c16) (xs := ys ++ [(ad4, c4, zs[k].2.2)]) (L' := L) h9 (by rw [List.map_append, hy1, List.take_succ_eq_append_getElem hkl]; simp) (by rw [List.length_take]; omega)
    replace hs := h10
    clear h8 h9 h10
    refine S1d ha ?_; clear ha a; intro a ha
    refine LN <| BN <| TN <| WR ?_
    refine SK (st_set ha rfl (ex_addI ha (by omega) (by omega)) rfl ?_); clear ha a; intro a ha
    refine S1d ha ?_; clear ha a; intro a ha
    refine LN <| TN ?_
    exact ⟨m - (k + 1), by omega, k + 1, _, _, ⟨rfl, by omega⟩, ha.keep [3, 6, 7, 8], hs⟩
   ·
    refine wp_exit <| TE <| TE <| blk_e <| TN <| WS <| WR ?_
    refine S1 ha ?_; clear ha; (try clear a); intro a ha
    refine S1 ha ?_; clear ha a; intro a ha
    refine LN <| TN <| wp_ret ?_
    refine ret1 ha rfl ?_
    obtain rfl : k = m := by omega
    rw [List.take_of_length_le (by rw [List.length_map]; omega)] at hs
    exact ⟨_, _, rfl, hs⟩

/-! own, find, Get. -/
/-- A copy of a branch whose presses can be read. -/
theorem own_branch {zs : List BBx} {ad' : Option Addr} {c' : Nat} (hs : St W w L) (hr : ∀ w', St W w' L → RdX w' ad' zs) (hz : zs.map (·.2.2) = x.press) (hok : OkP x.press) :
    Calls Tryz.prog 41 #[.agg (brC x ad' c').toArray] w fun e w' => ∃ ad2 c2, e = .returned (.agg (brC x ad2 c2).toArray) ∧ St W w' (OwnBB ad2 x.press.length c2 x.press :: L) := by
  have hzl : zs.length = x.press.length := by rw [← hz, List.length_map]
  refine calls_enter Tryz.func41 rfl Tryz.ntmps41 (Nat.le_of_ble_eq_true rfl) ?_
  intro a ha
  replace ha : Fr a 8 [(0, _)] := ha
  refine WS <| WR ?_
  refine SK (st_box ha rfl hs rfl ?_); clear ha hs a; (try clear w); intro b1 a w ha hs ho
  clear ho
  refine SK (st_alloc ha rfl hs Ty.t43 rfl ?_); clear ha hs a; (try clear w); intro b2 a w ha hs ho
  clear ho
  refine LN <| TN <| WS <| WR ?_
  refine S1 ha ?_; clear ha a; intro a ha
  refine SL ha (hs.rd1 rfl) ?_; clear ha a; intro a ha
  refine SK (st_call ha rfl Ty.c63 rfl (clone_spec hs (fun w' h => hr w' h.tail.tail) hzl (by rw [hz]; exact hok)) ?_); clear ha hs
  rintro e w ⟨ad2, c2, rfl, hs⟩
  refine ⟨_, rfl, ?_⟩
  intro a ha
  rw [hz] at hs
  refine S1 ha ?_; clear ha a; intro a ha
  refine SK (st_store ha rfl hs Ty.t41 rfl (by simp [brC]) ?_); clear ha hs a; (try clear w); intro a w ha hs
  refine LN <| TN <| WS <| WR ?_
  refine SK (st_set ha rfl (ex_loadN ha Tryz.underlying43 rfl Ty.t43 (hs.rdAll)) rfl ?_); clear ha a; intro a ha
  refine SK (st_storeAll ha rfl hs Ty.t43 (brc_one (x, ad2, c2)) (by rfl) ?_); clear ha hs a; (try clear w); intro a w ha hs
  refine LN <| TN <| wp_ret ?_
  refine retC1 ha rfl (run_loadN Tryz.underlying43 rfl Ty.t43 (hs.rdAll)) ?_
  exact ⟨ad2, c2, rfl, hs.sub⟩

theorem find1_spec {b : Nat} {id : Int} {ad' : Option Addr} {c' : Nat} (hs : St W w (blk b 2 [.int .i64 id] :: L)) :
    Calls Tryz.prog 84 #[.agg (brC x ad' c').toArray, .pointer (some ⟨b, 0, none⟩)] w fun e w' => e = .returned (.bool (decide ((x.id : Int) = id))) ∧ St W w' (blk b 2 [.int .i64 id] :: L) := by
  refine calls_enter Tryz.func84 rfl Tryz.ntmps84 (Nat.le_of_ble_eq_true rfl) ?_
  intro a ha
  replace ha : Fr a 8 [(0, _), (1, _)] := ha
  refine WS <| WR ?_
  refine SK (st_box ha rfl hs rfl ?_); clear ha hs a; (try clear w); intro b2 a w ha hs ho
  clear ho
  refine S1 ha ?_; clear ha a; intro a ha
  refine LN <| TN <| WS <| WR ?_
  refine S1 ha ?_; clear ha a; intro a ha
  iterate 2 (refine SL ha (hs.rd1 rfl) ?_; clear ha a; intro a ha)
  refine S1 ha ?_; clear ha a; intro a ha
  refine S1d ha ?_; clear ha a; intro a ha
  refine LN <| TN <| wp_ret ?_
  refine ret1 ha rfl ?_
  exact ⟨rfl, hs.sub⟩
theorem index_func {b : Nat} {id : Int} {ad' : Option Addr} {c' : Nat} (hs : St W w (blk b 2 [.int .i64 id] :: Sl 43 5 ad' n c' (rows brc xs) :: L)) (hb : n ≤ 1048576) :
    Calls Tryz.prog 83 #[.slice ad' n c', .func (.func 84) #[] #[.pointer (some ⟨b, 0, none⟩)]] w fun e w' =>
      ∃ r : Int, e = .returned (.int .i64 r) ∧ ((r = -1 ∧ ∀ y ∈ xs, (y.1.id : Int) ≠ id) ∨ ∃ k y, r = (k : Nat) ∧ xs[k]? = some y ∧ (y.1.id : Int) = id) ∧ St W w' (Sl 43 5 ad' n c' (rows brc xs) :: L) := by
  have hxl : xs.length = n := by
    have := (hs.tail.sl ad').1
    rw [rows_len brc_len] at this; omega
  refine calls_enter Tryz.func83 rfl Tryz.ntmps83 (Nat.le_of_ble_eq_true rfl) ?_
  intro a ha
  replace ha : Fr a 19 [(0, _), (1, _)] := ha
  refine WS <| WR ?_
  refine S1 ha ?_; clear ha a; intro a ha
  refine LN <| TN <| WS <| WS <| WR ?_
  iterate 3 (refine S1 ha ?_; clear ha a; intro a ha)
  refine LN <| TN <| wp_block ?_
  refine wp_loop_ghost (fun μ a w => ∃ k : Nat, (μ = n - k ∧ k ≤ n ∧ ∀ j y, j < k → xs[j]? = some y → (y.1.id : Int) ≠ id) ∧ Fr a 19 [(0, .slice ad' n c'), (1, .func (.func 84) #[] #[.pointer (some ⟨b, 0, none⟩)]), (7, .int .i64 n), (8, .int .i64 k)] ∧ St W w (blk b 2 [.int .i64 id] :: Sl 43 5 ad' n c' (rows brc xs) :: L)) (n) ?_ ?_
  · exact ⟨0, ⟨by simp, by simp, by omega⟩, ha.keep [0, 1, 7, 8], hs⟩
  ·
   clear ha hs
   rintro μ a w ⟨k, ⟨rfl, hk, hno⟩, ha, hs⟩
   refine WS <| WR ?_
   refine S1 ha ?_; clear ha; (try clear a); intro a ha
   refine LN <| TN <| WS ?_
   refine WI ha (fun hc0 => ?_) (fun hc0 => ?_)
   ·
    refine WK <| TN <| WS <| wp_block <| WS <| WR ?_
    refine S1 ha ?_; clear ha; (try clear a); intro a ha
    refine S1 ha ?_; clear ha a; intro a ha
    refine LN <| TN <| WS ?_
    obtain ⟨b', off', rfl, hrd⟩ := hs.tail.slRd ad' (by omega)
    obtain ⟨⟨y, ya, yc⟩, hy⟩ : ∃ y, xs[k]? = some y := ⟨_, List.getElem?_eq_getElem (by omega)⟩
    have hrk := row_rd hrd hy
    refine WR ?_
    iterate 3 (refine S1 ha ?_; clear ha a; intro a ha)
    refine SK (st_set ha rfl (ex_indexAddr ha Tryz.underlying39 Ty.t43 (by omega)) rfl ?_); clear ha a; intro a ha
    refine SK (st_set ha rfl (ex_loadN ha Tryz.underlying43 rfl Ty.t43 (hrk)) rfl ?_); clear ha a; intro a ha
    refine SK (st_callvN ha rfl Ty.c84 rfl (find1_spec (x := y) (ad' := ya) (c' := yc) hs) (by rfl) ?_); clear ha hs
    rintro e w ⟨rfl, hs⟩
    refine ⟨_, rfl, ?_⟩
    intro a ha
    refine LN <| TN ?_
    refine WI ha (fun hc1 => ?_) (fun hc1 => ?_)
    ·
     skip
     refine WS <| WR ?_
     refine S1 ha ?_; clear ha; (try clear a); intro a ha
     refine S1 ha ?_; clear ha a; intro a ha
     refine LN <| TN <| wp_ret <| BR <| TR <| TR <| BR <| TR ?_
     refine ret1 ha rfl ?_
     exact ⟨_, rfl, .inr ⟨k, (y, ya, yc), rfl, hy, hc1⟩, hs.tail⟩
    ·
     refine WK <| BN <| TN <| WR ?_
     refine SK (st_set ha rfl (ex_addI ha (by omega) (by omega)) rfl ?_); clear ha; (try clear a); intro a ha
     refine S1d ha ?_; clear ha a; intro a ha
     refine LN <| TN ?_
     refine ⟨n - (k + 1), by omega, k + 1, ⟨rfl, by omega, fun j z hj hz => ?_⟩, ha.keep [0, 1, 7, 8], hs⟩
     by_cases hjk : j = k
     · subst hjk
       rw [hy] at hz; cases hz
       exact hc1
     · exact hno j z (by omega) hz
   ·
    refine wp_exit <| TE <| TE <| blk_e <| TN <| WS <| WR ?_
    refine S1 ha ?_; clear ha; (try clear a); intro a ha
    refine LN <| TN <| wp_ret ?_
    refine ret1 ha rfl ?_
    refine ⟨-1, rfl, .inl ⟨rfl, fun z hz => ?_⟩, hs.tail⟩
    obtain ⟨j, hj⟩ := List.mem_iff_getElem?.1 hz
    have hjl := (List.getElem?_eq_some_iff.1 hj).1
    exact hno j z (by omega) hj
theorem tree_find {id : Int} (hs : St W w (Tree tq sq T :: L)) :
    Calls Tryz.prog 67 #[.pointer (some ⟨tq, 0, none⟩), .int .i64 id] w fun e w' =>
      ∃ r : Int, e = .returned (.int .i64 r) ∧ ((r = -1 ∧ ∀ y ∈ T.l, (y.id : Int) ≠ id) ∨ ∃ k y, r = (k : Nat) ∧ T.l[k]? = some y ∧ (y.id : Int) = id) ∧ St W w' (Tree tq sq T :: L) := by
  refine calls_enter Tryz.func67 rfl Tryz.ntmps67 (Nat.le_of_ble_eq_true rfl) ?_
  intro a ha
  replace ha : Fr a 13 [(0, _), (1, _)] := ha
  refine WS <| WR ?_
  refine SK (st_box ha rfl hs rfl ?_); clear ha hs a; (try clear w); intro b3 a w ha hs ho
  clear ho
  refine S1 ha ?_; clear ha a; intro a ha
  refine LN <| TN <| WS <| WS <| WR ?_
  iterate 2 (refine S1 ha ?_; clear ha a; intro a ha)
  refine LN <| TN <| WFa ha <| WK <| TN <| WS ?_
  obtain ⟨ad, c, xs, h1, hw, hs⟩ := Tree.open (hs.tree tq)
  have hT := hw.most
  refine WR ?_
  iterate 3 (refine S1 ha ?_; clear ha a; intro a ha)
  refine SL ha (hs.rd1 rfl) ?_; clear ha a; intro a ha
  refine SK (st_set ha rfl (ex_makeFunc ha) rfl ?_); clear ha a; intro a ha
  refine SK (st_call ha rfl Ty.c83 rfl (index_func (xs := xs) (b := b3) (id := id) (ad' := ad) (c' := c) (n := T.l.length) (L := blk tq 85 [.pointer (some ⟨sq, 0, none⟩), .int .i64 T.most, .slice ad T.l.length c, .int .i64 T.last, .int .i64 T.epoch] :: All bro xs :: L) hs.sub (by omega)) ?_); clear ha hs
  rintro e w ⟨r, rfl, hr, hs⟩
  refine ⟨_, rfl, ?_⟩
  intro a ha
  refine S1d ha ?_; clear ha a; intro a ha
  refine LN <| TN <| wp_ret ?_
  refine ret1 ha rfl ?_
  refine ⟨r, rfl, ?_, Tree.same ad c xs hs h1 hw⟩
  rcases hr with ⟨h2, h3⟩ | ⟨k, y, h2, h3, h4⟩
  · refine .inl ⟨h2, fun y hy => ?_⟩
    rw [← h1] at hy
    obtain ⟨z, hz, rfl⟩ := List.mem_map.1 hy
    exact h3 z hz
  · exact .inr ⟨k, y.1, h2, by rw [← h1, List.getElem?_map, h3]; rfl, h4⟩
theorem find_nil {id : Int} (hs : St W w L) : Calls Tryz.prog 67 #[.pointer none, .int .i64 id] w fun e w' => e = .returned (.int .i64 (-1)) ∧ St W w' L := by
  refine calls_enter Tryz.func67 rfl Tryz.ntmps67 (Nat.le_of_ble_eq_true rfl) ?_
  intro a ha
  replace ha : Fr a 13 [(0, _), (1, _)] := ha
  refine WS <| WR ?_
  refine SK (st_box ha rfl hs rfl ?_); clear ha hs a; (try clear w); intro b3 a w ha hs ho
  clear ho
  refine S1 ha ?_; clear ha a; intro a ha
  refine LN <| TN <| WS <| WS <| WR ?_
  iterate 2 (refine S1 ha ?_; clear ha a; intro a ha)
  refine LN <| TN <| WTr ha <| WS <| WR ?_
  refine S1d ha ?_; clear ha a; intro a ha
  refine LN <| TN <| wp_ret <| TR ?_
  refine ret1 ha rfl ?_
  exact ⟨rfl, hs.sub⟩
theorem St.brOut (hs : St W w (All bro xs :: L)) {ad' : Option Addr} {c' : Nat} (hx : xs[k]? = some (x, ad', c')) : ∃ zs : List BBx, zs.map (·.2.2) = x.press ∧ x.press.length ≤ c' ∧
    St W w (Sl 47 1 ad' x.press.length c' (zs.map bbv) :: All bbo zs :: All bro (xs.eraseIdx k) :: L) := by
  obtain ⟨hi, he⟩ := List.getElem?_eq_some_iff.1 hx
  have h := hs.allOut hi
  rw [he] at h
  have h2 : St W w (OwnBB ad' x.press.length c' x.press :: All bro (xs.eraseIdx k) :: L) := h
  obtain ⟨zs, h3, h4, h5⟩ := OwnBB.open h2
  exact ⟨zs, h3, (OwnBB.le h2).2, h5⟩
theorem St.brIn {zs : List BBx} {ad' : Option Addr} {c' : Nat} (hs : St W w L) [kk : Arr L (Sl 47 1 ad' n c' (zs.map bbv) :: All bbo zs :: All bro (xs.eraseIdx k) :: L') R] (hx : xs[k]? = some (x, ad', c')) (hz : zs.map (·.2.2) = x.press) (hn : x.press.length = n) : St W w (All bro xs :: L') := by
  subst hn
  obtain ⟨hi, he⟩ := List.getElem?_eq_some_iff.1 hx
  have h1 := hs.sub (M := Sl 47 1 ad' x.press.length c' (zs.map bbv) :: All bbo zs :: All bro (xs.eraseIdx k) :: L')
  have h2 := OwnBB.close (L' := All bro (xs.eraseIdx k) :: L') (p := x.press) (ad := ad') (n := x.press.length) (c := c') (xs := zs) h1 hz rfl
  have h3 : St W w (bro (x, ad', c') :: All bro (xs.eraseIdx k) :: L') := h2
  have h4 := St.allPut hi h3
  rw [← he, List.set_getElem_self] at h4
  exact h4

theorem bpart {b off : Nat} {ad' : Option Addr} {c' : Nat} (hrd : Rd w b off (rows brc xs)) (hx : xs[k]? = some (x, ad', c')) : Rd w b (off + k * 5) (brC x ad' c') := row_rd hrd hx
theorem tree_get (hs : St W w (Tree tq sq T :: L)) (hx : T.l[k]? = some x) :
    Calls Tryz.prog 38 #[.pointer (some ⟨tq, 0, none⟩), .int .i64 x.id] w fun e w' => ∃ ad c, e = .returned (.tuple #[.agg (brC x ad c).toArray, .bool true]) ∧ St W w' (OwnBB ad x.press.length c x.press :: Tree tq sq T :: L) := by
  refine calls_enter Tryz.func38 rfl Tryz.ntmps38 (Nat.le_of_ble_eq_true rfl) ?_
  intro a ha
  replace ha : Fr a 21 [(0, _), (1, _)] := ha
  refine WS <| WR ?_
  refine SK (st_alloc ha rfl hs Ty.t43 rfl ?_); clear ha hs a; (try clear w); intro b4 a w ha hs ho
  clear ho
  refine S1 ha ?_; clear ha a; intro a ha
  refine LN <| TN <| WS <| WR ?_
  iterate 2 (refine S1 ha ?_; clear ha a; intro a ha)
  refine SK (st_call ha rfl Ty.c67 rfl (tree_find (id := (x.id : Int)) (hs.tree tq)) ?_); clear ha hs
  rintro e w ⟨r, rfl, hr, hs⟩
  refine ⟨_, rfl, ?_⟩
  intro a ha
  obtain ⟨hw, hrk⟩ : WT T ∧ r = (k : Nat) := by
    have hw := Tree.wt hs
    refine ⟨hw, ?_⟩
    rcases hr with ⟨_, h3⟩ | ⟨j, y, h2, h3, h4⟩
    · exact absurd rfl (h3 x (List.mem_of_getElem? hx))
    · have hp := List.pairwise_iff_getElem.1 hw.ids
      obtain ⟨hj, rfl⟩ := List.getElem?_eq_some_iff.1 h3
      obtain ⟨hk, rfl⟩ := List.getElem?_eq_some_iff.1 hx
      rcases Nat.lt_trichotomy j k with hl | hl | hl
      · have := hp j k (by simpa using hj) (by simpa using hk) hl
        simp at this; omega
      · rw [h2, hl]
      · have := hp k j (by simpa using hk) (by simpa using hj) hl
        simp at this; omega
  subst hrk
  have hkl := (List.getElem?_eq_some_iff.1 hx).1
  have hox := (hw.ok x (List.mem_of_getElem? hx)).1
  clear hr
  refine S1 ha ?_; clear ha a; intro a ha
  refine LN <| TN <| WS <| WS <| WR ?_
  iterate 2 (refine S1 ha ?_; clear ha a; intro a ha)
  refine LN <| TN ?_
  rw [decide_eq_false (by omega)] at ha
  refine WFa ha <| WK <| TN <| WS ?_
  obtain ⟨ad, c, xs, h1, hw, hs⟩ := Tree.open (hs.tree tq)
  obtain ⟨ax, cx, hxx⟩ := bx_at h1 hx
  obtain ⟨b', off', rfl, hrd⟩ := hs.tail.slRd ad (by omega)
  have hrk := row_rd hrd hxx
  refine WR ?_
  iterate 3 (refine S1 ha ?_; clear ha a; intro a ha)
  refine SL ha (hs.rd1 rfl) ?_; clear ha a; intro a ha
  refine S1 ha ?_; clear ha a; intro a ha
  refine SK (st_set ha rfl (ex_indexAddr ha Tryz.underlying39 Ty.t43 (by omega)) rfl ?_); clear ha a; intro a ha
  refine SK (st_set ha rfl (ex_loadN ha Tryz.underlying43 rfl Ty.t43 (hrk)) rfl ?_); clear ha a; intro a ha
  obtain ⟨zs, hz1, hz2, hs⟩ := St.brOut (hs.pick (All bro xs)) hxx
  refine SK (st_call ha rfl Ty.c41 rfl (own_branch (x := x) (ad' := ax) (c' := cx) hs (fun w' h => St.rdX h) hz1 hox) ?_); clear ha hs
  rintro e w ⟨ad2, c2, rfl, hs⟩
  refine ⟨_, rfl, ?_⟩
  intro a ha
  refine SK (st_storeAll ha rfl hs Ty.t43 (brc_one (x, ad2, c2)) (by rfl) ?_); clear ha hs a; (try clear w); intro a w ha hs
  refine S1d ha ?_; clear ha a; intro a ha
  refine LN <| TN <| wp_ret ?_
  refine retC2 ha rfl (run_loadN Tryz.underlying43 rfl Ty.t43 (hs.rdAll (b := b4))) ?_
  have h5 := St.brIn (L' := OwnBB ad2 x.press.length c2 x.press :: blk tq 85 [.pointer (some ⟨sq, 0, none⟩), .int .i64 T.most, .slice (some ⟨b', off', none⟩) T.l.length c, .int .i64 T.last, .int .i64 T.epoch] :: Sl 43 5 (some ⟨b', off', none⟩) T.l.length c (rows brc xs) :: L) hs hxx hz1 rfl
  refine ⟨ad2, c2, rfl, ?_⟩
  have h6 := Tree.same (tq := tq) (sq := sq) (T := T) (L' := OwnBB ad2 x.press.length c2 x.press :: L) (some ⟨b', off', none⟩) c xs h5 h1 hw
  exact h6.perm (List.Perm.swap _ _ _)
theorem tree_get_no {id : Int} (hs : St W w (Tree tq sq T :: L)) (hn : ∀ y ∈ T.l, (y.id : Int) ≠ id) :
    Calls Tryz.prog 38 #[.pointer (some ⟨tq, 0, none⟩), .int .i64 id] w fun e w' => e = .returned (.tuple #[.agg (brC ⟨0, 0, [], 0, 0⟩ none 0).toArray, .bool false]) ∧ St W w' (Tree tq sq T :: L) := by
  refine calls_enter Tryz.func38 rfl Tryz.ntmps38 (Nat.le_of_ble_eq_true rfl) ?_
  intro a ha
  replace ha : Fr a 21 [(0, _), (1, _)] := ha
  refine WS <| WR ?_
  refine SK (st_alloc ha rfl hs Ty.t43 rfl ?_); clear ha hs a; (try clear w); intro b4 a w ha hs ho
  clear ho
  refine S1 ha ?_; clear ha a; intro a ha
  refine LN <| TN <| WS <| WR ?_
  iterate 2 (refine S1 ha ?_; clear ha a; intro a ha)
  refine SK (st_call ha rfl Ty.c67 rfl (tree_find (id := id) (hs.tree tq)) ?_); clear ha hs
  rintro e w ⟨r, rfl, hr, hs⟩
  refine ⟨_, rfl, ?_⟩
  intro a ha
  obtain rfl : r = -1 := by
    rcases hr with ⟨h, _⟩ | ⟨j, y, _, h3, h4⟩
    · exact h
    · exact absurd h4 (hn y (List.mem_of_getElem? h3))
  clear hr
  refine S1 ha ?_; clear ha a; intro a ha
  refine LN <| TN <| WS <| WS <| WR ?_
  iterate 2 (refine S1 ha ?_; clear ha a; intro a ha)
  refine LN <| TN <| WTr ha <| WS <| WR ?_
  refine SK (st_set ha rfl (ex_build ha Ty.b43 Ty.t43 rfl) rfl ?_); clear ha a; intro a ha
  refine SK (st_storeAll ha rfl hs Ty.t43 (by simp [Value.oneCell']) (by rfl) ?_); clear ha hs a; (try clear w); intro a w ha hs
  refine S1d ha ?_; clear ha a; intro a ha
  refine LN <| TN <| wp_ret <| TR ?_
  refine retC2 ha rfl (run_loadN Tryz.underlying43 rfl Ty.t43 (hs.rdAll (b := b4))) ?_
  exact ⟨rfl, hs.sub⟩
theorem tree_get_nil {id : Int} (hs : St W w L) : Calls Tryz.prog 38 #[.pointer none, .int .i64 id] w fun e w' => e = .returned (.tuple #[.agg (brC ⟨0, 0, [], 0, 0⟩ none 0).toArray, .bool false]) ∧ St W w' L := by
  refine calls_enter Tryz.func38 rfl Tryz.ntmps38 (Nat.le_of_ble_eq_true rfl) ?_
  intro a ha
  replace ha : Fr a 21 [(0, _), (1, _)] := ha
  refine WS <| WR ?_
  refine SK (st_alloc ha rfl hs Ty.t43 rfl ?_); clear ha hs a; (try clear w); intro b4 a w ha hs ho
  clear ho
  refine S1 ha ?_; clear ha a; intro a ha
  refine LN <| TN <| WS <| WR ?_
  iterate 2 (refine S1 ha ?_; clear ha a; intro a ha)
  refine SK (st_call ha rfl Ty.c67 rfl (find_nil hs) ?_); clear ha hs
  rintro e w ⟨rfl, hs⟩
  refine ⟨_, rfl, ?_⟩
  intro a ha
  refine S1 ha ?_; clear ha a; intro a ha
  refine LN <| TN <| WS <| WS <| WR ?_
  iterate 2 (refine S1 ha ?_; clear ha a; intro a ha)
  refine LN <| TN <| WTr ha <| WS <| WR ?_
  refine SK (st_set ha rfl (ex_build ha Ty.b43 Ty.t43 rfl) rfl ?_); clear ha a; intro a ha
  refine SK (st_storeAll ha rfl hs Ty.t43 (by simp [Value.oneCell']) (by rfl) ?_); clear ha hs a; (try clear w); intro a w ha hs
  refine S1d ha ?_; clear ha a; intro a ha
  refine LN <| TN <| wp_ret <| TR ?_
  refine retC2 ha rfl (run_loadN Tryz.underlying43 rfl Ty.t43 (hs.rdAll (b := b4))) ?_
  exact ⟨rfl, hs.sub⟩
theorem tree_epoch (hs : St W w (Tree tq sq T :: L)) :
    Calls Tryz.prog 35 #[.pointer (some ⟨tq, 0, none⟩)] w fun e w' => e = .returned (.int .i64 T.epoch) ∧ St W w' (Tree tq sq T :: L) := by
  obtain ⟨ad, c, xs, h1, hw, hs⟩ := Tree.open hs
  refine calls_enter Tryz.func35 rfl Tryz.ntmps35 (Nat.le_of_ble_eq_true rfl) ?_
  intro a ha
  replace ha : Fr a 9 [(0, _)] := ha
  refine WS <| WR ?_
  refine S1 ha ?_; clear ha a; intro a ha
  refine LN <| TN <| WS <| WS <| WR ?_
  iterate 2 (refine S1 ha ?_; clear ha a; intro a ha)
  refine LN <| TN <| WFa ha <| WK <| TN <| WS <| WR ?_
  iterate 3 (refine S1 ha ?_; clear ha a; intro a ha)
  refine SL ha (hs.rd1 rfl) ?_; clear ha a; intro a ha
  refine S1d ha ?_; clear ha a; intro a ha
  refine LN <| TN <| wp_ret ?_
  refine ret1 ha rfl ?_
  exact ⟨rfl, Tree.same ad c xs hs h1 hw⟩
theorem epoch_nil (hs : St W w L) : Calls Tryz.prog 35 #[.pointer none] w fun e w' => e = .returned (.int .i64 0) ∧ St W w' L := by
  refine calls_enter Tryz.func35 rfl Tryz.ntmps35 (Nat.le_of_ble_eq_true rfl) ?_
  intro a ha
  replace ha : Fr a 9 [(0, _)] := ha
  refine WS <| WR ?_
  refine S1 ha ?_; clear ha a; intro a ha
  refine LN <| TN <| WS <| WS <| WR ?_
  iterate 2 (refine S1 ha ?_; clear ha a; intro a ha)
  refine LN <| TN <| WTr ha <| WS <| WR ?_
  refine S1d ha ?_; clear ha a; intro a ha
  refine LN <| TN <| wp_ret <| TR ?_
  refine ret1 ha rfl ?_
  exact ⟨rfl, hs⟩

/-- A list of branches of the call's own. -/
def OwnBr (ad : Option Addr) (n c : Nat) (l : List Br) : SP := fun h => ∃ ys : List Bx, (ys.map (·.1) = l ∧ l.length = n) ∧ sepL [Sl 43 5 ad n c (rows brc ys), All bro ys] h
theorem OwnBr.open {l : List Br} (hs : St W w (OwnBr ad n c l :: L)) : ∃ ys : List Bx, ys.map (·.1) = l ∧ l.length = n ∧ St W w (Sl 43 5 ad n c (rows brc ys) :: All bro ys :: L) := by
  obtain ⟨xs, ⟨h1, h2⟩, h3⟩ := hs.exi (ι := List Bx) (p := fun xs => xs.map (·.1) = l ∧ l.length = n) (B := fun xs h => sepL [Sl 43 5 ad n c (rows brc xs), All bro xs] h) (fun h ⟨xs, h1, h2⟩ => ⟨xs, h1, h2⟩)
  exact ⟨xs, h1, h2, h3.open fun _ h => h⟩
theorem OwnBr.close {l : List Br} (ys : List Bx) (hs : St W w L) [k : Arr L (Sl 43 5 ad n c (rows brc ys) :: All bro ys :: L') R] (h1 : ys.map (·.1) = l) (h2 : l.length = n) : St W w (OwnBr ad n c l :: L') :=
  St.shut (M := [_, _]) (hs.sub (M := Sl 43 5 ad n c (rows brc ys) :: All bro ys :: L')) (fun _ x => ⟨ys, ⟨h1, h2⟩, x⟩)
theorem OwnBr.nil (hs : St W w L) : St W w (OwnBr none 0 0 [] :: L) := by
  have h : St W w (Sl 43 5 none 0 0 (rows brc []) :: All bro [] :: L) := (hs.allNil (f := bro)).sl0 43 5 none
  exact OwnBr.close [] h rfl rfl
theorem rows_snoc (ys : List Bx) (y : Bx) : rows brc ys ++ [brc y].flatten = rows brc (ys ++ [y]) := by rw [rows_app]; simp [rows]

theorem rows_snocC (ys : List Bx) (x : Br) (ad : Option Addr) (c : Nat) : rows brc ys ++ [brC x ad c].flatten = rows brc (ys ++ [(x, ad, c)]) := rows_snoc ys (x, ad, c)
theorem tree_all (hs : St W w (Tree tq sq T :: L)) :
    Calls Tryz.prog 13 #[.pointer (some ⟨tq, 0, none⟩)] w fun e w' => ∃ ad c, e = .returned (.slice ad T.l.length c) ∧ St W w' (OwnBr ad T.l.length c T.l :: Tree tq sq T :: L) := by
  obtain ⟨ad, c, xs, h1, hw, hs⟩ := Tree.open hs
  have hxl : xs.length = T.l.length := by rw [← h1, List.length_map]
  have hT := hw.most
  refine calls_enter Tryz.func13 rfl Tryz.ntmps13 (Nat.le_of_ble_eq_true rfl) ?_
  intro a ha
  replace ha : Fr a 24 [(0, _)] := ha
  refine WS <| WR ?_
  refine S1 ha ?_; clear ha a; intro a ha
  refine LN <| TN <| WS <| WS <| WR ?_
  iterate 2 (refine S1 ha ?_; clear ha a; intro a ha)
  refine LN <| TN <| WFa ha <| WK <| TN <| WS <| WR ?_
  refine S1 ha ?_; clear ha a; intro a ha
  refine LN <| TN <| WS <| WS ?_
  replace hs := OwnBr.nil hs
  refine WR ?_
  iterate 3 (refine S1 ha ?_; clear ha a; intro a ha)
  refine SL ha (hs.rd1 rfl) ?_; clear ha a; intro a ha
  iterate 2 (refine S1 ha ?_; clear ha a; intro a ha)
  refine LN <| TN <| wp_block ?_
  refine wp_loop_ghost (fun μ a w => ∃ (k : Nat) (ad3 : Option Addr) (c3 : Nat), (μ = T.l.length - k ∧ k ≤ T.l.length) ∧ Fr a 24 [(3, .slice ad3 k c3), (11, .slice ad T.l.length c), (12, .int .i64 T.l.length), (13, .int .i64 k)] ∧ St W w (OwnBr ad3 k c3 (T.l.take k) :: blk tq 85 [.pointer (some ⟨sq, 0, none⟩), .int .i64 T.most, .slice ad T.l.length c, .int .i64 T.last, .int .i64 T.epoch] :: Sl 43 5 ad T.l.length c (rows brc xs) :: All bro xs :: L)) (T.l.length) ?_ ?_
  · exact ⟨0, none, 0, ⟨by simp, by simp⟩, ha.keep [3, 11, 12, 13], hs⟩
  ·
   clear ha hs
   rintro μ a w ⟨k, ad3, c3, ⟨rfl, hk⟩, ha, hs⟩
   refine WS <| WR ?_
   refine S1 ha ?_; clear ha; (try clear a); intro a ha
   refine LN <| TN <| WS ?_
   refine WI ha (fun hc1 => ?_) (fun hc1 => ?_)
   ·
    refine WK <| TN <| WS <| wp_block <| WS ?_
    obtain ⟨b', off', rfl, hrd⟩ := hs.slRd ad (by omega)
    obtain ⟨⟨x, ax, cx⟩, hxx⟩ : ∃ y, xs[k]? = some y := ⟨_, List.getElem?_eq_getElem (by omega)⟩
    have hrk := row_rd hrd hxx
    have hTx : T.l[k]? = some x := by rw [← h1, List.getElem?_map, hxx]; rfl
    have hox := (hw.ok x (List.mem_of_getElem? hTx)).1
    refine WR ?_
    refine SK (st_set ha rfl (ex_indexAddr ha Tryz.underlying39 Ty.t43 (by omega)) rfl ?_); clear ha; (try clear a); intro a ha
    refine SK (st_set ha rfl (ex_loadN ha Tryz.underlying43 rfl Ty.t43 (hrk)) rfl ?_); clear ha a; intro a ha
    refine SK (st_alloc ha rfl hs Ty.t43 rfl ?_); clear ha hs a; (try clear w); intro b5 a w ha hs ho
    clear ho
    refine SK (st_storeAll ha rfl hs Ty.t43 (brc_one (x, ax, cx)) (by rfl) ?_); clear ha hs a; (try clear w); intro a w ha hs
    refine LN <| TN <| WR ?_
    refine S1 ha ?_; clear ha a; intro a ha
    refine SK (st_set ha rfl (ex_loadN ha Tryz.underlying43 rfl Ty.t43 (hs.rdAll)) rfl ?_); clear ha a; intro a ha
    obtain ⟨zs, hz1, hz2, hs⟩ := St.brOut (hs.pick (All bro xs)) hxx
    refine SK (st_call ha rfl Ty.c41 rfl (own_branch (x := x) (ad' := ax) (c' := cx) hs (fun w' h => St.rdX h) hz1 hox) ?_); clear ha hs
    rintro e w ⟨ad2, c2, rfl, hs⟩
    refine ⟨_, rfl, ?_⟩
    intro a ha
    refine SK (st_buildSlice ha rfl hs Tryz.underlying39 Ty.t43 rfl rfl rfl rfl (by decide) (by decide) ?_); clear ha hs a; (try clear w); intro b20 a w ha hs ho
    clear ho
    obtain ⟨ys, hy1, hy2, hs⟩ := OwnBr.open (hs.pick (OwnBr ad3 k c3 (T.l.take k)))
    refine SK (st_append ha rfl hs Tryz.underlying39 Ty.t43 rfl rfl hs.rdAll rfl (by simp [Value.oneCell', brC]) (by decide) (by decide) (by omega) ?_); clear ha hs a; (try clear w); intro ad21 c21 a w ha hs
    have h8 := St.allPush (f := bro) (l := ys) (x := (x, ad2, c2)) (hs.sub (M := OwnBB ad2 x.press.length c2 x.press :: All bro ys :: Sl 43 5 ad21 (k + 1) c21 (rows brc ys ++ [brC x ad2 c2].flatten) :: Sl 47 1 ax x.press.length cx (zs.map bbv) :: All bbo zs :: All bro (xs.eraseIdx k) :: blk tq 85 [.pointer (some ⟨sq, 0, none⟩), .int .i64 T.most, .slice (some ⟨b', off', none⟩) T.l.length c, .int .i64 T.last, .int .i64 T.epoch] :: Sl 43 5 (some ⟨b', off', none⟩) T.l.length c (rows brc xs) :: L))
    rw [rows_snocC] at h8
    have h9 := OwnBr.close (l := T.l.take (k + 1)) (n := k + 1) (ad := ad21) (c := c21) (L' := Sl 47 1 ax x.press.length cx (zs.map bbv) :: All bbo zs :: All bro (xs.eraseIdx k) :: blk tq 85 [.pointer (some ⟨sq, 0, none⟩), .int .i64 T.most, .slice (some ⟨b', off', none⟩) T.l.length c, .int .i64 T.last, .int .i64 T.epoch] :: Sl 43 5 (some ⟨b', off', none⟩) T.l.length c (rows brc xs) :: L) (ys ++ [(x, ad2, c2)]) h8 (by
      have hkl : k < T.l.length := by omega
      rw [List.map_append, hy1, List.take_succ_eq_append_getElem hkl]
      rw [List.getElem?_eq_getElem hkl] at hTx
      cases hTx; rfl) (by rw [List.length_take]; omega)
    have h10 := St.brIn (L' := OwnBr ad21 (k + 1) c21 (T.l.take (k + 1)) :: blk tq 85 [.pointer (some ⟨sq, 0, none⟩), .int .i64 T.most, .slice (some ⟨b', off', none⟩) T.l.length c, .int .i64 T.last, .int .i64 T.epoch] :: Sl 43 5 (some ⟨b', off', none⟩) T.l.length c (rows brc xs) :: L) h9 hxx hz1 rfl
    replace hs := h10
    clear h8 h9 h10
    refine S1d ha ?_; clear ha a; intro a ha
    refine LN <| BN <| TN <| WR ?_
    refine SK (st_set ha rfl (ex_addI ha (by omega) (by omega)) rfl ?_); clear ha a; intro a ha
    refine S1d ha ?_; clear ha a; intro a ha
    refine LN <| TN ?_
    exact ⟨T.l.length - (k + 1), by omega, k + 1, _, _, ⟨rfl, by omega⟩, ha.keep [3, 11, 12, 13], hs.sub⟩
   ·
    refine wp_exit <| TE <| TE <| blk_e <| TN <| WS <| WR ?_
    refine S1 ha ?_; clear ha; (try clear a); intro a ha
    refine S1 ha ?_; clear ha a; intro a ha
    refine LN <| TN <| wp_ret ?_
    refine ret1 ha rfl ?_
    obtain rfl : k = T.l.length := by omega
    rw [List.take_length] at hs
    refine ⟨_, _, rfl, ?_⟩
    have h6 := Tree.same (tq := tq) (sq := sq) (T := T) (L' := OwnBr ad3 T.l.length c3 T.l :: L) ad c xs hs h1 hw
    exact h6.perm (List.Perm.swap _ _ _)
theorem all_nil (hs : St W w L) : Calls Tryz.prog 13 #[.pointer none] w fun e w' => e = .returned (.slice none 0 0) ∧ St W w' L := by
  refine calls_enter Tryz.func13 rfl Tryz.ntmps13 (Nat.le_of_ble_eq_true rfl) ?_
  intro a ha
  replace ha : Fr a 24 [(0, _)] := ha
  refine WS <| WR ?_
  refine S1 ha ?_; clear ha a; intro a ha
  refine LN <| TN <| WS <| WS <| WR ?_
  iterate 2 (refine S1 ha ?_; clear ha a; intro a ha)
  refine LN <| TN <| WTr ha <| WS <| WR ?_
  refine S1d ha ?_; clear ha a; intro a ha
  refine LN <| TN <| wp_ret <| TR ?_
  refine ret1 ha rfl ?_
  exact ⟨rfl, hs⟩

/-! Add. -/
def Tr.add (T : Tr) (frm : Int) (p : List (List UInt8)) (snap : Nat) : Tr := { T with l := T.l ++ [⟨T.last + 1, frm, p, 0, snap⟩], last := T.last + 1 }
/-- Is there such a branch? -/
def Br.is (y : Br) (frm : Int) (p : List (List UInt8)) : Prop := y.frm = frm ∧ y.press = p
theorem alike_eq {u v : List (List UInt8)} (h : u.length = v.length) : (alikeP u v = true) ↔ u = v := by
  rw [alikeP, ← h, Nat.min_self, List.take_length, h, List.take_length]; simp
theorem add_nil {frm sn : Int} {ad2 : Option Addr} {m c2 : Nat} (hs : St W w L) : Calls Tryz.prog 33 #[.pointer none, .int .i64 frm, .int .i64 sn, .slice ad2 m c2] w fun e w' => e = .returned (.tuple #[.int .i64 0, .bool false]) ∧ St W w' L := by
  refine calls_enter Tryz.func33 rfl Tryz.ntmps33 (Nat.le_of_ble_eq_true rfl) ?_
  intro a ha
  replace ha : Fr a 101 [(0, _), (1, _), (2, _), (3, _)] := ha
  refine WS <| WR ?_
  iterate 2 (refine S1 ha ?_; clear ha a; intro a ha)
  refine LN <| TN <| WS <| WS ?_
  refine DW (m := 19) (Old w.drew) [11] [0, 1, 2, 3, 4, 5, 8, 9, 10, 6, 7, 11, 12, 13, 14, 15, 16, 17, 18] Ty.mixed (pk_then (pk_then pk_body)) (fun hpk => ?_)
  replace hs := hs.drew
  have hC := Old.refl w.drew
  generalize w.drew = w at hs hC hpk ⊢
  iterate 3 (refine DP hpk ha rfl ?_; clear ha a; intro a ha)
  iterate 6 (refine DO (s := 16) hpk ha rfl ?_; clear ha a; intro a ha)
  refine DOH (s := 16) hpk ha rfl hC ?_; clear ha a; intro a ha
  refine DO (s := 16) hpk ha rfl ?_; clear ha a; intro a ha
  refine DOH (s := 16) hpk ha rfl hC ?_; clear ha a; intro a ha
  refine DO (s := 16) hpk ha rfl ?_; clear ha a; intro a ha
  refine DT hpk ha rfl ?_; clear ha a; intro a ha
  refine DP hpk ha rfl ?_; clear ha a; intro a ha
  iterate 3 (refine DO (s := 28) hpk ha rfl ?_; clear ha a; intro a ha)
  refine DT hpk ha rfl ?_; clear ha a; intro a ha
  refine DD <| TN <| WTr ha <| WS <| WR ?_
  iterate 2 (refine S1d ha ?_; clear ha a; intro a ha)
  refine LN <| TN <| wp_ret <| TR ?_
  refine ret2 ha rfl ?_
  exact ⟨rfl, hs⟩
theorem add_full {frm sn : Int} {ad2 : Option Addr} {m c2 : Nat} (hs : St W w (Tree tq sq T :: L)) (h : T.most ≤ T.l.length ∨ m = 0) :
    Calls Tryz.prog 33 #[.pointer (some ⟨tq, 0, none⟩), .int .i64 frm, .int .i64 sn, .slice ad2 m c2] w fun e w' => e = .returned (.tuple #[.int .i64 0, .bool false]) ∧ St W w' (Tree tq sq T :: L) := by
  obtain ⟨ad, c, xs, h1, hw, hs⟩ := Tree.open hs
  refine calls_enter Tryz.func33 rfl Tryz.ntmps33 (Nat.le_of_ble_eq_true rfl) ?_
  intro a ha
  replace ha : Fr a 101 [(0, _), (1, _), (2, _), (3, _)] := ha
  refine WS <| WR ?_
  iterate 2 (refine S1 ha ?_; clear ha a; intro a ha)
  refine LN <| TN <| WS <| WS ?_
  refine DW (m := 19) (Old w.drew) [11] [0, 1, 2, 3, 4, 5, 8, 9, 10, 6, 7, 11, 12, 13, 14, 15, 16, 17, 18] Ty.mixed (pk_then (pk_then pk_body)) (fun hpk => ?_)
  replace hs := hs.drew
  have hC := Old.refl w.drew
  generalize w.drew = w at hs hC hpk ⊢
  iterate 3 (refine DP hpk ha rfl ?_; clear ha a; intro a ha)
  iterate 6 (refine DPg (s := 16) hpk ha rfl ?_; clear ha a; intro a ha)
  refine DH hpk ha rfl (wgT ha rfl (s := 16)) (fun w hc => ex_load1 ha Tryz.underlying39 rfl (hc.cell (hs.rd1 rfl))) hC ?_; clear ha a; intro a ha
  refine DPg (s := 16) hpk ha rfl ?_; clear ha a; intro a ha
  refine D1 rfl (st_set ha (wgT ha rfl (s := 16)) (ex_load1 ha Tryz.underlying3 rfl (hs.rd1 rfl)) rfl ?_); clear ha a; intro a ha
  refine ⟨fun _ => hC, ?_⟩
  refine DPg (s := 16) hpk ha rfl ?_; clear ha a; intro a ha
  refine DF hpk ha rfl ?_; clear ha a; intro a ha
  refine DP hpk ha rfl ?_; clear ha a; intro a ha
  refine ha.by (s := 28) (fun hg14 ha => ?_) (fun hg14 ha => ?_)
  ·
   refine DO (s := 28) hpk ha rfl ?_; clear ha; (try clear a); intro a ha
   iterate 2 (refine DO (s := 28) hpk ha rfl ?_; clear ha a; intro a ha)
   refine DT hpk ha rfl ?_; clear ha a; intro a ha
   refine DD <| TN <| WTr ha <| WS <| WR ?_
   iterate 2 (refine S1d ha ?_; clear ha a; intro a ha)
   refine LN <| TN <| wp_ret <| TR ?_
   refine ret2 ha rfl ?_
   exact ⟨rfl, Tree.same ad c xs hs h1 hw⟩
  ·
   refine DPg (s := 28) hpk ha rfl ?_; clear ha; (try clear a); intro a ha
   iterate 2 (refine DPg (s := 28) hpk ha rfl ?_; clear ha a; intro a ha)
   refine DF hpk ha rfl ?_; clear ha a; intro a ha
   refine DD <| TN ?_
   rw [decide_eq_true (by omega)] at ha
   refine WTr ha <| WS <| WR ?_
   iterate 2 (refine S1d ha ?_; clear ha a; intro a ha)
   refine LN <| TN <| wp_ret <| TR ?_
   refine ret2 ha rfl ?_
   exact ⟨rfl, Tree.same ad c xs hs h1 hw⟩
theorem add_dup {frm sn : Int} {ad2 : Option Addr} {c2 j : Nat} {y : Br} (hs : St W w (Tree tq sq T :: L)) (hp : ∀ w', St W w' L → RdBB w' ad2 p.length p) (hc : p.length ≤ c2) (hok : OkP p) (hy : T.l[j]? = some y) (his : y.is frm p) :
    Calls Tryz.prog 33 #[.pointer (some ⟨tq, 0, none⟩), .int .i64 frm, .int .i64 sn, .slice ad2 p.length c2] w fun e w' => e = .returned (.tuple #[.int .i64 0, .bool false]) ∧ St W w' (Tree tq sq T :: L) := by
  obtain ⟨ad, c, xs, h1, hw, hs⟩ := Tree.open hs
  have hxl : xs.length = T.l.length := by rw [← h1, List.length_map]
  have hT := hw.most
  have hjl := (List.getElem?_eq_some_iff.1 hy).1
  refine calls_enter Tryz.func33 rfl Tryz.ntmps33 (Nat.le_of_ble_eq_true rfl) ?_
  intro a ha
  replace ha : Fr a 101 [(0, _), (1, _), (2, _), (3, _)] := ha
  refine WS <| WR ?_
  iterate 2 (refine S1 ha ?_; clear ha a; intro a ha)
  refine LN <| TN <| WS <| WS ?_
  refine DW (m := 19) (Old w.drew) [11] [0, 1, 2, 3, 4, 5, 8, 9, 10, 6, 7, 11, 12, 13, 14, 15, 16, 17, 18] Ty.mixed (pk_then (pk_then pk_body)) (fun hpk => ?_)
  replace hs := hs.drew
  have hC := Old.refl w.drew
  generalize w.drew = w at hs hC hpk ⊢
  iterate 3 (refine DP hpk ha rfl ?_; clear ha a; intro a ha)
  iterate 6 (refine DPg (s := 16) hpk ha rfl ?_; clear ha a; intro a ha)
  refine DH hpk ha rfl (wgT ha rfl (s := 16)) (fun w hc => ex_load1 ha Tryz.underlying39 rfl (hc.cell (hs.rd1 rfl))) hC ?_; clear ha a; intro a ha
  refine DPg (s := 16) hpk ha rfl ?_; clear ha a; intro a ha
  refine D1 rfl (st_set ha (wgT ha rfl (s := 16)) (ex_load1 ha Tryz.underlying3 rfl (hs.rd1 rfl)) rfl ?_); clear ha a; intro a ha
  refine ⟨fun _ => hC, ?_⟩
  refine DPg (s := 16) hpk ha rfl ?_; clear ha a; intro a ha
  refine DF hpk ha rfl ?_; clear ha a; intro a ha
  refine DP hpk ha rfl ?_; clear ha a; intro a ha
  refine ha.by (s := 28) (fun hg14 ha => ?_) (fun hg14 ha => ?_)
  ·
   refine DO (s := 28) hpk ha rfl ?_; clear ha; (try clear a); intro a ha
   iterate 2 (refine DO (s := 28) hpk ha rfl ?_; clear ha a; intro a ha)
   refine DT hpk ha rfl ?_; clear ha a; intro a ha
   refine DD <| TN <| WTr ha <| WS <| WR ?_
   iterate 2 (refine S1d ha ?_; clear ha a; intro a ha)
   refine LN <| TN <| wp_ret <| TR ?_
   refine ret2 ha rfl ?_
   exact ⟨rfl, Tree.same ad c xs hs h1 hw⟩
  ·
   refine DPg (s := 28) hpk ha rfl ?_; clear ha; (try clear a); intro a ha
   iterate 2 (refine DPg (s := 28) hpk ha rfl ?_; clear ha a; intro a ha)
   refine DF hpk ha rfl ?_; clear ha a; intro a ha
   refine DD <| TN ?_
   refine WI ha (fun hc0 => ?_) (fun hc0 => ?_)
   ·
    refine WS <| WR ?_
    refine S1d ha ?_; clear ha; (try clear a); intro a ha
    refine S1d ha ?_; clear ha a; intro a ha
    refine LN <| TN <| wp_ret <| TR ?_
    refine ret2 ha rfl ?_
    exact ⟨rfl, Tree.same ad c xs hs h1 hw⟩
   ·
    refine WK <| TN <| WS <| WS <| WR ?_
    refine S1 ha ?_; clear ha; (try clear a); intro a ha
    iterate 2 (refine S1 ha ?_; clear ha a; intro a ha)
    refine SL ha (hs.rd1 rfl) ?_; clear ha a; intro a ha
    iterate 2 (refine S1 ha ?_; clear ha a; intro a ha)
    refine LN <| TN <| wp_block ?_
    refine wp_loop_ghost (fun μ a w => ∃ k : Nat, (μ = j - k ∧ k ≤ j) ∧ Fr a 101 [(1, .int .i64 frm), (3, .slice ad2 p.length c2), (36, .slice ad T.l.length c), (37, .int .i64 T.l.length), (38, .int .i64 k)] ∧ St W w (blk tq 85 [.pointer (some ⟨sq, 0, none⟩), .int .i64 T.most, .slice ad T.l.length c, .int .i64 T.last, .int .i64 T.epoch] :: Sl 43 5 ad T.l.length c (rows brc xs) :: All bro xs :: L)) (j) ?_ ?_
    · exact ⟨0, ⟨by simp, by simp⟩, ha.keep [1, 3, 36, 37, 38], hs.sub⟩
    ·
     clear ha hs
     rintro μ a w ⟨k, ⟨rfl, hk⟩, ha, hs⟩
     refine WS <| WR ?_
     refine S1 ha ?_; clear ha; (try clear a); intro a ha
     refine LN <| TN <| WS ?_
     rw [decide_eq_true (by omega)] at ha
     refine WTr ha <| WK <| TN <| WS <| wp_block <| WS ?_
     obtain ⟨b', off', rfl, hrd⟩ := hs.slRd ad (by omega)
     obtain ⟨⟨x, ax, cx⟩, hxx⟩ : ∃ y, xs[k]? = some y := ⟨_, List.getElem?_eq_getElem (by omega)⟩
     have hrk := row_rd hrd hxx
     have hTx : T.l[k]? = some x := by rw [← h1, List.getElem?_map, hxx]; rfl
     have hox := (hw.ok x (List.mem_of_getElem? hTx)).1
     have hkj : k = j → x = y := fun e => by rw [e, hy] at hTx; cases hTx; rfl
     refine WR ?_
     refine SK (st_set ha rfl (ex_indexAddr ha Tryz.underlying39 Ty.t43 (by omega)) rfl ?_); clear ha a; intro a ha
     refine SK (st_set ha rfl (ex_loadN ha Tryz.underlying43 rfl Ty.t43 (hrk)) rfl ?_); clear ha a; intro a ha
     refine SK (st_alloc ha rfl hs Ty.t43 rfl ?_); clear ha hs a; (try clear w); intro b11 a w ha hs ho
     clear ho
     refine SK (st_storeAll ha rfl hs Ty.t43 (brc_one (x, ax, cx)) (by rfl) ?_); clear ha hs a; (try clear w); intro a w ha hs
     refine LN <| TN <| WS <| WR ?_
     refine S1 ha ?_; clear ha a; intro a ha
     refine SL ha (hs.rd1 rfl) ?_; clear ha a; intro a ha
     iterate 3 (refine S1 ha ?_; clear ha a; intro a ha)
     refine ha.by (s := 46) (fun hg4 ha => ?_) (fun hg4 ha => ?_)
     ·
      refine S1g (s := 46) ha ?_; clear ha; (try clear a); intro a ha
      refine SLg (s := 46) ha (hs.rd1 rfl) ?_; clear ha a; intro a ha
      iterate 4 (refine S1g (s := 46) ha ?_; clear ha a; intro a ha)
      refine PT ha ?_; clear ha a; intro a ha
      refine S1 ha ?_; clear ha a; intro a ha
      refine ha.by (s := 54) (fun hg12 ha => ?_) (fun hg12 ha => ?_)
      ·
       refine S1g (s := 54) ha ?_; clear ha; (try clear a); intro a ha
       refine SLg (s := 54) ha (hs.rd1 rfl) ?_; clear ha a; intro a ha
       refine S1g (s := 54) ha ?_; clear ha a; intro a ha
       have hrx := All.rdBB (hs.pick (All bro xs)) hxx
       refine SK (st_call ha (wgT ha rfl (s := 54)) Ty.c46 rfl (alike_spec (u := x.press) (v := p) hs hrx.1 (hp _ hs.sub) hrx.2 hc (by have := hox.1; omega)) ?_); clear ha hs
       rintro e w ⟨rfl, hs⟩
       refine ⟨_, rfl, ?_⟩
       intro a ha
       refine PT ha ?_; clear ha a; intro a ha
       refine LN <| TN ?_
       refine WI ha (fun hc2 => ?_) (fun hc2 => ?_)
       ·
        refine WS <| WR ?_
        refine S1 ha ?_; clear ha; (try clear a); intro a ha
        refine S1 ha ?_; clear ha a; intro a ha
        refine LN <| TN <| wp_ret <| BR <| TR <| TR <| BR <| TR ?_
        refine ret2 ha rfl ?_
        exact ⟨rfl, Tree.same (some ⟨b', off', none⟩) c xs hs h1 hw⟩
       ·
        have hne : k ≠ j := fun e => by
            have hxp : x.press = p := by rw [hkj e]; exact his.2
            rw [(alike_eq (by rw [hxp])).2 hxp] at hc2
            cases hc2
        refine WK <| BN <| TN <| WR ?_
        refine SK (st_set ha rfl (ex_addI ha (by omega) (by omega)) rfl ?_); clear ha; (try clear a); intro a ha
        refine S1d ha ?_; clear ha a; intro a ha
        refine LN <| TN ?_
        exact ⟨j - (k + 1), by omega, k + 1, ⟨rfl, by omega⟩, ha.keep [1, 3, 36, 37, 38], hs.sub⟩
      ·
       have hne : k ≠ j := fun e => hg12 (by rw [hkj e, his.2])
       refine SO (s := 54) ha ?_; clear ha; (try clear a); intro a ha
       iterate 2 (refine SO (s := 54) ha ?_; clear ha a; intro a ha)
       have hrx := All.rdBB (hs.pick (All bro xs)) hxx
       refine SO (s := 54) ha ?_; clear ha a; intro a ha
       refine PF ha ?_; clear ha a; intro a ha
       refine LN <| TN <| WFa ha <| WK <| BN <| TN <| WR ?_
       refine SK (st_set ha rfl (ex_addI ha (by omega) (by omega)) rfl ?_); clear ha a; intro a ha
       refine S1d ha ?_; clear ha a; intro a ha
       refine LN <| TN ?_
       exact ⟨j - (k + 1), by omega, k + 1, ⟨rfl, by omega⟩, ha.keep [1, 3, 36, 37, 38], hs.sub⟩
     ·
      have hne : k ≠ j := fun e => hg4 (by rw [hkj e]; exact his.1)
      refine SO (s := 46) ha ?_; clear ha; (try clear a); intro a ha
      iterate 5 (refine SO (s := 46) ha ?_; clear ha a; intro a ha)
      refine PF ha ?_; clear ha a; intro a ha
      refine S1 ha ?_; clear ha a; intro a ha
      iterate 3 (refine SO (s := 54) ha ?_; clear ha a; intro a ha)
      have hrx := All.rdBB (hs.pick (All bro xs)) hxx
      refine SO (s := 54) ha ?_; clear ha a; intro a ha
      refine PF ha ?_; clear ha a; intro a ha
      refine LN <| TN <| WFa ha <| WK <| BN <| TN <| WR ?_
      refine SK (st_set ha rfl (ex_addI ha (by omega) (by omega)) rfl ?_); clear ha a; intro a ha
      refine S1d ha ?_; clear ha a; intro a ha
      refine LN <| TN ?_
      exact ⟨j - (k + 1), by omega, k + 1, ⟨rfl, by omega⟩, ha.keep [1, 3, 36, 37, 38], hs.sub⟩
theorem WT.add {frm : Int} {sn : Nat} (h : WT T) (h1 : T.l.length < T.most) (h2 : T.last + 1 < 1099511627776) (hok : OkP p) : WT (T.add frm p sn) := by
  obtain ⟨a1, a2, a3, a4, a5⟩ := h
  refine ⟨⟨a1.1, by simp [Tr.add]; omega⟩, h2, a3, ?_, fun x hx => ?_⟩
  · simp only [Tr.add, List.map_append, List.map_cons, List.map_nil]
    refine List.pairwise_append.2 ⟨a4, by simp, fun u hu v hv => ?_⟩
    obtain ⟨x, hx, rfl⟩ := List.mem_map.1 hu
    have := (a5 x hx).2.2.2
    simp at hv; omega
  · simp only [Tr.add] at hx ⊢
    rcases List.mem_append.1 hx with hx | hx
    · obtain ⟨b1, b2, b3, b4⟩ := a5 x hx
      exact ⟨b1, b2, b3, by omega⟩
    · simp at hx; subst hx
      exact ⟨hok, Nat.zero_le _, by simp, Nat.le_refl _⟩
theorem add_ok {frm : Int} {ad2 : Option Addr} {c2 i : Nat} {zs : List BBx} {px : Pic} (hs : St W w (Tree tq sq T :: Store sq r A :: L)) (hr : ∀ w', St W w' L → RdX w' ad2 zs) (hz : zs.map (·.2.2) = p) (hc : p.length ≤ c2) (hok : OkP p)
    (hx : A.pics[i]? = some px) (hb : A.n + 1 < 1099511627776) (hl : T.last + 1 < 1099511627776) (hno : ∀ y ∈ T.l, ¬ y.is frm p) (hm : T.l.length < T.most) (h0 : 0 < p.length) :
    Calls Tryz.prog 33 #[.pointer (some ⟨tq, 0, none⟩), .int .i64 frm, .int .i64 px.id, .slice ad2 p.length c2] w fun e w' => e = .returned (.tuple #[.int .i64 ((T.last + 1 : Nat) : Int), .bool true]) ∧ St W w' (Tree tq sq (T.add frm p (A.last + 1)) :: Store sq r (A.add px.g px.p) :: L) := by
  obtain ⟨ad, c, xs, h1, hw, hs⟩ := Tree.open hs
  have hxl : xs.length = T.l.length := by rw [← h1, List.length_map]
  have hT := hw.most
  have hp : ∀ w', St W w' L → RdBB w' ad2 p.length p := fun w' h => by
    have := (hr w' h).bb
    rw [hz] at this
    rwa [show zs.length = p.length from by rw [← hz, List.length_map]] at this
  refine calls_enter Tryz.func33 rfl Tryz.ntmps33 (Nat.le_of_ble_eq_true rfl) ?_
  intro a ha
  replace ha : Fr a 101 [(0, _), (1, _), (2, _), (3, _)] := ha
  refine WS <| WR ?_
  iterate 2 (refine S1 ha ?_; clear ha a; intro a ha)
  refine LN <| TN <| WS <| WS ?_
  refine DW (m := 19) (Old w.drew) [11] [0, 1, 2, 3, 4, 5, 8, 9, 10, 6, 7, 11, 12, 13, 14, 15, 16, 17, 18] Ty.mixed (pk_then (pk_then pk_body)) (fun hpk => ?_)
  replace hs := hs.drew
  have hC := Old.refl w.drew
  generalize w.drew = w at hs hC hpk ⊢
  iterate 3 (refine DP hpk ha rfl ?_; clear ha a; intro a ha)
  iterate 6 (refine DPg (s := 16) hpk ha rfl ?_; clear ha a; intro a ha)
  refine DH hpk ha rfl (wgT ha rfl (s := 16)) (fun w hc => ex_load1 ha Tryz.underlying39 rfl (hc.cell (hs.rd1 rfl))) hC ?_; clear ha a; intro a ha
  refine DPg (s := 16) hpk ha rfl ?_; clear ha a; intro a ha
  refine D1 rfl (st_set ha (wgT ha rfl (s := 16)) (ex_load1 ha Tryz.underlying3 rfl (hs.rd1 rfl)) rfl ?_); clear ha a; intro a ha
  refine ⟨fun _ => hC, ?_⟩
  refine DPg (s := 16) hpk ha rfl ?_; clear ha a; intro a ha
  refine DF hpk ha rfl ?_; clear ha a; intro a ha
  refine DP hpk ha rfl ?_; clear ha a; intro a ha
  rw [decide_eq_false (by omega)] at ha
  iterate 3 (refine DPg (s := 28) hpk ha rfl ?_; clear ha a; intro a ha)
  refine DF hpk ha rfl ?_; clear ha a; intro a ha
  refine DD <| TN ?_
  rw [decide_eq_false (by omega)] at ha
  refine WFa ha <| WK <| TN <| WS <| WS <| WR ?_
  iterate 3 (refine S1 ha ?_; clear ha a; intro a ha)
  refine SL ha (hs.rd1 rfl) ?_; clear ha a; intro a ha
  iterate 2 (refine S1 ha ?_; clear ha a; intro a ha)
  refine LN <| TN <| wp_block ?_
  refine wp_loop_ghost (fun μ a w => ∃ k : Nat, (μ = T.l.length - k ∧ k ≤ T.l.length) ∧ Fr a 101 [(0, .pointer (some ⟨tq, 0, none⟩)), (1, .int .i64 frm), (2, .int .i64 px.id), (3, .slice ad2 p.length c2), (36, .slice ad T.l.length c), (37, .int .i64 T.l.length), (38, .int .i64 k)] ∧ St W w (blk tq 85 [.pointer (some ⟨sq, 0, none⟩), .int .i64 T.most, .slice ad T.l.length c, .int .i64 T.last, .int .i64 T.epoch] :: Sl 43 5 ad T.l.length c (rows brc xs) :: All bro xs :: Store sq r A :: L)) (T.l.length) ?_ ?_
  · exact ⟨0, ⟨by simp, by simp⟩, ha.keep [0, 1, 2, 3, 36, 37, 38], hs.sub⟩
  ·
   clear ha hs
   rintro μ a w ⟨k, ⟨rfl, hk⟩, ha, hs⟩
   refine WS <| WR ?_
   refine S1 ha ?_; clear ha; (try clear a); intro a ha
   refine LN <| TN <| WS ?_
   refine WI ha (fun hc1 => ?_) (fun hc1 => ?_)
   ·
    refine WK <| TN <| WS <| wp_block <| WS ?_
    obtain ⟨b', off', rfl, hrd⟩ := hs.slRd ad (by omega)
    obtain ⟨⟨x, ax, cx⟩, hxx⟩ : ∃ y, xs[k]? = some y := ⟨_, List.getElem?_eq_getElem (by omega)⟩
    have hrk := row_rd hrd hxx
    have hTx : T.l[k]? = some x := by rw [← h1, List.getElem?_map, hxx]; rfl
    have hxm := List.mem_of_getElem? hTx
    have hox := (hw.ok x hxm).1
    have hxno := hno x hxm
    refine WR ?_
    refine SK (st_set ha rfl (ex_indexAddr ha Tryz.underlying39 Ty.t43 (by omega)) rfl ?_); clear ha; (try clear a); intro a ha
    refine SK (st_set ha rfl (ex_loadN ha Tryz.underlying43 rfl Ty.t43 (hrk)) rfl ?_); clear ha a; intro a ha
    refine SK (st_alloc ha rfl hs Ty.t43 rfl ?_); clear ha hs a; (try clear w); intro b11 a w ha hs ho
    clear ho
    refine SK (st_storeAll ha rfl hs Ty.t43 (brc_one (x, ax, cx)) (by rfl) ?_); clear ha hs a; (try clear w); intro a w ha hs
    refine LN <| TN <| WS <| WR ?_
    refine S1 ha ?_; clear ha a; intro a ha
    refine SL ha (hs.rd1 rfl) ?_; clear ha a; intro a ha
    iterate 3 (refine S1 ha ?_; clear ha a; intro a ha)
    refine ha.by (s := 46) (fun hg4 ha => ?_) (fun hg4 ha => ?_)
    ·
     refine S1g (s := 46) ha ?_; clear ha; (try clear a); intro a ha
     refine SLg (s := 46) ha (hs.rd1 rfl) ?_; clear ha a; intro a ha
     iterate 4 (refine S1g (s := 46) ha ?_; clear ha a; intro a ha)
     refine PT ha ?_; clear ha a; intro a ha
     refine S1 ha ?_; clear ha a; intro a ha
     refine ha.by (s := 54) (fun hg12 ha => ?_) (fun hg12 ha => ?_)
     ·
      refine S1g (s := 54) ha ?_; clear ha; (try clear a); intro a ha
      refine SLg (s := 54) ha (hs.rd1 rfl) ?_; clear ha a; intro a ha
      refine S1g (s := 54) ha ?_; clear ha a; intro a ha
      have hrx := All.rdBB (hs.pick (All bro xs)) hxx
      refine SK (st_call ha (wgT ha rfl (s := 54)) Ty.c46 rfl (alike_spec (u := x.press) (v := p) hs hrx.1 (hp _ hs.sub) hrx.2 hc (by have := hox.1; omega)) ?_); clear ha hs
      rintro e w ⟨rfl, hs⟩
      refine ⟨_, rfl, ?_⟩
      intro a ha
      refine PT ha ?_; clear ha a; intro a ha
      refine LN <| TN ?_
      refine WI ha (fun hc2 => ?_) (fun hc2 => ?_)
      ·
       simp only at hg12; exact absurd ⟨by omega, (alike_eq (by omega)).1 hc2⟩ hxno
      ·
       refine WK <| BN <| TN <| WR ?_
       refine SK (st_set ha rfl (ex_addI ha (by omega) (by omega)) rfl ?_); clear ha; (try clear a); intro a ha
       refine S1d ha ?_; clear ha a; intro a ha
       refine LN <| TN ?_
       exact ⟨T.l.length - (k + 1), by omega, k + 1, ⟨rfl, by omega⟩, ha.keep [0, 1, 2, 3, 36, 37, 38], hs.sub⟩
     ·
      refine SO (s := 54) ha ?_; clear ha; (try clear a); intro a ha
      iterate 2 (refine SO (s := 54) ha ?_; clear ha a; intro a ha)
      have hrx := All.rdBB (hs.pick (All bro xs)) hxx
      refine SO (s := 54) ha ?_; clear ha a; intro a ha
      refine PF ha ?_; clear ha a; intro a ha
      refine LN <| TN <| WFa ha <| WK <| BN <| TN <| WR ?_
      refine SK (st_set ha rfl (ex_addI ha (by omega) (by omega)) rfl ?_); clear ha a; intro a ha
      refine S1d ha ?_; clear ha a; intro a ha
      refine LN <| TN ?_
      exact ⟨T.l.length - (k + 1), by omega, k + 1, ⟨rfl, by omega⟩, ha.keep [0, 1, 2, 3, 36, 37, 38], hs.sub⟩
    ·
     refine SO (s := 46) ha ?_; clear ha; (try clear a); intro a ha
     iterate 5 (refine SO (s := 46) ha ?_; clear ha a; intro a ha)
     refine PF ha ?_; clear ha a; intro a ha
     refine S1 ha ?_; clear ha a; intro a ha
     iterate 3 (refine SO (s := 54) ha ?_; clear ha a; intro a ha)
     have hrx := All.rdBB (hs.pick (All bro xs)) hxx
     refine SO (s := 54) ha ?_; clear ha a; intro a ha
     refine PF ha ?_; clear ha a; intro a ha
     refine LN <| TN <| WFa ha <| WK <| BN <| TN <| WR ?_
     refine SK (st_set ha rfl (ex_addI ha (by omega) (by omega)) rfl ?_); clear ha a; intro a ha
     refine S1d ha ?_; clear ha a; intro a ha
     refine LN <| TN ?_
     exact ⟨T.l.length - (k + 1), by omega, k + 1, ⟨rfl, by omega⟩, ha.keep [0, 1, 2, 3, 36, 37, 38], hs.sub⟩
   ·
    refine wp_exit <| TE <| TE <| blk_e <| TN <| WS <| WR ?_
    refine S1 ha ?_; clear ha; (try clear a); intro a ha
    iterate 2 (refine S1 ha ?_; clear ha a; intro a ha)
    refine SL ha (hs.rd1 rfl) ?_; clear ha a; intro a ha
    refine S1 ha ?_; clear ha a; intro a ha
    refine SK (st_call ha rfl Ty.c62 rfl (snap_fork (hs.pick (Store sq r A)) hx hb) ?_); clear ha hs
    rintro e w ⟨rfl, hs⟩
    refine ⟨_, rfl, ?_⟩
    intro a ha
    iterate 5 (refine S1 ha ?_; clear ha a; intro a ha)
    refine LN <| TN <| WS <| WS <| WR ?_
    iterate 2 (refine S1 ha ?_; clear ha a; intro a ha)
    refine LN <| TN <| WFa ha <| WK <| TN <| WS <| WR ?_
    iterate 3 (refine S1 ha ?_; clear ha a; intro a ha)
    refine SL ha (hs.rd1 rfl) ?_; clear ha a; intro a ha
    refine SK (st_set ha rfl (ex_addI ha (by omega) (by omega)) rfl ?_); clear ha a; intro a ha
    iterate 2 (refine S1 ha ?_; clear ha a; intro a ha)
    refine SK (st_store ha rfl hs Ty.t2 rfl (by simp) ?_); clear ha hs a; (try clear w); intro a w ha hs
    rw [show ((T.last : Int) + 1) = ((T.last + 1 : Nat) : Int) from rfl] at hs
    refine LN <| TN <| WS ?_
    refine DW (m := 19) (fun w' => w'.cell? ⟨tq, 2, none⟩ = some (.slice ad T.l.length c) ∧ w'.cell? ⟨tq, 3, none⟩ = some (.int .i64 ((T.last + 1 : Nat) : Int))) [8, 11, 13, 14] [0, 1, 2, 3, 5, 6, 7, 9, 10, 12, 4, 8, 11, 13, 14, 15, 16, 17, 18] Ty.mixed (pk_then pk_body) (fun hpk => ?_)
    replace hs := hs.drew
    generalize w.drew = w at hs hpk ⊢
    have hC : w.cell? ⟨tq, 2, none⟩ = some (.slice ad T.l.length c) ∧ w.cell? ⟨tq, 3, none⟩ = some (.int .i64 ((T.last + 1 : Nat) : Int)) := ⟨hs.rd1 rfl, hs.rd1 rfl⟩
    iterate 10 (refine DP hpk ha rfl ?_; clear ha a; intro a ha)
    refine DL hpk ha rfl (fun w hc => hc.1) hC ?_; clear ha a; intro a ha
    refine DL hpk ha rfl (fun w hc => hc.2) hC ?_; clear ha a; intro a ha
    refine D1 rfl (st_call ha rfl Ty.c63 rfl (clone_spec hs (fun w' h => hr w' h.sub) (by rw [← hz, List.length_map]) (by rw [hz]; exact hok)) ?_); clear ha hs
    rintro e w ⟨ad4, c4, rfl, hs⟩
    refine ⟨_, rfl, ?_⟩
    intro a ha
    replace hC : (fun w' => w'.cell? ⟨tq, 2, none⟩ = some (.slice ad T.l.length c) ∧ w'.cell? ⟨tq, 3, none⟩ = some (.int .i64 ((T.last + 1 : Nat) : Int))) w := ⟨hs.rd1 rfl, hs.rd1 rfl⟩
    refine ⟨fun _ => hC, ?_⟩
    refine D1 rfl (st_set ha rfl (ex_build ha Ty.b43 Ty.t43 rfl) rfl ?_); clear ha a; intro a ha
    refine ⟨fun _ => hC, ?_⟩
    refine D1 rfl (st_buildSlice ha rfl hs Tryz.underlying39 Ty.t43 rfl rfl rfl rfl (by decide) (by decide) ?_); clear ha hs a; (try clear w); intro b93 a w ha hs ho
    (try replace hC := hC.trans ho); clear ho
    replace hC : (fun w' => w'.cell? ⟨tq, 2, none⟩ = some (.slice ad T.l.length c) ∧ w'.cell? ⟨tq, 3, none⟩ = some (.int .i64 ((T.last + 1 : Nat) : Int))) w := ⟨hs.rd1 rfl, hs.rd1 rfl⟩
    refine ⟨fun _ => hC, ?_⟩
    refine D1 rfl (st_append ha rfl hs Tryz.underlying39 Ty.t43 rfl rfl hs.rdAll rfl (by simp [Value.oneCell']) (by decide) (by decide) (by omega) ?_); clear ha hs a; (try clear w); intro ad94 c94 a w ha hs
    refine ⟨fun h => absurd h (by decide), ?_⟩
    iterate 2 (refine DP hpk ha rfl ?_; clear ha a; intro a ha)
    refine D1 rfl (st_store ha rfl hs Ty.t39 rfl (by simp) ?_); clear ha hs a; (try clear w); intro a w ha hs
    refine ⟨fun h => absurd h (by decide), ?_⟩
    refine DD <| TN <| WS <| WR ?_
    iterate 3 (refine S1 ha ?_; clear ha a; intro a ha)
    refine SL ha (hs.rd1 rfl) ?_; clear ha a; intro a ha
    iterate 2 (refine S1 ha ?_; clear ha a; intro a ha)
    refine LN <| TN <| wp_ret ?_
    refine ret2 ha rfl ?_
    refine ⟨rfl, ?_⟩
    rw [hz] at hs
    have h8 := St.allPush (f := bro) (l := xs) (x := (⟨T.last + 1, frm, p, 0, A.last + 1⟩, ad4, c4)) (hs.sub (M := OwnBB ad4 p.length c4 p :: All bro xs :: blk tq 85 [.pointer (some ⟨sq, 0, none⟩), .int .i64 T.most, .slice ad94 (T.l.length + 1) c94, .int .i64 ((T.last + 1 : Nat) : Int), .int .i64 T.epoch] :: Sl 43 5 ad94 (T.l.length + 1) c94 (rows brc xs ++ [[.int .i64 ((T.last + 1 : Nat) : Int), .int .i64 frm, .slice ad4 p.length c4, .int .i64 0, .int .i64 ((A.last + 1 : Nat) : Int)]].flatten) :: Store sq r (A.add px.g px.p) :: L))
    have h9 : St W w (All bro (xs ++ [(⟨T.last + 1, frm, p, 0, A.last + 1⟩, ad4, c4)]) :: blk tq 85 [.pointer (some ⟨sq, 0, none⟩), .int .i64 T.most, .slice ad94 (T.l.length + 1) c94, .int .i64 ((T.last + 1 : Nat) : Int), .int .i64 T.epoch] :: Sl 43 5 ad94 (T.l.length + 1) c94 (rows brc (xs ++ [(⟨T.last + 1, frm, p, 0, A.last + 1⟩, ad4, c4)])) :: Store sq r (A.add px.g px.p) :: L) := by
      rw [← rows_snocC]; exact h8
    exact Tree.close (T := T.add frm p (A.last + 1)) (ad := ad94) (c := c94) (xs := xs ++ [(⟨T.last + 1, frm, p, 0, A.last + 1⟩, ad4, c4)]) (n := T.l.length + 1) (most := T.most) (last := T.last + 1) (epoch := T.epoch) h9 (by simp [Tr.add, h1]) (hw.add hm hl hok) rfl (by simp [Tr.add]) rfl rfl

/-! Publish. -/
def Tr.pub (T : Tr) (k : Nat) (x : Br) (done snap : Nat) : Tr := { T with l := T.l.set k { x with done := done, snap := snap } }
theorem WT.pub {d sn : Nat} (h : WT T) (hx : T.l[k]? = some x) (hd : d ≤ x.press.length) : WT (T.pub k x d sn) := by
  obtain ⟨a1, a2, a3, a4, a5⟩ := h
  obtain ⟨hi, rfl⟩ := List.getElem?_eq_some_iff.1 hx
  refine ⟨⟨a1.1, by simp [Tr.pub]; exact a1.2⟩, a2, a3, ?_, fun y hy => ?_⟩
  · have : (T.l.set k { T.l[k] with done := d, snap := sn }).map (·.id) = T.l.map (·.id) := by
      apply List.ext_getElem?
      intro j
      simp only [List.getElem?_map, List.getElem?_set]
      by_cases hj : k = j
      · subst hj; simp [hi]
      · rw [if_neg hj]
    simp only [Tr.pub]; rw [this]; exact a4
  · simp only [Tr.pub] at hy ⊢
    rcases List.mem_or_eq_of_mem_set hy with hy | rfl
    · exact a5 y hy
    · obtain ⟨b1, b2, b3, b4⟩ := a5 _ (List.getElem_mem hi)
      exact ⟨b1, hd, b3, b4⟩
theorem WT.unique (hw : WT T) {j : Nat} {y : Br} (hx : T.l[k]? = some x) (hy : T.l[j]? = some y) (he : y.id = x.id) : j = k := by
  have hp := List.pairwise_iff_getElem.1 hw.ids
  obtain ⟨hj, rfl⟩ := List.getElem?_eq_some_iff.1 hy
  obtain ⟨hk, rfl⟩ := List.getElem?_eq_some_iff.1 hx
  rcases Nat.lt_trichotomy j k with hl | hl | hl
  · have := hp j k (by simpa using hj) (by simpa using hk) hl
    simp at this; omega
  · exact hl
  · have := hp k j (by simpa using hk) (by simpa using hj) hl
    simp at this; omega
theorem publish_nil {id d sn : Int} (hs : St W w L) : Calls Tryz.prog 69 #[.pointer none, .int .i64 id, .int .i64 d, .int .i64 sn] w fun e w' => e = .returned (.bool false) ∧ St W w' L := by
  refine calls_enter Tryz.func69 rfl Tryz.ntmps69 (Nat.le_of_ble_eq_true rfl) ?_
  intro a ha
  replace ha : Fr a 78 [(0, _), (1, _), (2, _), (3, _)] := ha
  refine WS <| WR ?_
  refine S1 ha ?_; clear ha a; intro a ha
  refine LN <| TN <| WS <| WR ?_
  iterate 2 (refine S1 ha ?_; clear ha a; intro a ha)
  refine SK (st_call ha rfl Ty.c67 rfl (find_nil hs) ?_); clear ha hs
  rintro e w ⟨rfl, hs⟩
  refine ⟨_, rfl, ?_⟩
  intro a ha
  refine S1 ha ?_; clear ha a; intro a ha
  refine LN <| TN <| WS <| WS <| WR ?_
  iterate 3 (refine S1 ha ?_; clear ha a; intro a ha)
  iterate 10 (refine SO (s := 15) ha ?_; clear ha a; intro a ha)
  refine PT ha ?_; clear ha a; intro a ha
  refine S1 ha ?_; clear ha a; intro a ha
  iterate 11 (refine SO (s := 27) ha ?_; clear ha a; intro a ha)
  refine PT ha ?_; clear ha a; intro a ha
  refine S1 ha ?_; clear ha a; intro a ha
  iterate 7 (refine SO (s := 40) ha ?_; clear ha a; intro a ha)
  refine PT ha ?_; clear ha a; intro a ha
  refine LN <| TN <| WTr ha <| WS <| WR ?_
  refine S1d ha ?_; clear ha a; intro a ha
  refine LN <| TN <| wp_ret <| TR ?_
  refine ret1 ha rfl ?_
  exact ⟨rfl, hs⟩
theorem publish_none {id d sn : Int} (hs : St W w (Tree tq sq T :: L)) (hn : ∀ y ∈ T.l, (y.id : Int) ≠ id) :
    Calls Tryz.prog 69 #[.pointer (some ⟨tq, 0, none⟩), .int .i64 id, .int .i64 d, .int .i64 sn] w fun e w' => e = .returned (.bool false) ∧ St W w' (Tree tq sq T :: L) := by
  refine calls_enter Tryz.func69 rfl Tryz.ntmps69 (Nat.le_of_ble_eq_true rfl) ?_
  intro a ha
  replace ha : Fr a 78 [(0, _), (1, _), (2, _), (3, _)] := ha
  refine WS <| WR ?_
  refine S1 ha ?_; clear ha a; intro a ha
  refine LN <| TN <| WS <| WR ?_
  iterate 2 (refine S1 ha ?_; clear ha a; intro a ha)
  refine SK (st_call ha rfl Ty.c67 rfl (tree_find (id := id) (hs.tree tq)) ?_); clear ha hs
  rintro e w ⟨r, rfl, hr, hs⟩
  refine ⟨_, rfl, ?_⟩
  intro a ha
  obtain rfl : r = -1 := by
    rcases hr with ⟨h, _⟩ | ⟨j, y, _, h3, h4⟩
    · exact h
    · exact absurd h4 (hn y (List.mem_of_getElem? h3))
  clear hr
  refine S1 ha ?_; clear ha a; intro a ha
  refine LN <| TN <| WS <| WS <| WR ?_
  iterate 3 (refine S1 ha ?_; clear ha a; intro a ha)
  iterate 10 (refine SO (s := 15) ha ?_; clear ha a; intro a ha)
  refine PT ha ?_; clear ha a; intro a ha
  refine S1 ha ?_; clear ha a; intro a ha
  iterate 11 (refine SO (s := 27) ha ?_; clear ha a; intro a ha)
  refine PT ha ?_; clear ha a; intro a ha
  refine S1 ha ?_; clear ha a; intro a ha
  iterate 7 (refine SO (s := 40) ha ?_; clear ha a; intro a ha)
  refine PT ha ?_; clear ha a; intro a ha
  refine LN <| TN <| WTr ha <| WS <| WR ?_
  refine S1d ha ?_; clear ha a; intro a ha
  refine LN <| TN <| wp_ret <| TR ?_
  refine ret1 ha rfl ?_
  exact ⟨rfl, hs⟩
theorem find_at (hs : St W w (Tree tq sq T :: L)) (hx : T.l[k]? = some x) :
    Calls Tryz.prog 67 #[.pointer (some ⟨tq, 0, none⟩), .int .i64 x.id] w fun e w' => e = .returned (.int .i64 k) ∧ St W w' (Tree tq sq T :: L) := by
  refine (tree_find (id := (x.id : Int)) hs).mono fun e w' ⟨r, h1, h2, h3⟩ => ⟨?_, h3⟩
  rcases h2 with ⟨_, h4⟩ | ⟨j, y, h4, h5, h6⟩
  · exact absurd rfl (h4 x (List.mem_of_getElem? hx))
  · rw [h1, h4, (Tree.wt h3).unique hx h5 (by omega)]
theorem publish_no {i : Nat} {px : Pic} {d sn : Int} (hs : St W w (Tree tq sq T :: Store sq r A :: L)) (hx : T.l[k]? = some x) (hno : d ≤ x.done ∨ (x.press.length : Int) < d ∨ ∀ y ∈ A.pics, (y.id : Int) ≠ sn) :
    Calls Tryz.prog 69 #[.pointer (some ⟨tq, 0, none⟩), .int .i64 x.id, .int .i64 d, .int .i64 sn] w fun e w' => e = .returned (.bool false) ∧ St W w' (Tree tq sq T :: Store sq r A :: L) := by
  have hkl := (List.getElem?_eq_some_iff.1 hx).1
  refine calls_enter Tryz.func69 rfl Tryz.ntmps69 (Nat.le_of_ble_eq_true rfl) ?_
  intro a ha
  replace ha : Fr a 78 [(0, _), (1, _), (2, _), (3, _)] := ha
  refine WS <| WR ?_
  refine S1 ha ?_; clear ha a; intro a ha
  refine LN <| TN <| WS <| WR ?_
  iterate 2 (refine S1 ha ?_; clear ha a; intro a ha)
  refine SK (st_call ha rfl Ty.c67 rfl (find_at hs hx) ?_); clear ha hs
  rintro e w ⟨rfl, hs⟩
  refine ⟨_, rfl, ?_⟩
  intro a ha
  refine S1 ha ?_; clear ha a; intro a ha
  refine LN <| TN <| WS <| WS ?_
  obtain ⟨ad, c, xs, h1, hw, hs⟩ := Tree.open (hs.tree tq)
  obtain ⟨ax, cx, hxx⟩ := bx_at h1 hx
  obtain ⟨b', off', rfl, hrd⟩ := hs.tail.slRd ad (by omega)
  have hrk := row_rd hrd hxx
  have hdc := hrk 3 _ rfl
  have hpc := hrk 2 _ rfl
  refine WR ?_
  iterate 3 (refine S1 ha ?_; clear ha a; intro a ha)
  rw [decide_eq_false (by omega)] at ha
  iterate 4 (refine S1g (s := 15) ha ?_; clear ha a; intro a ha)
  refine SLg (s := 15) ha (hs.rd1 rfl) ?_; clear ha a; intro a ha
  refine S1g (s := 15) ha ?_; clear ha a; intro a ha
  refine SK (st_set ha (wgT ha rfl (s := 15)) (ex_indexAddr ha Tryz.underlying39 Ty.t43 (by omega)) rfl ?_); clear ha a; intro a ha
  refine S1g (s := 15) ha ?_; clear ha a; intro a ha
  refine SLg (s := 15) ha (hdc) ?_; clear ha a; intro a ha
  refine S1g (s := 15) ha ?_; clear ha a; intro a ha
  refine PF ha ?_; clear ha a; intro a ha
  refine S1 ha ?_; clear ha a; intro a ha
  refine ha.by (s := 27) (fun hg14 ha => ?_) (fun hg14 ha => ?_)
  ·
   skip
   refine SO (s := 27) ha ?_; clear ha; (try clear a); intro a ha
   iterate 10 (refine SO (s := 27) ha ?_; clear ha a; intro a ha)
   refine PT ha ?_; clear ha a; intro a ha
   refine S1 ha ?_; clear ha a; intro a ha
   iterate 7 (refine SO (s := 40) ha ?_; clear ha a; intro a ha)
   refine PT ha ?_; clear ha a; intro a ha
   refine LN <| TN <| WTr ha <| WS <| WR ?_
   refine S1d ha ?_; clear ha a; intro a ha
   refine LN <| TN <| wp_ret <| TR ?_
   refine ret1 ha rfl ?_
   exact ⟨rfl, Tree.same (L' := Store sq r A :: L) (some ⟨b', off', none⟩) c xs hs h1 hw⟩
  ·
   refine S1g (s := 27) ha ?_; clear ha; (try clear a); intro a ha
   iterate 3 (refine S1g (s := 27) ha ?_; clear ha a; intro a ha)
   refine SLg (s := 27) ha (hs.rd1 rfl) ?_; clear ha a; intro a ha
   refine S1g (s := 27) ha ?_; clear ha a; intro a ha
   refine SK (st_set ha (wgT ha rfl (s := 27)) (ex_indexAddr ha Tryz.underlying39 Ty.t43 (by omega)) rfl ?_); clear ha a; intro a ha
   refine S1g (s := 27) ha ?_; clear ha a; intro a ha
   refine SLg (s := 27) ha (hpc) ?_; clear ha a; intro a ha
   iterate 2 (refine S1g (s := 27) ha ?_; clear ha a; intro a ha)
   refine PF ha ?_; clear ha a; intro a ha
   refine S1 ha ?_; clear ha a; intro a ha
   refine ha.by (s := 40) (fun hg27 ha => ?_) (fun hg27 ha => ?_)
   ·
    refine SO (s := 40) ha ?_; clear ha; (try clear a); intro a ha
    iterate 6 (refine SO (s := 40) ha ?_; clear ha a; intro a ha)
    refine PT ha ?_; clear ha a; intro a ha
    refine LN <| TN <| WTr ha <| WS <| WR ?_
    refine S1d ha ?_; clear ha a; intro a ha
    refine LN <| TN <| wp_ret <| TR ?_
    refine ret1 ha rfl ?_
    exact ⟨rfl, Tree.same (L' := Store sq r A :: L) (some ⟨b', off', none⟩) c xs hs h1 hw⟩
   ·
    refine S1g (s := 40) ha ?_; clear ha; (try clear a); intro a ha
    iterate 2 (refine S1g (s := 40) ha ?_; clear ha a; intro a ha)
    refine SLg (s := 40) ha (hs.rd1 rfl) ?_; clear ha a; intro a ha
    refine S1g (s := 40) ha ?_; clear ha a; intro a ha
    refine SK (st_call ha (wgT ha rfl (s := 40)) Ty.c87 rfl (snap_refs_no (hs.pick (Store sq r A)) (by rcases hno with h | h | h; omega; omega; exact h)) ?_); clear ha hs
    rintro e w ⟨rfl, hs⟩
    refine ⟨_, rfl, ?_⟩
    intro a ha
    refine S1g (s := 40) ha ?_; clear ha a; intro a ha
    refine PF ha ?_; clear ha a; intro a ha
    refine LN <| TN <| WTr ha <| WS <| WR ?_
    refine S1d ha ?_; clear ha a; intro a ha
    refine LN <| TN <| wp_ret <| TR ?_
    refine ret1 ha rfl ?_
    exact ⟨rfl, Tree.same (L' := Store sq r A :: L) (some ⟨b', off', none⟩) c xs hs h1 hw⟩
end
end Go.Proofs.YtneafbkhaooelaaGreat

