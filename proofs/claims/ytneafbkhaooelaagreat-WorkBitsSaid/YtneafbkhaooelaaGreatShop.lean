/- A shop: a store, a tree, jobs, workers: the walks of the laws' own functions. -/
import Derived.Test.YtneafbkhaooelaaGreatShopP
import Derived.Test.YtneafbkhaooelaaGreatWk
import Derived.Test.YtneafbkhaooelaaGreatRefS
import Derived.Test.YtneafbkhaooelaaGreatBranchP
namespace Go.Proofs.YtneafbkhaooelaaGreat
open Go.RowKit
set_option linter.unusedVariables false
set_option linter.unusedSimpArgs false
set_option maxRecDepth 10000
set_option synthInstance.maxSize 4000
set_option synthInstance.maxHeartbeats 400000

abbrev Kx := Wk × Nat
def ownK (p : Pr) (adO : Option Addr) (cO tq jq sq : Nat) (x : Kx) : SP := blk x.2 80 (wkC p adO cO tq jq sq x.1)
def ptrs (ks : List Kx) : List Value := ks.map fun x => .pointer (some ⟨x.2, 0, none⟩)
theorem ptrs_len (ks : List Kx) : (ptrs ks).length = ks.length := by simp [ptrs]
theorem ptrs_at {ks : List Kx} {i : Nat} {k : Wk} {wb : Nat} (h : ks[i]? = some (k, wb)) : (ptrs ks)[i]? = some (.pointer (some ⟨wb, 0, none⟩)) := by rw [ptrs, List.getElem?_map, h]; rfl
theorem ptrs_set {ks : List Kx} {i : Nat} {k k' : Wk} {wb : Nat} (h : ks[i]? = some (k, wb)) : ptrs (ks.set i (k', wb)) = ptrs ks := by
  have hi := (List.getElem?_eq_some_iff.1 h).1
  apply List.ext_getElem?
  intro j
  simp only [ptrs, List.getElem?_map, List.getElem?_set]
  by_cases hj : i = j
  · subst hj; rw [if_pos rfl, if_pos hi, h]; rfl
  · rw [if_neg hj]
theorem fst_set {ks : List Kx} {i : Nat} {k k' : Wk} {wb : Nat} (h : ks[i]? = some (k, wb)) : (ks.map (·.1)).Perm (k :: (ks.eraseIdx i).map (·.1)) ∧ ((ks.set i (k', wb)).map (·.1)).Perm (k' :: (ks.eraseIdx i).map (·.1)) := by
  obtain ⟨hi, he⟩ := List.getElem?_eq_some_iff.1 h
  have h1 := (erase_perm ks hi).map (·.1)
  rw [List.map_cons, he] at h1
  have h2 := (erase_perm (ks.set i (k', wb)) (by simpa using hi)).map (·.1)
  rw [List.map_cons, List.getElem_set_self, List.eraseIdx_set_eq] at h2
  exact ⟨h1, h2⟩
section
variable {W w : World} {L L' R : List SP} {tq jq sq r wb i kk cO xb n c cw base m : Nat} {ad adO adw : Option Addr} {A : Sn} {T : Tr} {J : Js} {k : Wk} {p : Pr} {x : Br} {px : Pic} {ks : List Kx} {t : Nat → Nat}
theorem St.ownOut (hs : St W w (All (ownK p adO cO tq jq sq) ks :: L)) (hk : ks[i]? = some (k, wb)) : St W w (blk wb 80 (wkC p adO cO tq jq sq k) :: All (ownK p adO cO tq jq sq) (ks.eraseIdx i) :: L) := by
  obtain ⟨hi, he⟩ := List.getElem?_eq_some_iff.1 hk
  have := hs.allOut hi
  rw [he] at this
  exact this
theorem St.ownIn {k' : Wk} (hs : St W w (blk wb 80 (wkC p adO cO tq jq sq k') :: All (ownK p adO cO tq jq sq) (ks.eraseIdx i) :: L)) (hk : ks[i]? = some (k, wb)) : St W w (All (ownK p adO cO tq jq sq) (ks.set i (k', wb)) :: L) :=
  St.allPut (f := ownK p adO cO tq jq sq) (x := (k', wb)) (List.getElem?_eq_some_iff.1 hk).1 hs
/-- One bit of one worker of some. -/
theorem shop_step {F : Int} {g0 : Nat → Int} (hs : St W w (All (ownK p adO cO tq jq sq) ks :: Tree tq sq T :: Store sq r A :: Jobs jq J :: RoP W p adO cO :: L)) (hk : ks[i]? = some (k, wb)) (hI : Inv p F g0 t base A T (ks.map (·.1)))
    (hF : 0 ≤ F ∧ F ≤ 1099511627776) (hp : prOk p) (hz : p.title.size ≤ 1000000000) (hn : A.n + 1 < 1099511627776) (hJ : J.length ≤ 16) :
    Calls Tryz.prog 12 #[.pointer (some ⟨wb, 0, none⟩)] w fun e w' => ∃ (z : Bool) (A' : Sn) (T' : Tr) (J' : Js) (k' : Wk), e = .returned (.bool z) ∧ (Bit p A T J k z A' T' J' k' ∧ Inv p F g0 t base A' T' ((ks.set i (k', wb)).map (·.1)) ∧ Near A T J A' T' J') ∧
      St W w' (All (ownK p adO cO tq jq sq) (ks.set i (k', wb)) :: Tree tq sq T' :: Store sq r A' :: Jobs jq J' :: RoP W p adO cO :: L) := by
  have hA := (Store.facts (hs.store sq)).1
  have hT := Tree.wt (hs.tree tq)
  have hmem : k ∈ ks.map (·.1) := List.mem_map.2 ⟨_, List.mem_of_getElem? hk, rfl⟩
  have h1 := hs.ownOut hk
  refine (step_bit (L := All (ownK p adO cO tq jq sq) (ks.eraseIdx i) :: L) (h1.sub (M := blk wb 80 (wkC p adO cO tq jq sq k) :: Tree tq sq T :: Store sq r A :: Jobs jq J :: RoP W p adO cO :: All (ownK p adO cO tq jq sq) (ks.eraseIdx i) :: L)) (hI.ready hmem hF hp hz hn hJ)).mono fun e w' ⟨z, A', T', J', k', he, hb, hs⟩ => ?_
  refine ⟨z, A', T', J', k', he, ⟨hb, ((hI.permW (fst_set (k' := k') hk).1).bit hA hT hb).permW (fst_set (k' := k') hk).2.symm, hb.near⟩, ?_⟩
  have h2 := St.ownIn (i := i) (ks := ks) (k := k) (k' := k') (hs.sub (M := blk wb 80 (wkC p adO cO tq jq sq k') :: All (ownK p adO cO tq jq sq) (ks.eraseIdx i) :: Tree tq sq T' :: Store sq r A' :: Jobs jq J' :: RoP W p adO cO :: L)) hk
  exact h2
theorem shop_busy (hs : St W w (All (ownK p adO cO tq jq sq) ks :: L)) (hk : ks[i]? = some (k, wb)) :
    Calls Tryz.prog 16 #[.pointer (some ⟨wb, 0, none⟩)] w fun e w' => e = .returned (.bool k.busy) ∧ St W w' (All (ownK p adO cO tq jq sq) ks :: L) := by
  refine (busy_spec (hs.ownOut hk)).mono fun e w' ⟨h1, hs⟩ => ⟨h1, ?_⟩
  have h2 := St.ownIn (i := i) (ks := ks) (k := k) (k' := k) hs hk
  have h3 : ks.set i (k, wb) = ks := by
    obtain ⟨hi, he⟩ := List.getElem?_eq_some_iff.1 hk
    rw [← he, List.set_getElem_self]
  rwa [h3] at h2
theorem shop_rest {F : Int} {g0 : Nat → Int} (hs : St W w (All (ownK p adO cO tq jq sq) ks :: Store sq r A :: L)) (hk : ks[i]? = some (k, wb)) (hI : Inv p F g0 t base A T (ks.map (·.1))) :
    Calls Tryz.prog 18 #[.pointer (some ⟨wb, 0, none⟩)] w fun e w' => ∃ (A' : Sn) (k' : Wk), e = .returned (.bool k.busy) ∧ (k'.busy = false ∧ Inv p F g0 t base A' T ((ks.set i (k', wb)).map (·.1)) ∧ A'.room = A.room ∧ A'.n = A.n) ∧
      St W w' (All (ownK p adO cO tq jq sq) (ks.set i (k', wb)) :: Store sq r A' :: L) := by
  have hA := (Store.facts (hs.store sq)).1
  have h1 := hs.ownOut hk
  cases hb : k.busy with
  | false =>
    refine (rest_idle h1 hb).mono fun e w' ⟨he, hs⟩ => ⟨A, k, he, ⟨hb, (hI.permW (fst_set (k' := k) hk).1).permW (fst_set (k' := k) hk).2.symm, rfl, rfl⟩, ?_⟩
    exact St.ownIn (i := i) (ks := ks) (k := k) (k' := k) hs hk
  | true =>
    refine (rest_busy (L := All (ownK p adO cO tq jq sq) (ks.eraseIdx i) :: L) (h1.sub (M := blk wb 80 (wkC p adO cO tq jq sq k) :: Store sq r A :: All (ownK p adO cO tq jq sq) (ks.eraseIdx i) :: L)) hb).mono fun e w' ⟨he, hs⟩ => ?_
    refine ⟨A.dropId k.x, { k with busy := false }, he, ⟨rfl, ((hI.permW (fst_set (k' := { k with busy := false }) hk).1).rest (k' := { k with busy := false }) hA hb rfl rfl).permW (fst_set (k' := { k with busy := false }) hk).2.symm, (dropId_same A _).1, (dropId_same A _).2.1⟩, ?_⟩
    exact St.ownIn (i := i) (ks := ks) (k := k) (k' := { k with busy := false }) (hs.sub (M := blk wb 80 (wkC p adO cO tq jq sq { k with busy := false }) :: All (ownK p adO cO tq jq sq) (ks.eraseIdx i) :: Store sq r (A.dropId k.x) :: L)) hk
theorem worker_new (hs : St W w L) : Calls Tryz.prog 36 #[.agg (prV p adO cO).toArray, .pointer (some ⟨tq, 0, none⟩), .pointer (some ⟨jq, 0, none⟩), .pointer (some ⟨sq, 0, none⟩)] w fun e w' =>
    ∃ wb, e = .returned (.pointer (some ⟨wb, 0, none⟩)) ∧ St W w' (blk wb 80 (wkC p adO cO tq jq sq wk0) :: L) := by
  refine calls_enter Tryz.func36 rfl Tryz.ntmps36 (Nat.le_of_ble_eq_true rfl) ?_
  intro a ha
  replace ha : Fr a 15 [(0, _), (1, _), (2, _), (3, _)] := ha
  refine WS <| WR ?_
  refine SK (st_box ha rfl hs rfl ?_); clear ha hs a; (try clear w); intro b4 a w ha hs ho
  clear ho
  change St W w (blk b4 24 (prV p adO cO) :: _) at hs
  refine S1 ha ?_; clear ha a; intro a ha
  refine LN <| TN <| WS <| WR ?_
  refine SK (st_set ha rfl (ex_loadN ha Tryz.underlying24 rfl Ty.t24 (hs.rdAll)) rfl ?_); clear ha a; intro a ha
  change Fr a 15 ((9, .agg (List.toArray [.string p.title, .slice adO p.ops.length cO])) :: _) at ha
  iterate 3 (refine S1 ha ?_; clear ha a; intro a ha)
  refine SK (st_set ha rfl (ex_build ha Ty.b80 Ty.t80 rfl) rfl ?_); clear ha a; intro a ha
  refine SK (st_box ha rfl hs rfl ?_); clear ha hs a; (try clear w); intro b14 a w ha hs ho
  clear ho
  change St W w (blk b14 80 (wkC p adO cO tq jq sq wk0) :: _) at hs
  refine S1d ha ?_; clear ha a; intro a ha
  refine LN <| TN <| wp_ret ?_
  refine ret1 ha rfl ?_
  exact ⟨b14, rfl, hs.sub⟩
def cutN (k : Nat) (zs : List BBx) : List BBx := (zs.take k).map cut9
theorem cutN_len (k : Nat) (zs : List BBx) : (cutN k zs).length = min zs.length k := by simp [cutN]; omega
theorem cutN_rd {w : World} {k : Nat} {zs : List BBx} (h : ∀ x ∈ zs, RdB w x.1 x.2.2.length x.2.2) : ∀ x ∈ cutN k zs, RdB w x.1 x.2.2.length x.2.2 := by
  intro x hx
  obtain ⟨y, hy, rfl⟩ := List.mem_map.1 hx
  exact (h y (List.mem_of_mem_take hy)).take 9
theorem cutN_ok {k : Nat} (zs : List BBx) (hk : k ≤ 65536) : OkP ((cutN k zs).map (·.2.2)) := by
  refine ⟨by rw [List.length_map, cutN_len]; omega, fun b hb => ?_⟩
  obtain ⟨x, hx, rfl⟩ := List.mem_map.1 hb
  obtain ⟨y, hy, rfl⟩ := List.mem_map.1 hx
  simp [cut9, List.length_take]; omega
/-- Presses that can be read: rows of rows of bytes. -/
def RdP (w : World) (ad : Option Addr) (zs : List BBx) : Prop := RdX w ad zs ∧ ∀ z ∈ zs, z.2.2.length ≤ z.2.1
theorem presses_any {K : Nat} {zs : List BBx} (hs : St W w L) (hK : K ≤ 100) (hz : ∀ w', St W w' L → RdP w' ad zs) (hm : zs.length = m) :
    Calls Tryz.prog 17 #[.slice ad m c, .int .i64 K] w fun e w' => ∃ ad' c', e = .returned (.slice ad' (min m K) c') ∧ min m K ≤ c' ∧ St W w' (Sl 47 1 ad' (min m K) c' ((cutN K zs).map bbv) :: L) := by
  refine calls_enter Tryz.func17 rfl Tryz.ntmps17 (Nat.le_of_ble_eq_true rfl) ?_
  intro a ha
  replace ha : Fr a 27 [(0, _), (1, _)] := ha
  refine WS <| WR ?_
  refine S1 ha ?_; clear ha a; intro a ha
  refine LN <| TN <| WS ?_
  replace hs := hs.sl0 47 1 none
  refine WR ?_
  refine S1 ha ?_; clear ha a; intro a ha
  refine LN <| TN <| WS <| WS <| WR ?_
  refine S1 ha ?_; clear ha a; intro a ha
  refine LN <| TN <| wp_block ?_
  refine wp_loop_ghost (fun μ a w => ∃ (k : Nat) (ad3 : Option Addr) (c3 : Nat), (μ = min m K - k ∧ k ≤ min m K ∧ k ≤ c3) ∧ Fr a 27 [(0, .slice ad m c), (1, .int .i64 K), (5, .slice ad3 k c3), (6, .int .i64 k)] ∧ St W w (Sl 47 1 ad3 k c3 (((cutN K zs).take k).map bbv) :: L)) (min m K) ?_ ?_
  · exact ⟨0, none, 0, ⟨by simp, by simp, by simp⟩, ha.keep [0, 1, 5, 6], hs⟩
  ·
   clear ha hs
   rintro μ a w ⟨k, ad3, c3, ⟨rfl, hk, hk3⟩, ha, hs⟩
   refine WS <| WS <| WR ?_
   refine S1 ha ?_; clear ha; (try clear a); intro a ha
   iterate 4 (refine S1 ha ?_; clear ha a; intro a ha)
   refine ha.by (s := 11) (fun hg4 ha => ?_) (fun hg4 ha => ?_)
   ·
    refine S1g (s := 11) ha ?_; clear ha; (try clear a); intro a ha
    iterate 2 (refine S1g (s := 11) ha ?_; clear ha a; intro a ha)
    refine PT ha ?_; clear ha a; intro a ha
    refine LN <| TN ?_
    refine WI ha (fun hc0 => ?_) (fun hc0 => ?_)
    ·
     refine WK <| TN <| WS <| wp_block ?_
     have hkm : k < m := by omega
     have hz2 := hz _ hs.tail
     obtain ⟨b1, o1, rfl, h1⟩ := hz2.1.1 (by omega)
     have hx1 : zs[k]? = some zs[k] := List.getElem?_eq_getElem (by omega)
     have hcell := h1 k _ (by rw [List.getElem?_map, hx1]; rfl)
     refine WR ?_
     refine S1 ha ?_; clear ha; (try clear a); intro a ha
     iterate 2 (refine S1 ha ?_; clear ha a; intro a ha)
     refine SK (st_set ha rfl (ex_indexAddr ha Tryz.underlying41 Ty.t47 (by omega)) rfl ?_); clear ha a; intro a ha
     rw [Nat.mul_one] at ha
     refine SL ha (hcell) ?_; clear ha a; intro a ha
     refine SK (st_call ha rfl Ty.c43 rfl (short9 hs (hz2.2 _ (List.getElem_mem _))) ?_); clear ha hs
     rintro e w ⟨rfl, hs⟩
     refine ⟨_, rfl, ?_⟩
     intro a ha
     refine SK (st_buildSlice ha rfl hs Tryz.underlying41 Ty.t47 rfl rfl rfl rfl (by decide) (by decide) ?_); clear ha hs a; (try clear w); intro b24 a w ha hs ho
     clear ho
     refine SK (st_append ha rfl hs Tryz.underlying41 Ty.t47 rfl rfl hs.rdAll rfl (by simp [Value.oneCell']) (by decide) (by decide) (by omega) ?_); clear ha hs a; (try clear w); intro ad25 c25 a w ha hs
     have hkl : k < (cutN K zs).length := by rw [cutN_len]; omega
     have hck : (cutN K zs)[k] = cut9 zs[k] := by simp [cutN]
     have hval : ((cutN K zs).take k).map bbv ++ [[.slice zs[k].1 (min zs[k].2.2.length 9) zs[k].2.1]].flatten = ((cutN K zs).take (k + 1)).map bbv := by
       rw [List.take_succ_eq_append_getElem hkl, hck]
       simp [bbv, cut9, List.length_take, Nat.min_comm]
     rw [hval] at hs
     have hc25 := (hs.sl ad25).2
     refine S1d ha ?_; clear ha a; intro a ha
     refine LN <| BN <| TN <| WR ?_
     refine S1 ha ?_; clear ha a; intro a ha
     refine SK (st_set ha rfl (ex_addI ha (by omega) (by omega)) rfl ?_); clear ha a; intro a ha
     refine S1d ha ?_; clear ha a; intro a ha
     refine LN <| TN ?_
     exact ⟨min m K - (k + 1), by omega, k + 1, _, _, ⟨rfl, by omega, by omega⟩, ha.keep [0, 1, 5, 6], hs.sub⟩
    ·
     refine wp_exit <| TE <| TE <| blk_e <| TN <| WS <| WR ?_
     refine S1 ha ?_; clear ha; (try clear a); intro a ha
     refine S1 ha ?_; clear ha a; intro a ha
     refine LN <| TN <| wp_ret ?_
     refine ret1 ha rfl ?_
     obtain rfl : k = min m K := by omega
     rw [List.take_of_length_le (by rw [cutN_len]; omega)] at hs
     exact ⟨_, _, rfl, hk3, hs⟩
   ·
    refine SO (s := 11) ha ?_; clear ha; (try clear a); intro a ha
    iterate 2 (refine SO (s := 11) ha ?_; clear ha a; intro a ha)
    refine PF ha ?_; clear ha a; intro a ha
    refine LN <| TN <| WFa ha <| wp_exit <| TE <| TE <| blk_e <| TN <| WS <| WR ?_
    iterate 2 (refine S1 ha ?_; clear ha a; intro a ha)
    refine LN <| TN <| wp_ret ?_
    refine ret1 ha rfl ?_
    obtain rfl : k = min m K := by omega
    rw [List.take_of_length_le (by rw [cutN_len]; omega)] at hs
    exact ⟨_, _, rfl, hk3, hs⟩
theorem add_try {frm : Int} {ad2 : Option Addr} {c2 id : Nat} {zs : List BBx} {P : List (List UInt8)} (hs : St W w (Tree tq sq T :: Store sq r A :: L)) (hr : ∀ w', St W w' L → RdX w' ad2 zs) (hz : zs.map (·.2.2) = P) (hc : P.length ≤ c2) (hok : OkP P)
    (hx : A.pics[i]? = some px) (hid : px.id = id) (hb : A.n + 1 < 1099511627776) (hl : T.last + 1 < 1099511627776) (hm : T.l.length < T.most) :
    Calls Tryz.prog 33 #[.pointer (some ⟨tq, 0, none⟩), .int .i64 frm, .int .i64 id, .slice ad2 P.length c2] w fun e w' => ∃ (z : Nat) (ok : Bool), e = .returned (.tuple #[.int .i64 z, .bool ok]) ∧
      ((ok = false ∧ (P = [] ∨ ∃ y ∈ T.l, y.is frm P) ∧ St W w' (Tree tq sq T :: Store sq r A :: L)) ∨
       (ok = true ∧ z = T.last + 1 ∧ P ≠ [] ∧ (∀ y ∈ T.l, ¬ y.is frm P) ∧ St W w' (Tree tq sq (T.add frm P (A.last + 1)) :: Store sq r (A.add px.g px.p) :: L))) := by
  subst hid
  rcases Nat.eq_zero_or_pos P.length with h0 | h0
  · have hP := List.eq_nil_of_length_eq_zero h0
    exact (add_full hs (.inr h0)).mono fun e w' ⟨h1, hs⟩ => ⟨0, false, h1, .inl ⟨rfl, .inl hP, hs⟩⟩
  · have hP : P ≠ [] := List.length_pos_iff.1 h0
    by_cases hex : ∃ y ∈ T.l, y.is frm P
    · obtain ⟨y, hy, his⟩ := hex
      obtain ⟨j, hj⟩ := List.mem_iff_getElem?.1 hy
      have hbb : ∀ w', St W w' (Store sq r A :: L) → RdBB w' ad2 P.length P := fun w' h => by
        have := (hr w' h.tail).bb
        rw [hz] at this
        rwa [show zs.length = P.length from by rw [← hz, List.length_map]] at this
      exact (add_dup hs hbb hc hok hj his).mono fun e w' ⟨h1, hs⟩ => ⟨0, false, h1, .inl ⟨rfl, .inr ⟨y, hy, his⟩, hs⟩⟩
    · have hno : ∀ y ∈ T.l, ¬ y.is frm P := fun y hy h => hex ⟨y, hy, h⟩
      exact (add_ok hs hr hz hc hok hx hb hl hno hm h0).mono fun e w' ⟨h1, hs⟩ => ⟨T.last + 1, true, h1, .inr ⟨rfl, rfl, hP, hno, hs⟩⟩
end
end Go.Proofs.YtneafbkhaooelaaGreat

