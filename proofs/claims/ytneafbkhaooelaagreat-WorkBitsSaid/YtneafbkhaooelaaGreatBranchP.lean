/- The laws' own helpers on presses. -/
import Derived.Test.YtneafbkhaooelaaGreatBranchL
import Derived.Test.YtneafbkhaooelaaGreatArgB
namespace Go.Proofs.YtneafbkhaooelaaGreat
open Go.RowKit
set_option linter.unusedVariables false
set_option linter.unusedSimpArgs false
set_option maxRecDepth 10000
set_option synthInstance.maxSize 4000
set_option synthInstance.maxHeartbeats 400000

section
variable {P : Program} {ops : Array Oper} {a : Act} {w : World} {n : Nat} {l : List (Nat × Value)}
theorem ex_neqS {x y i j t u dst ty ps af g} (ha : Fr a n l) [e : Ev l x (.string i)] [f : Ev l y (.string j)] :
    (execOp a.eval ⟨dst, .binOp .neq t x y u, ty, ps, af, g⟩).run P w = .ok (.value (.bool (!(i.data.toList == j.data.toList)))) w := by
  simp [execOp, e.ev a n ha, f.ev a n ha, eqGuard, binOp, Op.stringOp, ByteArray.toList_eq]
end
section
variable {W w : World} {L L' R : List SP} {tq sq q r n c k m : Nat} {ad : Option Addr} {A : Sn} {T : Tr} {x y : Br} {xs : List Bx} {p : List (List UInt8)}
theorem short9 (hs : St W w L) (hnc : n ≤ c) :
    Calls Tryz.prog 43 #[.slice ad n c, .int .i64 9] w fun e w' => e = .returned (.slice ad (min n 9) c) ∧ St W w' L := by
  refine calls_enter Tryz.func43 rfl Tryz.ntmps43 (Nat.le_of_ble_eq_true rfl) ?_
  intro a ha
  replace ha : Fr a 13 [(0, _), (1, _)] := ha
  refine WS <| WR ?_
  refine S1 ha ?_; clear ha a; intro a ha
  refine LN <| TN <| WS <| WS <| WR ?_
  iterate 4 (refine S1 ha ?_; clear ha a; intro a ha)
  refine LN <| TN ?_
  refine WI ha (fun hc0 => ?_) (fun hc0 => ?_)
  ·
   refine WS <| WR ?_
   refine S1 ha ?_; clear ha; (try clear a); intro a ha
   refine S1 ha ?_; clear ha a; intro a ha
   refine SK (st_set ha rfl (ex_sliceH ha Tryz.underlying47 Ty.t5 (by omega)) rfl ?_); clear ha a; intro a ha
   refine S1d ha ?_; clear ha a; intro a ha
   refine LN <| TN <| wp_ret <| TR ?_
   refine ret1 ha rfl ?_
   exact ⟨by rw [cutAd_zero, Nat.sub_zero, Nat.sub_zero, show min n 9 = 9 from by omega], hs⟩
  ·
   refine WK <| TN <| WS <| WR ?_
   refine S1 ha ?_; clear ha; (try clear a); intro a ha
   refine S1d ha ?_; clear ha a; intro a ha
   refine LN <| TN <| wp_ret ?_
   refine ret1 ha rfl ?_
   exact ⟨by rw [show min n 9 = n from by omega], hs⟩
def cut9 (x : BBx) : BBx := (x.1, x.2.1, x.2.2.take 9)
def cut4 (zs : List BBx) : List BBx := (zs.take 4).map cut9
theorem cut4_len (zs : List BBx) : (cut4 zs).length = min zs.length 4 := by simp [cut4]; omega
theorem RdB.take {bs : List UInt8} (h : RdB w ad m bs) (k : Nat) : RdB w ad (bs.take k).length (bs.take k) := by
  obtain ⟨h1, h2, h3⟩ := h
  refine ⟨rfl, fun e => by have := h2 e; rw [List.length_take]; omega, fun x hx hp => ?_⟩
  obtain ⟨b, off, rfl, hr⟩ := h3 x hx (by rw [List.length_take] at hp; omega)
  refine ⟨b, off, rfl, fun j v hj => hr j v ?_⟩
  simp only [bc, List.map_take, List.getElem?_take] at hj ⊢
  split at hj
  · exact hj
  · cases hj
theorem cut4_rd {zs : List BBx} (h : ArgBB W ad zs) : ∀ x ∈ cut4 zs, RdB W x.1 x.2.2.length x.2.2 := by
  intro x hx
  obtain ⟨y, hy, rfl⟩ := List.mem_map.1 hx
  exact (h.1.2 y (List.mem_of_mem_take hy)).take 9
theorem cut4_ok (zs : List BBx) : OkP ((cut4 zs).map (·.2.2)) := by
  refine ⟨by rw [List.length_map, cut4_len]; omega, fun b hb => ?_⟩
  obtain ⟨x, hx, rfl⟩ := List.mem_map.1 hb
  obtain ⟨y, hy, rfl⟩ := List.mem_map.1 hx
  simp [cut9, List.length_take]; omega
theorem RdX.sl {zs : List BBx} {e : Nat} (hs : St W w L) (ad : Option Addr) [kk : PickSl L ad n c e 1 (zs.map bbv) R] (hn : zs.length = n) (h : ∀ x ∈ zs, RdB W x.1 x.2.2.length x.2.2) : RdX w ad zs := by
  subst hn
  exact ⟨fun h0 => hs.slRd ad h0, fun x hx => (h x hx).old hs⟩
theorem presses_spec {zs : List BBx} (hs : St W w L) (hz : ArgBB W ad zs) (hm : zs.length = m) :
    Calls Tryz.prog 17 #[.slice ad m c, .int .i64 4] w fun e w' => ∃ ad' c', e = .returned (.slice ad' (min m 4) c') ∧ min m 4 ≤ c' ∧ St W w' (Sl 47 1 ad' (min m 4) c' ((cut4 zs).map bbv) :: L) := by
  refine calls_enter Tryz.func17 rfl Tryz.ntmps17 (Nat.le_of_ble_eq_true rfl) ?_
  intro a ha
  replace ha : Fr a 27 [(0, _), (1, _)] := ha
  refine WS <| WR ?_
  refine S1 ha ?_; clear ha a; intro a ha
  refine LN <| TN <| WS ?_
  replace hs := hs.sl0 47 1 none
  refine WR ?_
  refine S1 ha ?_; clear ha a; intro a ha
  refine LN <| TN <| WS <| WS <| WR ?_
  refine S1 ha ?_; clear ha a; intro a ha
  refine LN <| TN <| wp_block ?_
  refine wp_loop_ghost (fun μ a w => ∃ (k : Nat) (ad3 : Option Addr) (c3 : Nat), (μ = min m 4 - k ∧ k ≤ min m 4 ∧ k ≤ c3) ∧ Fr a 27 [(0, .slice ad m c), (1, .int .i64 4), (5, .slice ad3 k c3), (6, .int .i64 k)] ∧ St W w (Sl 47 1 ad3 k c3 (((cut4 zs).take k).map bbv) :: L)) (min m 4) ?_ ?_
  · exact ⟨0, none, 0, ⟨by simp, by simp, by simp⟩, ha.keep [0, 1, 5, 6], hs⟩
  ·
   clear ha hs
   rintro μ a w ⟨k, ad3, c3, ⟨rfl, hk, hk3⟩, ha, hs⟩
   refine WS <| WS <| WR ?_
   refine S1 ha ?_; clear ha; (try clear a); intro a ha
   iterate 4 (refine S1 ha ?_; clear ha a; intro a ha)
   refine ha.by (s := 11) (fun hg4 ha => ?_) (fun hg4 ha => ?_)
   ·
    refine S1g (s := 11) ha ?_; clear ha; (try clear a); intro a ha
    iterate 2 (refine S1g (s := 11) ha ?_; clear ha a; intro a ha)
    refine PT ha ?_; clear ha a; intro a ha
    refine LN <| TN ?_
    refine WI ha (fun hc0 => ?_) (fun hc0 => ?_)
    ·
     refine WK <| TN <| WS <| wp_block ?_
     have hkm : k < m := by omega
     obtain ⟨b1, o1, rfl, h1⟩ := (hz.1.old hs).1 (by omega)
     have hx1 : zs[k]? = some zs[k] := List.getElem?_eq_getElem (by omega)
     have hcell := h1 k _ (by rw [List.getElem?_map, hx1]; rfl)
     refine WR ?_
     refine S1 ha ?_; clear ha; (try clear a); intro a ha
     iterate 2 (refine S1 ha ?_; clear ha a; intro a ha)
     refine SK (st_set ha rfl (ex_indexAddr ha Tryz.underlying41 Ty.t47 (by omega)) rfl ?_); clear ha a; intro a ha
     rw [Nat.mul_one] at ha
     refine SL ha (hcell) ?_; clear ha a; intro a ha
     refine SK (st_call ha rfl Ty.c43 rfl (short9 hs (hz.2 _ (List.getElem_mem _))) ?_); clear ha hs
     rintro e w ⟨rfl, hs⟩
     refine ⟨_, rfl, ?_⟩
     intro a ha
     refine SK (st_buildSlice ha rfl hs Tryz.underlying41 Ty.t47 rfl rfl rfl rfl (by decide) (by decide) ?_); clear ha hs a; (try clear w); intro b24 a w ha hs ho
     clear ho
     refine SK (st_append ha rfl hs Tryz.underlying41 Ty.t47 rfl rfl hs.rdAll rfl (by simp [Value.oneCell']) (by decide) (by decide) (by omega) ?_); clear ha hs a; (try clear w); intro ad25 c25 a w ha hs
     have hkl : k < (cut4 zs).length := by rw [cut4_len]; omega
     have hck : (cut4 zs)[k] = cut9 zs[k] := by simp [cut4]
     have hval : ((cut4 zs).take k).map bbv ++ [[.slice zs[k].1 (min zs[k].2.2.length 9) zs[k].2.1]].flatten = ((cut4 zs).take (k + 1)).map bbv := by
       rw [List.take_succ_eq_append_getElem hkl, hck]
       simp [bbv, cut9, List.length_take, Nat.min_comm]
     rw [hval] at hs
     have hc25 := (hs.sl ad25).2
     refine S1d ha ?_; clear ha a; intro a ha
     refine LN <| BN <| TN <| WR ?_
     refine S1 ha ?_; clear ha a; intro a ha
     refine SK (st_set ha rfl (ex_addI ha (by omega) (by omega)) rfl ?_); clear ha a; intro a ha
     refine S1d ha ?_; clear ha a; intro a ha
     refine LN <| TN ?_
     exact ⟨min m 4 - (k + 1), by omega, k + 1, _, _, ⟨rfl, by omega, by omega⟩, ha.keep [0, 1, 5, 6], hs.sub⟩
    ·
     refine wp_exit <| TE <| TE <| blk_e <| TN <| WS <| WR ?_
     refine S1 ha ?_; clear ha; (try clear a); intro a ha
     refine S1 ha ?_; clear ha a; intro a ha
     refine LN <| TN <| wp_ret ?_
     refine ret1 ha rfl ?_
     obtain rfl : k = min m 4 := by omega
     rw [List.take_of_length_le (by rw [cut4_len]; omega)] at hs
     exact ⟨_, _, rfl, hk3, hs⟩
   ·
    refine SO (s := 11) ha ?_; clear ha; (try clear a); intro a ha
    iterate 2 (refine SO (s := 11) ha ?_; clear ha a; intro a ha)
    refine PF ha ?_; clear ha a; intro a ha
    refine LN <| TN <| WFa ha <| wp_exit <| TE <| TE <| blk_e <| TN <| WS <| WR ?_
    iterate 2 (refine S1 ha ?_; clear ha a; intro a ha)
    refine LN <| TN <| wp_ret ?_
    refine ret1 ha rfl ?_
    obtain rfl : k = min m 4 := by omega
    rw [List.take_of_length_le (by rw [cut4_len]; omega)] at hs
    exact ⟨_, _, rfl, hk3, hs⟩
theorem alikeP_iff {u v : List (List UInt8)} : alikeP u v = true ↔ u.take (min u.length v.length) = v.take (min u.length v.length) := by simp [alikeP]
end
end Go.Proofs.YtneafbkhaooelaaGreat

