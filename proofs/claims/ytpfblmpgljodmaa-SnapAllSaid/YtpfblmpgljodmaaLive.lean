/- The keys of a map, sorted: the library's two functions, by the kit's own contracts laid at this program. -/
import Derived.Test.YtpfblmpgljodmaaTy
import Derived.Test.YtpfblmpgljodmaaMap
import Derived.Shelf.SlIterI.Nil
import Derived.Shelf.SortM.Plain
import Derived.Shelf.SortM.SortNone
namespace Go.Proofs.Ytpfblmpgljodmaa
open Go.RowKit Go.Maps Go.Sort Go.Shelf
set_option linter.unusedVariables false
set_option linter.unusedSimpArgs false
def Lay.keysA_ren : Go.Shelf.Ren := ⟨fun | 7 => 41 | 10 => 50 | n => n, fun | 23 => 64 | 26 => 25 | 3 => 76 | 28 => 89 | 0 => 0 | 27 => 88 | 33 => 36 | 4 => 4 | n => n, fun | n => n⟩
theorem Lay.keysA : Go.Proofs.SlLaysZI.n7 Try.prog Lay.keysA_ren := {
  mixed := by kernel_rfl
  f7 := ⟨Try.f41.name, by decide, Try.func41.trans (congrArg some (by kernel_rfl))⟩
  f10 := ⟨Try.f50.name, by decide, Try.func50.trans (congrArg some (by kernel_rfl))⟩
  t0 := Try.underlying0
  a0 := Try.isAgg0
  z0 := Try.sizeOf0
  v0 := Try.zeroValue0
  t4 := Try.underlying4
  a4 := Try.isAgg4
  z4 := Try.sizeOf4
  v4 := Try.zeroValue4
  t23 := Try.underlying64
  a23 := Try.isAgg64
  z23 := Try.sizeOf64
  v23 := Try.zeroValue64
  t26 := Try.underlying25
  a26 := Try.isAgg25
  z26 := Try.sizeOf25
  v26 := Try.zeroValue25
  t27 := Try.underlying88
  a27 := Try.isAgg88
  z27 := Try.sizeOf88
  v27 := Try.zeroValue88
  t28 := Try.underlying89
  a28 := Try.isAgg89
  z28 := Try.sizeOf89
  v28 := Try.zeroValue89
  t33 := Try.underlying36
  a33 := Try.isAgg36
  z33 := Try.sizeOf36
  v33 := Try.zeroValue36 }
def Lay.sortedA_ren : Go.Shelf.Ren := ⟨fun | 6 => 40 | 8 => 48 | 9 => 49 | 11 => 51 | 13 => 53 | 12 => 52 | 23 => 63 | 24 => 64 | 14 => 54 | 15 => 55 | 16 => 56 | 17 => 57 | 18 => 58 | 19 => 59 | 20 => 60 | 21 => 61 | 22 => 62 | 25 => 65 | 26 => 66 | 27 => 67 | 28 => 68 | 29 => 69 | 30 => 70 | 31 => 71 | n => n, fun | 26 => 25 | 28 => 89 | 24 => 42 | 0 => 0 | 3 => 3 | 37 => 100 | 48 => 110 | 50 => 112 | 4 => 4 | 40 => 103 | 39 => 102 | 45 => 70 | 5 => 5 | 9 => 9 | 51 => 113 | 55 => 78 | 57 => 118 | 58 => 119 | 33 => 36 | n => n, fun | n => n⟩
theorem Lay.sortedA : Go.Proofs.SlLaysZI.n6 Try.prog Lay.sortedA_ren := {
  mixed := by kernel_rfl
  f6 := ⟨Try.f40.name, by decide, Try.func40.trans (congrArg some (by kernel_rfl))⟩
  f8 := ⟨Try.f48.name, by decide, Try.func48.trans (congrArg some (by kernel_rfl))⟩
  f11 := ⟨Try.f51.name, by decide, Try.func51.trans (congrArg some (by kernel_rfl))⟩
  t0 := Try.underlying0
  a0 := Try.isAgg0
  z0 := Try.sizeOf0
  v0 := Try.zeroValue0
  t24 := Try.underlying42
  a24 := Try.isAgg42
  z24 := Try.sizeOf42
  v24 := Try.zeroValue42
  t26 := Try.underlying25
  a26 := Try.isAgg25
  z26 := Try.sizeOf25
  v26 := Try.zeroValue25
  t28 := Try.underlying89
  a28 := Try.isAgg89
  z28 := Try.sizeOf89
  v28 := Try.zeroValue89
  i26 := by kernel_rfl }
def Lay.sortA_ren : Go.Shelf.Ren := ⟨fun | 5 => 49 | 8 => 53 | 7 => 52 | 19 => 63 | 20 => 64 | 10 => 54 | 11 => 55 | 12 => 56 | 13 => 57 | 14 => 58 | 15 => 59 | 16 => 60 | 17 => 61 | 18 => 62 | 30 => 65 | 31 => 66 | 32 => 67 | 33 => 68 | 34 => 69 | 35 => 70 | 40 => 71 | n => n, fun | 23 => 42 | 25 => 25 | 3 => 3 | 32 => 100 | 22 => 42 | 0 => 0 | 44 => 110 | 46 => 112 | 4 => 4 | 36 => 103 | 35 => 102 | 41 => 70 | 5 => 5 | 9 => 9 | 53 => 113 | 57 => 78 | 63 => 118 | 64 => 119 | n => n, fun | n => n⟩
theorem Lay.sortA : Go.Proofs.SlLaysM.n5 Try.prog Lay.sortA_ren := {
  mixed := by kernel_rfl
  f5 := ⟨Try.f49.name, by decide, Try.func49.trans (congrArg some (by kernel_rfl))⟩
  f7 := ⟨Try.f52.name, by decide, Try.func52.trans (congrArg some (by kernel_rfl))⟩
  f8 := Try.func53.trans (congrArg some (by kernel_rfl))
  f10 := ⟨Try.f54.name, by decide, Try.func54.trans (congrArg some (by kernel_rfl))⟩
  f11 := ⟨Try.f55.name, by decide, Try.func55.trans (congrArg some (by kernel_rfl))⟩
  f12 := ⟨Try.f56.name, by decide, Try.func56.trans (congrArg some (by kernel_rfl))⟩
  f13 := ⟨Try.f57.name, by decide, Try.func57.trans (congrArg some (by kernel_rfl))⟩
  f14 := ⟨Try.f58.name, by decide, Try.func58.trans (congrArg some (by kernel_rfl))⟩
  f15 := ⟨Try.f59.name, by decide, Try.func59.trans (congrArg some (by kernel_rfl))⟩
  f16 := ⟨Try.f60.name, by decide, Try.func60.trans (congrArg some (by kernel_rfl))⟩
  f17 := ⟨Try.f61.name, by decide, Try.func61.trans (congrArg some (by kernel_rfl))⟩
  f18 := ⟨Try.f62.name, by decide, Try.func62.trans (congrArg some (by kernel_rfl))⟩
  f19 := Try.func63.trans (congrArg some (by kernel_rfl))
  f20 := Try.func64.trans (congrArg some (by kernel_rfl))
  f30 := ⟨Try.f65.name, by decide, Try.func65.trans (congrArg some (by kernel_rfl))⟩
  f31 := Try.func66.trans (congrArg some (by kernel_rfl))
  f32 := Try.func67.trans (congrArg some (by kernel_rfl))
  f33 := ⟨Try.f68.name, by decide, Try.func68.trans (congrArg some (by kernel_rfl))⟩
  f34 := ⟨Try.f69.name, by decide, Try.func69.trans (congrArg some (by kernel_rfl))⟩
  f35 := ⟨Try.f70.name, by decide, Try.func70.trans (congrArg some (by kernel_rfl))⟩
  f40 := ⟨Try.f71.name, by decide, Try.func71.trans (congrArg some (by kernel_rfl))⟩
  t0 := Try.underlying0
  a0 := Try.isAgg0
  z0 := Try.sizeOf0
  v0 := Try.zeroValue0
  t3 := Try.underlying3
  a3 := Try.isAgg3
  z3 := Try.sizeOf3
  v3 := Try.zeroValue3
  t4 := Try.underlying4
  a4 := Try.isAgg4
  z4 := Try.sizeOf4
  v4 := Try.zeroValue4
  t5 := Try.underlying5
  a5 := Try.isAgg5
  z5 := Try.sizeOf5
  v5 := Try.zeroValue5
  t9 := Try.underlying9
  a9 := Try.isAgg9
  z9 := Try.sizeOf9
  v9 := Try.zeroValue9
  t22 := Try.underlying42
  a22 := Try.isAgg42
  z22 := Try.sizeOf42
  v22 := Try.zeroValue42
  t23 := Try.underlying42
  a23 := Try.isAgg42
  z23 := Try.sizeOf42
  v23 := Try.zeroValue42
  t25 := Try.underlying25
  a25 := Try.isAgg25
  z25 := Try.sizeOf25
  v25 := Try.zeroValue25
  t32 := Try.underlying100
  a32 := Try.isAgg100
  z32 := Try.sizeOf100
  v32 := Try.zeroValue100
  t35 := Try.underlying102
  a35 := Try.isAgg102
  z35 := Try.sizeOf102
  v35 := Try.zeroValue102
  t36 := Try.underlying103
  a36 := Try.isAgg103
  z36 := Try.sizeOf103
  v36 := Try.zeroValue103
  t41 := Try.underlying70
  a41 := Try.isAgg70
  z41 := Try.sizeOf70
  v41 := Try.zeroValue70
  t44 := Try.underlying110
  a44 := Try.isAgg110
  z44 := Try.sizeOf110
  v44 := Try.zeroValue110
  t46 := Try.underlying112
  a46 := Try.isAgg112
  z46 := Try.sizeOf112
  v46 := Try.zeroValue112
  t53 := Try.underlying113
  a53 := Try.isAgg113
  z53 := Try.sizeOf113
  v53 := Try.zeroValue113
  t57 := Try.underlying78
  a57 := Try.isAgg78
  z57 := Try.sizeOf78
  v57 := Try.zeroValue78
  t63 := Try.underlying118
  a63 := Try.isAgg118
  z63 := Try.sizeOf118
  v63 := Try.zeroValue118
  t64 := Try.underlying119
  a64 := Try.isAgg119
  z64 := Try.sizeOf119
  v64 := Try.zeroValue119 }

theorem Lay.sortsA (m : Nat) : AnyZI.SortsIn Try.prog Lay.sortedA_ren Fence.wide m :=
  ⟨fun blk off cap ss W hH hblk hsz => callsIn_wide.2 (AnyM.slices_Sort_int Lay.sortA blk off cap ss W hH hblk hsz),
   fun p cap W => callsIn_wide.2 (AnyM.slices_Sort_int_none Lay.sortA p cap W)⟩

/-- Whatever a map's value is, it reads. -/
def anyR : Value → Option (DataW Unit × List MemPlace) := fun _ => some (.lit (.bool true), [])
theorem mapFit {es : Array MapEntry} {clock : Nat} {kvs : List (Int × Value)} (h : MapIs es clock kvs) (hl : kvs.length ≤ maxLen) : WideElems.Fit Try.prog 25 anyR es clock := by
  obtain ⟨h1, h2, h3⟩ := h
  have hlen : es.size = kvs.length := by have := congrArg List.length h1; simpa using this
  refine ⟨by omega, h2, fun x hx => ?_⟩
  have hm : (x.key, x.val) ∈ es.toList.map (fun e => (e.key, e.val)) := List.mem_map.2 ⟨x, hx, rfl⟩
  rw [h1] at hm
  obtain ⟨p, hp, hpe⟩ := List.mem_map.1 hm
  simp only [Prod.mk.injEq] at hpe
  refine ⟨(.int .i64 p.1, .lit (.bool true)), ?_⟩
  simp [WideElems.rd, ← hpe.1, keyOf_int_mk Try.underlying25 (h3 p hp), anyR]
theorem mapKeys {es : Array MapEntry} {clock : Nat} {kvs : List (Int × Value)} (h : MapIs es clock kvs) : (intKeys (DataW.map ((es.toList.map (WideElems.rg Try.prog 25 anyR)).foldr DataW.insert []))).Perm (kvs.map (·.1)) := by
  have hp := WideShapes.sorted_perm (es.toList.map (WideElems.rg Try.prog 25 anyR))
  have h4 : (es.toList.map (WideElems.rg Try.prog 25 anyR)).map (fun p => Go.intOf p.1) = kvs.map (·.1) := by
    obtain ⟨h1, _, h3⟩ := h
    have : ∀ (l : List MapEntry) (m : List (Int × Value)), l.map (fun e => (e.key, e.val)) = m.map (fun p => (Value.int .i64 p.1, p.2)) → (∀ p ∈ m, (Lit.int .i64 p.1).wf = true) →
        (l.map (WideElems.rg Try.prog 25 anyR)).map (fun p => Go.intOf p.1) = m.map (·.1) := by
      intro l
      induction l with
      | nil => intro m h _; cases m with
        | nil => rfl
        | cons => simp at h
      | cons e l ih =>
        intro m h hw
        cases m with
        | nil => simp at h
        | cons p m =>
          simp only [List.map_cons, List.cons.injEq, Prod.mk.injEq] at h
          simp only [List.map_cons, ih m h.2 (fun q hq => hw q (List.mem_cons_of_mem _ hq))]
          have hr : WideElems.rg Try.prog 25 anyR e = (Lit.int .i64 p.1, (DataW.lit (.bool true) : DataW Unit)) := by
            simp only [WideElems.rg, WideElems.rd, h.1.1, keyOf_int_mk Try.underlying25 (hw p List.mem_cons_self), anyR, Option.bind_some, Option.map_some, Option.getD_some]
          rw [hr]
          rfl
    exact this _ _ h1 h3
  have := hp.map (fun p : Lit × DataW Unit => Go.intOf p.1)
  rw [h4] at this
  exact this

section
variable {W w : World} {L : List SP} {m : Nat} {kvs : List (Int × Value)}
/-- maps.Keys. -/
theorem maps_keys (hs : St W w L) : Calls Try.prog 41 #[.map (some m)] w fun e w' =>
    ∃ b, e = .returned (.func (.func 50) #[] #[.pointer (some ⟨b, 0, none⟩)]) ∧ St W w' (blk b 64 [.map (some m)] :: L) := by
  have h := AnyZI.keys_in Lay.keysA Fence.wide 5 trivial rfl (some m) w
  refine (callsIn_wide.1 h).mono fun e w' ⟨h1, h2⟩ => ?_
  subst h2
  exact ⟨_, h1, hs.alloc _⟩

theorem sorted_of_perm {ss ks : List Int} (hp : ss.Perm ks) (hk : ks.Pairwise (· < ·)) : ss.mergeSort (fun x y => decide (x ≤ y)) = ks := by
  have h1 := List.pairwise_mergeSort (le := fun x y : Int => decide (x ≤ y)) (fun a b c h1 h2 => by simp at *; omega) (fun a b => by simp; omega) ss
  refine List.Perm.eq_of_pairwise (le := fun x y : Int => decide (x ≤ y) = true) (fun a b _ _ h1 h2 => by simp at *; omega) h1 (hk.imp fun h => by simp; omega) ((List.mergeSort_perm _ _).trans hp)

/-- A new row that a call of the library has made. -/
theorem St.ownsRow {w' : World} {e sz : Nat} {v : Value} {n : Nat} {xs : List Value} (hs : St W w L) (hb : Below w.heap.size w w') (hr : w'.ownsRow w.heap.size e sz v n xs) :
    ∃ ad c, v = .slice ad n c ∧ St W w' (Sl e sz ad n c xs :: L) := by
  obtain ⟨b0, h, p, q⟩ := hs
  have hB : Below W.heap.size W w' := b0.trans ⟨hb.os, hb.tape, hb.output, hb.size, fun k hk => hb.block k (Nat.lt_of_lt_of_le hk b0.size)⟩
  have hsat : ∀ n o, h n = some o → W.heap.size ≤ n ∧ w'.heap[n]? = some o := fun n o ho => by
    obtain ⟨h1, h2⟩ := p n o ho
    refine ⟨h1, ?_⟩
    rw [hb.block n (Array.getElem?_eq_some_iff.1 h2).1]; exact h2
  have hs' : St W w' L := ⟨hB, h, hsat, q⟩
  obtain ⟨hl, hr⟩ := hr
  rcases hr with ⟨rfl, hn⟩ | ⟨g, cap, cur, rfl, hg, hc, hnc, _, hsz, ht⟩
  · subst hn
    refine ⟨none, 0, rfl, ?_⟩
    obtain rfl : xs = [] := List.eq_nil_of_length_eq_zero (by rw [hl, Nat.zero_mul])
    exact hs'.sl0 _ _ _
  · have hgn : h g = none := by
      cases he : h g with
      | none => rfl
      | some x =>
        have := (Array.getElem?_eq_some_iff.1 (p g x he).2).1
        omega
    refine ⟨some ⟨g, 0, none⟩, cap, rfl, ?_⟩
    have h2 : St W w' (blk g e ([] ++ xs ++ cur.toList.drop (n * sz)) :: L) := by
      refine ⟨hB, fun k => if k = g then some (.cells cur e (0, 0)) else h k, fun k o ho => ?_, fun k => if k = g then some (.cells cur e (0, 0)) else none, h, fun k => ?_, fun k o ho => ?_, fun k o ho => ?_, ?_, q⟩
      · by_cases hk : k = g
        · simp [hk] at ho; subst ho; subst hk
          exact ⟨Nat.le_trans b0.size hg, hc⟩
        · simp [hk] at ho; exact hsat k o ho
      · by_cases hk : k = g
        · right; rw [hk]; exact hgn
        · left; simp [hk]
      · by_cases hk : k = g <;> simp [hk] at ho ⊢; exact ho
      · by_cases hk : k = g
        · rw [hk, hgn] at ho; cases ho
        · simp [hk, ho]
      · have : ([] ++ xs ++ cur.toList.drop (n * sz)).toArray = cur := by
          rw [← ht]; simp
        simp only [blk, pts, this, if_true]
    have hlen : xs.length + (cur.toList.drop (n * sz)).length = cap * sz := by
      have : (cur.toList).length = cap * sz := by simpa using hsz
      rw [List.length_drop, this, hl]
      have := Nat.mul_le_mul_right sz hnc
      omega
    have h3 := St.slShut (pre := []) (cs := xs) (n := n) (c := cap) (sz := sz) h2 hl hnc (by rw [Nat.sub_mul]; omega)
    simpa using h3
/-- slices.Sorted of what maps.Keys gave. -/
theorem sorted_keys {b : Nat} (hs : St W w (blk b 64 [.map (some m)] :: mp m kvs :: L)) (hk : (kvs.map (·.1)).Pairwise (· < ·)) (hl : kvs.length ≤ 1099511627776) :
    Calls Try.prog 40 #[.func (.func 50) #[] #[.pointer (some ⟨b, 0, none⟩)]] w fun e w' =>
    ∃ ad c, e = .returned (.slice ad kvs.length c) ∧ St W w' (Sl 25 1 ad kvs.length c (kvs.map fun p => .int .i64 p.1) :: mp m kvs :: L) := by
  have hs2 := hs.tail
  obtain ⟨es, clock, hm, hs3⟩ := hs2.mpHas
  have hlm : (1099511627776 : Nat) ≤ maxLen := by unfold maxLen; omega
  have hsz : es.size = kvs.length := by have := congrArg List.length hm.1; simpa using this
  have hF := mapFit hm (Nat.le_trans hl hlm)
  have hown : w.ownsMap Try.prog 25 anyR m es.size (.map ((es.toList.map (WideElems.rg Try.prog 25 anyR)).foldr DataW.insert [])) := ⟨es, clock, hs3.has.2, hF, Nat.le_refl _, rfl⟩
  have hD : Maps.size (DataW.map ((es.toList.map (WideElems.rg Try.prog 25 anyR)).foldr DataW.insert [])) ≤ kvs.length := by rw [← hsz]; exact hown.size_le
  have hcell : w.cell? ⟨b, 0, none⟩ = some (.map (some m)) := hs.cell 0
  have hb : b < w.heap.size := World.block_lt_of_cell? _ _ hcell
  have hseq : SeqGives Fence.wide 2 Try.prog 50 #[.pointer (some ⟨b, 0, none⟩)] encZ (fun ss => ss.Perm (intKeys (DataW.map ((es.toList.map (WideElems.rg Try.prog 25 anyR)).foldr DataW.insert [])))) (Maps.size (DataW.map ((es.toList.map (WideElems.rg Try.prog 25 anyR)).foldr DataW.insert []))) w :=
    AnyZI.keys_gives (ρ := Lay.keysA_ren) { Lay.keysA with } Fence.wide _ trivial rfl (by omega) b m _ _ w hb hcell hown
  have cS := AnyZI.sorted_in Lay.sortedA Fence.wide 5 trivial trivial trivial trivial rfl (by omega) (Lay.sortsA _) (enters_of Try.func49 (by kernel_rfl) rfl)
    50 #[.pointer (some ⟨b, 0, none⟩)] trivial
    (enters_of Try.func50 (by kernel_rfl) rfl) _ _ (by omega) (by omega) _ hseq
  refine (callsIn_wide.1 cS).mono fun e w' ⟨v, ss, h1, h2, h3, _, h5⟩ => ?_
  subst h1
  have hp := h2.trans (mapKeys hm)
  rw [sorted_of_perm hp hk] at h3
  have hlen : ss.length = kvs.length := by have := hp.length_eq; simpa using this
  rw [hlen] at h3
  obtain ⟨ad, c, rfl, h6⟩ := hs2.ownsRow h5 h3
  refine ⟨ad, c, rfl, ?_⟩
  have h7 : (kvs.map (·.1)).map encZ = kvs.map fun p => Value.int .i64 p.1 := by simp [encZ, Function.comp_def]
  rw [h7] at h6
  exact h6
end
end Go.Proofs.Ytpfblmpgljodmaa

