/- The keys of a map, sorted: the library's two functions, by the kit's own contracts laid at this program. -/
import Derived.Test.YtneafbkhaooelaaGreatTy
import Derived.Test.YtneafbkhaooelaaGreatMap
import Derived.Shelf.SlIterI.Nil
import Derived.Shelf.SortM.Plain
import Derived.Shelf.SortM.SortNone
namespace Go.Proofs.YtneafbkhaooelaaGreat
open Go.RowKit Go.Maps Go.Sort Go.Shelf
set_option linter.unusedVariables false
set_option linter.unusedSimpArgs false
def Lay.keysA_ren : Go.Shelf.Ren := ⟨fun | 7 => 51 | 10 => 76 | n => n, fun | 23 => 101 | 26 => 36 | 3 => 96 | 28 => 107 | 0 => 0 | 27 => 106 | 33 => 53 | 4 => 4 | n => n, fun | n => n⟩
theorem Lay.keysA : Go.Proofs.SlLaysZI.n7 Tryz.prog Lay.keysA_ren := {
  mixed := by kernel_rfl
  f7 := ⟨Tryz.f51.name, by decide, Tryz.func51.trans (congrArg some (by kernel_rfl))⟩
  f10 := ⟨Tryz.f76.name, by decide, Tryz.func76.trans (congrArg some (by kernel_rfl))⟩
  t0 := Tryz.underlying0
  a0 := Tryz.isAgg0
  z0 := Tryz.sizeOf0
  v0 := Tryz.zeroValue0
  t4 := Tryz.underlying4
  a4 := Tryz.isAgg4
  z4 := Tryz.sizeOf4
  v4 := Tryz.zeroValue4
  t23 := Tryz.underlying101
  a23 := Tryz.isAgg101
  z23 := Tryz.sizeOf101
  v23 := Tryz.zeroValue101
  t26 := Tryz.underlying36
  a26 := Tryz.isAgg36
  z26 := Tryz.sizeOf36
  v26 := Tryz.zeroValue36
  t27 := Tryz.underlying106
  a27 := Tryz.isAgg106
  z27 := Tryz.sizeOf106
  v27 := Tryz.zeroValue106
  t28 := Tryz.underlying107
  a28 := Tryz.isAgg107
  z28 := Tryz.sizeOf107
  v28 := Tryz.zeroValue107
  t33 := Tryz.underlying53
  a33 := Tryz.isAgg53
  z33 := Tryz.sizeOf53
  v33 := Tryz.zeroValue53 }
def Lay.sortedA_ren : Go.Shelf.Ren := ⟨fun | 6 => 50 | 8 => 74 | 9 => 75 | 11 => 92 | 13 => 94 | 12 => 93 | 23 => 109 | 24 => 110 | 14 => 100 | 15 => 101 | 16 => 102 | 17 => 103 | 18 => 104 | 19 => 105 | 20 => 106 | 21 => 107 | 22 => 108 | 25 => 116 | 26 => 117 | 27 => 118 | 28 => 119 | 29 => 120 | 30 => 121 | 31 => 133 | n => n, fun | 26 => 36 | 28 => 107 | 24 => 54 | 0 => 0 | 3 => 3 | 37 => 163 | 48 => 179 | 50 => 181 | 4 => 4 | 40 => 172 | 39 => 171 | 45 => 120 | 5 => 5 | 9 => 9 | 51 => 185 | 55 => 189 | 57 => 195 | 58 => 196 | 33 => 53 | n => n, fun | n => n⟩
theorem Lay.sortedA : Go.Proofs.SlLaysZI.n6 Tryz.prog Lay.sortedA_ren := {
  mixed := by kernel_rfl
  f6 := ⟨Tryz.f50.name, by decide, Tryz.func50.trans (congrArg some (by kernel_rfl))⟩
  f8 := ⟨Tryz.f74.name, by decide, Tryz.func74.trans (congrArg some (by kernel_rfl))⟩
  f11 := ⟨Tryz.f92.name, by decide, Tryz.func92.trans (congrArg some (by kernel_rfl))⟩
  t0 := Tryz.underlying0
  a0 := Tryz.isAgg0
  z0 := Tryz.sizeOf0
  v0 := Tryz.zeroValue0
  t24 := Tryz.underlying54
  a24 := Tryz.isAgg54
  z24 := Tryz.sizeOf54
  v24 := Tryz.zeroValue54
  t26 := Tryz.underlying36
  a26 := Tryz.isAgg36
  z26 := Tryz.sizeOf36
  v26 := Tryz.zeroValue36
  t28 := Tryz.underlying107
  a28 := Tryz.isAgg107
  z28 := Tryz.sizeOf107
  v28 := Tryz.zeroValue107
  i26 := by kernel_rfl }
def Lay.sortA_ren : Go.Shelf.Ren := ⟨fun | 5 => 75 | 8 => 94 | 7 => 93 | 19 => 109 | 20 => 110 | 10 => 100 | 11 => 101 | 12 => 102 | 13 => 103 | 14 => 104 | 15 => 105 | 16 => 106 | 17 => 107 | 18 => 108 | 30 => 116 | 31 => 117 | 32 => 118 | 33 => 119 | 34 => 120 | 35 => 121 | 40 => 133 | n => n, fun | 23 => 54 | 25 => 36 | 3 => 3 | 32 => 163 | 22 => 54 | 0 => 0 | 44 => 179 | 46 => 181 | 4 => 4 | 36 => 172 | 35 => 171 | 41 => 120 | 5 => 5 | 9 => 9 | 53 => 185 | 57 => 189 | 63 => 195 | 64 => 196 | n => n, fun | n => n⟩
theorem Lay.sortA : Go.Proofs.SlLaysM.n5 Tryz.prog Lay.sortA_ren := {
  mixed := by kernel_rfl
  f5 := ⟨Tryz.f75.name, by decide, Tryz.func75.trans (congrArg some (by kernel_rfl))⟩
  f7 := ⟨Tryz.f93.name, by decide, Tryz.func93.trans (congrArg some (by kernel_rfl))⟩
  f8 := Tryz.func94.trans (congrArg some (by kernel_rfl))
  f10 := ⟨Tryz.f100.name, by decide, Tryz.func100.trans (congrArg some (by kernel_rfl))⟩
  f11 := ⟨Tryz.f101.name, by decide, Tryz.func101.trans (congrArg some (by kernel_rfl))⟩
  f12 := ⟨Tryz.f102.name, by decide, Tryz.func102.trans (congrArg some (by kernel_rfl))⟩
  f13 := ⟨Tryz.f103.name, by decide, Tryz.func103.trans (congrArg some (by kernel_rfl))⟩
  f14 := ⟨Tryz.f104.name, by decide, Tryz.func104.trans (congrArg some (by kernel_rfl))⟩
  f15 := ⟨Tryz.f105.name, by decide, Tryz.func105.trans (congrArg some (by kernel_rfl))⟩
  f16 := ⟨Tryz.f106.name, by decide, Tryz.func106.trans (congrArg some (by kernel_rfl))⟩
  f17 := ⟨Tryz.f107.name, by decide, Tryz.func107.trans (congrArg some (by kernel_rfl))⟩
  f18 := ⟨Tryz.f108.name, by decide, Tryz.func108.trans (congrArg some (by kernel_rfl))⟩
  f19 := Tryz.func109.trans (congrArg some (by kernel_rfl))
  f20 := Tryz.func110.trans (congrArg some (by kernel_rfl))
  f30 := ⟨Tryz.f116.name, by decide, Tryz.func116.trans (congrArg some (by kernel_rfl))⟩
  f31 := Tryz.func117.trans (congrArg some (by kernel_rfl))
  f32 := Tryz.func118.trans (congrArg some (by kernel_rfl))
  f33 := ⟨Tryz.f119.name, by decide, Tryz.func119.trans (congrArg some (by kernel_rfl))⟩
  f34 := ⟨Tryz.f120.name, by decide, Tryz.func120.trans (congrArg some (by kernel_rfl))⟩
  f35 := ⟨Tryz.f121.name, by decide, Tryz.func121.trans (congrArg some (by kernel_rfl))⟩
  f40 := ⟨Tryz.f133.name, by decide, Tryz.func133.trans (congrArg some (by kernel_rfl))⟩
  t0 := Tryz.underlying0
  a0 := Tryz.isAgg0
  z0 := Tryz.sizeOf0
  v0 := Tryz.zeroValue0
  t3 := Tryz.underlying3
  a3 := Tryz.isAgg3
  z3 := Tryz.sizeOf3
  v3 := Tryz.zeroValue3
  t4 := Tryz.underlying4
  a4 := Tryz.isAgg4
  z4 := Tryz.sizeOf4
  v4 := Tryz.zeroValue4
  t5 := Tryz.underlying5
  a5 := Tryz.isAgg5
  z5 := Tryz.sizeOf5
  v5 := Tryz.zeroValue5
  t9 := Tryz.underlying9
  a9 := Tryz.isAgg9
  z9 := Tryz.sizeOf9
  v9 := Tryz.zeroValue9
  t22 := Tryz.underlying54
  a22 := Tryz.isAgg54
  z22 := Tryz.sizeOf54
  v22 := Tryz.zeroValue54
  t23 := Tryz.underlying54
  a23 := Tryz.isAgg54
  z23 := Tryz.sizeOf54
  v23 := Tryz.zeroValue54
  t25 := Tryz.underlying36
  a25 := Tryz.isAgg36
  z25 := Tryz.sizeOf36
  v25 := Tryz.zeroValue36
  t32 := Tryz.underlying163
  a32 := Tryz.isAgg163
  z32 := Tryz.sizeOf163
  v32 := Tryz.zeroValue163
  t35 := Tryz.underlying171
  a35 := Tryz.isAgg171
  z35 := Tryz.sizeOf171
  v35 := Tryz.zeroValue171
  t36 := Tryz.underlying172
  a36 := Tryz.isAgg172
  z36 := Tryz.sizeOf172
  v36 := Tryz.zeroValue172
  t41 := Tryz.underlying120
  a41 := Tryz.isAgg120
  z41 := Tryz.sizeOf120
  v41 := Tryz.zeroValue120
  t44 := Tryz.underlying179
  a44 := Tryz.isAgg179
  z44 := Tryz.sizeOf179
  v44 := Tryz.zeroValue179
  t46 := Tryz.underlying181
  a46 := Tryz.isAgg181
  z46 := Tryz.sizeOf181
  v46 := Tryz.zeroValue181
  t53 := Tryz.underlying185
  a53 := Tryz.isAgg185
  z53 := Tryz.sizeOf185
  v53 := Tryz.zeroValue185
  t57 := Tryz.underlying189
  a57 := Tryz.isAgg189
  z57 := Tryz.sizeOf189
  v57 := Tryz.zeroValue189
  t63 := Tryz.underlying195
  a63 := Tryz.isAgg195
  z63 := Tryz.sizeOf195
  v63 := Tryz.zeroValue195
  t64 := Tryz.underlying196
  a64 := Tryz.isAgg196
  z64 := Tryz.sizeOf196
  v64 := Tryz.zeroValue196 }

theorem Lay.sortsA (m : Nat) : AnyZI.SortsIn Tryz.prog Lay.sortedA_ren Fence.wide m :=
  ⟨fun blk off cap ss W hH hblk hsz => callsIn_wide.2 (AnyM.slices_Sort_int Lay.sortA blk off cap ss W hH hblk hsz),
   fun p cap W => callsIn_wide.2 (AnyM.slices_Sort_int_none Lay.sortA p cap W)⟩

/-- Whatever a map's value is, it reads. -/
def anyR : Value → Option (DataW Unit × List MemPlace) := fun _ => some (.lit (.bool true), [])
theorem mapFit {es : Array MapEntry} {clock : Nat} {kvs : List (Int × Value)} (h : MapIs es clock kvs) (hl : kvs.length ≤ maxLen) : WideElems.Fit Tryz.prog 36 anyR es clock := by
  obtain ⟨h1, h2, h3⟩ := h
  have hlen : es.size = kvs.length := by have := congrArg List.length h1; simpa using this
  refine ⟨by omega, h2, fun x hx => ?_⟩
  have hm : (x.key, x.val) ∈ es.toList.map (fun e => (e.key, e.val)) := List.mem_map.2 ⟨x, hx, rfl⟩
  rw [h1] at hm
  obtain ⟨p, hp, hpe⟩ := List.mem_map.1 hm
  simp only [Prod.mk.injEq] at hpe
  refine ⟨(.int .i64 p.1, .lit (.bool true)), ?_⟩
  simp [WideElems.rd, ← hpe.1, keyOf_int_mk Tryz.underlying36 (h3 p hp), anyR]
theorem mapKeys {es : Array MapEntry} {clock : Nat} {kvs : List (Int × Value)} (h : MapIs es clock kvs) : (intKeys (DataW.map ((es.toList.map (WideElems.rg Tryz.prog 36 anyR)).foldr DataW.insert []))).Perm (kvs.map (·.1)) := by
  have hp := WideShapes.sorted_perm (es.toList.map (WideElems.rg Tryz.prog 36 anyR))
  have h4 : (es.toList.map (WideElems.rg Tryz.prog 36 anyR)).map (fun p => Go.intOf p.1) = kvs.map (·.1) := by
    obtain ⟨h1, _, h3⟩ := h
    have : ∀ (l : List MapEntry) (m : List (Int × Value)), l.map (fun e => (e.key, e.val)) = m.map (fun p => (Value.int .i64 p.1, p.2)) → (∀ p ∈ m, (Lit.int .i64 p.1).wf = true) →
        (l.map (WideElems.rg Tryz.prog 36 anyR)).map (fun p => Go.intOf p.1) = m.map (·.1) := by
      intro l
      induction l with
      | nil => intro m h _; cases m with
        | nil => rfl
        | cons => simp at h
      | cons e l ih =>
        intro m h hw
        cases m with
        | nil => simp at h
        | cons p m =>
          simp only [List.map_cons, List.cons.injEq, Prod.mk.injEq] at h
          simp only [List.map_cons, ih m h.2 (fun q hq => hw q (List.mem_cons_of_mem _ hq))]
          have hr : WideElems.rg Tryz.prog 36 anyR e = (Lit.int .i64 p.1, (DataW.lit (.bool true) : DataW Unit)) := by
            simp only [WideElems.rg, WideElems.rd, h.1.1, keyOf_int_mk Tryz.underlying36 (hw p List.mem_cons_self), anyR, Option.bind_some, Option.map_some, Option.getD_some]
          rw [hr]
          rfl
    exact this _ _ h1 h3
  have := hp.map (fun p : Lit × DataW Unit => Go.intOf p.1)
  rw [h4] at this
  exact this

section
variable {W w : World} {L : List SP} {m : Nat} {kvs : List (Int × Value)}
/-- maps.Keys. -/
theorem maps_keys (hs : St W w L) : Calls Tryz.prog 51 #[.map (some m)] w fun e w' =>
    ∃ b, e = .returned (.func (.func 76) #[] #[.pointer (some ⟨b, 0, none⟩)]) ∧ St W w' (blk b 101 [.map (some m)] :: L) := by
  have h := AnyZI.keys_in Lay.keysA Fence.wide 5 trivial rfl (some m) w
  refine (callsIn_wide.1 h).mono fun e w' ⟨h1, h2⟩ => ?_
  subst h2
  exact ⟨_, h1, hs.alloc _⟩

theorem sorted_of_perm {ss ks : List Int} (hp : ss.Perm ks) (hk : ks.Pairwise (· < ·)) : ss.mergeSort (fun x y => decide (x ≤ y)) = ks := by
  have h1 := List.pairwise_mergeSort (le := fun x y : Int => decide (x ≤ y)) (fun a b c h1 h2 => by simp at *; omega) (fun a b => by simp; omega) ss
  refine List.Perm.eq_of_pairwise (le := fun x y : Int => decide (x ≤ y) = true) (fun a b _ _ h1 h2 => by simp at *; omega) h1 (hk.imp fun h => by simp; omega) ((List.mergeSort_perm _ _).trans hp)

/-- A new row that a call of the library has made. -/
theorem St.ownsRow {w' : World} {e sz : Nat} {v : Value} {n : Nat} {xs : List Value} (hs : St W w L) (hb : Below w.heap.size w w') (hr : w'.ownsRow w.heap.size e sz v n xs) :
    ∃ ad c, v = .slice ad n c ∧ St W w' (Sl e sz ad n c xs :: L) := by
  obtain ⟨b0, h, p, q⟩ := hs
  have hB : Below W.heap.size W w' := b0.trans ⟨hb.os, hb.tape, hb.output, hb.size, fun k hk => hb.block k (Nat.lt_of_lt_of_le hk b0.size)⟩
  have hsat : ∀ n o, h n = some o → W.heap.size ≤ n ∧ w'.heap[n]? = some o := fun n o ho => by
    obtain ⟨h1, h2⟩ := p n o ho
    refine ⟨h1, ?_⟩
    rw [hb.block n (Array.getElem?_eq_some_iff.1 h2).1]; exact h2
  have hs' : St W w' L := ⟨hB, h, hsat, q⟩
  obtain ⟨hl, hr⟩ := hr
  rcases hr with ⟨rfl, hn⟩ | ⟨g, cap, cur, rfl, hg, hc, hnc, _, hsz, ht⟩
  · subst hn
    refine ⟨none, 0, rfl, ?_⟩
    obtain rfl : xs = [] := List.eq_nil_of_length_eq_zero (by rw [hl, Nat.zero_mul])
    exact hs'.sl0 _ _ _
  · have hgn : h g = none := by
      cases he : h g with
      | none => rfl
      | some x =>
        have := (Array.getElem?_eq_some_iff.1 (p g x he).2).1
        omega
    refine ⟨some ⟨g, 0, none⟩, cap, rfl, ?_⟩
    have h2 : St W w' (blk g e ([] ++ xs ++ cur.toList.drop (n * sz)) :: L) := by
      refine ⟨hB, fun k => if k = g then some (.cells cur e (0, 0)) else h k, fun k o ho => ?_, fun k => if k = g then some (.cells cur e (0, 0)) else none, h, fun k => ?_, fun k o ho => ?_, fun k o ho => ?_, ?_, q⟩
      · by_cases hk : k = g
        · simp [hk] at ho; subst ho; subst hk
          exact ⟨Nat.le_trans b0.size hg, hc⟩
        · simp [hk] at ho; exact hsat k o ho
      · by_cases hk : k = g
        · right; rw [hk]; exact hgn
        · left; simp [hk]
      · by_cases hk : k = g <;> simp [hk] at ho ⊢; exact ho
      · by_cases hk : k = g
        · rw [hk, hgn] at ho; cases ho
        · simp [hk, ho]
      · have : ([] ++ xs ++ cur.toList.drop (n * sz)).toArray = cur := by
          rw [← ht]; simp
        simp only [blk, pts, this, if_true]
    have hlen : xs.length + (cur.toList.drop (n * sz)).length = cap * sz := by
      have : (cur.toList).length = cap * sz := by simpa using hsz
      rw [List.length_drop, this, hl]
      have := Nat.mul_le_mul_right sz hnc
      omega
    have h3 := St.slShut (pre := []) (cs := xs) (n := n) (c := cap) (sz := sz) h2 hl hnc (by rw [Nat.sub_mul]; omega)
    simpa using h3
/-- slices.Sorted of what maps.Keys gave. -/
theorem sorted_keys {b : Nat} (hs : St W w (blk b 101 [.map (some m)] :: mp m kvs :: L)) (hk : (kvs.map (·.1)).Pairwise (· < ·)) (hl : kvs.length ≤ 1099511627776) :
    Calls Tryz.prog 50 #[.func (.func 76) #[] #[.pointer (some ⟨b, 0, none⟩)]] w fun e w' =>
    ∃ ad c, e = .returned (.slice ad kvs.length c) ∧ St W w' (Sl 36 1 ad kvs.length c (kvs.map fun p => .int .i64 p.1) :: mp m kvs :: L) := by
  have hs2 := hs.tail
  obtain ⟨es, clock, hm, hs3⟩ := hs2.mpHas
  have hlm : (1099511627776 : Nat) ≤ maxLen := by unfold maxLen; omega
  have hsz : es.size = kvs.length := by have := congrArg List.length hm.1; simpa using this
  have hF := mapFit hm (Nat.le_trans hl hlm)
  have hown : w.ownsMap Tryz.prog 36 anyR m es.size (.map ((es.toList.map (WideElems.rg Tryz.prog 36 anyR)).foldr DataW.insert [])) := ⟨es, clock, hs3.has.2, hF, Nat.le_refl _, rfl⟩
  have hD : Maps.size (DataW.map ((es.toList.map (WideElems.rg Tryz.prog 36 anyR)).foldr DataW.insert [])) ≤ kvs.length := by rw [← hsz]; exact hown.size_le
  have hcell : w.cell? ⟨b, 0, none⟩ = some (.map (some m)) := hs.cell 0
  have hb : b < w.heap.size := World.block_lt_of_cell? _ _ hcell
  have hseq : SeqGives Fence.wide 2 Tryz.prog 76 #[.pointer (some ⟨b, 0, none⟩)] encZ (fun ss => ss.Perm (intKeys (DataW.map ((es.toList.map (WideElems.rg Tryz.prog 36 anyR)).foldr DataW.insert [])))) (Maps.size (DataW.map ((es.toList.map (WideElems.rg Tryz.prog 36 anyR)).foldr DataW.insert []))) w :=
    AnyZI.keys_gives (ρ := Lay.keysA_ren) { Lay.keysA with } Fence.wide _ trivial rfl (by omega) b m _ _ w hb hcell hown
  have cS := AnyZI.sorted_in Lay.sortedA Fence.wide 5 trivial trivial trivial trivial rfl (by omega) (Lay.sortsA _) (enters_of Tryz.func75 (by kernel_rfl) rfl)
    76 #[.pointer (some ⟨b, 0, none⟩)] trivial
    (enters_of Tryz.func76 (by kernel_rfl) rfl) _ _ (by omega) (by omega) _ hseq
  refine (callsIn_wide.1 cS).mono fun e w' ⟨v, ss, h1, h2, h3, _, h5⟩ => ?_
  subst h1
  have hp := h2.trans (mapKeys hm)
  rw [sorted_of_perm hp hk] at h3
  have hlen : ss.length = kvs.length := by have := hp.length_eq; simpa using this
  rw [hlen] at h3
  obtain ⟨ad, c, rfl, h6⟩ := hs2.ownsRow h5 h3
  refine ⟨ad, c, rfl, ?_⟩
  have h7 : (kvs.map (·.1)).map encZ = kvs.map fun p => Value.int .i64 p.1 := by simp [encZ, Function.comp_def]
  rw [h7] at h6
  exact h6
end
end Go.Proofs.YtneafbkhaooelaaGreat

