/- The document's guesses: quintainref12.MayBy, weights, ahead, Rank, Chain. -/
import Derived.Test.YtagpkhbkdbaigaaGreatPred
namespace Go.Proofs.YtagpkhbkdbaigaaGreat
open Go.RowKit
set_option linter.unusedVariables false
set_option linter.unusedSimpArgs false
set_option maxRecDepth 10000
set_option synthInstance.maxSize 4000
set_option synthInstance.maxHeartbeats 400000
/-! The first value by rank, as the document finds it. -/
def aheadB (w : Nat→Int) (last drawn : Int) (v u : Nat) : Bool:=if (v : Int)=drawn∨(u : Int)=drawn then decide ((v : Int)=drawn) else if w v≠w u then decide (w u < w v) else decide ((v : Int)=last)
def refB (w : Nat→Int) (last drawn : Int) : Nat→Nat
 | 0=>0
 | i+1=>if aheadB w last drawn (i+1) (refB w last drawn i)=true then i+1 else refB w last drawn i
theorem refB_le (w : Nat→Int) (last drawn : Int) : ∀ i,refB w last drawn i≤i
 | 0=>Nat.le_refl _
 | i+1=>by
   rw [refB]
   split
   · exact Nat.le_refl _
   · exact Nat.le_succ_of_le (refB_le w last drawn i)
theorem refB_drawn {w : Nat→Int} {last : Int} {d : Nat} : ∀ {i},d≤i→refB w last d i=d
 | 0,h=>by rw [refB]; omega
 | i+1,h=>by
   rw [refB]
   by_cases hd : d=i+1
   · rw [if_pos]
     · exact hd.symm
     · rw [aheadB,if_pos (.inl (by omega))]; exact decide_eq_true (by omega)
   · rw [refB_drawn (i:=i) (by omega),if_neg]
     rw [aheadB,if_pos (.inr rfl),decide_eq_true_iff]; omega
theorem refB_best {w : Nat→Int} {last : Nat} : ∀ i,(∀ v,v≤i→w v≤w (refB w last (-1) i))∧(refB w last (-1) i=last∨((last≤i→w last < w (refB w last (-1) i))∧∀ v,v < refB w last (-1) i→w v < w (refB w last (-1) i)))
 | 0=>by
   refine ⟨fun v hv=>by rw [refB,show v=0 from by omega]; exact Int.le_refl _,?_⟩
   by_cases h : last=0
   · exact .inl h.symm
   · exact .inr ⟨fun hl=>by omega,fun v hv=>by rw [refB] at hv; omega⟩
 | i+1=>by
   obtain ⟨h1,h2⟩:=refB_best (w:=w) (last:=last) i
   have hle:=refB_le w last (-1) i
   have h0 : ¬ (((i+1 : Nat) : Int) = -1∨((refB w last (-1) i : Nat) : Int) = -1):=by omega
   rw [refB]
   generalize refB w last (-1) i=r at *
   rw [aheadB,if_neg h0]
   by_cases hw : w (i+1)=w r
   · rw [if_neg (show ¬ w (i+1)≠w r from fun h=>h hw)]
     by_cases hl : i+1=last
     · rw [if_pos (decide_eq_true (by omega))]
       refine ⟨fun v hv=>?_,.inl hl⟩
       by_cases hv1 : v=i+1
       · subst hv1; exact Int.le_refl _
       · rw [hw]; exact h1 v (by omega)
     · rw [if_neg (by rw [decide_eq_true_iff]; omega)]
       refine ⟨fun v hv=>?_,?_⟩
       · by_cases hv1 : v=i+1
         · subst hv1; omega
         · exact h1 v (by omega)
       · rcases h2 with h2 | ⟨h2,h3⟩
         · exact .inl h2
         · exact .inr ⟨fun hh=>h2 (by omega),h3⟩
   · rw [if_pos hw]
     by_cases hl : w r < w (i+1)
     · rw [if_pos (decide_eq_true hl)]
       have hall : ∀ v,v < i+1→w v < w (i+1):=fun v hv=>by have:=h1 v (by omega); omega
       refine ⟨fun v hv=>?_,?_⟩
       · by_cases hv1 : v=i+1
         · subst hv1; exact Int.le_refl _
         · have:=hall v (by omega); omega
       · by_cases hli : last=i+1
         · exact .inl hli.symm
         · exact .inr ⟨fun hh=>hall last (by omega),hall⟩
     · rw [if_neg (by rw [decide_eq_true_iff]; exact hl)]
       refine ⟨fun v hv=>?_,?_⟩
       · by_cases hv1 : v=i+1
         · subst hv1; omega
         · exact h1 v (by omega)
       · rcases h2 with h2 | ⟨h2,h3⟩
         · exact .inl h2
         · refine .inr ⟨fun hh=>?_,h3⟩
           by_cases hli : last=i+1
           · subst hli; omega
           · exact h2 (by omega)
def drawnI (b : Gs) (past : List UInt8) : Int:=if b.kind=3 then ((b.table.getD (past.length % b.table.length) 0).toNat : Int) else -1
theorem refB_first {b : Gs} {past : List UInt8} (hb : mayGs b) : refB (wtL b past) ((lastB past).toNat : Nat) (drawnI b past) 255=(firstB b past).toNat:=by
 have hlb:=u8_lt (lastB past)
 unfold drawnI firstB
 split
 · have:=u8_lt (b.table.getD (past.length % b.table.length) 0)
   exact refB_drawn (by omega)
 · rw [UInt8.toNat_ofNat']
   obtain ⟨h1,h2⟩:=refB_best (w:=wtL b past) (last:=(lastB past).toNat) 255
   have hle:=refB_le (wtL b past) ((lastB past).toNat : Nat) (-1) 255
   generalize refB (wtL b past) ((lastB past).toNat : Nat) (-1) 255=r at *
   rcases h2 with h2 | ⟨h2,h3⟩
   · rw [bestN_last fun v hv=>by rw [← h2]; exact h1 v (by omega),h2]
     omega
   · have h4:=(bestN_of (last:=(lastB past).toNat) (h2 (by omega)) h3 (i:=256) fun v hv=>h1 v (by omega)).2 (by omega)
     rw [h4]; omega
def tkC (t : Nat→Bool) : List Value:=fn 256 fun i=>.bool (t i)
theorem tkC_len (t : Nat→Bool) : (tkC t).length=256:=fn_len _ _
theorem tkC_get {t : Nat→Bool} {i : Nat} (h : i < 256) : (tkC t)[i]?=some (.bool (t i)):=fn_get _ h
theorem tkC_set {t : Nat→Bool} {i : Nat} : (tkC t).set i (.bool true)=tkC fun j=>if j=i then true else t j:=by
 rw [tkC,fn_set]; exact fn_congr fun j _=>by by_cases h : j=i <;> simp [h]
theorem rep_fn (m : Nat) (v : Value) : List.replicate m v=fn m fun _=>v:=by
 apply List.ext_getElem (by simp [fn])
 intro i h1 h2
 simp [fn]
theorem rep_tk : List.replicate 256 (Value.bool false)=tkC fun _=>false:=rep_fn 256 _
def cntT (t : Nat→Bool) : Nat→Nat
 | 0=>0
 | i+1=>cntT t i+if t i=true then 1 else 0
theorem cntT_all {t : Nat→Bool} : ∀ {i},(∀ v,v < i→t v=true)→cntT t i=i
 | 0,_=>rfl
 | i+1,h=>by rw [cntT,cntT_all (i:=i) fun v hv=>h v (by omega),if_pos (h i (by omega))]
theorem cntT_set {t : Nat→Bool} {u : Nat} (hu : t u=false) : ∀ {i},cntT (fun j=>if j=u then true else t j) i=cntT t i+if u < i then 1 else 0
 | 0=>by simp [cntT]
 | i+1=>by
   rw [cntT,cntT,cntT_set hu (i:=i)]
   by_cases h : i=u
   · subst h; simp [hu]
   · by_cases h2 : u < i
     · simp [h,h2,show u < i+1 from by omega]; omega
     · simp [h,h2,show ¬ u < i+1 from by omega]
def BestT (w : Nat→Int) (last drawn : Int) (t : Nat→Bool) (first : Bool) (i : Nat) (best : Int) : Prop :=
 (best = -1∧∀ v,v < i→t v=true)∨∃ u : Nat,best=(u : Int)∧u < i∧t u=false∧(first=true→u=refB w last drawn (i - 1))
section
variable {w : Nat→Int} {last drawn : Int} {t : Nat→Bool} {f : Bool} {i u : Nat} {best : Int}
theorem BestT.take (h : BestT w last drawn t f i best) (h0 : best < 0) (hi : t i=false) (hf : f=true→∀ v,t v=false) : BestT w last drawn t f (i+1) i:=by
 refine .inr ⟨i,rfl,by omega,hi,fun hft=>?_⟩
 rcases h with ⟨_,h⟩ | ⟨u,h,_⟩
 · have : i = 0 := by
     rcases Nat.eq_zero_or_pos i with h1 | h1
     · exact h1
     · have h2:=h 0 h1
       rw [hf hft 0] at h2; cases h2
   subst this; rfl
 · omega
theorem BestT.nat (h : BestT w last drawn t f i best) (h0 : 0≤best) : ∃ u : Nat,best=(u : Int)∧u < i∧t u=false∧(f=true→u=refB w last drawn (i - 1)):=by
 rcases h with ⟨h,_⟩ | h
 · omega
 · exact h
theorem BestT.up (hu : u < i∧t u=false∧(f=true→u=refB w last drawn (i - 1))) (ha : aheadB w last drawn i u=true) (hi : t i=false) : BestT w last drawn t f (i+1) i:=by
 refine .inr ⟨i,rfl,by omega,hi,fun hf=>?_⟩
 have h1:=hu.2.2 hf
 obtain ⟨j,rfl⟩ : ∃ j,i=j+1:=⟨i - 1,by omega⟩
 rw [Nat.add_sub_cancel] at h1 ⊢
 rw [refB,← h1,if_pos ha]
theorem BestT.keep (hu : u < i∧t u=false∧(f=true→u=refB w last drawn (i - 1))) (ha : aheadB w last drawn i u=false) : BestT w last drawn t f (i+1) u:=by
 refine .inr ⟨u,rfl,by omega,hu.2.1,fun hf=>?_⟩
 have h1:=hu.2.2 hf
 obtain ⟨j,rfl⟩ : ∃ j,i=j+1:=⟨i - 1,by omega⟩
 rw [Nat.add_sub_cancel] at h1 ⊢
 rw [refB,← h1,ha,if_neg (by decide)]
theorem BestT.skip (h : BestT w last drawn t f i best) (hi : t i=true) (hf : f=true→∀ v,t v=false) : BestT w last drawn t f (i+1) best:=by
 have hff : f=true→False:=fun h=>by rw [hf h i] at hi; cases hi
 rcases h with ⟨h1,h⟩ | ⟨u,h1,h2,h3,_⟩
 · refine .inl ⟨h1,fun v hv=>?_⟩
   by_cases hvi : v=i
   · subst hvi; exact hi
   · exact h v (by omega)
 · exact .inr ⟨u,h1,by omega,h3,fun h=>(hff h).elim⟩
theorem BestT.over (h : BestT w last drawn t f 256 best) (hc : cntT t 256 < 256) : ∃ u : Nat,best=(u : Int)∧u < 256∧t u=false∧(f=true→u=refB w last drawn 255):=by
 rcases h with ⟨_,h⟩ | h
 · rw [cntT_all h] at hc; omega
 · exact h
theorem BestT.start : BestT w last drawn t f 0 (-1):=.inl ⟨rfl,fun v hv=>by omega⟩
end
section
variable {W w : World} {L L' R : List SP} {n c m cT : Nat} {ad adT : Option Addr} {past : List UInt8} {b : Gs} {g : Nat→Int}
theorem ref_mayBy (hs : St W w L) : Calls Tryz.prog 54 #[.agg (gsC b adT cT).toArray] w fun e w'=>∃ r : Bool,e=.returned (.bool r)∧(r=true ↔ mayGs b)∧St W w' L:=by
 refine calls_enter Tryz.func54 rfl Tryz.ntmps54 (Nat.le_of_ble_eq_true rfl) ?_
 intro a ha
 replace ha : Fr a 48 [(0,_)]:=ha
 refine WS<|WR ?_
 refine SK (st_box ha rfl hs rfl ?_); clear ha hs a; (try clear w); intro b1 a w ha hs ho
 clear ho
 change St W w (blk b1 50 (gsC b adT cT)::_) at hs
 refine S1 ha ?_; clear ha a; intro a ha
 refine LN<|TN<|WS<|WS<|WR ?_
 refine S1 ha ?_; clear ha a; intro a ha
 refine SL ha (hs.rd1 rfl) ?_; clear ha a; intro a ha
 iterate 2 (refine S1 ha ?_; clear ha a; intro a ha)
 refine ha.by (s:=6) (fun hg3 ha=>?_) (fun hg3 ha=>?_)
 ·
  refine SO (s:=6) ha ?_; clear ha; (try clear a); intro a ha
  iterate 2 (refine SO (s:=6) ha ?_; clear ha a; intro a ha)
  refine PT ha ?_; clear ha a; intro a ha
  refine S1 ha ?_; clear ha a; intro a ha
  iterate 3 (refine SO (s:=11) ha ?_; clear ha a; intro a ha)
  refine PT ha ?_; clear ha a; intro a ha
  refine S1 ha ?_; clear ha a; intro a ha
  iterate 3 (refine SO (s:=16) ha ?_; clear ha a; intro a ha)
  refine PT ha ?_; clear ha a; intro a ha
  refine S1 ha ?_; clear ha a; intro a ha
  iterate 3 (refine SO (s:=21) ha ?_; clear ha a; intro a ha)
  refine SK (st_offU ha (wgF ha rfl (s:=21) rfl) rfl ?_); clear ha a; intro a ha
  iterate 3 (refine SK (st_off ha (wgU ha rfl (s:=25)) rfl ?_); clear ha a; intro a ha)
  refine SO (s:=21) ha ?_; clear ha a; intro a ha
  refine PT ha ?_; clear ha a; intro a ha
  refine LN<|TN<|WTr ha<|WS<|WR ?_
  refine S1d ha ?_; clear ha a; intro a ha
  refine LN<|TN<|wp_ret<|TR ?_
  refine ret1 ha rfl ?_
  exact ⟨_,rfl,⟨fun h=>(by cases h),fun h=>by rw [mayGs] at h; exfalso; omega⟩,hs.sub⟩
 ·
  refine S1g (s:=6) ha ?_; clear ha; (try clear a); intro a ha
  refine SLg (s:=6) ha (hs.rd1 rfl) ?_; clear ha a; intro a ha
  refine S1g (s:=6) ha ?_; clear ha a; intro a ha
  refine PF ha ?_; clear ha a; intro a ha
  refine S1 ha ?_; clear ha a; intro a ha
  refine ha.by (s:=11) (fun hg8 ha=>?_) (fun hg8 ha=>?_)
  ·
   refine SO (s:=11) ha ?_; clear ha; (try clear a); intro a ha
   iterate 2 (refine SO (s:=11) ha ?_; clear ha a; intro a ha)
   refine PT ha ?_; clear ha a; intro a ha
   refine S1 ha ?_; clear ha a; intro a ha
   iterate 3 (refine SO (s:=16) ha ?_; clear ha a; intro a ha)
   refine PT ha ?_; clear ha a; intro a ha
   refine S1 ha ?_; clear ha a; intro a ha
   iterate 3 (refine SO (s:=21) ha ?_; clear ha a; intro a ha)
   refine SK (st_offU ha (wgF ha rfl (s:=21) rfl) rfl ?_); clear ha a; intro a ha
   iterate 3 (refine SK (st_off ha (wgU ha rfl (s:=25)) rfl ?_); clear ha a; intro a ha)
   refine SO (s:=21) ha ?_; clear ha a; intro a ha
   refine PT ha ?_; clear ha a; intro a ha
   refine LN<|TN<|WTr ha<|WS<|WR ?_
   refine S1d ha ?_; clear ha a; intro a ha
   refine LN<|TN<|wp_ret<|TR ?_
   refine ret1 ha rfl ?_
   exact ⟨_,rfl,⟨fun h=>(by cases h),fun h=>by rw [mayGs] at h; exfalso; omega⟩,hs.sub⟩
  ·
   refine S1g (s:=11) ha ?_; clear ha; (try clear a); intro a ha
   refine SLg (s:=11) ha (hs.rd1 rfl) ?_; clear ha a; intro a ha
   refine S1g (s:=11) ha ?_; clear ha a; intro a ha
   refine PF ha ?_; clear ha a; intro a ha
   refine S1 ha ?_; clear ha a; intro a ha
   refine ha.by (s:=16) (fun hg13 ha=>?_) (fun hg13 ha=>?_)
   ·
    refine SO (s:=16) ha ?_; clear ha; (try clear a); intro a ha
    iterate 2 (refine SO (s:=16) ha ?_; clear ha a; intro a ha)
    refine PT ha ?_; clear ha a; intro a ha
    refine S1 ha ?_; clear ha a; intro a ha
    iterate 3 (refine SO (s:=21) ha ?_; clear ha a; intro a ha)
    refine SK (st_offU ha (wgF ha rfl (s:=21) rfl) rfl ?_); clear ha a; intro a ha
    iterate 3 (refine SK (st_off ha (wgU ha rfl (s:=25)) rfl ?_); clear ha a; intro a ha)
    refine SO (s:=21) ha ?_; clear ha a; intro a ha
    refine PT ha ?_; clear ha a; intro a ha
    refine LN<|TN<|WTr ha<|WS<|WR ?_
    refine S1d ha ?_; clear ha a; intro a ha
    refine LN<|TN<|wp_ret<|TR ?_
    refine ret1 ha rfl ?_
    exact ⟨_,rfl,⟨fun h=>(by cases h),fun h=>by rw [mayGs] at h; exfalso; omega⟩,hs.sub⟩
   ·
    refine S1g (s:=16) ha ?_; clear ha; (try clear a); intro a ha
    refine SLg (s:=16) ha (hs.rd1 rfl) ?_; clear ha a; intro a ha
    refine S1g (s:=16) ha ?_; clear ha a; intro a ha
    refine PF ha ?_; clear ha a; intro a ha
    refine S1 ha ?_; clear ha a; intro a ha
    refine ha.by (s:=21) (fun hg18 ha=>?_) (fun hg18 ha=>?_)
    ·
     refine SO (s:=21) ha ?_; clear ha; (try clear a); intro a ha
     iterate 2 (refine SO (s:=21) ha ?_; clear ha a; intro a ha)
     refine SK (st_offU ha (wgF ha rfl (s:=21) rfl) rfl ?_); clear ha a; intro a ha
     iterate 3 (refine SK (st_off ha (wgU ha rfl (s:=25)) rfl ?_); clear ha a; intro a ha)
     refine SO (s:=21) ha ?_; clear ha a; intro a ha
     refine PT ha ?_; clear ha a; intro a ha
     refine LN<|TN<|WTr ha<|WS<|WR ?_
     refine S1d ha ?_; clear ha a; intro a ha
     refine LN<|TN<|wp_ret<|TR ?_
     refine ret1 ha rfl ?_
     exact ⟨_,rfl,⟨fun h=>(by cases h),fun h=>by rw [mayGs] at h; exfalso; omega⟩,hs.sub⟩
    ·
     refine S1g (s:=21) ha ?_; clear ha; (try clear a); intro a ha
     refine SLg (s:=21) ha (hs.rd1 rfl) ?_; clear ha a; intro a ha
     iterate 2 (refine S1g (s:=21) ha ?_; clear ha a; intro a ha)
     refine ha.by (s:=25) (fun hg22 ha=>?_) (fun hg22 ha=>?_)
     ·
      refine S1g (s:=25) ha ?_; clear ha; (try clear a); intro a ha
      refine SLg (s:=25) ha (hs.rd1 rfl) ?_; clear ha a; intro a ha
      refine S1g (s:=25) ha ?_; clear ha a; intro a ha
      refine PTg (s:=21) ha ?_; clear ha a; intro a ha
      refine PF ha ?_; clear ha a; intro a ha
      refine LN<|TN ?_
      refine WI ha (fun hc0=>?_) (fun hc0=>?_)
      ·
       refine WS<|WR ?_
       refine S1d ha ?_; clear ha; (try clear a); intro a ha
       refine LN<|TN<|wp_ret<|TR ?_
       refine ret1 ha rfl ?_
       exact ⟨_,rfl,⟨fun h=>(by cases h),fun h=>by rw [mayGs] at h; exfalso; omega⟩,hs.sub⟩
      ·
       refine WK<|TN<|WS<|WS<|WR ?_
       refine S1 ha ?_; clear ha; (try clear a); intro a ha
       refine SL ha (hs.rd1 rfl) ?_; clear ha a; intro a ha
       refine S1 ha ?_; clear ha a; intro a ha
       refine LN<|TN ?_
       refine WI ha (fun hc1=>?_) (fun hc1=>?_)
       ·
        refine WS<|WR ?_
        refine S1 ha ?_; clear ha; (try clear a); intro a ha
        refine SL ha (hs.rd1 rfl) ?_; clear ha a; intro a ha
        iterate 3 (refine S1 ha ?_; clear ha a; intro a ha)
        refine ha.by (s:=38) (fun hg4 ha=>?_) (fun hg4 ha=>?_)
        ·
         refine S1g (s:=38) ha ?_; clear ha; (try clear a); intro a ha
         refine SLg (s:=38) ha (hs.rd1 rfl) ?_; clear ha a; intro a ha
         iterate 2 (refine S1g (s:=38) ha ?_; clear ha a; intro a ha)
         refine PT ha ?_; clear ha a; intro a ha
         refine S1d ha ?_; clear ha a; intro a ha
         refine LN<|TN<|wp_ret<|TR ?_
         refine ret1 ha rfl ?_
         exact ⟨_,rfl,(by rw [decide_eq_true_iff,mayGs]; omega),hs.sub⟩
        ·
         refine SO (s:=38) ha ?_; clear ha; (try clear a); intro a ha
         iterate 3 (refine SO (s:=38) ha ?_; clear ha a; intro a ha)
         refine PF ha ?_; clear ha a; intro a ha
         refine S1d ha ?_; clear ha a; intro a ha
         refine LN<|TN<|wp_ret<|TR ?_
         refine ret1 ha rfl ?_
         exact ⟨_,rfl,⟨fun h=>(by cases h),fun h=>by rw [mayGs] at h; exfalso; omega⟩,hs.sub⟩
       ·
        refine WK<|TN<|WS<|WR ?_
        refine S1 ha ?_; clear ha; (try clear a); intro a ha
        refine SL ha (hs.rd1 rfl) ?_; clear ha a; intro a ha
        iterate 2 (refine S1 ha ?_; clear ha a; intro a ha)
        refine S1d ha ?_; clear ha a; intro a ha
        refine LN<|TN<|wp_ret ?_
        refine ret1 ha rfl ?_
        exact ⟨_,rfl,(by rw [decide_eq_true_iff,mayGs]; omega),hs.sub⟩
     ·
      refine SO (s:=25) ha ?_; clear ha; (try clear a); intro a ha
      iterate 2 (refine SO (s:=25) ha ?_; clear ha a; intro a ha)
      refine PFg (s:=21) ha ?_; clear ha a; intro a ha
      refine PF ha ?_; clear ha a; intro a ha
      refine LN<|TN<|WFa ha<|WK<|TN<|WS<|WS<|WR ?_
      refine S1 ha ?_; clear ha a; intro a ha
      refine SL ha (hs.rd1 rfl) ?_; clear ha a; intro a ha
      refine S1 ha ?_; clear ha a; intro a ha
      refine LN<|TN ?_
      refine WI ha (fun hc1=>?_) (fun hc1=>?_)
      ·
       refine WS<|WR ?_
       refine S1 ha ?_; clear ha; (try clear a); intro a ha
       refine SL ha (hs.rd1 rfl) ?_; clear ha a; intro a ha
       iterate 3 (refine S1 ha ?_; clear ha a; intro a ha)
       refine ha.by (s:=38) (fun hg4 ha=>?_) (fun hg4 ha=>?_)
       ·
        refine S1g (s:=38) ha ?_; clear ha; (try clear a); intro a ha
        refine SLg (s:=38) ha (hs.rd1 rfl) ?_; clear ha a; intro a ha
        iterate 2 (refine S1g (s:=38) ha ?_; clear ha a; intro a ha)
        refine PT ha ?_; clear ha a; intro a ha
        refine S1d ha ?_; clear ha a; intro a ha
        refine LN<|TN<|wp_ret<|TR ?_
        refine ret1 ha rfl ?_
        exact ⟨_,rfl,(by rw [decide_eq_true_iff,mayGs]; omega),hs.sub⟩
       ·
        refine SO (s:=38) ha ?_; clear ha; (try clear a); intro a ha
        iterate 3 (refine SO (s:=38) ha ?_; clear ha a; intro a ha)
        refine PF ha ?_; clear ha a; intro a ha
        refine S1d ha ?_; clear ha a; intro a ha
        refine LN<|TN<|wp_ret<|TR ?_
        refine ret1 ha rfl ?_
        exact ⟨_,rfl,⟨fun h=>(by cases h),fun h=>by rw [mayGs] at h; exfalso; omega⟩,hs.sub⟩
      ·
       refine WK<|TN<|WS<|WR ?_
       refine S1 ha ?_; clear ha; (try clear a); intro a ha
       refine SL ha (hs.rd1 rfl) ?_; clear ha a; intro a ha
       iterate 2 (refine S1 ha ?_; clear ha a; intro a ha)
       refine S1d ha ?_; clear ha a; intro a ha
       refine LN<|TN<|wp_ret ?_
       refine ret1 ha rfl ?_
       exact ⟨_,rfl,(by rw [decide_eq_true_iff,mayGs]; omega),hs.sub⟩
theorem ref_weights (hs : St W w L) (hb : mayGs b) (hpl : past.length≤4000) (hpc : past.length≤c) (hp : ∀ w',St W w' L→RdB w' ad past.length past) :
   Calls Tryz.prog 106 #[.agg (gsC b adT cT).toArray,.slice ad past.length c] w fun e w'=>e=.returned (.agg (ints .i64 256 (wtL b past)).toArray)∧St W w' L:=by
 simp only [mayGs] at hb
 refine calls_enter Tryz.func106 rfl Tryz.ntmps106 (Nat.le_of_ble_eq_true rfl) ?_
 intro a ha
 replace ha : Fr a 54 [(0,_),(1,_)]:=ha
 refine WS<|WR ?_
 refine SK (st_box ha rfl hs rfl ?_); clear ha hs a; (try clear w); intro b2 a w ha hs ho
 clear ho
 change St W w (blk b2 50 (gsC b adT cT)::_) at hs
 refine SK (st_alloc ha rfl hs Ty.t164 rfl ?_); clear ha hs a; (try clear w); intro b4 a w ha hs ho
 clear ho
 rw [rep_ints] at hs
 refine LN<|TN<|WS<|WR ?_
 refine SK (st_alloc ha rfl hs Ty.t164 rfl ?_); clear ha hs a; (try clear w); intro b5 a w ha hs ho
 clear ho
 rw [rep_ints] at hs
 refine LN<|TN<|WS<|WS<|WR ?_
 refine S1 ha ?_; clear ha a; intro a ha
 refine SL ha (hs.rd1 rfl) ?_; clear ha a; intro a ha
 iterate 2 (refine S1 ha ?_; clear ha a; intro a ha)
 refine ha.by (s:=11) (fun hg3 ha=>?_) (fun hg3 ha=>?_)
 ·
  refine SO (s:=11) ha ?_; clear ha; (try clear a); intro a ha
  iterate 4 (refine SO (s:=11) ha ?_; clear ha a; intro a ha)
  refine PT ha ?_; clear ha a; intro a ha
  refine LN<|TN<|WTr ha<|WS<|WR ?_
  refine SK (st_set ha rfl (ex_loadN ha Tryz.underlying164 rfl Ty.t164 (hs.rdAll (b:=b5))) rfl ?_); clear ha a; intro a ha
  refine SK (st_storeAll ha rfl hs Ty.t164 ints_one (by simp only [ints_len]) ?_); clear ha hs a; (try clear w); intro a w ha hs
  refine LN<|TN<|wp_ret<|TR ?_
  refine retC1 ha rfl (run_loadN Tryz.underlying164 rfl Ty.t164 (hs.rdAll (b:=b4))) ?_
  exact ⟨by rw [wtL,if_neg (by omega)],hs.sub⟩
 ·
  refine S1g (s:=11) ha ?_; clear ha; (try clear a); intro a ha
  iterate 2 (refine S1g (s:=11) ha ?_; clear ha a; intro a ha)
  refine SLg (s:=11) ha (hs.rd1 rfl) ?_; clear ha a; intro a ha
  refine S1g (s:=11) ha ?_; clear ha a; intro a ha
  refine PF ha ?_; clear ha a; intro a ha
  refine LN<|TN ?_
  refine WI ha (fun hc0=>?_) (fun hc0=>?_)
  ·
   refine WS<|WR ?_
   refine SK (st_set ha rfl (ex_loadN ha Tryz.underlying164 rfl Ty.t164 (hs.rdAll (b:=b5))) rfl ?_); clear ha; (try clear a); intro a ha
   refine SK (st_storeAll ha rfl hs Ty.t164 ints_one (by simp only [ints_len]) ?_); clear ha hs a; (try clear w); intro a w ha hs
   refine LN<|TN<|wp_ret<|TR ?_
   refine retC1 ha rfl (run_loadN Tryz.underlying164 rfl Ty.t164 (hs.rdAll (b:=b4))) ?_
   exact ⟨by rw [wtL,if_pos (by omega),wtN_low (by omega)],hs.sub⟩
  ·
   refine WK<|TN<|WS ?_
   have hk2 : b.kind=2:=by omega
   obtain ⟨o,ho⟩ : ∃ o : Nat,b.order=(o : Int):=⟨b.order.toNat,by omega⟩
   rw [gsC,ho] at hs
   have hol : o≤past.length:=by omega
   have hwt : wtL b past=wtN o past past.length:=by rw [wtL,if_pos hk2,ho,Int.toNat_natCast]
   refine WR ?_
   refine S1 ha ?_; clear ha; (try clear a); intro a ha
   iterate 3 (refine S1 ha ?_; clear ha a; intro a ha)
   refine SL ha (hs.rd1 rfl) ?_; clear ha a; intro a ha
   refine SK (st_set ha rfl (ex_subI ha (by omega) (by omega)) rfl ?_); clear ha a; intro a ha
   rw [show ((past.length : Nat) : Int) - (o : Int)=((past.length - o : Nat) : Int) from by omega] at ha
   refine SK (st_set ha rfl (ex_sliceL ha Tryz.underlying22 Ty.t5 (by omega)) rfl ?_); clear ha a; intro a ha
   refine SK (st_set ha rfl (ex_toString ha Tryz.underlying22 Tryz.underlying5 Tryz.underlying9 ((show RdB w (cutAd ad (past.length - o) c 1) (past.length - (past.length - o)) (past.drop (past.length - o)) from by have h1:=(hp _ hs.tail.tail.tail).cutL (lo:=past.length - o) (by omega) hpc; rw [List.length_drop] at h1; exact h1))) rfl ?_); clear ha a; intro a ha
   refine S1 ha ?_; clear ha a; intro a ha
   refine LN<|TN<|WS<|WS<|WR ?_
   refine S1 ha ?_; clear ha a; intro a ha
   refine SL ha (hs.rd1 rfl) ?_; clear ha a; intro a ha
   refine S1 ha ?_; clear ha a; intro a ha
   refine LN ?_
   have ho3 : o≤3:=by omega
   refine TN<|wp_block ?_
   refine wp_loop_ghost (fun μ a w=>∃ (i : Nat),(μ=past.length - i∧o≤i∧i≤past.length)∧Fr a 54 [(1,.slice ad past.length c),(2,.pointer (some ⟨b2,0,none⟩)),(4,.pointer (some ⟨b4,0,none⟩)),(5,.pointer (some ⟨b5,0,none⟩)),(6,.string ⟨(past.drop (past.length - o)).toArray⟩),(7,.int .i64 i)]∧St W w (blk b5 164 (ints .i64 256 (wtN o past i))::blk b4 164 (ints .i64 256 (fun _=>0))::blk b2 50 [.int .i64 b.kind,.int .i64 o,.slice adT b.table.length cT]::L)) (past.length - o) ?_ ?_
   · exact ⟨o,⟨rfl,Nat.le_refl _,hol⟩,ha.keep [1,2,4,5,6,7],by rw [wtN_low (Nat.le_refl _)]; exact hs.sub⟩
   ·
    clear ha hs
    rintro μ a w ⟨i,⟨rfl,hio,hi⟩,ha,hs⟩
    refine WS<|WS<|WR ?_
    refine S1 ha ?_; clear ha; (try clear a); intro a ha
    iterate 3 (refine S1 ha ?_; clear ha a; intro a ha)
    refine LN<|TN ?_
    refine WI ha (fun hc1=>?_) (fun hc1=>?_)
    ·
     have hil : i < past.length:=by omega
     have hbd:=wtN_bd o past i past[i].toNat
     have hb8:=u8_lt past[i]
     refine WK<|TN<|WS<|wp_block<|WS<|WR ?_
     refine S1 ha ?_; clear ha; (try clear a); intro a ha
     iterate 2 (refine S1 ha ?_; clear ha a; intro a ha)
     refine SL ha (hs.rd1 rfl) ?_; clear ha a; intro a ha
     refine SK (st_set ha rfl (ex_subI ha (by omega) (by omega)) rfl ?_); clear ha a; intro a ha
     rw [show ((i : Nat) : Int) - (o : Int)=((i - o : Nat) : Int) from by omega] at ha
     refine S1 ha ?_; clear ha a; intro a ha
     refine SK (st_set ha rfl (ex_sliceLH ha Tryz.underlying22 Ty.t5 (by omega) (by omega)) rfl ?_); clear ha a; intro a ha
     rw [show i - (i - o)=o from by omega] at ha
     refine SK (st_set ha rfl (ex_toString ha Tryz.underlying22 Tryz.underlying5 Tryz.underlying9 ((hp _ hs.tail.tail.tail).cutLH (lo:=i - o) (n:=o) (by omega) hpc)) rfl ?_); clear ha a; intro a ha
     refine S1 ha ?_; clear ha a; intro a ha
     refine SK (st_set ha rfl (ex_eqlS ha) rfl ?_); clear ha a; intro a ha
     rw [str_beq] at ha
     refine LN<|TN ?_
     refine WI ha (fun hc2=>?_) (fun hc2=>?_)
     ·
      obtain ⟨bb,oo,rfl,hr⟩:=(hp _ hs.tail.tail.tail).get (by omega)
      refine WR ?_
      refine S1 ha ?_; clear ha; (try clear a); intro a ha
      refine S1 ha ?_; clear ha a; intro a ha
      refine SK (st_set ha rfl (ex_indexAddr ha Tryz.underlying22 Ty.t5 (by omega)) rfl ?_); clear ha a; intro a ha
      rw [Nat.mul_one] at ha
      refine SL ha (hr i _ (bc_at hil)) ?_; clear ha a; intro a ha
      refine SK (st_set ha rfl (ex_indexAddrA ha Tryz.underlying164 Ty.t3 (by omega)) rfl ?_); clear ha a; intro a ha
      rw [Nat.zero_add,Nat.mul_one] at ha
      refine SL ha (hs.rd1 (ints_get _ hb8)) ?_; clear ha a; intro a ha
      refine SK (st_set ha rfl (ex_addI ha (by omega) (by omega)) rfl ?_); clear ha a; intro a ha
      refine SK (st_set ha rfl (ex_indexAddrA ha Tryz.underlying164 Ty.t3 (by omega)) rfl ?_); clear ha a; intro a ha
      rw [Nat.zero_add,Nat.mul_one] at ha
      refine SK (st_store ha rfl hs Ty.t3 rfl (by rw [ints_len]; omega) ?_); clear ha hs a; (try clear w); intro a w ha hs
      rw [ints_set] at hs
      refine LN<|BN<|TN<|WR ?_
      refine S1 ha ?_; clear ha a; intro a ha
      refine SK (st_set ha rfl (ex_addI ha (by omega) (by omega)) rfl ?_); clear ha a; intro a ha
      refine S1d ha ?_; clear ha a; intro a ha
      refine LN<|TN ?_
      exact ⟨past.length - (i+1),by omega,i+1,⟨rfl,by omega,by omega⟩,ha.keep [1,2,4,5,6,7],by
        rw [show wtN o past (i+1)=fun j=>if j=past[i].toNat then wtN o past i past[i].toNat+1 else wtN o past i j from by
          rw [wtN,if_pos ⟨hio,by rw [endsB,← hc2]⟩,List.getD_eq_getElem?_getD,List.getElem?_eq_getElem hil]; rfl]
        exact hs.sub⟩
     ·
      refine WK<|BN<|TN<|WR ?_
      refine S1 ha ?_; clear ha; (try clear a); intro a ha
      refine SK (st_set ha rfl (ex_addI ha (by omega) (by omega)) rfl ?_); clear ha a; intro a ha
      refine S1d ha ?_; clear ha a; intro a ha
      refine LN<|TN ?_
      exact ⟨past.length - (i+1),by omega,i+1,⟨rfl,by omega,by omega⟩,ha.keep [1,2,4,5,6,7],by
        rw [show wtN o past (i+1)=wtN o past i from by
          rw [wtN,if_neg (fun h=>by
            have h2:=h.2
            rw [endsB] at h2
            rw [h2] at hc2; cases hc2)]]
        exact hs.sub⟩
    ·
     obtain rfl : i=past.length:=by omega
     refine wp_exit<|TE<|TE<|blk_e<|TN<|WS<|WR ?_
     refine SK (st_set ha rfl (ex_loadN ha Tryz.underlying164 rfl Ty.t164 (hs.rdAll (b:=b5))) rfl ?_); clear ha; (try clear a); intro a ha
     refine SK (st_storeAll ha rfl hs Ty.t164 ints_one (by simp only [ints_len]) ?_); clear ha hs a; (try clear w); intro a w ha hs
     refine LN<|TN<|wp_ret ?_
     refine retC1 ha rfl (run_loadN Tryz.underlying164 rfl Ty.t164 (hs.rdAll (b:=b4))) ?_
     exact ⟨by rw [hwt],hs.sub⟩
theorem ref_ahead {v u : Nat} {last drawn : Int} (hs : St W w L) (hv : v < 256) (hu : u < 256) : Calls Tryz.prog 107 #[.int .i64 v,.int .i64 u,.agg (ints .i64 256 g).toArray,.int .i64 last,.int .i64 drawn] w fun e w'=>e=.returned (.bool (aheadB g last drawn v u))∧St W w' L:=by
 refine calls_enter Tryz.func107 rfl Tryz.ntmps107 (Nat.le_of_ble_eq_true rfl) ?_
 intro a ha
 replace ha : Fr a 39 [(0,_),(1,_),(2,_),(3,_),(4,_)]:=ha
 refine WS<|WR ?_
 refine SK (st_box ha rfl hs rfl ?_); clear ha hs a; (try clear w); intro b7 a w ha hs ho
 clear ho
 refine S1 ha ?_; clear ha a; intro a ha
 refine LN<|TN<|WS<|WS<|WR ?_
 iterate 4 (refine S1 ha ?_; clear ha a; intro a ha)
 refine ha.by (s:=14) (fun hg3 ha=>?_) (fun hg3 ha=>?_)
 ·
  refine SO (s:=14) ha ?_; clear ha; (try clear a); intro a ha
  iterate 2 (refine SO (s:=14) ha ?_; clear ha a; intro a ha)
  refine PT ha ?_; clear ha a; intro a ha
  refine LN<|TN<|WTr ha<|WS<|WR ?_
  iterate 3 (refine S1 ha ?_; clear ha a; intro a ha)
  refine S1d ha ?_; clear ha a; intro a ha
  refine LN<|TN<|wp_ret<|TR ?_
  refine ret1 ha rfl ?_
  exact ⟨by rw [aheadB,if_pos (.inl hg3)],hs.sub⟩
 ·
  refine S1g (s:=14) ha ?_; clear ha; (try clear a); intro a ha
  iterate 2 (refine S1g (s:=14) ha ?_; clear ha a; intro a ha)
  refine PF ha ?_; clear ha a; intro a ha
  refine LN<|TN ?_
  refine WI ha (fun hc0=>?_) (fun hc0=>?_)
  ·
   refine WS<|WR ?_
   refine S1 ha ?_; clear ha; (try clear a); intro a ha
   iterate 2 (refine S1 ha ?_; clear ha a; intro a ha)
   refine S1d ha ?_; clear ha a; intro a ha
   refine LN<|TN<|wp_ret<|TR ?_
   refine ret1 ha rfl ?_
   exact ⟨by rw [aheadB,if_pos (.inr hc0)],hs.sub⟩
  ·
   refine WK<|TN<|WS<|WS ?_
   have h0 : ¬ ((v : Int)=drawn∨(u : Int)=drawn):=by omega
   refine DW (m:=7) (Old w.drew) [5] [0,1,3,4,2,5,6] Ty.mixed (pk_then (pk_then pk_body)) (fun hpk=>?_)
   replace hs:=hs.drew
   have hC:=Old.refl w.drew
   generalize w.drew=w at hs hC hpk ⊢
   refine DP hpk ha rfl ?_; clear ha; (try clear a); intro a ha
   refine DQ hpk ha rfl rfl (fun w=>ex_indexAddrA ha Tryz.underlying164 Ty.t3 (by omega)) ?_; clear ha a; intro a ha
   rw [Nat.zero_add,Nat.mul_one] at ha
   refine DP hpk ha rfl ?_; clear ha a; intro a ha
   refine DQ hpk ha rfl rfl (fun w=>ex_indexAddrA ha Tryz.underlying164 Ty.t3 (by omega)) ?_; clear ha a; intro a ha
   rw [Nat.zero_add,Nat.mul_one] at ha
   refine DL hpk ha rfl (fun w hc=>hc.cell (hs.rd1 (ints_get _ hv))) hC ?_; clear ha a; intro a ha
   refine D1 rfl (st_set ha rfl (ex_load1 ha Tryz.underlying3 rfl (hs.rd1 (ints_get _ hu))) rfl ?_); clear ha a; intro a ha
   refine ⟨fun _=>hC,?_⟩
   refine DP hpk ha rfl ?_; clear ha a; intro a ha
   refine DD<|TN ?_
   refine WI ha (fun hc1=>?_) (fun hc1=>?_)
   ·
    refine WS ?_
    refine DW (m:=8) (Old w.drew) [5] [0,1,3,4,2,5,6,7] Ty.mixed (pk_then (pk_then pk_body)) (fun hpk=>?_)
    replace hs:=hs.drew
    have hC:=Old.refl w.drew
    generalize w.drew=w at hs hC hpk ⊢
    refine DP hpk ha rfl ?_; clear ha; (try clear a); intro a ha
    refine DQ hpk ha rfl rfl (fun w=>ex_indexAddrA ha Tryz.underlying164 Ty.t3 (by omega)) ?_; clear ha a; intro a ha
    rw [Nat.zero_add,Nat.mul_one] at ha
    refine DP hpk ha rfl ?_; clear ha a; intro a ha
    refine DQ hpk ha rfl rfl (fun w=>ex_indexAddrA ha Tryz.underlying164 Ty.t3 (by omega)) ?_; clear ha a; intro a ha
    rw [Nat.zero_add,Nat.mul_one] at ha
    refine DL hpk ha rfl (fun w hc=>hc.cell (hs.rd1 (ints_get _ hv))) hC ?_; clear ha a; intro a ha
    refine D1 rfl (st_set ha rfl (ex_load1 ha Tryz.underlying3 rfl (hs.rd1 (ints_get _ hu))) rfl ?_); clear ha a; intro a ha
    refine ⟨fun _=>hC,?_⟩
    refine DP hpk ha rfl ?_; clear ha a; intro a ha
    replace ha:=ha.del 10
    refine DP hpk ha rfl ?_; clear ha a; intro a ha
    refine DD<|TN<|wp_ret<|TR ?_
    refine ret1 ha rfl ?_
    exact ⟨by rw [aheadB,if_neg h0,if_pos hc1],hs.sub⟩
   ·
    refine WK<|TN<|WS<|WR ?_
    refine S1 ha ?_; clear ha; (try clear a); intro a ha
    iterate 2 (refine S1 ha ?_; clear ha a; intro a ha)
    refine S1d ha ?_; clear ha a; intro a ha
    refine LN<|TN<|wp_ret ?_
    refine ret1 ha rfl ?_
    exact ⟨by rw [aheadB,if_neg h0,if_neg (fun h=>h hc1)],hs.sub⟩
set_option maxHeartbeats 1000000 in
theorem ref_rank {k : Nat} (hs : St W w L) (hb : mayGs b) (hk : 1≤k∧k≤100000) (hpl : past.length≤4000) (hpc : past.length≤c) (hp : ∀ w',St W w' L→RdB w' ad past.length past) (ht : ∀ w',St W w' L→RdB w' adT b.table.length b.table) :
   Calls Tryz.prog 58 #[.agg (gsC b adT cT).toArray,.slice ad past.length c,.int .i64 k] w fun e w'=>∃ (ad' : Option Addr) (c' : Nat) (out : List UInt8),e=.returned (.slice ad' out.length c')∧(out.length=min k 256∧out[0]?=some (firstB b past))∧St W w' (Sl 5 1 ad' out.length c' (bc out)::L):=by
 have hb':=hb
 simp only [mayGs] at hb'
 refine calls_enter Tryz.func58 rfl Tryz.ntmps58 (Nat.le_of_ble_eq_true rfl) ?_
 intro a ha
 replace ha : Fr a 86 [(0,_),(1,_),(2,_)]:=ha
 refine WS<|WR ?_
 refine SK (st_box ha rfl hs rfl ?_); clear ha hs a; (try clear w); intro b3 a w ha hs ho
 clear ho
 change St W w (blk b3 50 (gsC b adT cT)::_) at hs
 refine S1 ha ?_; clear ha a; intro a ha
 refine LN<|TN<|WS<|WS<|WR ?_
 refine SK (st_set ha rfl (ex_loadN ha Tryz.underlying50 rfl Ty.t50 (hs.rdAll)) rfl ?_); clear ha a; intro a ha
 refine SK (st_call ha rfl Ty.c54 rfl (ref_mayBy hs) ?_); clear ha hs
 rintro e w ⟨r,rfl,hr,hs⟩
 refine ⟨_,rfl,?_⟩
 intro a ha
 rw [hr.2 hb] at ha
 iterate 2 (refine S1 ha ?_; clear ha a; intro a ha)
 iterate 2 (refine S1g (s:=17) ha ?_; clear ha a; intro a ha)
 refine PF ha ?_; clear ha a; intro a ha
 refine LN<|TN ?_
 rw [decide_eq_false (by omega)] at ha
 refine WFa ha<|WK<|TN<|WS<|WR ?_
 refine SK (st_set ha rfl (ex_loadN ha Tryz.underlying50 rfl Ty.t50 (hs.rdAll)) rfl ?_); clear ha a; intro a ha
 refine S1 ha ?_; clear ha a; intro a ha
 refine SK (st_call ha rfl Ty.c106 rfl (ref_weights hs hb hpl hpc (fun w' hw=>hp w' hw.tail)) ?_); clear ha hs
 rintro e w ⟨rfl,hs⟩
 refine ⟨_,rfl,?_⟩
 intro a ha
 refine SK (st_alloc ha rfl hs Ty.t164 rfl ?_); clear ha hs a; (try clear w); intro b7 a w ha hs ho
 clear ho
 rw [rep_ints] at hs
 refine SK (st_storeAll ha rfl hs Ty.t164 ints_one (by simp only [ints_len]) ?_); clear ha hs a; (try clear w); intro a w ha hs
 refine LN<|TN<|WS<|WR ?_
 iterate 2 (refine S1 ha ?_; clear ha a; intro a ha)
 refine LN ?_
 have hlast : (if 0 < past.length then ((past.getD (past.length - 1) 0).toNat : Int) else 0)=((lastB past).toNat : Nat):=by
   split
   · rw [lastB,List.getLastD_eq_getLast?,List.getLast?_eq_getElem?,List.getD_eq_getElem?_getD]
   · rw [lastB,List.eq_nil_of_length_eq_zero (l:=past) (by omega)]; rfl
 refine TN ?_
 refine wp_seq_cut (M:=fun a w=>Fr a 86 [(1,.slice ad past.length c),(2,.int .i64 k),(3,.pointer (some ⟨b3,0,none⟩)),(7,.pointer (some ⟨b7,0,none⟩)),(8,.int .i64 ((lastB past).toNat : Nat)),(9,.int .i64 (-1))]∧St W w (blk b7 164 (ints .i64 256 (wtL b past))::blk b3 50 (gsC b adT cT)::L)) ?_ ?_
 ·
  refine WS<|WR ?_
  refine S1 ha ?_; clear ha; (try clear a); intro a ha
  iterate 2 (refine S1 ha ?_; clear ha a; intro a ha)
  refine LN<|TN ?_
  refine WI ha (fun hc1=>?_) (fun hc1=>?_)
  ·
   obtain ⟨bb,oo,rfl,hr2⟩:=(hp _ hs.tail.tail).get (by omega)
   rw [if_pos (by omega)] at hlast
   refine WR ?_
   refine S1 ha ?_; clear ha; (try clear a); intro a ha
   iterate 2 (refine S1 ha ?_; clear ha a; intro a ha)
   refine SK (st_set ha rfl (ex_subI ha (by omega) (by omega)) rfl ?_); clear ha a; intro a ha
   rw [show ((past.length : Nat) : Int) - 1=((past.length - 1 : Nat) : Int) from by omega] at ha
   refine SK (st_set ha rfl (ex_indexAddr ha Tryz.underlying22 Ty.t5 (by omega)) rfl ?_); clear ha a; intro a ha
   rw [Nat.mul_one] at ha
   refine SL ha (hr2 (past.length - 1) _ (bc_atD (by omega))) ?_; clear ha a; intro a ha
   refine SK (st_set ha rfl (ex_convIIs ha Tryz.underlying5 Tryz.underlying3 (i64u8 _)) rfl ?_); clear ha a; intro a ha
   refine S1d ha ?_; clear ha a; intro a ha
   refine LN<|TN ?_
   rw [hlast] at ha; exact ⟨ha.keep [1,2,3,7,8,9],hs⟩
  ·
   rw [if_neg (by omega)] at hlast
   refine WR ?_
   refine S1d ha ?_; clear ha; (try clear a); intro a ha
   refine LN<|TN ?_
   rw [show (0 : Int)=((lastB past).toNat : Nat) from hlast] at ha; exact ⟨ha.keep [1,2,3,7,8,9],hs⟩
 ·
  clear ha; (try clear hs)
  intro a w hcut
  obtain ⟨ha,hs⟩:=hcut
  refine wp_seq_cut (M:=fun a w=>Fr a 86 [(2,.int .i64 k),(3,.pointer (some ⟨b3,0,none⟩)),(7,.pointer (some ⟨b7,0,none⟩)),(8,.int .i64 ((lastB past).toNat : Nat)),(9,.int .i64 (drawnI b past))]∧St W w (blk b7 164 (ints .i64 256 (wtL b past))::blk b3 50 (gsC b adT cT)::L)) ?_ ?_
  ·
   refine WS<|WR ?_
   refine S1 ha ?_; clear ha; (try clear a); intro a ha
   refine SL ha (hs.rd1 rfl) ?_; clear ha a; intro a ha
   refine S1 ha ?_; clear ha a; intro a ha
   refine LN<|TN ?_
   refine WI ha (fun hc2=>?_) (fun hc2=>?_)
   ·
    obtain ⟨bt,ot,rfl,hrt⟩:=(ht _ hs.drew.tail.tail).get (by omega)
    have hmod : past.length % b.table.length < b.table.length:=Nat.mod_lt _ (by omega)
    refine DW (m:=12) (Old w.drew) [5,6,7] [0,2,3,4,1,5,6,7,8,9,10,11] Ty.mixed (pk_then pk_body) (fun hpk=>?_)
    replace hs:=hs.drew
    have hC:=Old.refl w.drew
    generalize w.drew=w at hs hC hpk hrt ⊢
    refine DP hpk ha rfl ?_; clear ha; (try clear a); intro a ha
    iterate 3 (refine DP hpk ha rfl ?_; clear ha a; intro a ha)
    refine DL hpk ha rfl (fun w hc=>hc.cell (hs.rd1 rfl)) hC ?_; clear ha a; intro a ha
    refine D1 rfl (st_set ha rfl (ex_load1 ha Tryz.underlying22 rfl (hs.rd1 rfl)) rfl ?_); clear ha a; intro a ha
    refine ⟨fun _=>hC,?_⟩
    refine D1 rfl (st_set ha rfl (ex_len ha Tryz.underlying22) rfl ?_); clear ha a; intro a ha
    refine ⟨fun _=>hC,?_⟩
    refine D1 rfl (st_set ha rfl (ex_rem ha (by omega)) rfl ?_); clear ha a; intro a ha
    refine ⟨fun _=>hC,?_⟩
    rw [remN] at ha
    refine DQ hpk ha rfl rfl (fun w=>ex_indexAddr ha Tryz.underlying22 Ty.t5 hmod) ?_; clear ha a; intro a ha
    rw [Nat.mul_one] at ha
    refine D1 rfl (st_set ha rfl (ex_load1 ha Tryz.underlying5 rfl (hrt (past.length % b.table.length) _ (bc_atD hmod))) rfl ?_); clear ha a; intro a ha
    refine ⟨fun h=>absurd h (by decide),?_⟩
    refine DQ hpk ha rfl rfl (fun w=>ex_convIIs ha Tryz.underlying5 Tryz.underlying3 (i64u8 _)) ?_; clear ha a; intro a ha
    replace ha:=ha.del 9
    refine DP hpk ha rfl ?_; clear ha a; intro a ha
    refine DD<|TN ?_
    rw [drawnI,if_pos (by omega)]; exact ⟨ha.keep [2,3,7,8,9],hs⟩
   ·
    refine WK<|TN ?_
    rw [drawnI,if_neg (by omega)]; exact ⟨ha.keep [2,3,7,8,9],hs⟩
  ·
   clear ha; (try clear hs)
   intro a w hcut
   obtain ⟨ha,hs⟩:=hcut
   refine WS<|WR ?_
   refine SK (st_alloc ha rfl hs Ty.t166 rfl ?_); clear ha hs; (try clear a); (try clear w); intro b10 a w ha hs ho
   clear ho
   rw [rep_tk] at hs
   refine LN<|TN<|WS<|WR ?_
   refine S1 ha ?_; clear ha a; intro a ha
   refine LN<|TN<|WS<|wp_block ?_
   refine wp_loop_ghost (fun μ a w=>∃ (j : Nat) (out : List UInt8) (t : Nat→Bool) (ad2 : Option Addr) (c2 : Nat),(μ=min k 256 - j∧j≤min k 256∧out.length=j∧cntT t 256=j∧(j=0→∀ v,t v=false)∧(1≤j→out[0]?=some (firstB b past)))∧Fr a 86 [(2,.int .i64 k),(3,.pointer (some ⟨b3,0,none⟩)),(7,.pointer (some ⟨b7,0,none⟩)),(8,.int .i64 ((lastB past).toNat : Nat)),(9,.int .i64 (drawnI b past)),(10,.pointer (some ⟨b10,0,none⟩)),(11,.slice ad2 out.length c2)]∧St W w (Sl 5 1 ad2 out.length c2 (bc out)::blk b10 166 (tkC t)::blk b7 164 (ints .i64 256 (wtL b past))::blk b3 50 (gsC b adT cT)::L)) (min k 256) ?_ ?_
   · exact ⟨0,[],fun _=>false,none,0,⟨rfl,by omega,rfl,by decide,fun _ _=>rfl,fun h=>by omega⟩,ha.keep [2,3,7,8,9,10,11],hs.sl0 5 1 none⟩
   ·
    clear ha hs
    rintro μ a w ⟨j,out,t,ad2,c2,⟨rfl,hj,hol,hct,hj0,hj1⟩,ha,hs⟩
    refine WS<|WS<|WR ?_
    refine S1 ha ?_; clear ha; (try clear a); intro a ha
    iterate 4 (refine S1 ha ?_; clear ha a; intro a ha)
    refine ha.by (s:=52) (fun hg4 ha=>?_) (fun hg4 ha=>?_)
    ·
     refine S1g (s:=52) ha ?_; clear ha; (try clear a); intro a ha
     iterate 2 (refine S1g (s:=52) ha ?_; clear ha a; intro a ha)
     refine PT ha ?_; clear ha a; intro a ha
     refine LN<|TN ?_
     refine WI ha (fun hc3=>?_) (fun hc3=>?_)
     ·
      refine WK<|TN<|wp_block<|WS<|WR ?_
      refine S1 ha ?_; clear ha; (try clear a); intro a ha
      refine LN<|TN<|WS<|WS<|WR ?_
      refine S1 ha ?_; clear ha a; intro a ha
      refine LN<|TN<|wp_block ?_
      refine wp_loop_ghost (fun μ a w=>∃ (i : Nat) (best : Int),(μ=256 - i∧i≤256∧BestT (wtL b past) ((lastB past).toNat : Nat) (drawnI b past) t (decide (j=0)) i best)∧Fr a 86 [(2,.int .i64 k),(3,.pointer (some ⟨b3,0,none⟩)),(7,.pointer (some ⟨b7,0,none⟩)),(8,.int .i64 ((lastB past).toNat : Nat)),(9,.int .i64 (drawnI b past)),(10,.pointer (some ⟨b10,0,none⟩)),(11,.slice ad2 out.length c2),(12,.int .i64 best),(13,.int .i64 i)]∧St W w (Sl 5 1 ad2 out.length c2 (bc out)::blk b10 166 (tkC t)::blk b7 164 (ints .i64 256 (wtL b past))::blk b3 50 (gsC b adT cT)::L)) (256) ?_ ?_
      · exact ⟨0, -1,⟨rfl,by omega,BestT.start⟩,ha.keep [2,3,7,8,9,10,11,12,13],hs⟩
      ·
       clear ha hs
       rintro μ a w ⟨i,best,⟨rfl,hi,hbt⟩,ha,hs⟩
       refine WS<|WS<|WR ?_
       refine S1 ha ?_; clear ha; (try clear a); intro a ha
       refine S1 ha ?_; clear ha a; intro a ha
       refine LN<|TN ?_
       refine WI ha (fun hc4=>?_) (fun hc4=>?_)
       ·
        have hi6 : i < 256:=by omega
        have hff : decide (j=0)=true→∀ v,t v=false:=fun h=>hj0 (by simpa using h)
        refine WK<|TN<|WS<|wp_block<|WS<|WR ?_
        refine S1 ha ?_; clear ha; (try clear a); intro a ha
        refine SK (st_set ha rfl (ex_indexAddrA ha Tryz.underlying166 Ty.t4 (by omega)) rfl ?_); clear ha a; intro a ha
        rw [Nat.zero_add,Nat.mul_one] at ha
        refine SL ha (hs.rd1 (tkC_get hi6)) ?_; clear ha a; intro a ha
        iterate 2 (refine S1 ha ?_; clear ha a; intro a ha)
        refine ha.by (s:=65) (fun hg4 ha=>?_) (fun hg4 ha=>?_)
        ·
         refine S1g (s:=65) ha ?_; clear ha; (try clear a); intro a ha
         iterate 2 (refine S1g (s:=65) ha ?_; clear ha a; intro a ha)
         refine ha.by (s:=68) (fun hg7 ha=>?_) (fun hg7 ha=>?_)
         ·
          refine SO (s:=68) ha ?_; clear ha; (try clear a); intro a ha
          iterate 5 (refine SO (s:=68) ha ?_; clear ha a; intro a ha)
          refine PTg (s:=65) ha ?_; clear ha a; intro a ha
          refine PT ha ?_; clear ha a; intro a ha
          refine LN<|TN<|WTr ha<|WR ?_
          refine S1 ha ?_; clear ha a; intro a ha
          refine S1d ha ?_; clear ha a; intro a ha
          refine LN<|BN<|TN<|WR ?_
          refine S1 ha ?_; clear ha a; intro a ha
          refine SK (st_set ha rfl (ex_addI ha (by omega) (by omega)) rfl ?_); clear ha a; intro a ha
          refine S1d ha ?_; clear ha a; intro a ha
          refine LN<|TN ?_
          exact ⟨256 - (i+1),by omega,i+1,i,⟨rfl,by omega,hbt.take hg7 hg4 hff⟩,ha.keep [2,3,7,8,9,10,11,12,13],hs⟩
         ·
          obtain ⟨u,rfl,hu⟩:=hbt.nat (by omega)
          refine S1g (s:=68) ha ?_; clear ha; (try clear a); intro a ha
          refine S1g (s:=68) ha ?_; clear ha a; intro a ha
          refine SK (st_set ha (wgT ha rfl (s:=68)) (ex_loadN ha Tryz.underlying164 rfl Ty.t164 (hs.rdAll (b:=b7))) rfl ?_); clear ha a; intro a ha
          iterate 2 (refine S1g (s:=68) ha ?_; clear ha a; intro a ha)
          refine SK (st_call ha (wgT ha rfl (s:=68)) Ty.c107 rfl (ref_ahead hs hi6 (by omega)) ?_); clear ha hs
          rintro e w ⟨rfl,hs⟩
          refine ⟨_,rfl,?_⟩
          intro a ha
          refine PFg (s:=65) ha ?_; clear ha a; intro a ha
          refine PT ha ?_; clear ha a; intro a ha
          refine LN<|TN ?_
          refine WI ha (fun hc5=>?_) (fun hc5=>?_)
          ·
           refine WR ?_
           refine S1 ha ?_; clear ha; (try clear a); intro a ha
           refine S1d ha ?_; clear ha a; intro a ha
           refine LN<|BN<|TN<|WR ?_
           refine S1 ha ?_; clear ha a; intro a ha
           refine SK (st_set ha rfl (ex_addI ha (by omega) (by omega)) rfl ?_); clear ha a; intro a ha
           refine S1d ha ?_; clear ha a; intro a ha
           refine LN<|TN ?_
           exact ⟨256 - (i+1),by omega,i+1,i,⟨rfl,by omega,BestT.up hu hc5 hg4⟩,ha.keep [2,3,7,8,9,10,11,12,13],hs⟩
          ·
           refine WK<|BN<|TN<|WR ?_
           refine S1 ha ?_; clear ha; (try clear a); intro a ha
           refine SK (st_set ha rfl (ex_addI ha (by omega) (by omega)) rfl ?_); clear ha a; intro a ha
           refine S1d ha ?_; clear ha a; intro a ha
           refine LN<|TN ?_
           exact ⟨256 - (i+1),by omega,i+1,u,⟨rfl,by omega,BestT.keep hu hc5⟩,ha.keep [2,3,7,8,9,10,11,12,13],hs⟩
        ·
         refine SO (s:=65) ha ?_; clear ha; (try clear a); intro a ha
         refine SO (s:=65) ha ?_; clear ha a; intro a ha
         refine SK (st_offU ha (wgF ha rfl (s:=65) rfl) rfl ?_); clear ha a; intro a ha
         iterate 6 (refine SK (st_off ha (wgU ha rfl (s:=68)) rfl ?_); clear ha a; intro a ha)
         refine SO (s:=65) ha ?_; clear ha a; intro a ha
         refine PF ha ?_; clear ha a; intro a ha
         refine LN<|TN<|WFa ha<|WK<|BN<|TN<|WR ?_
         refine S1 ha ?_; clear ha a; intro a ha
         refine SK (st_set ha rfl (ex_addI ha (by omega) (by omega)) rfl ?_); clear ha a; intro a ha
         refine S1d ha ?_; clear ha a; intro a ha
         refine LN<|TN ?_
         exact ⟨256 - (i+1),by omega,i+1,best,⟨rfl,by omega,hbt.skip hg4 hff⟩,ha.keep [2,3,7,8,9,10,11,12,13],hs⟩
       ·
        obtain rfl : i=256:=by omega
        obtain ⟨u,rfl,hu6,htu,hfu⟩:=hbt.over (by omega)
        refine wp_exit<|TE<|TE<|blk_e<|TN<|WS<|WR ?_
        refine S1 ha ?_; clear ha; (try clear a); intro a ha
        refine SK (st_set ha rfl (ex_indexAddrA ha Tryz.underlying166 Ty.t4 (by omega)) rfl ?_); clear ha a; intro a ha
        rw [Nat.zero_add,Nat.mul_one] at ha
        refine SK (st_store ha rfl hs Ty.t4 rfl (by rw [tkC_len]; omega) ?_); clear ha hs a; (try clear w); intro a w ha hs
        rw [tkC_set] at hs
        refine LN<|TN<|WR ?_
        iterate 2 (refine S1 ha ?_; clear ha a; intro a ha)
        refine SK (st_set ha rfl (ex_convIIs ha Tryz.underlying3 Tryz.underlying5 (by rw [wrap_u8]; omega)) rfl ?_); clear ha a; intro a ha
        rw [show ((u : Nat) : Int)=((UInt8.ofNat u).toNat : Int) from by rw [UInt8.toNat_ofNat']; omega] at ha
        refine SK (st_buildSlice ha rfl hs Tryz.underlying22 Ty.t5 rfl rfl rfl rfl (by decide) (by decide) ?_); clear ha hs a; (try clear w); intro b83 a w ha hs ho
        clear ho
        refine SK (st_append ha rfl hs Tryz.underlying22 Ty.t5 rfl rfl hs.rdAll rfl (bc_one [UInt8.ofNat u]) (by decide) (by decide) (by omega) ?_); clear ha hs a; (try clear w); intro ad84 c84 a w ha hs
        rw [show bc out++_=bc (out++[UInt8.ofNat u]) from (bc_app _ [_]).symm,show out.length+1=(out++[UInt8.ofNat u]).length from by simp] at hs
        rw [show out.length+1=(out++[UInt8.ofNat u]).length from by simp] at ha
        refine S1d ha ?_; clear ha a; intro a ha
        refine LN<|BN<|TN ?_
        exact ⟨min k 256 - (j+1),by omega,j+1,out++[UInt8.ofNat u],_,ad84,c84,⟨rfl,by omega,by rw [List.length_append,hol]; rfl,by rw [cntT_set htu,hct,if_pos hu6],fun h=>by omega,fun _=>by
          rcases Nat.eq_zero_or_pos j with h0 | h0
          · rw [List.eq_nil_of_length_eq_zero (l:=out) (by omega),hfu (decide_eq_true h0),refB_first hb]
            simp
          · rw [List.getElem?_append_left (by omega)]; exact hj1 (by omega)⟩,ha.keep [2,3,7,8,9,10,11],hs.sub⟩
     ·
      refine wp_exit<|TE<|TE<|blk_e<|TN<|WS<|WR ?_
      refine S1 ha ?_; clear ha; (try clear a); intro a ha
      refine S1 ha ?_; clear ha a; intro a ha
      refine LN<|TN<|wp_ret ?_
      refine ret1 ha rfl ?_
      exact ⟨ad2,c2,out,rfl,⟨by omega,hj1 (by omega)⟩,hs.sub⟩
    ·
     refine SO (s:=52) ha ?_; clear ha; (try clear a); intro a ha
     iterate 2 (refine SO (s:=52) ha ?_; clear ha a; intro a ha)
     refine PF ha ?_; clear ha a; intro a ha
     refine LN<|TN<|WFa ha<|wp_exit<|TE<|TE<|blk_e<|TN<|WS<|WR ?_
     iterate 2 (refine S1 ha ?_; clear ha a; intro a ha)
     refine LN<|TN<|wp_ret ?_
     refine ret1 ha rfl ?_
     exact ⟨ad2,c2,out,rfl,⟨by omega,hj1 (by omega)⟩,hs.sub⟩
theorem ref_chain (hs : St W w L) (hb : mayGs b) (hpl : past.length≤1001) (hpc : past.length≤c) (hn : m≤1000) (hp : ∀ w',St W w' L→RdB w' ad past.length past) (ht : ∀ w',St W w' L→RdB w' adT b.table.length b.table) :
   Calls Tryz.prog 59 #[.agg (gsC b adT cT).toArray,.slice ad past.length c,.int .i64 m] w fun e w'=>∃ ad' c',e=.returned (.slice ad' m c')∧St W w' (Sl 5 1 ad' m c' (bc (chainB b past m))::L):=by
 refine calls_enter Tryz.func59 rfl Tryz.ntmps59 (Nat.le_of_ble_eq_true rfl) ?_
 intro a ha
 replace ha : Fr a 41 [(0,_),(1,_),(2,_)]:=ha
 refine WS<|WR ?_
 refine SK (st_box ha rfl hs rfl ?_); clear ha hs a; (try clear w); intro b3 a w ha hs ho
 clear ho
 change St W w (blk b3 50 (gsC b adT cT)::_) at hs
 refine S1 ha ?_; clear ha a; intro a ha
 refine LN<|TN<|WS<|WS<|WR ?_
 refine SK (st_set ha rfl (ex_loadN ha Tryz.underlying50 rfl Ty.t50 (hs.rdAll)) rfl ?_); clear ha a; intro a ha
 refine SK (st_call ha rfl Ty.c54 rfl (ref_mayBy hs) ?_); clear ha hs
 rintro e w ⟨r,rfl,hr,hs⟩
 refine ⟨_,rfl,?_⟩
 intro a ha
 rw [hr.2 hb] at ha
 refine S1 ha ?_; clear ha a; intro a ha
 refine LN<|TN<|WFa ha<|WK<|TN<|WS ?_
 replace hs:=hs.sl0 5 1 none
 refine WR ?_
 refine S1 ha ?_; clear ha a; intro a ha
 refine SK (st_appendT ha rfl hs Tryz.underlying22 Ty.t5 rfl rfl (by decide) (fun h0=>(hp _ hs.tail.tail).get h0) (by rw [bc_len]; omega) (bc_one _) (by omega) ?_); clear ha hs a; (try clear w); intro ad15 c15 a w ha hs
 rw [List.nil_append,Nat.zero_add] at hs
 rw [Nat.zero_add] at ha
 refine S1 ha ?_; clear ha a; intro a ha
 refine LN<|TN<|WS<|WR ?_
 refine S1 ha ?_; clear ha a; intro a ha
 refine LN<|TN<|WS<|WS<|WR ?_
 refine S1 ha ?_; clear ha a; intro a ha
 refine LN<|TN<|wp_block ?_
 refine wp_loop_ghost (fun μ a w=>∃ (i : Nat) (ad2 : Option Addr) (c2 : Nat) (ad3 : Option Addr) (c3 : Nat),(μ=m - i∧i≤m)∧Fr a 41 [(2,.int .i64 m),(3,.pointer (some ⟨b3,0,none⟩)),(7,.slice ad2 (chainN b past i).length c2),(8,.slice ad3 i c3),(9,.int .i64 i)]∧St W w (Sl 5 1 ad3 i c3 (bc (chainB b past i))::Sl 5 1 ad2 (chainN b past i).length c2 (bc (chainN b past i))::blk b3 50 (gsC b adT cT)::L)) (m) ?_ ?_
 · exact ⟨0,ad15,c15,none,0,⟨rfl,by omega⟩,ha.keep [2,3,7,8,9],by
   have h1 : chainB b past 0=[]:=List.eq_nil_of_length_eq_zero (chainB_len b past 0)
   rw [h1]; exact hs.sl0 5 1 none⟩
 ·
  clear ha hs
  rintro μ a w ⟨i,ad2,c2,ad3,c3,⟨rfl,hi⟩,ha,hs⟩
  refine WS<|WS<|WR ?_
  refine S1 ha ?_; clear ha; (try clear a); intro a ha
  iterate 3 (refine S1 ha ?_; clear ha a; intro a ha)
  refine ha.by (s:=19) (fun hg3 ha=>?_) (fun hg3 ha=>?_)
  ·
   refine S1g (s:=19) ha ?_; clear ha; (try clear a); intro a ha
   refine S1g (s:=19) ha ?_; clear ha a; intro a ha
   refine PT ha ?_; clear ha a; intro a ha
   refine LN<|TN ?_
   rw [decide_eq_true (by omega)] at ha
   refine WTr ha<|WK<|TN<|WS<|wp_block<|WS ?_
   have hcl:=chainN_len b past i
   have hc2l:=(hs.sl ad2).2
   have him : i < m:=by omega
   refine WR ?_
   refine SK (st_set ha rfl (ex_loadN ha Tryz.underlying50 rfl Ty.t50 (hs.rdAll)) rfl ?_); clear ha a; intro a ha
   refine S1 ha ?_; clear ha a; intro a ha
   refine SK (st_call ha rfl Ty.c58 rfl (ref_rank (past:=chainN b past i) (k:=1) hs hb (by decide) (by omega) hc2l (fun w' hw=>hw.rdB ad2 (chainN b past i) rfl rfl) (fun w' hw=>ht w' hw.tail.tail.tail)) ?_); clear ha hs
   rintro e w ⟨adr,cr,out,rfl,⟨hol,ho0⟩,hs⟩
   refine ⟨_,rfl,?_⟩
   intro a ha
   refine S1 ha ?_; clear ha a; intro a ha
   refine LN ?_
   obtain ⟨x,rfl⟩ : ∃ x,out=[x]:=by
     match out,hol with
     | [x],_=>exact ⟨x,rfl⟩
   obtain rfl : x=firstB b (chainN b past i):=by simpa using ho0
   obtain ⟨br,or',rfl,hrr⟩:=hs.slRd adr (by simp)
   refine TN<|WS<|WR ?_
   iterate 2 (refine S1 ha ?_; clear ha a; intro a ha)
   refine SK (st_set ha rfl (ex_indexAddr ha Tryz.underlying22 Ty.t5 (by simp)) rfl ?_); clear ha a; intro a ha
   rw [Nat.zero_mul] at ha
   refine SL ha (hrr 0 _ rfl) ?_; clear ha a; intro a ha
   refine SK (st_buildSlice ha rfl hs Tryz.underlying22 Ty.t5 rfl rfl rfl rfl (by decide) (by decide) ?_); clear ha hs a; (try clear w); intro b32 a w ha hs ho
   clear ho
   refine SK (st_append ha rfl hs Tryz.underlying22 Ty.t5 rfl rfl hs.rdAll rfl (bc_one [firstB b (chainN b past i)]) (by decide) (by decide) (by omega) ?_); clear ha hs a; (try clear w); intro ad33 c33 a w ha hs
   rw [show bc (chainN b past i)++_=bc (chainN b past (i+1)) from (bc_app _ [_]).symm,show (chainN b past i).length+1=(chainN b past (i+1)).length from by rw [chainN_len,chainN_len]; omega] at hs
   rw [show (chainN b past i).length+1=(chainN b past (i+1)).length from by rw [chainN_len,chainN_len]; omega] at ha
   refine S1d ha ?_; clear ha a; intro a ha
   refine LN<|TN ?_
   replace hrr:=hs.slRdAt br or' (by simp)
   refine WR ?_
   iterate 2 (refine S1 ha ?_; clear ha a; intro a ha)
   refine SK (st_set ha rfl (ex_indexAddr ha Tryz.underlying22 Ty.t5 (by simp)) rfl ?_); clear ha a; intro a ha
   rw [Nat.zero_mul] at ha
   refine SL ha (hrr 0 _ rfl) ?_; clear ha a; intro a ha
   refine SK (st_buildSlice ha rfl hs Tryz.underlying22 Ty.t5 rfl rfl rfl rfl (by decide) (by decide) ?_); clear ha hs a; (try clear w); intro b38 a w ha hs ho
   clear ho
   refine SK (st_append ha rfl hs Tryz.underlying22 Ty.t5 rfl rfl hs.rdAll rfl (bc_one [firstB b (chainN b past i)]) (by decide) (by decide) (by omega) ?_); clear ha hs a; (try clear w); intro ad39 c39 a w ha hs
   rw [show bc (chainB b past i)++_=bc (chainB b past (i+1)) from by rw [chainB_succ,chain_all]; exact (bc_app _ [_]).symm] at hs
   refine S1d ha ?_; clear ha a; intro a ha
   refine LN<|BN<|TN<|WR ?_
   refine S1 ha ?_; clear ha a; intro a ha
   refine SK (st_set ha rfl (ex_addI ha (by omega) (by omega)) rfl ?_); clear ha a; intro a ha
   refine S1d ha ?_; clear ha a; intro a ha
   refine LN<|TN ?_
   exact ⟨m - (i+1),by omega,i+1,ad33,c33,ad39,c39,⟨rfl,by omega⟩,ha.keep [2,3,7,8,9],hs.sub⟩
  ·
   refine SO (s:=19) ha ?_; clear ha; (try clear a); intro a ha
   refine SO (s:=19) ha ?_; clear ha a; intro a ha
   refine PF ha ?_; clear ha a; intro a ha
   refine LN<|TN<|WFa ha<|wp_exit<|TE<|TE<|blk_e<|TN<|WS<|WR ?_
   iterate 2 (refine S1 ha ?_; clear ha a; intro a ha)
   refine LN<|TN<|wp_ret ?_
   refine ret1 ha rfl ?_
   obtain rfl : i=m:=by omega
   exact ⟨_,_,rfl,hs.sub⟩
end
end Go.Proofs.YtagpkhbkdbaigaaGreat
