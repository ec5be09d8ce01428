/- The document's guesses: quintainref12.MayBy, weights, ahead, Rank, Chain. -/
import Derived.Test.YtdilfdkendjjhaaGreatA25Fold
import Derived.Test.YtdilfdkendjjhaaGreatA22LinP
import Derived.Test.YtdilfdkendjjhaaGreatA23CoQ
import Derived.Test.YtdilfdkendjjhaaGreatA02More2
namespace Go.Proofs.YtdilfdkendjjhaaGreat
open Go.RowKit
set_option linter.unusedVariables false
set_option linter.unusedSimpArgs false
set_option maxRecDepth 10000
set_option synthInstance.maxSize 4000
set_option synthInstance.maxHeartbeats 400000
section
def aheadB (w:Nat→Int)(last drawn:Int)(v u:Nat):Bool:=if (v:Int)=drawn∨(u:Int)=drawn then decide ((v:Int)=drawn) else if w v≠w u then decide (w u<w v) else decide ((v:Int)=last)
def refB (w:Nat→Int)(last drawn:Int):Nat→Nat
 | 0=>0
 | i+1=>if aheadB w last drawn (i+1) (refB w last drawn i)=true then i+1 else refB w last drawn i
theorem refB_le (w:Nat→Int)(last drawn:Int):∀ i,refB w last drawn i≤i
 | 0=>Nat.le_refl _
 | i+1=>by
   rw[refB]
   split
   · exact Nat.le_refl _
   · exact Nat.le_succ_of_le (refB_le w last drawn i)
theorem refB_drawn {w:Nat→Int}{last:Int}{d:Nat}:∀ {i},d≤i→refB w last d i=d
 | 0,h=>by rw[refB];omega
 | i+1,h=>by
   rw[refB]
   by_cases hd:d=i+1
   · rw[if_pos]
     · exact hd.symm
     · rw[aheadB,if_pos (.inl (by omega))];exact decide_eq_true (by omega)
   · rw[refB_drawn (i:=i) (by omega),if_neg]
     rw[aheadB,if_pos (.inr rfl),decide_eq_true_iff];omega
theorem refB_best {w:Nat→Int}{last:Nat}:∀ i,(∀ v,v≤i→w v≤w (refB w last (-1) i))∧(refB w last (-1) i=last∨((last≤i→w last<w (refB w last (-1) i))∧∀ v,v<refB w last (-1) i→w v<w (refB w last (-1) i)))
 | 0=>by
   refine⟨λv hv=>by rw[refB,show v=0 from by omega];exact Int.le_refl _,?_⟩
   by_cases h:last=0
   · exact .inl h.symm
   · exact .inr ⟨λhl=>by omega,λv hv=>by rw[refB]at hv;omega⟩
 | i+1=>by
   obtain⟨h1,h2⟩:=refB_best (w:=w) (last:=last) i
   have hle:=refB_le w last (-1) i
   have h0:¬ (((i+1:Nat):Int) = -1∨((refB w last (-1) i:Nat):Int) = -1):=by omega
   rw[refB]
   generalize refB w last (-1) i=r at *
   rw[aheadB,if_neg h0]
   by_cases hw:w (i+1)=w r
   · rw[if_neg (show ¬ w (i+1)≠w r from λh=>h hw)]
     by_cases hl:i+1=last
     · rw[if_pos (decide_eq_true (by omega))]
       refine⟨λv hv=>?_,.inl hl⟩
       by_cases hv1:v=i+1
       · subst hv1;exact Int.le_refl _
       · rw[hw];exact h1 v (by omega)
     · rw[if_neg (by rw[decide_eq_true_iff];omega)]
       refine⟨λv hv=>?_,?_⟩
       · by_cases hv1:v=i+1
         · subst hv1;omega
         · exact h1 v (by omega)
       · rcases h2 with h2 | ⟨h2,h3⟩
         · exact .inl h2
         · exact .inr ⟨λhh=>h2 (by omega),h3⟩
   · rw[if_pos hw]
     by_cases hl:w r<w (i+1)
     · rw[if_pos (decide_eq_true hl)]
       have hall:∀ v,v<i+1→w v<w (i+1):=λv hv=>by have:=h1 v (by omega);omega
       refine⟨λv hv=>?_,?_⟩
       · by_cases hv1:v=i+1
         · subst hv1;exact Int.le_refl _
         · have:=hall v (by omega);omega
       · by_cases hli:last=i+1
         · exact .inl hli.symm
         · exact .inr ⟨λhh=>hall last (by omega),hall⟩
     · rw[if_neg (by rw[decide_eq_true_iff];exact hl)]
       refine⟨λv hv=>?_,?_⟩
       · by_cases hv1:v=i+1
         · subst hv1;omega
         · exact h1 v (by omega)
       · rcases h2 with h2 | ⟨h2,h3⟩
         · exact .inl h2
         · refine .inr ⟨λhh=>?_,h3⟩
           by_cases hli:last=i+1
           · subst hli;omega
           · exact h2 (by omega)
def drawnI (b:Gs)(past:List UInt8):Int:=if b.kind=3 then ((b.table.getD (past.length%b.table.length) 0).toNat:Int) else -1
theorem refB_first {b:Gs}{past:List UInt8}(hb:mayGs b):refB (wtL b past) ((lastB past).toNat:Nat) (drawnI b past) 255=(firstB b past).toNat:=by
 have hlb:=u8_lt (lastB past)
 unfold drawnI firstB
 split
 · have:=u8_lt (b.table.getD (past.length%b.table.length) 0)
   exact refB_drawn (by omega)
 · rw[UInt8.toNat_ofNat']
   obtain⟨h1,h2⟩:=refB_best (w:=wtL b past) (last:=(lastB past).toNat) 255
   have hle:=refB_le (wtL b past) ((lastB past).toNat:Nat) (-1) 255
   generalize refB (wtL b past) ((lastB past).toNat:Nat) (-1) 255=r at *
   rcases h2 with h2 | ⟨h2,h3⟩
   · rw[bestN_last λv hv=>by rw[← h2];exact h1 v (by omega),h2]
     omega
   · have h4:=(bestN_of (last:=(lastB past).toNat) (h2 (by omega)) h3 (i:=256) λv hv=>h1 v (by omega)).2 (by omega)
     rw[h4];omega
def tkC (t:Nat→Bool):List Value:=fn 256 λi=>.bool (t i)
theorem tkC_len (t:Nat→Bool):(tkC t).length=256:=fn_len _ _
theorem tkC_get {t:Nat→Bool}{i:Nat}(h:i<256):(tkC t)[i]?=some (.bool (t i)):=fn_get _ h
theorem tkC_set {t:Nat→Bool}{i:Nat}:(tkC t).set i (.bool true)=tkC λj=>if j=i then true else t j:=by
 rw[tkC,fn_set];exact fn_congr λj _=>by by_cases h:j=i <;> simp[h]
theorem rep_fn (m:Nat)(v:Value):List.replicate m v=fn m λ_=>v:=by
 apply List.ext_getElem (by simp[fn])
 intro i h1 h2
 simp[fn]
theorem rep_tk:List.replicate 256 (Value.bool false)=tkC λ_=>false:=rep_fn 256 _
def cntT (t:Nat→Bool):Nat→Nat
 | 0=>0
 | i+1=>cntT t i+if t i=true then 1 else 0
theorem cntT_all {t:Nat→Bool}:∀ {i},(∀ v,v<i→t v=true)→cntT t i=i
 | 0,_=>rfl
 | i+1,h=>by rw[cntT,cntT_all (i:=i) λv hv=>h v (by omega),if_pos (h i (by omega))]
theorem cntT_set {t:Nat→Bool}{u:Nat}(hu:t u=false):∀ {i},cntT (λj=>if j=u then true else t j) i=cntT t i+if u<i then 1 else 0
 | 0=>by simp[cntT]
 | i+1=>by
   rw[cntT,cntT,cntT_set hu (i:=i)]
   by_cases h:i=u
   · subst h;simp[hu]
   · by_cases h2:u<i
     · simp[h,h2,show u<i+1 from by omega];omega
     · simp[h,h2,show ¬ u<i+1 from by omega]
def BestT (w:Nat→Int)(last drawn:Int)(t:Nat→Bool)(first:Bool)(i:Nat)(best:Int):Prop :=
 (best = -1∧∀ v,v<i→t v=true)∨∃ u:Nat,best=(u:Int)∧u<i∧t u=false∧(first=true→u=refB w last drawn (i-1))
section
variable {w:Nat→Int}{last drawn:Int}{t:Nat→Bool}{f:Bool}{i u:Nat}{best:Int}
theorem BestT.take (h:BestT w last drawn t f i best)(h0:best<0)(hi:t i=false)(hf:f=true→∀ v,t v=false):BestT w last drawn t f (i+1) i:=by
 refine .inr ⟨i,rfl,by omega,hi,λhft=>?_⟩
 rcases h with ⟨_,h⟩ | ⟨u,h,_⟩
 · have : i = 0 := by
     rcases Nat.eq_zero_or_pos i with h1 | h1
     · exact h1
     · have h2:=h 0 h1
       rw[hf hft 0]at h2;cases h2
   subst this;rfl
 · omega
theorem BestT.nat (h:BestT w last drawn t f i best)(h0:0≤best):∃ u:Nat,best=(u:Int)∧u<i∧t u=false∧(f=true→u=refB w last drawn (i-1)):=by
 rcases h with ⟨h,_⟩ | h
 · omega
 · exact h
theorem BestT.up (hu:u<i∧t u=false∧(f=true→u=refB w last drawn (i-1)))(ha:aheadB w last drawn i u=true)(hi:t i=false):BestT w last drawn t f (i+1) i:=by
 refine .inr ⟨i,rfl,by omega,hi,λhf=>?_⟩
 have h1:=hu.2.2 hf
 obtain⟨j,rfl⟩:∃ j,i=j+1:=⟨i-1,by omega⟩
 rw[Nat.add_sub_cancel]at h1 ⊢
 rw[refB,← h1,if_pos ha]
theorem BestT.keep (hu:u<i∧t u=false∧(f=true→u=refB w last drawn (i-1)))(ha:aheadB w last drawn i u=false):BestT w last drawn t f (i+1) u:=by
 refine .inr ⟨u,rfl,by omega,hu.2.1,λhf=>?_⟩
 have h1:=hu.2.2 hf
 obtain⟨j,rfl⟩:∃ j,i=j+1:=⟨i-1,by omega⟩
 rw[Nat.add_sub_cancel]at h1 ⊢
 rw[refB,← h1,ha,if_neg (by decide)]
theorem BestT.skip (h:BestT w last drawn t f i best)(hi:t i=true)(hf:f=true→∀ v,t v=false):BestT w last drawn t f (i+1) best:=by
 have hff:f=true→False:=λh=>by rw[hf h i]at hi;cases hi
 rcases h with ⟨h1,h⟩ | ⟨u,h1,h2,h3,_⟩
 · refine .inl ⟨h1,λv hv=>?_⟩
   by_cases hvi:v=i
   · subst hvi;exact hi
   · exact h v (by omega)
 · exact .inr ⟨u,h1,by omega,h3,λh=>(hff h).elim⟩
theorem BestT.over (h:BestT w last drawn t f 256 best)(hc:cntT t 256<256):∃ u:Nat,best=(u:Int)∧u<256∧t u=false∧(f=true→u=refB w last drawn 255):=by
 rcases h with ⟨_,h⟩ | h
 · rw[cntT_all h]at hc;omega
 · exact h
theorem BestT.start:BestT w last drawn t f 0 (-1):=.inl ⟨rfl,λv hv=>by omega⟩
end
section
variable {W w:World}{L:List SP}{n c m cT:Nat}{ad adT:Option Addr}{past:List UInt8}{b:Gs}{g:Nat→Int}
theorem ref_mayBy (hs:St W w L):Calls Tryz.prog 95 #[.agg (gsC b adT cT).toArray] w λe w'=>∃ r:Bool,e=.returned (.bool r)∧(r=true↔mayGs b)∧St W w' L:=by
 refine EN Tryz.func95 Tryz.ntmps95 rfl rfl λa ha=>?_
 refine BX 1 ha hs λb1 a w ha hs=>?_
 change St W w (blk b1 61 (gsC b adT cT)::_) at hs
 refine BY 7 ha hs (λhg3 a ha=>?_) λhg3 a ha=>?_
 ·
  refine RT 27 ha hs ?_
  exact⟨_,rfl,⟨λh=>(by cases h),λh=>by rw[mayGs]at h;exfalso;omega⟩,hs.sub⟩
 refine BY 5 ha hs (λhg8 a ha=>?_) λhg8 a ha=>?_
 ·
  refine RT 22 ha hs ?_
  exact⟨_,rfl,⟨λh=>(by cases h),λh=>by rw[mayGs]at h;exfalso;omega⟩,hs.sub⟩
 refine BY 5 ha hs (λhg13 a ha=>?_) λhg13 a ha=>?_
 ·
  refine RT 17 ha hs ?_
  exact⟨_,rfl,⟨λh=>(by cases h),λh=>by rw[mayGs]at h;exfalso;omega⟩,hs.sub⟩
 refine BY 5 ha hs (λhg18 a ha=>?_) λhg18 a ha=>?_
 ·
  refine RT 12 ha hs ?_
  exact⟨_,rfl,⟨λh=>(by cases h),λh=>by rw[mayGs]at h;exfalso;omega⟩,hs.sub⟩
 refine BY 4 ha hs (λhg22 a ha=>?_) λhg22 a ha=>?_
 ·
  refine IF 5 ha hs (λhc0 a ha=>?_) λhc0 a ha=>?_
  ·
   refine RT 2 ha hs ?_
   exact⟨_,rfl,⟨λh=>(by cases h),λh=>by rw[mayGs]at h;exfalso;omega⟩,hs.sub⟩
  refine IF 5 ha hs (λhc1 a ha=>?_) λhc1 a ha=>?_
  ·
   refine BY 6 ha hs (λhg4 a ha=>?_) λhg4 a ha=>?_
   ·
    refine RT 6 ha hs ?_
    exact⟨_,rfl,(by rw[decide_eq_true_iff,mayGs];omega),hs.sub⟩
   refine RT 6 ha hs ?_
   exact⟨_,rfl,⟨λh=>(by cases h),λh=>by rw[mayGs]at h;exfalso;omega⟩,hs.sub⟩
  refine RT 6 ha hs ?_
  exact⟨_,rfl,(by rw[decide_eq_true_iff,mayGs];omega),hs.sub⟩
 refine IF 11 ha hs (λhc1 a ha=>?_) λhc1 a ha=>?_
 ·
  refine BY 6 ha hs (λhg4 a ha=>?_) λhg4 a ha=>?_
  ·
   refine RT 6 ha hs ?_
   exact⟨_,rfl,(by rw[decide_eq_true_iff,mayGs];omega),hs.sub⟩
  refine RT 6 ha hs ?_
  exact⟨_,rfl,⟨λh=>(by cases h),λh=>by rw[mayGs]at h;exfalso;omega⟩,hs.sub⟩
 refine RT 6 ha hs ?_
 exact⟨_,rfl,(by rw[decide_eq_true_iff,mayGs];omega),hs.sub⟩
theorem ref_weights (hs:St W w L)(hb:mayGs b)(hpl:past.length≤4000)(hpc:past.length≤c)(hp:∀ w',St W w' L→RdB w' ad past.length past) :
   Calls Tryz.prog 158 #[.agg (gsC b adT cT).toArray,.slice ad past.length c] w λe w'=>e=.returned (.agg (ints .i64 256 (wtL b past)).toArray)∧St W w' L:=by
 simp only[mayGs]at hb
 refine EN Tryz.func158 Tryz.ntmps158 rfl rfl λa ha=>?_
 refine BX 1 ha hs λb2 a w ha hs=>?_
 change St W w (blk b2 61 (gsC b adT cT)::_) at hs
 refine AL 0 ha hs λb4 a w ha hs=>?_
 rw[rep_ints]at hs
 refine AL 1 ha hs λb5 a w ha hs=>?_
 rw[rep_ints]at hs
 refine BY 6 ha hs (λhg3 a ha=>?_) λhg3 a ha=>?_
 ·
  refine SA 9 ha hs λa w ha hs=>?_
  refine RT 0 ha hs ?_
  exact⟨by rw[wtL,if_neg (by omega)],hs.sub⟩
 refine IF 6 ha hs (λhc0 a ha=>?_) λhc0 a ha=>?_
 ·
  refine SA 2 ha hs λa w ha hs=>?_
  refine RT 0 ha hs ?_
  exact⟨by rw[wtL,if_pos (by omega),wtN_low (by omega)],hs.sub⟩
 refine RN 1 ha hs λa ha=>?_
 have hk2:b.kind=2:=by omega
 obtain⟨o,ho⟩:∃ o:Nat,b.order=(o:Int):=⟨b.order.toNat,by omega⟩
 rw[gsC,ho]at hs
 have hol:o≤past.length:=by omega
 have hwt:wtL b past=wtN o past past.length:=by rw[wtL,if_pos hk2,ho,Int.toNat_natCast]
 refine RN 6 ha hs λa ha=>?_
 rw[show ((past.length:Nat):Int)-(o:Int)=((past.length-o:Nat):Int) from by omega]at ha
 refine RN 1 ha hs λa ha=>?_
 refine SS ha (ex_toString ha Tryz.underlying22 Tryz.underlying5 Tryz.underlying9 ((show RdB w (cutAd ad (past.length-o) c 1) (past.length-(past.length-o)) (past.drop (past.length-o)) from by have h1:=(hp _ hs.tail.tail.tail).cutL (lo:=past.length-o) (by omega) hpc;rw[List.length_drop]at h1;exact h1))) λa ha=>?_
 refine RN 6 ha hs λa ha=>?_
 have ho3:o≤3:=by omega
 refine wp_loop_ghost (λμ a w=>∃ (i:Nat),(μ=past.length-i∧o≤i∧i≤past.length)∧Fr a 54 [(1,.slice ad past.length c),(2,pt b2),(4,pt b4),(5,pt b5),(6,.string ⟨(past.drop (past.length-o)).toArray⟩),(7,.int .i64 i)]∧St W w (blk b5 245 (ints .i64 256 (wtN o past i))::blk b4 245 (ints .i64 256 (λ_=>0))::blk b2 61 [.int .i64 b.kind,.int .i64 o,.slice adT b.table.length cT]::L)) (past.length-o) (⟨o,⟨rfl,Nat.le_refl _,hol⟩,ha.keep [1,2,4,5,6,7],by rw[wtN_low (Nat.le_refl _)];exact hs.sub⟩) ?_
 clear ha hs
 rintro μ a w ⟨i,⟨rfl,hio,hi⟩,ha,hs⟩
 refine IF 6 ha hs (λhc1 a ha=>?_) λhc1 a ha=>?_
 ·
  have hil:i<past.length:=by omega
  have hbd:=wtN_bd o past i past[i].toNat
  have hb8:=u8_lt past[i]
  refine RN 7 ha hs λa ha=>?_
  rw[show ((i:Nat):Int)-(o:Int)=((i-o:Nat):Int) from by omega]at ha
  refine RN 2 ha hs λa ha=>?_
  rw[show i-(i-o)=o from by omega]at ha
  refine SS ha (ex_toString ha Tryz.underlying22 Tryz.underlying5 Tryz.underlying9 ((hp _ hs.tail.tail.tail).cutLH (lo:=i-o) (n:=o) (by omega) hpc)) λa ha=>?_
  refine RN 1 ha hs λa ha=>?_
  refine SS ha (ex_eqlS ha) λa ha=>?_
  rw[str_beq]at ha
  refine IF 0 ha hs (λhc2 a ha=>?_) λhc2 a ha=>?_
  ·
   obtain⟨bb,oo,rfl,hr⟩:=(hp _ hs.tail.tail.tail).get (by omega)
   refine RN 3 ha hs λa ha=>?_
   refine SS ha (ld1 ha (hr i _ (bc_at hil))) λa ha=>?_
   refine RN 1 ha hs λa ha=>?_
   refine SS ha (ld1 ha (hs.rd1 (ints_get _ hb8))) λa ha=>?_
   refine ST 2 ha hs (λa w ha hs=>?_) (hlt:=(by rw[ints_len];omega))
   rw[ints_set]at hs
   refine RN 3 ha hs λa ha=>?_
   exact⟨past.length-(i+1),by omega,i+1,⟨rfl,by omega,by omega⟩,ha.keep [1,2,4,5,6,7],by
     rw[show wtN o past (i+1)=λj=>if j=past[i].toNat then wtN o past i past[i].toNat+1 else wtN o past i j from by
       rw[wtN,if_pos ⟨hio,by rw[endsB,← hc2]⟩,List.getD_eq_getElem?_getD,List.getElem?_eq_getElem hil];rfl]
     exact hs.sub⟩
  refine RN 3 ha hs λa ha=>?_
  exact⟨past.length-(i+1),by omega,i+1,⟨rfl,by omega,by omega⟩,ha.keep [1,2,4,5,6,7],by
    rw[show wtN o past (i+1)=wtN o past i from by
      rw[wtN,if_neg (λh=>by
        have h2:=h.2
        rw[endsB]at h2
        rw[h2]at hc2;cases hc2)]]
    exact hs.sub⟩
 obtain rfl:i=past.length:=by omega
 refine SA 2 ha hs λa w ha hs=>?_
 refine RT 0 ha hs ?_
 exact⟨by rw[hwt],hs.sub⟩
theorem ref_ahead {v u:Nat}{last drawn:Int}(hs:St W w L)(hv:v<256)(hu:u<256):Calls Tryz.prog 159 #[.int .i64 v,.int .i64 u,.agg (ints .i64 256 g).toArray,.int .i64 last,.int .i64 drawn] w λe w'=>e=.returned (.bool (aheadB g last drawn v u))∧St W w' L:=by
 refine EN Tryz.func159 Tryz.ntmps159 rfl rfl λa ha=>?_
 refine BX 1 ha hs λb7 a w ha hs=>?_
 refine BY 7 ha hs (λhg3 a ha=>?_) λhg3 a ha=>?_
 ·
  refine RT 10 ha hs ?_
  exact⟨by rw[aheadB,if_pos (.inl hg3)],hs.sub⟩
 refine IF 4 ha hs (λhc0 a ha=>?_) λhc0 a ha=>?_
 ·
  refine RT 5 ha hs ?_
  exact⟨by rw[aheadB,if_pos (.inr hc0)],hs.sub⟩
 refine RN 2 ha hs λa ha=>?_
 have h0:¬ ((v:Int)=drawn∨(u:Int)=drawn):=by omega
 refine DWO 0 [5] [0,1,3,4,3002,1005,6] ha hs λa w ha hs hH hC=>?_
 refine RH 4 ha hs hH hC λa ha=>?_
 refine QH ha (λw hc=>ld1 ha (hc.cell (hs.rd1 (ints_get _ hv)))) hC λa ha=>?_
 refine RH 0 ha hs hH hC λa ha=>?_
 refine SS ha (ld1 ha (hs.rd1 (ints_get _ hu))) λa ha=>?_
 refine RH 1 ha hs hH hC λa ha=>?_
 refine IF 0 ha hs (λhc1 a ha=>?_) λhc1 a ha=>?_
 ·
  refine DWO 1 [5] [0,1,3,4,3002,1005,6,7] ha hs λa w ha hs hH hC=>?_
  refine RH 4 ha hs hH hC λa ha=>?_
  refine QH ha (λw hc=>ld1 ha (hc.cell (hs.rd1 (ints_get _ hv)))) hC λa ha=>?_
  refine RH 0 ha hs hH hC λa ha=>?_
  refine SS ha (ld1 ha (hs.rd1 (ints_get _ hu))) λa ha=>?_
  refine RH 2 ha hs hH hC λa ha=>?_
  refine RT 0 ha hs ?_
  exact⟨by rw[aheadB,if_neg h0,if_pos hc1],hs.sub⟩
 refine RT 5 ha hs ?_
 exact⟨by rw[aheadB,if_neg h0,if_neg (λh=>h hc1)],hs.sub⟩
set_option maxHeartbeats 1000000 in
theorem ref_rank {k:Nat}(hs:St W w L)(hb:mayGs b)(hk:1≤k∧k≤100000)(hpl:past.length≤4000)(hpc:past.length≤c)(hp:∀ w',St W w' L→RdB w' ad past.length past)(ht:∀ w',St W w' L→RdB w' adT b.table.length b.table) :
   Calls Tryz.prog 96 #[.agg (gsC b adT cT).toArray,.slice ad past.length c,.int .i64 k] w λe w'=>∃ (ad':Option Addr) (c':Nat) (out:List UInt8),e=.returned (.slice ad' out.length c')∧(out.length=min k 256∧out[0]?=some (firstB b past))∧St W w' (Sl 5 1 ad' out.length c' (bc out)::L):=by
 have hb':=hb
 simp only[mayGs]at hb'
 refine EN Tryz.func96 Tryz.ntmps96 rfl rfl λa ha=>?_
 refine BX 1 ha hs λb3 a w ha hs=>?_
 change St W w (blk b3 61 (gsC b adT cT)::_) at hs
 refine CL1 4 ha hs (ref_mayBy hs) λr a w ha ⟨hr,hs⟩=>?_
 rw[hr.2 hb]at ha
 refine RN 2 ha hs λa ha=>?_
 replace ha:=ha.isF 17
 refine RN 3 ha hs λa ha=>?_
 rw[decide_eq_false (by omega)]at ha
 refine CL 4 ha hs (ref_weights hs hb hpl hpc (λw' hw=>hp w' hw.tail)) λa w ha hs=>?_
 refine AL 0 ha hs λb7 a w ha hs=>?_
 rw[rep_ints]at hs
 refine SA 0 ha hs λa w ha hs=>?_
 refine RN 3 ha hs λa ha=>?_
 have hlast:(if 0<past.length then ((past.getD (past.length-1) 0).toNat:Int) else 0)=((lastB past).toNat:Nat):=by
   split
   · rw[lastB,List.getLastD_eq_getLast?,List.getLast?_eq_getElem?,List.getD_eq_getElem?_getD]
   · rw[lastB,List.eq_nil_of_length_eq_zero (l:=past) (by omega)];rfl
 refine wp_seq_cut (M:=λa w=>Fr a 86 [(1,.slice ad past.length c),(2,.int .i64 k),(3,pt b3),(7,pt b7),(8,.int .i64 ((lastB past).toNat:Nat)),(9,.int .i64 (-1))]∧St W w (blk b7 245 (ints .i64 256 (wtL b past))::blk b3 61 (gsC b adT cT)::L)) ?_ ?_
 ·
  refine IF 4 ha hs (λhc1 a ha=>?_) λhc1 a ha=>?_
  ·
   obtain⟨bb,oo,rfl,hr2⟩:=(hp _ hs.tail.tail).get (by omega)
   rw[if_pos (by omega)]at hlast
   refine RN 4 ha hs λa ha=>?_
   rw[show ((past.length:Nat):Int)-1=((past.length-1:Nat):Int) from by omega]at ha
   refine RN 1 ha hs λa ha=>?_
   refine SS ha (ld1 ha (hr2 (past.length-1) _ (bc_atD (by omega)))) λa ha=>?_
   refine SX 0 ha hs (i64u8 _) λa ha=>?_
   refine RN 1 ha hs λa ha=>?_
   rw[hlast]at ha;exact⟨ha.keep [1,2,3,7,8,9],hs⟩
  rw[if_neg (by omega)]at hlast
  refine RN 1 ha hs λa ha=>?_
  rw[show (0:Int)=((lastB past).toNat:Nat) from hlast]at ha;exact⟨ha.keep [1,2,3,7,8,9],hs⟩
 clear ha;(try clear hs)
 rintro a w ⟨ha,hs⟩
 refine wp_seq_cut (M:=λa w=>Fr a 86 [(2,.int .i64 k),(3,pt b3),(7,pt b7),(8,.int .i64 ((lastB past).toNat:Nat)),(9,.int .i64 (drawnI b past))]∧St W w (blk b7 245 (ints .i64 256 (wtL b past))::blk b3 61 (gsC b adT cT)::L)) ?_ ?_
 ·
  refine IF 4 ha hs (λhc2 a ha=>?_) λhc2 a ha=>?_
  ·
   refine DWO 0 [5,6,7] [0,2,3,4,3001,1005,1006,1007,8,1009,10,11] ha hs λa w ha hs hH hC=>?_
   have hA:=ha
   obtain⟨bt,ot,rfl,hrt⟩:=(ht _ hs.tail.tail).get (by omega)
   have ha:=hA
   have hmod:past.length%b.table.length<b.table.length:=Nat.mod_lt _ (by omega)
   refine RH 8 ha hs hH hC λa ha=>?_
   rw[remN]at ha
   refine RH 1 ha hs hH hC λa ha=>?_
   refine SS ha (ld1 ha (hrt (past.length%b.table.length) _ (bc_atD hmod))) λa ha=>?_
   refine RH 0 ha hs hH hC λa ha=>?_
   refine QP ha (λw=>ex_convIIs ha Tryz.underlying5 Tryz.underlying3 (i64u8 _)) λa ha=>?_
   refine RH 1 ha hs hH hC λa ha=>?_
   rw[drawnI,if_pos (by omega)];exact⟨ha.keep [2,3,7,8,9],hs⟩
  refine RN 0 ha hs λa ha=>?_
  rw[drawnI,if_neg (by omega)];exact⟨ha.keep [2,3,7,8,9],hs⟩
 clear ha;(try clear hs)
 rintro a w ⟨ha,hs⟩
 refine AL 1 ha hs λb10 a w ha hs=>?_
 rw[rep_tk]at hs
 refine RN 3 ha hs λa ha=>?_
 refine wp_loop_ghost (λμ a w=>∃ (j:Nat) (out:List UInt8) (t:Nat→Bool) (ad2:Option Addr) (c2:Nat),(μ=min k 256-j∧j≤min k 256∧out.length=j∧cntT t 256=j∧(j=0→∀ v,t v=false)∧(1≤j→out[0]?=some (firstB b past)))∧Fr a 86 [(2,.int .i64 k),(3,pt b3),(7,pt b7),(8,.int .i64 ((lastB past).toNat:Nat)),(9,.int .i64 (drawnI b past)),(10,pt b10),(11,.slice ad2 out.length c2)]∧St W w (Sl 5 1 ad2 out.length c2 (bc out)::blk b10 247 (tkC t)::blk b7 245 (ints .i64 256 (wtL b past))::blk b3 61 (gsC b adT cT)::L)) (min k 256) (⟨0,[],λ_=>false,none,0,⟨rfl,by omega,rfl,by decide,λ_ _=>rfl,λh=>by omega⟩,ha.keep [2,3,7,8,9,10,11],hs.sl0 5 1 none⟩) ?_
 clear ha hs
 rintro μ a w ⟨j,out,t,ad2,c2,⟨rfl,hj,hol,hct,hj0,hj1⟩,ha,hs⟩
 refine BY 7 ha hs (λhg4 a ha=>?_) λhg4 a ha=>?_
 ·
  refine IF 4 ha hs (λhc3 a ha=>?_) λhc3 a ha=>?_
  ·
   refine RN 5 ha hs λa ha=>?_
   refine wp_loop_ghost (λμ a w=>∃ (i:Nat) (best:Int),(μ=256-i∧i≤256∧BestT (wtL b past) ((lastB past).toNat:Nat) (drawnI b past) t (decide (j=0)) i best)∧Fr a 86 [(2,.int .i64 k),(3,pt b3),(7,pt b7),(8,.int .i64 ((lastB past).toNat:Nat)),(9,.int .i64 (drawnI b past)),(10,pt b10),(11,.slice ad2 out.length c2),(12,.int .i64 best),(13,.int .i64 i)]∧St W w (Sl 5 1 ad2 out.length c2 (bc out)::blk b10 247 (tkC t)::blk b7 245 (ints .i64 256 (wtL b past))::blk b3 61 (gsC b adT cT)::L)) (256) (⟨0, -1,⟨rfl,by omega,BestT.start⟩,ha.keep [2,3,7,8,9,10,11,12,13],hs⟩) ?_
   clear ha hs
   rintro μ a w ⟨i,best,⟨rfl,hi,hbt⟩,ha,hs⟩
   refine IF 4 ha hs (λhc4 a ha=>?_) λhc4 a ha=>?_
   ·
    have hi6:i<256:=by omega
    have hff:decide (j=0)=true→∀ v,t v=false:=λh=>hj0 (by simpa using h)
    refine RN 4 ha hs λa ha=>?_
    refine SS ha (ld1 ha (hs.rd1 (tkC_get hi6))) λa ha=>?_
    refine BY 2 ha hs (λhg4 a ha=>?_) λhg4 a ha=>?_
    ·
     refine BY 3 ha hs (λhg7 a ha=>?_) λhg7 a ha=>?_
     ·
      refine RN 14 ha hs λa ha=>?_
      exact⟨256-(i+1),by omega,i+1,i,⟨rfl,by omega,hbt.take hg7 hg4 hff⟩,ha.keep [2,3,7,8,9,10,11,12,13],hs⟩
     obtain⟨u,rfl,hu⟩:=hbt.nat (by omega)
     refine CL 5 ha hs (ref_ahead hs hi6 (by omega)) λa w ha hs=>?_
     refine IF 2 ha hs (λhc5 a ha=>?_) λhc5 a ha=>?_
     ·
      refine RN 5 ha hs λa ha=>?_
      exact⟨256-(i+1),by omega,i+1,i,⟨rfl,by omega,BestT.up hu hc5 hg4⟩,ha.keep [2,3,7,8,9,10,11,12,13],hs⟩
     refine RN 3 ha hs λa ha=>?_
     exact⟨256-(i+1),by omega,i+1,u,⟨rfl,by omega,BestT.keep hu hc5⟩,ha.keep [2,3,7,8,9,10,11,12,13],hs⟩
    refine RN 15 ha hs λa ha=>?_
    exact⟨256-(i+1),by omega,i+1,best,⟨rfl,by omega,hbt.skip hg4 hff⟩,ha.keep [2,3,7,8,9,10,11,12,13],hs⟩
   obtain rfl:i=256:=by omega
   obtain⟨u,rfl,hu6,htu,hfu⟩:=hbt.over (by omega)
   refine ST 3 ha hs (λa w ha hs=>?_) (hlt:=(by rw[tkC_len];omega))
   rw[tkC_set]at hs
   refine SX 2 ha hs (by rw[wrap_u8];omega) λa ha=>?_
   rw[show ((u:Nat):Int)=((UInt8.ofNat u).toNat:Int) from by rw[UInt8.toNat_ofNat'];omega]at ha
   refine RN 0 ha hs λa ha=>?_
   refine st_buildSlice ha rfl hs Tryz.underlying22 Ty.t5 rfl rfl rfl rfl (by decide) (by decide) λb83 a w ha hs ho=>?_
   clear ho
   refine RN 0 ha hs λa ha=>?_
   refine st_append ha rfl hs Tryz.underlying22 Ty.t5 rfl rfl hs.rdAll rfl (bc_one [UInt8.ofNat u]) (by decide) (by decide) (by omega) λad84 c84 a w ha hs=>?_
   rw[show bc out++_=bc (out++[UInt8.ofNat u]) from (bc_app _ [_]).symm,show out.length+1=(out++[UInt8.ofNat u]).length from by simp]at hs
   rw[show out.length+1=(out++[UInt8.ofNat u]).length from by simp]at ha
   refine RN 1 ha hs λa ha=>?_
   exact⟨min k 256-(j+1),by omega,j+1,out++[UInt8.ofNat u],_,ad84,c84,⟨rfl,by omega,by rw[List.length_append,hol];rfl,by rw[cntT_set htu,hct,if_pos hu6],λh=>by omega,λ_=>by
     rcases Nat.eq_zero_or_pos j with h0 | h0
     · rw[List.eq_nil_of_length_eq_zero (l:=out) (by omega),hfu (decide_eq_true h0),refB_first hb]
       simp
     · rw[List.getElem?_append_left (by omega)];exact hj1 (by omega)⟩,ha.keep [2,3,7,8,9,10,11],hs.sub⟩
  refine RT 3 ha hs ?_
  exact⟨ad2,c2,out,rfl,⟨by omega,hj1 (by omega)⟩,hs.sub⟩
 refine RT 8 ha hs ?_
 exact⟨ad2,c2,out,rfl,⟨by omega,hj1 (by omega)⟩,hs.sub⟩
theorem ref_chain (hs:St W w L)(hb:mayGs b)(hpl:past.length≤1001)(hpc:past.length≤c)(hn:m≤1000)(hp:∀ w',St W w' L→RdB w' ad past.length past)(ht:∀ w',St W w' L→RdB w' adT b.table.length b.table) :
   Calls Tryz.prog 97 #[.agg (gsC b adT cT).toArray,.slice ad past.length c,.int .i64 m] w λe w'=>∃ ad' c',e=.returned (.slice ad' m c')∧St W w' (Sl 5 1 ad' m c' (bc (chainB b past m))::L):=by
 refine EN Tryz.func97 Tryz.ntmps97 rfl rfl λa ha=>?_
 refine BX 1 ha hs λb3 a w ha hs=>?_
 change St W w (blk b3 61 (gsC b adT cT)::_) at hs
 refine CL1 4 ha hs (ref_mayBy hs) λr a w ha ⟨hr,hs⟩=>?_
 rw[hr.2 hb]at ha
 refine RN 1 ha hs λa ha=>?_
 replace ha:=ha.isF 13
 refine RN 2 ha hs λa ha=>?_
 replace hs:=hs.sl0 5 1 none
 refine RN 1 ha hs λa ha=>?_
 refine st_appendT ha rfl hs Tryz.underlying22 Ty.t5 rfl rfl (by decide) (λh0=>(hp _ hs.tail.tail).get h0) (by rw[bc_len];omega) (bc_one _) (by omega) λad15 c15 a w ha hs=>?_
 rw[List.nil_append,Nat.zero_add]at hs
 rw[Nat.zero_add]at ha
 refine RN 6 ha hs λa ha=>?_
 refine wp_loop_ghost (λμ a w=>∃ (i:Nat) (ad2:Option Addr) (c2:Nat) (ad3:Option Addr) (c3:Nat),(μ=m-i∧i≤m)∧Fr a 41 [(2,.int .i64 m),(3,pt b3),(7,.slice ad2 (chainN b past i).length c2),(8,.slice ad3 i c3),(9,.int .i64 i)]∧St W w (Sl 5 1 ad3 i c3 (bc (chainB b past i))::Sl 5 1 ad2 (chainN b past i).length c2 (bc (chainN b past i))::blk b3 61 (gsC b adT cT)::L)) (m) (⟨0,ad15,c15,none,0,⟨rfl,by omega⟩,ha.keep [2,3,7,8,9],by
   have h1:chainB b past 0=[]:=List.eq_nil_of_length_eq_zero (chainB_len b past 0)
   rw[h1];exact hs.sl0 5 1 none⟩) ?_
 clear ha hs
 rintro μ a w ⟨i,ad2,c2,ad3,c3,⟨rfl,hi⟩,ha,hs⟩
 refine BY 6 ha hs (λhg3 a ha=>?_) λhg3 a ha=>?_
 ·
  refine RN 3 ha hs λa ha=>?_
  rw[decide_eq_true (by omega)]at ha
  refine RN 3 ha hs λa ha=>?_
  have hcl:=chainN_len b past i
  have hc2l:=(hs.sl ad2).2
  have him:i<m:=by omega
  refine CL3 2 ha hs (ref_rank (past:=chainN b past i) (k:=1) hs hb (by decide) (by omega) hc2l (λw' hw=>hw.rdB ad2 (chainN b past i) rfl rfl) (λw' hw=>ht w' hw.tail.tail.tail)) λadr cr out a w ha ⟨⟨hol,ho0⟩,hs⟩=>?_
  refine RN 1 ha hs λa ha=>?_
  obtain⟨x,rfl⟩:∃ x,out=[x]:=by
    match out,hol with
    | [x],_=>exact⟨x,rfl⟩
  obtain rfl:x=firstB b (chainN b past i):=by simpa using ho0
  obtain⟨br,or',rfl,hrr⟩:=hs.slRd adr (by simp)
  refine SX 3 ha hs (by simp) λa ha=>?_
  refine RN 0 ha hs λa ha=>?_
  refine SS ha (ld1 ha (hrr 0 _ rfl)) λa ha=>?_
  refine RN 0 ha hs λa ha=>?_
  refine st_buildSlice ha rfl hs Tryz.underlying22 Ty.t5 rfl rfl rfl rfl (by decide) (by decide) λb32 a w ha hs ho=>?_
  clear ho
  refine RN 0 ha hs λa ha=>?_
  refine st_append ha rfl hs Tryz.underlying22 Ty.t5 rfl rfl hs.rdAll rfl (bc_one [firstB b (chainN b past i)]) (by decide) (by decide) (by omega) λad33 c33 a w ha hs=>?_
  rw[show bc (chainN b past i)++_=bc (chainN b past (i+1)) from (bc_app _ [_]).symm,show (chainN b past i).length+1=(chainN b past (i+1)).length from by rw[chainN_len,chainN_len];omega]at hs
  rw[show (chainN b past i).length+1=(chainN b past (i+1)).length from by rw[chainN_len,chainN_len];omega]at ha
  refine RN 1 ha hs λa ha=>?_
  replace hrr:=hs.slRdAt br or' (by simp)
  refine SX 2 ha hs (by simp) λa ha=>?_
  refine RN 0 ha hs λa ha=>?_
  refine SS ha (ld1 ha (hrr 0 _ rfl)) λa ha=>?_
  refine RN 0 ha hs λa ha=>?_
  refine st_buildSlice ha rfl hs Tryz.underlying22 Ty.t5 rfl rfl rfl rfl (by decide) (by decide) λb38 a w ha hs ho=>?_
  clear ho
  refine RN 0 ha hs λa ha=>?_
  refine st_append ha rfl hs Tryz.underlying22 Ty.t5 rfl rfl hs.rdAll rfl (bc_one [firstB b (chainN b past i)]) (by decide) (by decide) (by omega) λad39 c39 a w ha hs=>?_
  rw[show bc (chainB b past i)++_=bc (chainB b past (i+1)) from by rw[chainB_succ,chain_all];exact (bc_app _ [_]).symm]at hs
  refine RN 4 ha hs λa ha=>?_
  exact⟨m-(i+1),by omega,i+1,ad33,c33,ad39,c39,⟨rfl,by omega⟩,ha.keep [2,3,7,8,9],hs.sub⟩
 refine RT 7 ha hs ?_
 obtain rfl:i=m:=by omega
 exact⟨_,_,rfl,hs.sub⟩
end
end
section
def FitB (to:Nat)(l x:List UInt8):Prop:=(∃ t,x=l++t)∧to≤x.length∧x.length≤1001
def aheadX (X:List (List UInt8))(front to:Nat):List (List UInt8):=(List.range (to-front)).map λi=>jointL X (front+i)
theorem aheadX_full (b:Gs)(ls:List (List UInt8))(to:Nat):aheadX (fullL b ls to) (frontL ls) to=aheadL b ls to:=rfl
theorem aheadX_len (X:List (List UInt8))(front to:Nat):(aheadX X front to).length=to-front:=by simp[aheadX]
structure FitX (to:Nat)(ls X:List (List UInt8)):Prop where
 len:X.length=ls.length
 fit:∀ (j:Nat) (l x:List UInt8),ls[j]?=some l→X[j]?=some x→FitB to l x
theorem fullB_fit {b:Gs}{l:List UInt8}{to:Nat}(h:l.length≤1000)(h2:to≤1000):FitB to l (fullB b l to):=by
 refine⟨⟨chainB b l (to-l.length),?_⟩,fullB_len b l to,?_⟩
 · rw[fullB,chain_all]
 · rw[fullB,chainN_len];omega
theorem fullB_long {b:Gs}{l:List UInt8}{to:Nat}(h:to≤l.length):fullB b l to=l:=by rw[fullB,show to-l.length=0 from by omega];rfl
structure RankS:Prop where
 rank:∀ {W w:World} {L:List SP} {c k cT:Nat} {ad adT:Option Addr} {past:List UInt8} {b:Gs},St W w L→mayGs b→(1≤k∧k≤256)→past.length≤1000→past.length≤c→(∀ w',St W w' L→RdB w' ad past.length past)→(∀ w',St W w' L→RdB w' adT b.table.length b.table) →
 Calls Tryz.prog 208 #[.agg (gsC b adT cT).toArray,.slice ad past.length c,.int .i64 k] w λe w'=>∃ (ad':Option Addr) (c':Nat) (out:List UInt8),e=.returned (.slice ad' out.length c')∧out.length=k∧St W w' (Sl 5 1 ad' out.length c' (bc out)::L)
section
variable {W w:World}{L:List SP}{c m cT to r:Nat}{ad adT:Option Addr}{past:List UInt8}{b:Gs}
set_option maxHeartbeats 1000000 in
theorem guess_line (hR:r=0∨RankS)(hr:r≤100000)(hs:St W w (Sl 5 1 ad past.length c (bc past)::L))(hb:mayGs b)(hpl:past.length≤1000)(hto:to≤1000)(ht:∀ w',St W w' L→RdB w' adT b.table.length b.table) :
   Calls Tryz.prog 151 #[.slice ad past.length c,.agg (gsC b adT cT).toArray,.int .i64 r,.int .i64 to] w λe w'=>∃ (ad':Option Addr) (c':Nat) (x:List UInt8),e=.returned (.slice ad' x.length c')∧(FitB to past x∧(r=0→x=fullB b past to)) ∧
     St W w' (Sl 5 1 ad' x.length c' (bc x)::L):=by
 have hpc:=(hs.sl ad).2
 refine EN Tryz.func151 Tryz.ntmps151 rfl rfl λa ha=>?_
 refine BX 1 ha hs λb5 a w ha hs=>?_
 change St W w (blk b5 150 (gsC b adT cT)::_) at hs
 refine IF 7 ha hs (λhc0 a ha=>?_) λhc0 a ha=>?_
 ·
  refine RT 3 ha hs ?_
  exact⟨ad,c,past,rfl,⟨⟨⟨[],by simp⟩,by omega,by omega⟩,λ_=>(fullB_long (by omega)).symm⟩,hs.tail⟩
 refine RN 0 ha hs λa ha=>?_
 refine wp_seq_cut (M:=λa w=>∃ (ad2:Option Addr) (c2:Nat) (y:List UInt8),((∃ t,y=past++t)∧y.length≤past.length+1∧past.length<to∧(r=0→y=past))∧Fr a 48 [(0,.slice ad2 y.length c2),(3,.int .i64 to),(5,pt b5)]∧St W w (Sl 5 1 ad2 y.length c2 (bc y)::blk b5 150 (gsC b adT cT)::L)) ?_ ?_
 ·
  refine SX 2 ha hs (by decide) λa ha=>?_
  rw[show ((r:Nat):Int).tmod 256=((r%256:Nat):Int) from remN _ 256]at ha
  refine RN 1 ha hs λa ha=>?_
  have hr6:r%256<256:=Nat.mod_lt _ (by decide)
  generalize hre:r%256=r6 at ha hr6
  refine IF 3 ha hs (λhc1 a ha=>?_) λhc1 a ha=>?_
  ·
   have hRk:=hR.resolve_left (λh=>by rw[h]at hre;omega)
   have hp0:=hs.drew.tail.tail
   refine DWO 0 [] [0,1,2,3,4,5,7,8,9,11,1006,1010,12,1013,1014,1015,16] ha hs λa w ha hs hH hC=>?_
   refine RH 5 ha hs hH hC λa ha=>?_
   refine QP ha (λw=>ex_sliceHM ha Tryz.underlying22 Ty.t5 (Nat.le_refl _) (by omega)) λa ha=>?_
   rw[cutAd_zero]at ha
   refine RH 3 ha hs hH hC λa ha=>?_
   rw[show ((r6:Nat):Int)+1=((r6+1:Nat):Int) from by omega]at ha
   refine RH 2 ha hs hH hC λa ha=>?_
   refine CL3 0 ha hs (hRk.rank hs hb (by omega) hpl hpc (λw' hw=>hw.tail.rdB ad past rfl rfl) (λw' hw=>ht w' hw.tail.tail)) λadr cr out a w ha ⟨hol,hs⟩=>?_
   obtain⟨br,or',rfl,hrr⟩:=hs.slRd adr (by omega)
   refine RN 1 ha hs λa ha=>?_
   refine SS ha (ld1 ha (hrr r6 _ (bc_at (by omega)))) λa ha=>?_
   refine RN 0 ha hs λa ha=>?_
   refine st_buildSlice ha rfl hs Tryz.underlying22 Ty.t5 rfl rfl rfl rfl (by decide) (by decide) λb32 a w ha hs ho=>?_
   clear ho
   replace hs:=hs.cutSlM ad past.length (Nat.le_refl _)
   rw[cutAd_zero,Nat.mul_one,List.take_of_length_le (by rw[bc_len];exact Nat.le_refl _)]at hs
   refine RN 0 ha hs λa ha=>?_
   refine st_append ha rfl hs Tryz.underlying22 Ty.t5 rfl rfl hs.rdAll rfl (bc_one [out[r6]]) (by decide) (by decide) (by omega) λad33 c33 a w ha hs=>?_
   rw[show bc past++_=bc (past++[out[r6]]) from (bc_app _ [_]).symm,show past.length+1=(past++[out[r6]]).length from by simp]at hs
   rw[show past.length+1=(past++[out[r6]]).length from by simp]at ha
   refine RN 1 ha hs λa ha=>?_
   exact⟨ad33,c33,past++[out[r6]],⟨⟨_,rfl⟩,by simp,by omega,λh=>by rw[h]at hre;omega⟩,ha.keep [0,3,5],hs.sub⟩
  have hr60:r6=0:=by omega
  refine RN 0 ha hs λa ha=>?_
  exact⟨ad,c,past,⟨⟨[],by simp⟩,by omega,by omega,λ_=>rfl⟩,ha.keep [0,3,5],hs.sub⟩
 clear ha;(try clear hs)
 rintro a w ⟨ad2,c2,y,⟨hy1,hy2,hy4,hy3⟩,ha,hs⟩
 refine RN 1 ha hs λa ha=>?_
 have hyl:y.length≤to:=by omega
 have hyc:=(hs.sl ad2).2
 refine DWO 0 [] [0,1,2,3,4,5,7,8,9,10,11,1006,1012,1013,14] ha hs λa w ha hs hH hC=>?_
 refine RH 5 ha hs hH hC λa ha=>?_
 refine QP ha (λw=>ex_sliceHM ha Tryz.underlying22 Ty.t5 (Nat.le_refl _) (by omega)) λa ha=>?_
 rw[cutAd_zero]at ha
 refine RH 5 ha hs hH hC λa ha=>?_
 rw[show ((to:Nat):Int)-((y.length:Nat):Int)=((to-y.length:Nat):Int) from by omega]at ha
 refine RH 1 ha hs hH hC λa ha=>?_
 refine CL2 0 ha hs (pred_chain (to:=0) (past:=y) (m:=to-y.length) hs hb (by omega) hyc (by omega) (λw' hw=>hw.rdB ad2 y rfl rfl) (λw' hw=>ht w' hw.tail.tail)) λadc cc a w ha hs=>?_
 replace hs:=hs.cutSlM ad2 y.length (Nat.le_refl _)
 rw[cutAd_zero,Nat.mul_one,List.take_of_length_le (by rw[bc_len];exact Nat.le_refl _)]at hs
 have hchl:=chainB_len b y (to-y.length)
 refine RN 0 ha hs λa ha=>?_
 refine st_appendT ha rfl hs Tryz.underlying22 Ty.t5 rfl rfl (by decide) (λh0=>(hs.tail.rdB adc (chainB b y (to-y.length)) rfl hchl).get h0) (by rw[bc_len];omega) (bc_one _) (by omega) λad47 c47 a w ha hs=>?_
 rw[← bc_app,chain_all,show y.length+(to-y.length)=(chainN b y (to-y.length)).length from by rw[chainN_len]]at hs
 rw[show y.length+(to-y.length)=(chainN b y (to-y.length)).length from by rw[chainN_len]]at ha
 refine RN 1 ha hs λa ha=>?_
 refine RT 0 ha hs ?_
 obtain⟨t,hyt⟩:=hy1
 refine⟨ad47,c47,_,rfl,⟨⟨⟨t++chainB b y (to-y.length),?_⟩,by rw[chainN_len];omega,by rw[chainN_len];omega⟩,λh=>?_⟩,hs.sub⟩
 · rw[← chain_all,hyt,List.append_assoc]
 · rw[hy3 h,fullB]
set_option maxHeartbeats 1000000 in
theorem guess_ahead {qb:Nat}{lbs:List Nat}{ls:List (List UInt8)}(hR:r=0∨RankS)(hr:r≤100000)(hs:St W w (Qu qb lbs ls::L))(hb:mayGs b)(h0:ls≠[])(h8:ls.length≤8)(hl:∀ l∈ls,l.length≤1000)(hto:to≤1000)(ht:∀ w',St W w' L→RdB w' adT b.table.length b.table) :
   Calls Tryz.prog 86 #[pt qb,.agg (gsC b adT cT).toArray,.int .i64 r,.int .i64 to] w λe w'=>∃ (ad':Option Addr) (c':Nat) (X:List (List UInt8)),e=.returned (.slice ad' (to-frontL ls) c')∧(FitX to ls X∧(r=0→X=fullL b ls to)) ∧
     St W w' (OwnBB ad' (to-frontL ls) c' (aheadX X (frontL ls) to)::Qu qb lbs ls::L):=by
 refine EN Tryz.func86 Tryz.ntmps86 rfl rfl λa ha=>?_
 refine BX 1 ha hs λb5 a w ha hs=>?_
 change St W w (blk b5 150 (gsC b adT cT)::_) at hs
 refine RN 6 ha hs λa ha=>?_
 replace ha:=ha.isF 21
 refine CL1 1 ha hs (pred_may hs) λrr a w ha ⟨hrr,hs⟩=>?_
 rw[hrr.2 hb]at ha
 refine RN 3 ha hs λa ha=>?_
 replace ha:=ha.isF 26
 refine RN 4 ha hs λa ha=>?_
 rw[decide_eq_false (by omega)]at ha
 refine RN 3 ha hs λa ha=>?_
 rw[decide_eq_false (by omega)]at ha
 refine CL 3 ha hs (queue_front (hs.pick (Qu qb lbs ls)) h0 h8) λa w ha hs=>?_
 refine CL 6 ha hs (queue_n hs) λa w ha hs=>?_
 refine RN 1 ha hs λa ha=>?_
 replace hs:=hs.sl0 22 1 none
 replace hs:=St.allNil (f:=bbo) hs
 refine wp_loop_ghost (λμ a w=>∃ (i:Nat) (rr:Nat) (xs:List BBx) (adx:Option Addr) (cx:Nat),(μ=ls.length-i∧i≤ls.length∧xs.length=i∧(rr=0∨RankS)∧rr≤100000∧(r=0→rr=0)∧(∀ (j:Nat) (l:List UInt8) (x:BBx),ls[j]?=some l→xs[j]?=some x→FitB to l x.2.2)∧(r=0→xs.map (·.2.2)=(fullL b ls to).take i))∧Fr a 84 [(0,pt qb),(2,.int .i64 rr),(3,.int .i64 to),(5,pt b5),(9,.int .i64 (frontL ls)),(10,.slice adx i cx),(37,.int .i64 ls.length),(38,.int .i64 i)]∧St W w (Sl 22 1 adx i cx (xs.map bbv)::All bbo xs::Qu qb lbs ls::blk b5 150 (gsC b adT cT)::L)) (ls.length) (⟨0,r,[],none,0,⟨rfl,by omega,rfl,hR,hr,λh=>h,λj l x _ h=>by simp at h,λ_=>rfl⟩,ha.keep [0,2,3,5,9,10,37,38],(hs.sub:St W w (Sl 22 1 none 0 0 []::All bbo []::Qu qb lbs ls::blk b5 150 (gsC b adT cT)::L))⟩) ?_
 clear ha hs
 rintro μ a w ⟨i,rr,xs,adx,cx,⟨rfl,hi,hxl,hRr,hrr1,hrr0,hfit,hful⟩,ha,hs⟩
 refine IF 3 ha hs (λhc1 a ha=>?_) λhc1 a ha=>?_
 ·
  have hil:i<ls.length:=by omega
  have hlt:=hl _ (ln_mem hil)
  refine CL 7 ha hs (queue_line (hs.pick (Qu qb lbs ls)) hil) λa w ha hs=>?_
  refine CL2 0 ha hs (q_all hs hil hlt) λadp cp a w ha hs=>?_
  refine RN 3 ha hs λa ha=>?_
  refine wp_seq_cut (M:=λa w=>∃ k rr':Nat,((k=0∨RankS)∧k≤100000∧(rr'=0∨RankS)∧rr'≤100000∧(r=0→k=0∧rr'=0))∧Fr a 84 [(0,pt qb),(2,.int .i64 rr'),(3,.int .i64 to),(5,pt b5),(9,.int .i64 (frontL ls)),(10,.slice adx i cx),(12,.slice adp (ls.getD i []).length cp),(13,.int .i64 k),(37,.int .i64 ls.length),(38,.int .i64 i)]∧St W w (Sl 5 1 adp (ls.getD i []).length cp (bc (ls.getD i []))::Sl 22 1 adx i cx (xs.map bbv)::All bbo xs::Qu qb lbs ls::blk b5 150 (gsC b adT cT)::L)) ?_ ?_
  ·
   refine IF 5 ha hs (λhc2 a ha=>?_) λhc2 a ha=>?_
   ·
    refine RN 3 ha hs λa ha=>?_
    exact⟨rr,0,⟨hRr,hrr1,.inl rfl,by omega,λh=>⟨hrr0 h,rfl⟩⟩,ha.keep [0,2,3,5,9,10,12,13,37,38],hs.sub⟩
   refine RN 0 ha hs λa ha=>?_
   exact⟨0,rr,⟨.inl rfl,by omega,hRr,hrr1,λh=>⟨rfl,hrr0 h⟩⟩,ha.keep [0,2,3,5,9,10,12,13,37,38],hs.sub⟩
  clear ha;(try clear hs)
  rintro a w ⟨k,rr',⟨hk1,hk2,hk3,hk4,hk5⟩,ha,hs⟩
  refine CL3 5 ha hs (guess_line hk1 hk2 hs hb hlt hto (λw' hw=>ht w' hw.tail.tail.tail.tail)) λadl cl x a w ha ⟨⟨hfx,hfu⟩,hs⟩=>?_
  refine RN 0 ha hs λa ha=>?_
  refine st_buildSlice ha rfl hs Tryz.underlying42 Ty.t22 rfl rfl rfl rfl (by decide) (by decide) λb56 a w ha hs ho=>?_
  clear ho
  refine RN 0 ha hs λa ha=>?_
  refine st_append ha rfl hs Tryz.underlying42 Ty.t22 rfl rfl hs.rdAll rfl (by simp[Value.oneCell']) (by decide) (by decide) (by omega) λad57 c57 a w ha hs=>?_
  rw[show List.map bbv xs++_=List.map bbv (xs++[(adl,cl,x)]) from by rw[List.map_append];rfl]at hs
  refine RN 3 ha hs λa ha=>?_
  have hs2:=St.allPush (f:=bbo) (x:=(adl,cl,x)) (hs.sub (M:=Sl 5 1 adl x.length cl (bc x)::All bbo xs::Sl 22 1 ad57 (i+1) c57 ((xs++[(adl,cl,x)]).map bbv)::Qu qb lbs ls::blk b5 150 (gsC b adT cT)::L))
  refine⟨ls.length-(i+1),by omega,i+1,rr',xs++[(adl,cl,x)],ad57,c57,⟨rfl,by omega,by rw[List.length_append,hxl];rfl,hk3,hk4,λh=>(hk5 h).2,λj l y hj hy=>?_,λh=>?_⟩,ha.keep [0,2,3,5,9,10,37,38],hs2.sub⟩
  · by_cases hji:j<i
    · rw[List.getElem?_append_left (by omega)]at hy
      exact hfit j l y hj hy
    · have hjl:=(List.getElem?_eq_some_iff.1 hy).1
      rw[List.length_append,List.length_singleton]at hjl
      obtain rfl:j=i:=by omega
      rw[List.getElem?_append_right (by omega),hxl,Nat.sub_self]at hy
      obtain rfl:(adl,cl,x)=y:=by simpa using hy
      rw[show l=ls.getD j [] from by rw[List.getD_eq_getElem?_getD,hj];rfl]
      exact hfx
  · rw[List.map_append,hful h,List.take_succ_eq_append_getElem (by rw[fullL,List.length_map];exact hil)]
    congr 1
    rw[List.map_singleton,hfu (hk5 h).1]
    simp[fullL,List.getD_eq_getElem?_getD,hil]
 obtain rfl:i=ls.length:=by omega
 have hX:FitX to ls (xs.map (·.2.2)):=⟨by rw[List.length_map];exact hxl,λj l x hj hx=>by
   rw[List.getElem?_map]at hx
   obtain⟨y,hy,rfl⟩:=Option.map_eq_some_iff.1 hx
   exact hfit j l y hj hy⟩
 have hXf:r=0→xs.map (·.2.2)=fullL b ls to:=λh=>by rw[hful h,List.take_of_length_le (by rw[fullL,List.length_map];exact Nat.le_refl _)]
 clear hfit hful
 have hfr:frontL ls≤1000:=by
   obtain⟨l,hl1,hl2⟩:=frontL_some h0
   rw[hl2];exact hl l hl1
 refine RN 6 ha hs λa ha=>?_
 replace hs:=hs.sl0 22 1 none
 replace hs:=St.allNil (f:=bbo) hs
 refine wp_loop_ghost (λμ a w=>∃ (d:Nat) (zs:List BBx) (adz:Option Addr) (cz:Nat),(μ=to-frontL ls-d∧d≤to-frontL ls∧zs.map (·.2.2)=(List.range d).map λi=>jointL (xs.map (·.2.2)) (frontL ls+i))∧Fr a 84 [(3,.int .i64 to),(10,.slice adx ls.length cx),(14,.slice adz d cz),(15,.int .i64 (frontL ls+d:Nat))]∧St W w (Sl 22 1 adz d cz (zs.map bbv)::All bbo zs::Sl 22 1 adx ls.length cx (xs.map bbv)::All bbo xs::Qu qb lbs ls::L)) (to-frontL ls) (⟨0,[],none,0,⟨rfl,by omega,rfl⟩,by rw[Nat.add_zero];exact ha.keep [3,10,14,15],(hs.sub:St W w (Sl 22 1 none 0 0 []::All bbo []::Sl 22 1 adx ls.length cx (xs.map bbv)::All bbo xs::Qu qb lbs ls::L))⟩) ?_
 clear ha hs
 rintro μ a w ⟨d,zs,adz,cz,⟨rfl,hd,hzs⟩,ha,hs⟩
 refine IF 5 ha hs (λhc3 a ha=>?_) λhc3 a ha=>?_
 ·
  refine RN 3 ha hs λa ha=>?_
  replace hs:=hs.sl0 5 1 none
  refine RN 5 ha hs λa ha=>?_
  refine wp_loop_ghost (λμ a w=>∃ (i:Nat) (adj:Option Addr) (cj:Nat),(μ=ls.length-i∧i≤ls.length)∧Fr a 84 [(3,.int .i64 to),(10,.slice adx ls.length cx),(14,.slice adz d cz),(15,.int .i64 (frontL ls+d:Nat)),(16,.slice adj i cj),(65,.slice adx ls.length cx),(66,.int .i64 ls.length),(67,.int .i64 i)]∧St W w (Sl 5 1 adj i cj (bc (jointN (xs.map (·.2.2)) (frontL ls+d) i))::Sl 22 1 adz d cz (zs.map bbv)::All bbo zs::Sl 22 1 adx ls.length cx (xs.map bbv)::All bbo xs::Qu qb lbs ls::L)) (ls.length) (⟨0,none,0,⟨rfl,by omega⟩,ha.keep [3,10,14,15,16,65,66,67],hs⟩) ?_
  clear ha hs
  rintro μ a w ⟨i,adj,cj,⟨rfl,hi⟩,ha,hs⟩
  refine IF 3 ha hs (λhc4 a ha=>?_) λhc4 a ha=>?_
  ·
   have hil:i<ls.length:=by omega
   obtain⟨x,hx⟩:∃ x,xs[i]?=some x:=⟨_,List.getElem?_eq_getElem (by omega)⟩
   have hrX:=St.rdX (xs:=xs) (hs.sub (M:=Sl 22 1 adx ls.length cx (xs.map bbv)::All bbo xs::[]))
   obtain⟨bx,ox,rfl,hrx⟩:=hrX.1 (by omega)
   have hxf:=hX.fit i _ x.2.2 (List.getElem?_eq_getElem hil) (by rw[List.getElem?_map,hx];rfl)
   obtain⟨bl,ol,hxe,hrl⟩:=(hrX.2 x (List.mem_of_getElem? hx)).get (by have:=hxf.2.1;omega)
   refine RN 3 ha hs λa ha=>?_
   refine SS ha (ld1 ha (hrx i (bbv x) (by rw[List.getElem?_map,hx];rfl))) λa ha=>?_
   refine RN 4 ha hs λa ha=>?_
   rw[bbv,hxe]at ha
   refine SX 0 ha hs (by have:=hxf.2.1;omega) λa ha=>?_
   refine RN 0 ha hs λa ha=>?_
   refine SS ha (ld1 ha (hrl (frontL ls+d) _ (bc_atD (by have:=hxf.2.1;omega)))) λa ha=>?_
   refine RN 0 ha hs λa ha=>?_
   refine st_buildSlice ha rfl hs Tryz.underlying22 Ty.t5 rfl rfl rfl rfl (by decide) (by decide) λb76 a w ha hs ho=>?_
   clear ho
   refine RN 0 ha hs λa ha=>?_
   refine st_append ha rfl hs Tryz.underlying22 Ty.t5 rfl rfl hs.rdAll rfl (bc_one [x.2.2.getD (frontL ls+d) 0]) (by decide) (by decide) (by omega) λad77 c77 a w ha hs=>?_
   rw[show bc (jointN (xs.map (·.2.2)) (frontL ls+d) i)++_=bc (jointN (xs.map (·.2.2)) (frontL ls+d) (i+1)) from by rw[jointN_succ (by rw[List.length_map];omega),List.getElem_map,bc_app,(List.getElem?_eq_some_iff.1 hx).2]]at hs
   refine RN 3 ha hs λa ha=>?_
   exact⟨ls.length-(i+1),by omega,i+1,ad77,c77,⟨rfl,by omega⟩,ha.keep [3,10,14,15,16,65,66,67],hs.sub⟩
  obtain rfl:i=ls.length:=by omega
  have hjl:jointN (xs.map (·.2.2)) (frontL ls+d) ls.length=jointL (xs.map (·.2.2)) (frontL ls+d):=by
    conv=>lhs;rw[← hX.len]
    exact jointN_all _ _
  rw[hjl]at hs
  have hjn:(jointL (xs.map (·.2.2)) (frontL ls+d)).length=ls.length:=by rw[jointL_len];exact hX.len
  refine RN 2 ha hs λa ha=>?_
  refine st_buildSlice ha rfl hs Tryz.underlying42 Ty.t22 rfl rfl rfl rfl (by decide) (by decide) λb81 a w ha hs ho=>?_
  clear ho
  refine RN 0 ha hs λa ha=>?_
  refine st_append ha rfl hs Tryz.underlying42 Ty.t22 rfl rfl hs.rdAll rfl (by simp[Value.oneCell']) (by decide) (by decide) (by omega) λad82 c82 a w ha hs=>?_
  rw[show List.map bbv zs++_=List.map bbv (zs++[(adj,cj,jointL (xs.map (·.2.2)) (frontL ls+d))]) from by rw[List.map_append,List.map_singleton,bbv,hjn];rfl]at hs
  refine RN 4 ha hs λa ha=>?_
  have hs2:=St.allPush (f:=bbo) (x:=(adj,cj,jointL (xs.map (·.2.2)) (frontL ls+d))) (by
    rw[bbo,hjn]
    exact hs.sub (M:=Sl 5 1 adj ls.length cj (bc (jointL (xs.map (·.2.2)) (frontL ls+d)))::All bbo zs::Sl 22 1 ad82 (d+1) c82 ((zs++[(adj,cj,jointL (xs.map (·.2.2)) (frontL ls+d))]).map bbv)::Sl 22 1 adx ls.length cx (xs.map bbv)::All bbo xs::Qu qb lbs ls::L))
  exact⟨to-frontL ls-(d+1),by omega,d+1,zs++[(adj,cj,jointL (xs.map (·.2.2)) (frontL ls+d))],ad82,c82,⟨rfl,by omega,by rw[List.map_append,hzs,List.range_succ,List.map_append];rfl⟩,by rw[show ((frontL ls+(d+1):Nat):Int)=((frontL ls+d:Nat):Int)+1 from by omega];exact ha.keep [3,10,14,15],hs2.sub⟩
 obtain rfl:d=to-frontL ls:=by omega
 refine RT 3 ha hs ?_
 exact⟨adz,cz,xs.map (·.2.2),rfl,⟨hX,hXf⟩,OwnBB.close (xs:=zs) (hs.sub (M:=Sl 22 1 adz (to-frontL ls) cz (zs.map bbv)::All bbo zs::Qu qb lbs ls::L)) hzs (aheadX_len _ _ _)⟩
end
end
end Go.Proofs.YtdilfdkendjjhaaGreat
