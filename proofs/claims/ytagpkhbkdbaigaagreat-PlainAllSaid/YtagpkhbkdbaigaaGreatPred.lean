/- Guesses: predict.May, weights, last, first, Chain. -/
import Derived.Test.YtagpkhbkdbaigaaGreatLin
namespace Go.Proofs.YtagpkhbkdbaigaaGreat
open Go.RowKit
set_option linter.unusedVariables false
set_option linter.unusedSimpArgs false
set_option maxRecDepth 10000
set_option synthInstance.maxSize 4000
set_option synthInstance.maxHeartbeats 400000
theorem rep_ints (k : IntKind) (m : Nat) (x : Int) : List.replicate m (Value.int k x)=ints k m (fun _=>x):=by
 apply List.ext_getElem (by simp [ints,fn])
 intro i h1 h2
 simp [ints,fn]
def gsC (b : Gs) (adT : Option Addr) (cT : Nat) : List Value:=[.int .i64 b.kind,.int .i64 b.order,.slice adT b.table.length cT]
theorem bc_drop (l : List UInt8) (k : Nat) : bc (l.drop k)=(bc l).drop k:=by rw [bc,bc,List.map_drop]
section
variable {W w : World} {L L' R : List SP} {n c m cT : Nat} {ad adT : Option Addr} {past : List UInt8} {b : Gs}
theorem pred_may (hs : St W w L) : Calls Tryz.prog 38 #[.agg (gsC b adT cT).toArray] w fun e w'=>∃ r : Bool,e=.returned (.bool r)∧(r=true ↔ mayGs b)∧St W w' L:=by
 refine calls_enter Tryz.func38 rfl Tryz.ntmps38 (Nat.le_of_ble_eq_true rfl) ?_
 intro a ha
 replace ha : Fr a 49 [(0,_)]:=ha
 refine WS<|WR ?_
 refine SK (st_box ha rfl hs rfl fun b1 a w ha hs ho=>?_)
 clear ho
 change St W w (blk b1 78 (gsC b adT cT)::_) at hs
 refine S1 ha fun a ha=>?_
 refine LN<|TN<|WS<|WS<|WR ?_
 refine S1 ha fun a ha=>?_
 refine SL ha (hs.rd1 rfl) fun a ha=>?_
 refine LN<|TN<|wp_block<|WS<|WR ?_
 iterate 2 (refine S1 ha fun a ha=>?_)
 refine LN<|TN ?_
 refine WI ha (fun hc0=>?_) (fun hc0=>?_)
 ·
  refine WS<|WR ?_
  refine S1 ha fun a ha=>?_
  refine SL ha (hs.rd1 rfl) fun a ha=>?_
  iterate 2 (refine S1 ha fun a ha=>?_)
  refine ha.by (s:=10) (fun hg3 ha=>?_) (fun hg3 ha=>?_)
  ·
   refine S1g (s:=10) ha fun a ha=>?_
   refine SLg (s:=10) ha (hs.rd1 rfl) fun a ha=>?_
   iterate 2 (refine S1g (s:=10) ha fun a ha=>?_)
   refine PT ha fun a ha=>?_
   refine S1d ha fun a ha=>?_
   refine LN<|TN<|wp_ret<|BR<|TR ?_
   refine ret1 ha rfl ?_
   exact ⟨_,rfl,(by rw [decide_eq_true_iff,mayGs]; omega),hs.sub⟩
  ·
   iterate 4 (refine SO (s:=10) ha fun a ha=>?_)
   refine PF ha fun a ha=>?_
   refine S1d ha fun a ha=>?_
   refine LN<|TN<|wp_ret<|BR<|TR ?_
   refine ret1 ha rfl ?_
   exact ⟨_,rfl,⟨fun h=>(by cases h),fun h=>by rw [mayGs] at h; exfalso; omega⟩,hs.sub⟩
 ·
  refine WS<|WR ?_
  iterate 2 (refine S1 ha fun a ha=>?_)
  refine LN<|TN ?_
  refine WI ha (fun hc1=>?_) (fun hc1=>?_)
  ·
   refine WS<|WR ?_
   refine S1 ha fun a ha=>?_
   refine SL ha (hs.rd1 rfl) fun a ha=>?_
   iterate 2 (refine S1 ha fun a ha=>?_)
   refine ha.by (s:=21) (fun hg3 ha=>?_) (fun hg3 ha=>?_)
   ·
    refine S1g (s:=21) ha fun a ha=>?_
    refine SLg (s:=21) ha (hs.rd1 rfl) fun a ha=>?_
    refine S1g (s:=21) ha fun a ha=>?_
    refine PT ha fun a ha=>?_
    refine S1 ha fun a ha=>?_
    refine ha.by (s:=26) (fun hg8 ha=>?_) (fun hg8 ha=>?_)
    ·
     refine S1g (s:=26) ha fun a ha=>?_
     refine SLg (s:=26) ha (hs.rd1 rfl) fun a ha=>?_
     iterate 2 (refine S1g (s:=26) ha fun a ha=>?_)
     refine PT ha fun a ha=>?_
     refine S1d ha fun a ha=>?_
     refine LN<|TN<|wp_ret<|BR<|TR ?_
     refine ret1 ha rfl ?_
     exact ⟨_,rfl,(by rw [decide_eq_true_iff,mayGs]; omega),hs.sub⟩
    ·
     iterate 4 (refine SO (s:=26) ha fun a ha=>?_)
     refine PF ha fun a ha=>?_
     refine S1d ha fun a ha=>?_
     refine LN<|TN<|wp_ret<|BR<|TR ?_
     refine ret1 ha rfl ?_
     exact ⟨_,rfl,⟨fun h=>(by cases h),fun h=>by rw [mayGs] at h; exfalso; omega⟩,hs.sub⟩
   ·
    iterate 3 (refine SO (s:=21) ha fun a ha=>?_)
    refine PF ha fun a ha=>?_
    refine S1 ha fun a ha=>?_
    iterate 4 (refine SO (s:=26) ha fun a ha=>?_)
    refine PF ha fun a ha=>?_
    refine S1d ha fun a ha=>?_
    refine LN<|TN<|wp_ret<|BR<|TR ?_
    refine ret1 ha rfl ?_
    exact ⟨_,rfl,⟨fun h=>(by cases h),fun h=>by rw [mayGs] at h; exfalso; omega⟩,hs.sub⟩
  ·
   refine WS<|WR ?_
   iterate 2 (refine S1 ha fun a ha=>?_)
   refine LN<|TN ?_
   refine WI ha (fun hc2=>?_) (fun hc2=>?_)
   ·
    refine WS<|WR ?_
    refine S1 ha fun a ha=>?_
    refine SL ha (hs.rd1 rfl) fun a ha=>?_
    iterate 2 (refine S1 ha fun a ha=>?_)
    refine ha.by (s:=37) (fun hg3 ha=>?_) (fun hg3 ha=>?_)
    ·
     refine S1g (s:=37) ha fun a ha=>?_
     refine SLg (s:=37) ha (hs.rd1 rfl) fun a ha=>?_
     iterate 2 (refine S1g (s:=37) ha fun a ha=>?_)
     refine PT ha fun a ha=>?_
     refine S1 ha fun a ha=>?_
     refine ha.by (s:=43) (fun hg9 ha=>?_) (fun hg9 ha=>?_)
     ·
      refine S1g (s:=43) ha fun a ha=>?_
      refine SLg (s:=43) ha (hs.rd1 rfl) fun a ha=>?_
      iterate 2 (refine S1g (s:=43) ha fun a ha=>?_)
      refine PT ha fun a ha=>?_
      refine S1d ha fun a ha=>?_
      refine LN<|TN<|wp_ret<|BR<|TR ?_
      refine ret1 ha rfl ?_
      exact ⟨_,rfl,(by rw [decide_eq_true_iff,mayGs]; omega),hs.sub⟩
     ·
      iterate 4 (refine SO (s:=43) ha fun a ha=>?_)
      refine PF ha fun a ha=>?_
      refine S1d ha fun a ha=>?_
      refine LN<|TN<|wp_ret<|BR<|TR ?_
      refine ret1 ha rfl ?_
      exact ⟨_,rfl,⟨fun h=>(by cases h),fun h=>by rw [mayGs] at h; exfalso; omega⟩,hs.sub⟩
    ·
     iterate 4 (refine SO (s:=37) ha fun a ha=>?_)
     refine PF ha fun a ha=>?_
     refine S1 ha fun a ha=>?_
     iterate 4 (refine SO (s:=43) ha fun a ha=>?_)
     refine PF ha fun a ha=>?_
     refine S1d ha fun a ha=>?_
     refine LN<|TN<|wp_ret<|BR<|TR ?_
     refine ret1 ha rfl ?_
     exact ⟨_,rfl,⟨fun h=>(by cases h),fun h=>by rw [mayGs] at h; exfalso; omega⟩,hs.sub⟩
   ·
    refine WK<|BN<|TN<|WS<|WR ?_
    refine S1d ha fun a ha=>?_
    refine LN<|TN<|wp_ret ?_
    refine ret1 ha rfl ?_
    exact ⟨_,rfl,⟨fun h=>(by cases h),fun h=>by rw [mayGs] at h; exfalso; omega⟩,hs.sub⟩
theorem pred_weights (hs : St W w L) (hb : mayGs b) (hpl : past.length≤4000) (hpc : past.length≤c) (hp : ∀ w',St W w' L→RdB w' ad past.length past) :
   Calls Tryz.prog 157 #[.agg (gsC b adT cT).toArray,.slice ad past.length c] w fun e w'=>e=.returned (.agg (ints .i64 256 (wtL b past)).toArray)∧St W w' L:=by
 simp only [mayGs] at hb
 refine calls_enter Tryz.func157 rfl Tryz.ntmps157 (Nat.le_of_ble_eq_true rfl) ?_
 intro a ha
 replace ha : Fr a 52 [(0,_),(1,_)]:=ha
 refine WS<|WR ?_
 refine SK (st_box ha rfl hs rfl fun b2 a w ha hs ho=>?_)
 clear ho
 change St W w (blk b2 78 (gsC b adT cT)::_) at hs
 refine SK (st_alloc ha rfl hs Ty.t164 rfl fun b4 a w ha hs ho=>?_)
 clear ho
 rw [rep_ints] at hs
 refine LN<|TN<|WS<|WR ?_
 refine SK (st_alloc ha rfl hs Ty.t164 rfl fun b5 a w ha hs ho=>?_)
 clear ho
 rw [rep_ints] at hs
 refine LN<|TN<|WS<|WS<|WR ?_
 refine S1 ha fun a ha=>?_
 refine SL ha (hs.rd1 rfl) fun a ha=>?_
 iterate 2 (refine S1 ha fun a ha=>?_)
 refine ha.by (s:=11) (fun hg3 ha=>?_) (fun hg3 ha=>?_)
 ·
  iterate 5 (refine SO (s:=11) ha fun a ha=>?_)
  refine PT ha fun a ha=>?_
  refine LN<|TN<|WTr ha<|WS<|WR ?_
  refine SK (st_set ha rfl (ex_loadN ha Tryz.underlying164 rfl Ty.t164 (hs.rdAll (b:=b5))) rfl fun a ha=>?_)
  refine SK (st_storeAll ha rfl hs Ty.t164 ints_one (by simp only [ints_len]) fun a w ha hs=>?_)
  refine LN<|TN<|wp_ret<|TR ?_
  refine retC1 ha rfl (run_loadN Tryz.underlying164 rfl Ty.t164 (hs.rdAll (b:=b4))) ?_
  exact ⟨by rw [wtL,if_neg (by omega)],hs.sub⟩
 ·
  iterate 3 (refine S1g (s:=11) ha fun a ha=>?_)
  refine SLg (s:=11) ha (hs.rd1 rfl) fun a ha=>?_
  refine S1g (s:=11) ha fun a ha=>?_
  refine PF ha fun a ha=>?_
  refine LN<|TN ?_
  refine WI ha (fun hc0=>?_) (fun hc0=>?_)
  ·
   refine WS<|WR ?_
   refine SK (st_set ha rfl (ex_loadN ha Tryz.underlying164 rfl Ty.t164 (hs.rdAll (b:=b5))) rfl fun a ha=>?_)
   refine SK (st_storeAll ha rfl hs Ty.t164 ints_one (by simp only [ints_len]) fun a w ha hs=>?_)
   refine LN<|TN<|wp_ret<|TR ?_
   refine retC1 ha rfl (run_loadN Tryz.underlying164 rfl Ty.t164 (hs.rdAll (b:=b4))) ?_
   exact ⟨by rw [wtL,if_pos (by omega),wtN_low (by omega)],hs.sub⟩
  ·
   refine WK<|TN<|WS ?_
   have hk2 : b.kind=2:=by omega
   obtain ⟨o,ho⟩ : ∃ o : Nat,b.order=(o : Int):=⟨b.order.toNat,by omega⟩
   rw [gsC,ho] at hs
   have hol : o≤past.length:=by omega
   have hwt : wtL b past=wtN o past past.length:=by rw [wtL,if_pos hk2,ho,Int.toNat_natCast]
   refine WR ?_
   iterate 4 (refine S1 ha fun a ha=>?_)
   refine SL ha (hs.rd1 rfl) fun a ha=>?_
   refine SK (st_set ha rfl (ex_subI ha (by omega) (by omega)) rfl fun a ha=>?_)
   rw [show ((past.length : Nat) : Int) - (o : Int)=((past.length - o : Nat) : Int) from by omega] at ha
   refine SK (st_set ha rfl (ex_sliceL ha Tryz.underlying22 Ty.t5 (by omega)) rfl fun a ha=>?_)
   refine S1 ha fun a ha=>?_
   refine LN<|TN<|WS<|WS<|WR ?_
   refine S1 ha fun a ha=>?_
   refine SL ha (hs.rd1 rfl) fun a ha=>?_
   refine S1 ha fun a ha=>?_
   refine LN ?_
   rw [show past.length - (past.length - o)=o from by omega] at ha
   have ho3 : o≤3:=by omega
   refine TN<|wp_block ?_
   refine wp_loop_ghost (fun μ a w=>∃ (i : Nat),(μ=past.length - i∧o≤i∧i≤past.length)∧Fr a 52 [(1,.slice ad past.length c),(2,.pointer (some ⟨b2,0,none⟩)),(4,.pointer (some ⟨b4,0,none⟩)),(5,.pointer (some ⟨b5,0,none⟩)),(6,.slice (cutAd ad (past.length - o) c 1) o (c - (past.length - o))),(7,.int .i64 i)]∧St W w (blk b5 164 (ints .i64 256 (wtN o past i))::blk b4 164 (ints .i64 256 (fun _=>0))::blk b2 78 [.int .i64 b.kind,.int .i64 o,.slice adT b.table.length cT]::L)) (past.length - o) ?_ ?_
   · exact ⟨o,⟨rfl,Nat.le_refl _,hol⟩,ha.keep [1,2,4,5,6,7],by rw [wtN_low (Nat.le_refl _)]; exact hs.sub⟩
   ·
    clear ha hs
    rintro μ a w ⟨i,⟨rfl,hio,hi⟩,ha,hs⟩
    refine WS<|WS<|WR ?_
    iterate 4 (refine S1 ha fun a ha=>?_)
    refine LN<|TN ?_
    refine WI ha (fun hc1=>?_) (fun hc1=>?_)
    ·
     have hil : i < past.length:=by omega
     have hbd:=wtN_bd o past i past[i].toNat
     have hb8:=u8_lt past[i]
     refine WK<|TN<|WS<|wp_block<|WS<|WR ?_
     iterate 3 (refine S1 ha fun a ha=>?_)
     refine SL ha (hs.rd1 rfl) fun a ha=>?_
     refine SK (st_set ha rfl (ex_subI ha (by omega) (by omega)) rfl fun a ha=>?_)
     rw [show ((i : Nat) : Int) - (o : Int)=((i - o : Nat) : Int) from by omega] at ha
     refine S1 ha fun a ha=>?_
     refine SK (st_set ha rfl (ex_sliceLH ha Tryz.underlying22 Ty.t5 (by omega) (by omega)) rfl fun a ha=>?_)
     rw [show i - (i - o)=o from by omega] at ha
     refine S1 ha fun a ha=>?_
     refine SK (st_call ha rfl Ty.c132 rfl (bytes_equalS hs ((hp _ hs.tail.tail.tail).cutLH (lo:=i - o) (n:=o) (by omega) hpc) (by have:=(hp _ hs.tail.tail.tail).cutLH (lo:=past.length - o) (n:=o) (by omega) hpc; exact this)) ?_); clear ha hs
     rintro e w ⟨rfl,hs⟩
     refine ⟨_,rfl,?_⟩
     intro a ha
     refine LN<|TN ?_
     refine WI ha (fun hc2=>?_) (fun hc2=>?_)
     ·
      obtain ⟨bb,oo,rfl,hr⟩:=(hp _ hs.tail.tail.tail).get (by omega)
      refine WR ?_
      iterate 2 (refine S1 ha fun a ha=>?_)
      refine SK (st_set ha rfl (ex_indexAddr ha Tryz.underlying22 Ty.t5 (by omega)) rfl fun a ha=>?_)
      rw [Nat.mul_one] at ha
      refine SL ha (hr i _ (bc_at hil)) fun a ha=>?_
      refine SK (st_set ha rfl (ex_indexAddrA ha Tryz.underlying164 Ty.t3 (by omega)) rfl fun a ha=>?_)
      rw [Nat.zero_add,Nat.mul_one] at ha
      refine SL ha (hs.rd1 (ints_get _ hb8)) fun a ha=>?_
      refine SK (st_set ha rfl (ex_addI ha (by omega) (by omega)) rfl fun a ha=>?_)
      refine SK (st_set ha rfl (ex_indexAddrA ha Tryz.underlying164 Ty.t3 (by omega)) rfl fun a ha=>?_)
      rw [Nat.zero_add,Nat.mul_one] at ha
      refine SK (st_store ha rfl hs Ty.t3 rfl (by rw [ints_len]; omega) fun a w ha hs=>?_)
      rw [ints_set] at hs
      refine LN<|BN<|TN<|WR ?_
      refine S1 ha fun a ha=>?_
      refine SK (st_set ha rfl (ex_addI ha (by omega) (by omega)) rfl fun a ha=>?_)
      refine S1d ha fun a ha=>?_
      refine LN<|TN ?_
      exact ⟨past.length - (i+1),by omega,i+1,⟨rfl,by omega,by omega⟩,ha.keep [1,2,4,5,6,7],by
        rw [show wtN o past (i+1)=fun j=>if j=past[i].toNat then wtN o past i past[i].toNat+1 else wtN o past i j from by
          rw [wtN,if_pos ⟨hio,by rw [endsB,← hc2,List.take_of_length_le (l:=past.drop (past.length - o)) (by rw [List.length_drop]; omega)]⟩,List.getD_eq_getElem?_getD,List.getElem?_eq_getElem hil]; rfl]
        exact hs.sub⟩
     ·
      refine WK<|BN<|TN<|WR ?_
      refine S1 ha fun a ha=>?_
      refine SK (st_set ha rfl (ex_addI ha (by omega) (by omega)) rfl fun a ha=>?_)
      refine S1d ha fun a ha=>?_
      refine LN<|TN ?_
      exact ⟨past.length - (i+1),by omega,i+1,⟨rfl,by omega,by omega⟩,ha.keep [1,2,4,5,6,7],by
        rw [show wtN o past (i+1)=wtN o past i from by
          rw [wtN,if_neg (fun h=>by
            have h2:=h.2
            rw [endsB,← List.take_of_length_le (l:=past.drop (past.length - o)) (i:=o) (by rw [List.length_drop]; omega)] at h2
            rw [h2] at hc2; cases hc2)]]
        exact hs.sub⟩
    ·
     obtain rfl : i=past.length:=by omega
     refine wp_exit<|TE<|TE<|blk_e<|TN<|WS<|WR ?_
     refine SK (st_set ha rfl (ex_loadN ha Tryz.underlying164 rfl Ty.t164 (hs.rdAll (b:=b5))) rfl fun a ha=>?_)
     refine SK (st_storeAll ha rfl hs Ty.t164 ints_one (by simp only [ints_len]) fun a w ha hs=>?_)
     refine LN<|TN<|wp_ret ?_
     refine retC1 ha rfl (run_loadN Tryz.underlying164 rfl Ty.t164 (hs.rdAll (b:=b4))) ?_
     exact ⟨by rw [hwt],hs.sub⟩
theorem pred_last (hs : St W w L) (hpl : past.length≤4000) (hp : ∀ w',St W w' L→RdB w' ad past.length past) :
   Calls Tryz.prog 159 #[.slice ad past.length c] w fun e w'=>e=.returned (.int .u8 ((lastB past).toNat : Nat))∧St W w' L:=by
 refine calls_enter Tryz.func159 rfl Tryz.ntmps159 (Nat.le_of_ble_eq_true rfl) ?_
 intro a ha
 replace ha : Fr a 12 [(0,_)]:=ha
 refine WS<|WR ?_
 refine S1 ha fun a ha=>?_
 refine LN<|TN<|WS<|WS<|WR ?_
 iterate 3 (refine S1 ha fun a ha=>?_)
 refine LN<|TN ?_
 refine WI ha (fun hc0=>?_) (fun hc0=>?_)
 ·
  refine WS<|WR ?_
  refine S1d ha fun a ha=>?_
  refine LN<|TN<|wp_ret<|TR ?_
  refine ret1 ha rfl ?_
  exact ⟨by rw [lastB,List.eq_nil_of_length_eq_zero (l:=past) (by omega)]; rfl,hs⟩
 ·
  refine WK<|TN<|WS ?_
  obtain ⟨bb,oo,rfl,hr⟩:=(hp _ hs).get (by omega)
  refine WR ?_
  iterate 3 (refine S1 ha fun a ha=>?_)
  refine SK (st_set ha rfl (ex_subI ha (by omega) (by omega)) rfl fun a ha=>?_)
  rw [show ((past.length : Nat) : Int) - 1=((past.length - 1 : Nat) : Int) from by omega] at ha
  refine SK (st_set ha rfl (ex_indexAddr ha Tryz.underlying22 Ty.t5 (by omega)) rfl fun a ha=>?_)
  rw [Nat.mul_one] at ha
  refine SL ha (hr (past.length - 1) _ (bc_at (by omega))) fun a ha=>?_
  refine S1d ha fun a ha=>?_
  refine LN<|TN<|wp_ret ?_
  refine ret1 ha rfl ?_
  refine ⟨?_,hs⟩
  have h0 : past≠[]:=fun h=>by rw [h] at hc0; simp at hc0
  rw [lastB,List.getLastD_eq_getLast?,List.getLast?_eq_getElem?,List.getElem?_eq_getElem (by omega)]; rfl
theorem pred_first (hs : St W w L) (hb : mayGs b) (hpl : past.length≤4000) (hpc : past.length≤c) (hp : ∀ w',St W w' L→RdB w' ad past.length past) (ht : ∀ w',St W w' L→RdB w' adT b.table.length b.table) :
   Calls Tryz.prog 158 #[.agg (gsC b adT cT).toArray,.slice ad past.length c] w fun e w'=>e=.returned (.int .u8 ((firstB b past).toNat : Nat))∧St W w' L:=by
 have hb':=hb
 simp only [mayGs] at hb'
 refine calls_enter Tryz.func158 rfl Tryz.ntmps158 (Nat.le_of_ble_eq_true rfl) ?_
 intro a ha
 replace ha : Fr a 41 [(0,_),(1,_)]:=ha
 refine WS<|WR ?_
 refine SK (st_box ha rfl hs rfl fun b2 a w ha hs ho=>?_)
 clear ho
 change St W w (blk b2 78 (gsC b adT cT)::_) at hs
 refine S1 ha fun a ha=>?_
 refine LN<|TN<|WS<|WS<|WR ?_
 refine S1 ha fun a ha=>?_
 refine SL ha (hs.rd1 rfl) fun a ha=>?_
 refine S1 ha fun a ha=>?_
 refine LN<|TN ?_
 refine WI ha (fun hc0=>?_) (fun hc0=>?_)
 ·
  refine WS ?_
  obtain ⟨bt,ot,rfl,hrt⟩:=(ht _ hs.drew.tail).get (by omega)
  have hmod : past.length % b.table.length < b.table.length:=Nat.mod_lt _ (by omega)
  refine DW (m:=11) (Old w.drew) [5,6,7] [0,2,3,4,1,5,6,7,8,9,10] Ty.mixed (pk_then (pk_then pk_body)) (fun hpk=>?_)
  replace hs:=hs.drew
  have hC:=Old.refl w.drew
  generalize w.drew=w at hs hC hpk hrt ⊢
  iterate 4 (refine DP hpk ha rfl fun a ha=>?_)
  refine DL hpk ha rfl (fun w hc=>hc.cell (hs.rd1 rfl)) hC fun a ha=>?_
  refine D1 rfl (st_set ha rfl (ex_load1 ha Tryz.underlying22 rfl (hs.rd1 rfl)) rfl fun a ha=>?_)
  refine ⟨fun _=>hC,?_⟩
  refine D1 rfl (st_set ha rfl (ex_len ha Tryz.underlying22) rfl fun a ha=>?_)
  refine ⟨fun _=>hC,?_⟩
  refine D1 rfl (st_set ha rfl (ex_rem ha (by omega)) rfl fun a ha=>?_)
  refine ⟨fun _=>hC,?_⟩
  rw [remN] at ha
  refine DQ hpk ha rfl rfl (fun w=>ex_indexAddr ha Tryz.underlying22 Ty.t5 hmod) fun a ha=>?_
  rw [Nat.mul_one] at ha
  refine D1 rfl (st_set ha rfl (ex_load1 ha Tryz.underlying5 rfl (hrt (past.length % b.table.length) _ (bc_atD hmod))) rfl fun a ha=>?_)
  refine ⟨fun h=>absurd h (by decide),?_⟩
  replace ha:=ha.del 4
  refine DP hpk ha rfl fun a ha=>?_
  refine DD<|TN<|wp_ret<|TR ?_
  refine ret1 ha rfl ?_
  exact ⟨by rw [firstB,if_pos (by omega)],hs.sub⟩
 ·
  refine WK<|TN<|WS<|WR ?_
  refine SK (st_set ha rfl (ex_loadN ha Tryz.underlying78 rfl Ty.t78 (hs.rdAll)) rfl fun a ha=>?_)
  refine S1 ha fun a ha=>?_
  refine SK (st_call ha rfl Ty.c157 rfl (pred_weights hs hb hpl hpc (fun w' hw=>hp w' hw.tail)) ?_); clear ha hs
  rintro e w ⟨rfl,hs⟩
  refine ⟨_,rfl,?_⟩
  intro a ha
  refine SK (st_alloc ha rfl hs Ty.t164 rfl fun b5 a w ha hs ho=>?_)
  clear ho
  rw [rep_ints] at hs
  refine SK (st_storeAll ha rfl hs Ty.t164 ints_one (by simp only [ints_len]) fun a w ha hs=>?_)
  refine LN<|TN<|WS<|WR ?_
  refine S1 ha fun a ha=>?_
  refine SK (st_call ha rfl Ty.c159 rfl (pred_last hs hpl (fun w' hw=>hp w' hw.tail.tail)) ?_); clear ha hs
  rintro e w ⟨rfl,hs⟩
  refine ⟨_,rfl,?_⟩
  intro a ha
  refine S1 ha fun a ha=>?_
  refine LN<|TN<|WS<|WS<|WR ?_
  refine SK (st_set ha rfl (ex_loadN ha Tryz.underlying164 rfl Ty.t164 (hs.rdAll (b:=b5))) rfl fun a ha=>?_)
  refine S1 ha fun a ha=>?_
  refine LN ?_
  have hlb:=u8_lt (lastB past)
  refine TN<|wp_block ?_
  refine wp_loop_ghost (fun μ a w=>∃ (i : Nat),(μ=256 - i∧i≤256)∧Fr a 41 [(2,.pointer (some ⟨b2,0,none⟩)),(5,.pointer (some ⟨b5,0,none⟩)),(6,.int .u8 (bestN (wtL b past) (lastB past).toNat i : Nat)),(27,.agg (ints .i64 256 (wtL b past)).toArray),(28,.int .i64 i)]∧St W w (blk b5 164 (ints .i64 256 (wtL b past))::blk b2 78 (gsC b adT cT)::L)) (256) ?_ ?_
  · exact ⟨0,⟨rfl,by omega⟩,ha.keep [2,5,6,27,28],hs.sub⟩
  ·
   clear ha hs
   rintro μ a w ⟨i,⟨rfl,hi⟩,ha,hs⟩
   refine WS<|WR ?_
   refine S1 ha fun a ha=>?_
   refine LN<|TN<|WS ?_
   refine WI ha (fun hc1=>?_) (fun hc1=>?_)
   ·
    have hbl:=bestN_lt (w:=wtL b past) hlb (i:=i) hi
    have hi6 : i < 256:=by omega
    refine WK<|TN<|WS<|wp_block<|WS<|WR ?_
    refine S1 ha fun a ha=>?_
    refine SK (st_set ha rfl (ex_index1 ha Tryz.underlying164 Tryz.underlying3 rfl Ty.t3 (by omega) (ints_get _ hi6)) rfl fun a ha=>?_)
    iterate 2 (refine S1 ha fun a ha=>?_)
    refine LN<|TN<|WS<|WR ?_
    iterate 2 (refine S1 ha fun a ha=>?_)
    refine SK (st_set ha rfl (ex_indexAddrA ha Tryz.underlying164 Ty.t3 (by omega)) rfl fun a ha=>?_)
    rw [Nat.zero_add,Nat.mul_one] at ha
    refine SL ha (hs.rd1 (ints_get _ hbl)) fun a ha=>?_
    refine S1 ha fun a ha=>?_
    refine LN<|TN ?_
    refine WI ha (fun hc2=>?_) (fun hc2=>?_)
    ·
     refine WR ?_
     refine S1 ha fun a ha=>?_
     refine SK (st_set ha rfl (ex_convIIs ha Tryz.underlying3 Tryz.underlying5 (by rw [wrap_u8]; omega)) rfl fun a ha=>?_)
     refine S1d ha fun a ha=>?_
     refine LN<|BN<|TN<|WR ?_
     refine SK (st_set ha rfl (ex_addI ha (by omega) (by omega)) rfl fun a ha=>?_)
     refine S1d ha fun a ha=>?_
     refine LN<|TN ?_
     exact ⟨256 - (i+1),by omega,i+1,⟨rfl,by omega⟩,by rw [show bestN (wtL b past) (lastB past).toNat (i+1)=i from by rw [bestN,if_pos (by omega)]]; exact ha.keep [2,5,6,27,28],hs.sub⟩
    ·
     refine WK<|BN<|TN<|WR ?_
     refine SK (st_set ha rfl (ex_addI ha (by omega) (by omega)) rfl fun a ha=>?_)
     refine S1d ha fun a ha=>?_
     refine LN<|TN ?_
     exact ⟨256 - (i+1),by omega,i+1,⟨rfl,by omega⟩,by rw [show bestN (wtL b past) (lastB past).toNat (i+1)=bestN (wtL b past) (lastB past).toNat i from by rw [bestN,if_neg (by omega)]]; exact ha.keep [2,5,6,27,28],hs.sub⟩
   ·
    obtain rfl : i=256:=by omega
    have hbl:=bestN_lt (w:=wtL b past) hlb (i:=256) (by omega)
    refine wp_exit<|TE<|TE<|blk_e<|TN<|WS<|WR ?_
    iterate 2 (refine S1 ha fun a ha=>?_)
    refine LN<|TN<|wp_ret ?_
    refine ret1 ha rfl ?_
    exact ⟨by rw [firstB,if_neg (by omega),UInt8.toNat_ofNat',Nat.mod_eq_of_lt (by omega)],hs.sub⟩
theorem slices_clone (hs : St W w L) (hpl : past.length≤4000) (hp : ∀ w',St W w' L→RdB w' ad past.length past) :
   Calls Tryz.prog 162 #[.slice ad past.length c] w fun e w'=>∃ ad' c',e=.returned (.slice ad' past.length c')∧St W w' (Sl 5 1 ad' past.length c' (bc past)::L):=by
 obtain ⟨h1,h2,h3⟩:=hp _ hs
 cases had : ad with
 | none =>
   have h0:=h2 had
   rw [List.eq_nil_of_length_eq_zero (l:=past) h0]
   refine calls_enter Tryz.func162 rfl Tryz.ntmps162 (Nat.le_of_ble_eq_true rfl) ?_
   intro a ha
   replace ha : Fr a 8 [(0,_)]:=ha
   refine WS<|WR ?_
   refine S1 ha fun a ha=>?_
   refine LN<|TN<|WS<|WS<|WR ?_
   refine S1 ha fun a ha=>?_
   refine SK (st_set ha rfl (ex_eqnilS ha Tryz.underlying22) rfl fun a ha=>?_)
   refine LN<|TN<|WTr ha<|WS<|WR ?_
   refine S1d ha fun a ha=>?_
   refine LN<|TN<|wp_ret<|TR ?_
   refine ret1 ha rfl ?_
   exact ⟨_,_,rfl,hs.sl0 _ _ _⟩
 | some a =>
   rw [← had]
   refine calls_enter Tryz.func162 rfl Tryz.ntmps162 (Nat.le_of_ble_eq_true rfl) ?_
   intro a ha
   replace ha : Fr a 8 [(0,_)]:=ha
   refine WS<|WR ?_
   refine S1 ha fun a ha=>?_
   refine LN<|TN<|WS<|WS<|WR ?_
   refine S1 ha fun a ha=>?_
   refine SK (st_set ha rfl (ex_eqnilS ha Tryz.underlying22) rfl fun a ha=>?_)
   refine LN ?_
   rw [show ad.isNone=false from by rw [had]; rfl] at ha
   refine TN<|WFa ha<|WK<|TN<|WS<|WR ?_
   refine SK (st_buildSlice0 ha rfl hs Tryz.underlying22 Ty.t5 rfl fun b5 a w ha hs ho=>?_)
   clear ho
   replace hs : St W w (Sl 5 1 (some ⟨b5,0,none⟩) 0 0 []::L):=hs.tail.sl0 _ _ _
   refine S1 ha fun a ha=>?_
   refine SK (st_appendT ha rfl hs Tryz.underlying22 Ty.t5 rfl rfl (by decide) (fun h0=>(hp _ hs.tail).get h0) (by rw [bc_len]; omega) (bc_one _) (by omega) fun ad7 c7 a w ha hs=>?_)
   rw [List.nil_append,Nat.zero_add] at hs; rw [Nat.zero_add] at ha
   refine S1d ha fun a ha=>?_
   refine LN<|TN<|wp_ret ?_
   refine ret1 ha rfl ?_
   exact ⟨_,_,rfl,hs⟩
theorem pred_chain {to : Int} (hs : St W w L) (hb : mayGs b) (hpl : past.length≤1001) (hpc : past.length≤c) (hn : m≤1000) (hp : ∀ w',St W w' L→RdB w' ad past.length past) (ht : ∀ w',St W w' L→RdB w' adT b.table.length b.table) :
   Calls Tryz.prog 141 #[.agg (gsC b adT cT).toArray,.slice ad past.length c,.int .i64 m] w fun e w'=>∃ ad' c',e=.returned (.slice ad' m c')∧St W w' (Sl 5 1 ad' m c' (bc (chainB b past m))::L):=by
 refine calls_enter Tryz.func141 rfl Tryz.ntmps141 (Nat.le_of_ble_eq_true rfl) ?_
 intro a ha
 replace ha : Fr a 29 [(0,_),(1,_),(2,_)]:=ha
 refine WS<|WR ?_
 refine SK (st_box ha rfl hs rfl fun b3 a w ha hs ho=>?_)
 clear ho
 change St W w (blk b3 78 (gsC b adT cT)::_) at hs
 refine S1 ha fun a ha=>?_
 refine LN<|TN<|WS<|WS<|WR ?_
 refine SK (st_set ha rfl (ex_loadN ha Tryz.underlying78 rfl Ty.t78 (hs.rdAll)) rfl fun a ha=>?_)
 refine SK (st_call ha rfl Ty.c38 rfl (pred_may hs) ?_); clear ha hs
 rintro e w ⟨r,rfl,hr,hs⟩
 refine ⟨_,rfl,?_⟩
 intro a ha
 rw [hr.2 hb] at ha
 refine S1 ha fun a ha=>?_
 refine LN<|TN<|WFa ha<|WK<|TN<|WS<|WR ?_
 refine S1 ha fun a ha=>?_
 refine SK (st_call ha rfl Ty.c162 rfl (slices_clone hs (by omega) (fun w' hw=>hp w' hw.tail)) ?_); clear ha hs
 rintro e w ⟨ad1,c1,rfl,hs⟩
 refine ⟨_,rfl,?_⟩
 intro a ha
 refine S1 ha fun a ha=>?_
 refine LN<|TN<|WS<|WS<|WR ?_
 refine S1 ha fun a ha=>?_
 refine SK (st_set ha rfl (ex_max ha) rfl fun a ha=>?_)
 refine SK (st_set ha rfl (ex_min ha) rfl fun a ha=>?_)
 rw [show min (max (m : Int) 0) 1000=(m : Int) from by omega] at ha
 refine S1 ha fun a ha=>?_
 refine LN<|TN<|wp_block ?_
 refine wp_loop_ghost (fun μ a w=>∃ (i : Nat) (ad2 : Option Addr) (c2 : Nat),(μ=m - i∧i≤m)∧Fr a 29 [(1,.slice ad past.length c),(3,.pointer (some ⟨b3,0,none⟩)),(7,.slice ad2 (chainN b past i).length c2),(15,.int .i64 m),(16,.int .i64 i)]∧St W w (Sl 5 1 ad2 (chainN b past i).length c2 (bc (chainN b past i))::blk b3 78 (gsC b adT cT)::L)) (m) ?_ ?_
 · exact ⟨0,ad1,c1,⟨rfl,by omega⟩,ha.keep [1,3,7,15,16],hs⟩
 ·
  clear ha hs
  rintro μ a w ⟨i,ad2,c2,⟨rfl,hi⟩,ha,hs⟩
  refine WS<|WR ?_
  refine S1 ha fun a ha=>?_
  refine LN<|TN<|WS ?_
  refine WI ha (fun hc1=>?_) (fun hc1=>?_)
  ·
   have hcl:=chainN_len b past i
   have hc2l:=(hs.sl ad2).2
   refine WK<|TN<|WS<|wp_block<|WR ?_
   refine S1 ha fun a ha=>?_
   refine SK (st_set ha rfl (ex_loadN ha Tryz.underlying78 rfl Ty.t78 (hs.rdAll)) rfl fun a ha=>?_)
   refine S1 ha fun a ha=>?_
   refine SK (st_call ha rfl Ty.c158 rfl (pred_first hs hb (by omega) hc2l (fun w' hw=>hw.rdB ad2 (chainN b past i) rfl rfl) (fun w' hw=>ht w' hw.tail.tail)) ?_); clear ha hs
   rintro e w ⟨rfl,hs⟩
   refine ⟨_,rfl,?_⟩
   intro a ha
   refine SK (st_buildSlice ha rfl hs Tryz.underlying22 Ty.t5 rfl rfl rfl rfl (by decide) (by decide) fun b22 a w ha hs ho=>?_)
   clear ho
   refine SK (st_append ha rfl hs Tryz.underlying22 Ty.t5 rfl rfl hs.rdAll rfl (bc_one [firstB b (chainN b past i)]) (by decide) (by decide) (by omega) fun ad23 c23 a w ha hs=>?_)
   rw [show bc (chainN b past i)++_=bc (chainN b past (i+1)) from (bc_app _ [_]).symm,show (chainN b past i).length+1=(chainN b past (i+1)).length from by rw [chainN_len,chainN_len]; omega] at hs
   rw [show (chainN b past i).length+1=(chainN b past (i+1)).length from by rw [chainN_len,chainN_len]; omega] at ha
   refine S1d ha fun a ha=>?_
   refine LN<|BN<|TN<|WR ?_
   refine SK (st_set ha rfl (ex_addI ha (by omega) (by omega)) rfl fun a ha=>?_)
   refine S1d ha fun a ha=>?_
   refine LN<|TN ?_
   exact ⟨m - (i+1),by omega,i+1,ad23,c23,⟨rfl,by omega⟩,ha.keep [1,3,7,15,16],hs.sub⟩
  ·
   obtain rfl : i=m:=by omega
   have hcl:=chainN_len b past i
   refine wp_exit<|TE<|TE<|blk_e<|TN<|WS<|WR ?_
   iterate 3 (refine S1 ha fun a ha=>?_)
   refine SK (st_set ha rfl (ex_sliceL ha Tryz.underlying22 Ty.t5 (by omega)) rfl fun a ha=>?_)
   refine S1 ha fun a ha=>?_
   refine LN<|TN<|wp_ret ?_
   refine ret1 ha rfl ?_
   have h1:=hs.cutSl ad2 past.length (chainN b past i).length (by omega) (Nat.le_refl _)
   rw [show (chainN b past i).length - past.length=i from by omega,Nat.mul_one,Nat.mul_one,← bc_drop,List.take_of_length_le (by rw [bc_len,List.length_drop]; omega),show List.drop past.length (chainN b past i)=chainB b past i from rfl] at h1
   refine ⟨_,_,by rw [show (chainN b past i).length - past.length=i from by omega],h1.sub⟩
end
end Go.Proofs.YtagpkhbkdbaigaaGreat
