/- Guesses for all: guess.line, guess.Ahead; the document's Front, Joint, Ahead. -/
import Derived.Test.YtagpkhbkdbaigaaGreatRank
import Derived.Test.YtagpkhbkdbaigaaGreatQue
import Derived.Test.YtagpkhbkdbaigaaGreatCoQ
import Derived.Test.YtagpkhbkdbaigaaGreatFld
namespace Go.Proofs.YtagpkhbkdbaigaaGreat
open Go.RowKit
set_option linter.unusedVariables false
set_option linter.unusedSimpArgs false
set_option maxRecDepth 10000
set_option synthInstance.maxSize 4000
set_option synthInstance.maxHeartbeats 400000
def FitB (to : Nat) (l x : List UInt8) : Prop:=(∃ t,x=l++t)∧to≤x.length∧x.length≤1001
def aheadX (X : List (List UInt8)) (front to : Nat) : List (List UInt8):=(List.range (to - front)).map fun i=>jointL X (front+i)
theorem aheadX_full (b : Gs) (ls : List (List UInt8)) (to : Nat) : aheadX (fullL b ls to) (frontL ls) to=aheadL b ls to:=rfl
theorem aheadX_len (X : List (List UInt8)) (front to : Nat) : (aheadX X front to).length=to - front:=by simp [aheadX]
structure FitX (to : Nat) (ls X : List (List UInt8)) : Prop where
 len : X.length=ls.length
 fit : ∀ (j : Nat) (l x : List UInt8),ls[j]?=some l→X[j]?=some x→FitB to l x
theorem fullB_fit {b : Gs} {l : List UInt8} {to : Nat} (h : l.length≤1000) (h2 : to≤1000) : FitB to l (fullB b l to):=by
 refine ⟨⟨chainB b l (to - l.length),?_⟩,fullB_len b l to,?_⟩
 · rw [fullB,chain_all]
 · rw [fullB,chainN_len]; omega
theorem fullB_long {b : Gs} {l : List UInt8} {to : Nat} (h : to≤l.length) : fullB b l to=l:=by rw [fullB,show to - l.length=0 from by omega]; rfl
structure RankS : Prop where
 rank : ∀ {W w : World} {L : List SP} {c k cT : Nat} {ad adT : Option Addr} {past : List UInt8} {b : Gs},St W w L→mayGs b→(1≤k∧k≤256)→past.length≤1000→past.length≤c→(∀ w',St W w' L→RdB w' ad past.length past)→(∀ w',St W w' L→RdB w' adT b.table.length b.table) →
 Calls Tryz.prog 140 #[.agg (gsC b adT cT).toArray,.slice ad past.length c,.int .i64 k] w fun e w'=>∃ (ad' : Option Addr) (c' : Nat) (out : List UInt8),e=.returned (.slice ad' out.length c')∧out.length=k∧St W w' (Sl 5 1 ad' out.length c' (bc out)::L)
section
variable {W w : World} {L L' R : List SP} {n c m cT to r : Nat} {ad adT : Option Addr} {past : List UInt8} {b : Gs} {g : Nat→Int}
set_option maxHeartbeats 1000000 in
theorem guess_line (hR : r=0∨RankS) (hr : r≤100000) (hs : St W w (Sl 5 1 ad past.length c (bc past)::L)) (hb : mayGs b) (hpl : past.length≤1000) (hto : to≤1000) (ht : ∀ w',St W w' L→RdB w' adT b.table.length b.table) :
   Calls Tryz.prog 105 #[.slice ad past.length c,.agg (gsC b adT cT).toArray,.int .i64 r,.int .i64 to] w fun e w'=>∃ (ad' : Option Addr) (c' : Nat) (x : List UInt8),e=.returned (.slice ad' x.length c')∧(FitB to past x∧(r=0→x=fullB b past to)) ∧
     St W w' (Sl 5 1 ad' x.length c' (bc x)::L):=by
 have hpc:=(hs.sl ad).2
 refine calls_enter Tryz.func105 rfl Tryz.ntmps105 (Nat.le_of_ble_eq_true rfl) ?_
 intro a ha
 replace ha : Fr a 48 [(0,_),(1,_),(2,_),(3,_)]:=ha
 refine WS<|WR ?_
 refine SK (st_box ha rfl hs rfl fun b5 a w ha hs ho=>?_)
 clear ho
 change St W w (blk b5 78 (gsC b adT cT)::_) at hs
 refine S1 ha fun a ha=>?_
 refine LN<|TN<|WS<|WS<|WR ?_
 iterate 4 (refine S1 ha fun a ha=>?_)
 refine LN<|TN ?_
 refine WI ha (fun hc0=>?_) (fun hc0=>?_)
 ·
  refine WS<|WR ?_
  refine S1 ha fun a ha=>?_
  refine S1d ha fun a ha=>?_
  refine LN<|TN<|wp_ret<|TR ?_
  refine ret1 ha rfl ?_
  exact ⟨ad,c,past,rfl,⟨⟨⟨[],by simp⟩,by omega,by omega⟩,fun _=>(fullB_long (by omega)).symm⟩,hs.tail⟩
 ·
  refine WK<|TN ?_
  refine wp_seq_cut (M:=fun a w=>∃ (ad2 : Option Addr) (c2 : Nat) (y : List UInt8),((∃ t,y=past++t)∧y.length≤past.length+1∧past.length < to∧(r=0→y=past))∧Fr a 48 [(0,.slice ad2 y.length c2),(3,.int .i64 to),(5,.pointer (some ⟨b5,0,none⟩))]∧St W w (Sl 5 1 ad2 y.length c2 (bc y)::blk b5 78 (gsC b adT cT)::L)) ?_ ?_
  ·
   refine WS<|WR ?_
   refine S1 ha fun a ha=>?_
   refine SK (st_set ha rfl (ex_rem ha (by decide)) rfl fun a ha=>?_)
   rw [show ((r : Nat) : Int).tmod 256=((r % 256 : Nat) : Int) from remN _ 256] at ha
   refine S1d ha fun a ha=>?_
   refine LN ?_
   have hr6 : r % 256 < 256:=Nat.mod_lt _ (by decide)
   generalize hre : r % 256=r6 at ha hr6
   refine TN<|WS<|WR ?_
   iterate 2 (refine S1 ha fun a ha=>?_)
   refine LN<|TN ?_
   refine WI ha (fun hc1=>?_) (fun hc1=>?_)
   ·
    have hRk:=hR.resolve_left (fun h=>by rw [h] at hre; omega)
    have hp0:=hs.drew.tail.tail
    refine DW (m:=17) (Old w.drew) [] [0,1,2,3,4,5,7,8,9,11,6,10,12,13,14,15,16] Ty.mixed (pk_then pk_body) (fun hpk=>?_)
    replace hs:=hs.drew
    have hC:=Old.refl w.drew
    generalize w.drew=w at hs hC hpk ⊢
    iterate 5 (refine DP hpk ha rfl fun a ha=>?_)
    refine DQ hpk ha rfl rfl (fun w=>ex_sliceHM ha Tryz.underlying22 Ty.t5 (Nat.le_refl _) (by omega)) fun a ha=>?_
    rw [cutAd_zero] at ha
    iterate 2 (refine DP hpk ha rfl fun a ha=>?_)
    refine DQ hpk ha rfl rfl (fun w=>ex_addI ha (by omega) (by omega)) fun a ha=>?_
    rw [show ((r6 : Nat) : Int)+1=((r6+1 : Nat) : Int) from by omega] at ha
    refine DP hpk ha rfl fun a ha=>?_
    refine D1 rfl (st_set ha rfl (ex_loadN ha Tryz.underlying78 rfl Ty.t78 (hs.rdAll (b:=b5))) rfl fun a ha=>?_)
    refine ⟨fun h=>absurd h (by decide),?_⟩
    refine D1 rfl (st_call ha rfl Ty.c140 rfl (hRk.rank hs hb (by omega) hpl hpc (fun w' hw=>hw.tail.rdB ad past rfl rfl) (fun w' hw=>ht w' hw.tail.tail)) ?_); clear ha hs
    rintro e w ⟨adr,cr,out,rfl,hol,hs⟩
    refine ⟨_,rfl,?_⟩
    intro a ha
    refine ⟨fun h=>absurd h (by decide),?_⟩
    obtain ⟨br,or',rfl,hrr⟩:=hs.slRd adr (by omega)
    refine DQ hpk ha rfl rfl (fun w=>ex_indexAddr ha Tryz.underlying22 Ty.t5 (by omega)) fun a ha=>?_
    rw [Nat.mul_one] at ha
    refine D1 rfl (st_set ha rfl (ex_load1 ha Tryz.underlying5 rfl (hrr r6 _ (bc_at (by omega)))) rfl fun a ha=>?_)
    refine ⟨fun h=>absurd h (by decide),?_⟩
    refine D1 rfl (st_buildSlice ha rfl hs Tryz.underlying22 Ty.t5 rfl rfl rfl rfl (by decide) (by decide) fun b32 a w ha hs ho=>?_)
    (try replace hC:=hC.trans ho); clear ho
    refine ⟨fun h=>absurd h (by decide),?_⟩
    replace hs:=hs.cutSlM ad past.length (Nat.le_refl _)
    rw [cutAd_zero,Nat.mul_one,List.take_of_length_le (by rw [bc_len]; exact Nat.le_refl _)] at hs
    refine D1 rfl (st_append ha rfl hs Tryz.underlying22 Ty.t5 rfl rfl hs.rdAll rfl (bc_one [out[r6]]) (by decide) (by decide) (by omega) fun ad33 c33 a w ha hs=>?_)
    refine ⟨fun h=>absurd h (by decide),?_⟩
    rw [show bc past++_=bc (past++[out[r6]]) from (bc_app _ [_]).symm,show past.length+1=(past++[out[r6]]).length from by simp] at hs
    rw [show past.length+1=(past++[out[r6]]).length from by simp] at ha
    replace ha:=ha.del 0
    refine DP hpk ha rfl fun a ha=>?_
    refine DD<|TN ?_
    exact ⟨ad33,c33,past++[out[r6]],⟨⟨_,rfl⟩,by simp,by omega,fun h=>by rw [h] at hre; omega⟩,ha.keep [0,3,5],hs.sub⟩
   ·
    have hr60 : r6=0:=by omega
    refine WK<|TN ?_
    exact ⟨ad,c,past,⟨⟨[],by simp⟩,by omega,by omega,fun _=>rfl⟩,ha.keep [0,3,5],hs.sub⟩
  ·
   clear ha; (try clear hs)
   intro a w hcut
   obtain ⟨ad2,c2,y,⟨hy1,hy2,hy4,hy3⟩,ha,hs⟩:=hcut
   refine WS ?_
   have hyl : y.length≤to:=by omega
   have hyc:=(hs.sl ad2).2
   refine DW (m:=15) (Old w.drew) [] [0,1,2,3,4,5,7,8,9,10,11,6,12,13,14] Ty.mixed (pk_then pk_body) (fun hpk=>?_)
   replace hs:=hs.drew
   have hC:=Old.refl w.drew
   generalize w.drew=w at hs hC hpk ⊢
   iterate 5 (refine DP hpk ha rfl fun a ha=>?_)
   refine DQ hpk ha rfl rfl (fun w=>ex_sliceHM ha Tryz.underlying22 Ty.t5 (Nat.le_refl _) (by omega)) fun a ha=>?_
   rw [cutAd_zero] at ha
   iterate 4 (refine DP hpk ha rfl fun a ha=>?_)
   refine DQ hpk ha rfl rfl (fun w=>ex_subI ha (by omega) (by omega)) fun a ha=>?_
   rw [show ((to : Nat) : Int) - ((y.length : Nat) : Int)=((to - y.length : Nat) : Int) from by omega] at ha
   refine D1 rfl (st_set ha rfl (ex_loadN ha Tryz.underlying78 rfl Ty.t78 (hs.rdAll (b:=b5))) rfl fun a ha=>?_)
   refine ⟨fun h=>absurd h (by decide),?_⟩
   refine D1 rfl (st_call ha rfl Ty.c141 rfl (pred_chain (to:=0) (past:=y) (m:=to - y.length) hs hb (by omega) hyc (by omega) (fun w' hw=>hw.rdB ad2 y rfl rfl) (fun w' hw=>ht w' hw.tail.tail)) ?_); clear ha hs
   rintro e w ⟨adc,cc,rfl,hs⟩
   refine ⟨_,rfl,?_⟩
   intro a ha
   refine ⟨fun h=>absurd h (by decide),?_⟩
   replace hs:=hs.cutSlM ad2 y.length (Nat.le_refl _)
   rw [cutAd_zero,Nat.mul_one,List.take_of_length_le (by rw [bc_len]; exact Nat.le_refl _)] at hs
   have hchl:=chainB_len b y (to - y.length)
   refine D1 rfl (st_appendT ha rfl hs Tryz.underlying22 Ty.t5 rfl rfl (by decide) (fun h0=>(hs.tail.rdB adc (chainB b y (to - y.length)) rfl hchl).get h0) (by rw [bc_len]; omega) (bc_one _) (by omega) fun ad47 c47 a w ha hs=>?_)
   refine ⟨fun h=>absurd h (by decide),?_⟩
   rw [← bc_app,chain_all,show y.length+(to - y.length)=(chainN b y (to - y.length)).length from by rw [chainN_len]] at hs
   rw [show y.length+(to - y.length)=(chainN b y (to - y.length)).length from by rw [chainN_len]] at ha
   refine DP hpk ha rfl fun a ha=>?_
   refine DD<|TN<|wp_ret ?_
   refine ret1 ha rfl ?_
   obtain ⟨t,hyt⟩:=hy1
   refine ⟨ad47,c47,_,rfl,⟨⟨⟨t++chainB b y (to - y.length),?_⟩,by rw [chainN_len]; omega,by rw [chainN_len]; omega⟩,fun h=>?_⟩,hs.sub⟩
   · rw [← chain_all,hyt,List.append_assoc]
   · rw [hy3 h,fullB]
set_option maxHeartbeats 1000000 in
theorem guess_ahead {qb : Nat} {lbs : List Nat} {ls : List (List UInt8)} (hR : r=0∨RankS) (hr : r≤100000) (hs : St W w (Qu qb lbs ls::L)) (hb : mayGs b) (h0 : ls≠[]) (h8 : ls.length≤8) (hl : ∀ l∈ls,l.length≤1000) (hto : to≤1000) (ht : ∀ w',St W w' L→RdB w' adT b.table.length b.table) :
   Calls Tryz.prog 56 #[.pointer (some ⟨qb,0,none⟩),.agg (gsC b adT cT).toArray,.int .i64 r,.int .i64 to] w fun e w'=>∃ (ad' : Option Addr) (c' : Nat) (X : List (List UInt8)),e=.returned (.slice ad' (to - frontL ls) c')∧(FitX to ls X∧(r=0→X=fullL b ls to)) ∧
     St W w' (OwnBB ad' (to - frontL ls) c' (aheadX X (frontL ls) to)::Qu qb lbs ls::L):=by
 refine calls_enter Tryz.func56 rfl Tryz.ntmps56 (Nat.le_of_ble_eq_true rfl) ?_
 intro a ha
 replace ha : Fr a 84 [(0,_),(1,_),(2,_),(3,_)]:=ha
 refine WS<|WR ?_
 refine SK (st_box ha rfl hs rfl fun b5 a w ha hs ho=>?_)
 clear ho
 change St W w (blk b5 78 (gsC b adT cT)::_) at hs
 refine S1 ha fun a ha=>?_
 refine LN<|TN<|WS<|WS<|WR ?_
 iterate 3 (refine S1 ha fun a ha=>?_)
 refine SK (st_set ha (wgT ha rfl (s:=21)) (ex_loadN ha Tryz.underlying78 rfl Ty.t78 (hs.rdAll (b:=b5))) rfl fun a ha=>?_)
 refine SK (st_call ha (wgT ha rfl (s:=21)) Ty.c38 rfl (pred_may hs) ?_); clear ha hs
 rintro e w ⟨rr,rfl,hrr,hs⟩
 refine ⟨_,rfl,?_⟩
 intro a ha
 rw [hrr.2 hb] at ha
 refine S1g (s:=21) ha fun a ha=>?_
 refine PF ha fun a ha=>?_
 refine S1 ha fun a ha=>?_
 iterate 2 (refine S1g (s:=26) ha fun a ha=>?_)
 refine PF ha fun a ha=>?_
 refine S1 ha fun a ha=>?_
 rw [decide_eq_false (by omega)] at ha
 iterate 2 (refine S1g (s:=30) ha fun a ha=>?_)
 refine PF ha fun a ha=>?_
 refine LN<|TN ?_
 rw [decide_eq_false (by omega)] at ha
 refine WFa ha<|WK<|TN<|WS<|WR ?_
 refine S1 ha fun a ha=>?_
 refine SK (st_call ha rfl Ty.c49 rfl (queue_front (hs.pick (Qu qb lbs ls)) h0 h8) ?_); clear ha hs
 rintro e w ⟨rfl,hs⟩
 refine ⟨_,rfl,?_⟩
 intro a ha
 refine S1 ha fun a ha=>?_
 refine LN<|TN<|WS<|WR ?_
 refine S1 ha fun a ha=>?_
 refine LN<|TN<|WS<|WS<|WR ?_
 refine S1 ha fun a ha=>?_
 refine SK (st_call ha rfl Ty.c95 rfl (queue_n hs) ?_); clear ha hs
 rintro e w ⟨rfl,hs⟩
 refine ⟨_,rfl,?_⟩
 intro a ha
 refine S1 ha fun a ha=>?_
 refine LN ?_
 replace hs:=hs.sl0 22 1 none
 replace hs:=St.allNil (f:=bbo) hs
 refine TN<|wp_block ?_
 refine wp_loop_ghost (fun μ a w=>∃ (i : Nat) (rr : Nat) (xs : List BBx) (adx : Option Addr) (cx : Nat),(μ=ls.length - i∧i≤ls.length∧xs.length=i∧(rr=0∨RankS)∧rr≤100000∧(r=0→rr=0)∧(∀ (j : Nat) (l : List UInt8) (x : BBx),ls[j]?=some l→xs[j]?=some x→FitB to l x.2.2)∧(r=0→xs.map (·.2.2)=(fullL b ls to).take i))∧Fr a 84 [(0,.pointer (some ⟨qb,0,none⟩)),(2,.int .i64 rr),(3,.int .i64 to),(5,.pointer (some ⟨b5,0,none⟩)),(9,.int .i64 (frontL ls)),(10,.slice adx i cx),(37,.int .i64 ls.length),(38,.int .i64 i)]∧St W w (Sl 22 1 adx i cx (xs.map bbv)::All bbo xs::Qu qb lbs ls::blk b5 78 (gsC b adT cT)::L)) (ls.length) ?_ ?_
 · exact ⟨0,r,[],none,0,⟨rfl,by omega,rfl,hR,hr,fun h=>h,fun j l x _ h=>by simp at h,fun _=>rfl⟩,ha.keep [0,2,3,5,9,10,37,38],(hs.sub : St W w (Sl 22 1 none 0 0 []::All bbo []::Qu qb lbs ls::blk b5 78 (gsC b adT cT)::L))⟩
 ·
  clear ha hs
  rintro μ a w ⟨i,rr,xs,adx,cx,⟨rfl,hi,hxl,hRr,hrr1,hrr0,hfit,hful⟩,ha,hs⟩
  refine WS<|WR ?_
  refine S1 ha fun a ha=>?_
  refine LN<|TN<|WS ?_
  refine WI ha (fun hc1=>?_) (fun hc1=>?_)
  ·
   have hil : i < ls.length:=by omega
   have hlt:=hl _ (ln_mem hil)
   refine WK<|TN<|WS<|wp_block<|WS<|WR ?_
   iterate 2 (refine S1 ha fun a ha=>?_)
   refine LN<|TN<|WS<|WR ?_
   iterate 2 (refine S1 ha fun a ha=>?_)
   refine SK (st_call ha rfl Ty.c60 rfl (queue_line (hs.pick (Qu qb lbs ls)) hil) ?_); clear ha hs
   rintro e w ⟨rfl,hs⟩
   refine ⟨_,rfl,?_⟩
   intro a ha
   refine SK (st_call ha rfl Ty.c104 rfl (q_all hs hil hlt) ?_); clear ha hs
   rintro e w ⟨adp,cp,rfl,hs⟩
   refine ⟨_,rfl,?_⟩
   intro a ha
   refine S1 ha fun a ha=>?_
   refine LN<|TN<|WS<|WR ?_
   refine S1 ha fun a ha=>?_
   refine LN<|TN ?_
   refine wp_seq_cut (M:=fun a w=>∃ k rr' : Nat,((k=0∨RankS)∧k≤100000∧(rr'=0∨RankS)∧rr'≤100000∧(r=0→k=0∧rr'=0))∧Fr a 84 [(0,.pointer (some ⟨qb,0,none⟩)),(2,.int .i64 rr'),(3,.int .i64 to),(5,.pointer (some ⟨b5,0,none⟩)),(9,.int .i64 (frontL ls)),(10,.slice adx i cx),(12,.slice adp (ls.getD i []).length cp),(13,.int .i64 k),(37,.int .i64 ls.length),(38,.int .i64 i)]∧St W w (Sl 5 1 adp (ls.getD i []).length cp (bc (ls.getD i []))::Sl 22 1 adx i cx (xs.map bbv)::All bbo xs::Qu qb lbs ls::blk b5 78 (gsC b adT cT)::L)) ?_ ?_
   ·
    refine WS<|WR ?_
    iterate 4 (refine S1 ha fun a ha=>?_)
    refine LN<|TN ?_
    refine WI ha (fun hc2=>?_) (fun hc2=>?_)
    ·
     refine WR ?_
     refine S1 ha fun a ha=>?_
     iterate 2 (refine S1d ha fun a ha=>?_)
     refine LN<|TN ?_
     exact ⟨rr,0,⟨hRr,hrr1,.inl rfl,by omega,fun h=>⟨hrr0 h,rfl⟩⟩,ha.keep [0,2,3,5,9,10,12,13,37,38],hs.sub⟩
    ·
     refine WK<|TN ?_
     exact ⟨0,rr,⟨.inl rfl,by omega,hRr,hrr1,fun h=>⟨rfl,hrr0 h⟩⟩,ha.keep [0,2,3,5,9,10,12,13,37,38],hs.sub⟩
   ·
    clear ha; (try clear hs)
    intro a w hcut
    obtain ⟨k,rr',⟨hk1,hk2,hk3,hk4,hk5⟩,ha,hs⟩:=hcut
    refine WR ?_
    iterate 2 (refine S1 ha fun a ha=>?_)
    refine SK (st_set ha rfl (ex_loadN ha Tryz.underlying78 rfl Ty.t78 (hs.rdAll (b:=b5))) rfl fun a ha=>?_)
    iterate 2 (refine S1 ha fun a ha=>?_)
    refine SK (st_call ha rfl Ty.c105 rfl (guess_line hk1 hk2 hs hb hlt hto (fun w' hw=>ht w' hw.tail.tail.tail.tail)) ?_); clear ha hs
    rintro e w ⟨adl,cl,x,rfl,⟨hfx,hfu⟩,hs⟩
    refine ⟨_,rfl,?_⟩
    intro a ha
    refine SK (st_buildSlice ha rfl hs Tryz.underlying41 Ty.t22 rfl rfl rfl rfl (by decide) (by decide) fun b56 a w ha hs ho=>?_)
    clear ho
    refine SK (st_append ha rfl hs Tryz.underlying41 Ty.t22 rfl rfl hs.rdAll rfl (by simp [Value.oneCell']) (by decide) (by decide) (by omega) fun ad57 c57 a w ha hs=>?_)
    rw [show List.map bbv xs++_=List.map bbv (xs++[(adl,cl,x)]) from by rw [List.map_append]; rfl] at hs
    refine S1d ha fun a ha=>?_
    refine LN<|BN<|TN<|WR ?_
    refine SK (st_set ha rfl (ex_addI ha (by omega) (by omega)) rfl fun a ha=>?_)
    refine S1d ha fun a ha=>?_
    refine LN<|TN ?_
    have hs2:=St.allPush (f:=bbo) (x:=(adl,cl,x)) (hs.sub (M:=Sl 5 1 adl x.length cl (bc x)::All bbo xs::Sl 22 1 ad57 (i+1) c57 ((xs++[(adl,cl,x)]).map bbv)::Qu qb lbs ls::blk b5 78 (gsC b adT cT)::L))
    refine ⟨ls.length - (i+1),by omega,i+1,rr',xs++[(adl,cl,x)],ad57,c57,⟨rfl,by omega,by rw [List.length_append,hxl]; rfl,hk3,hk4,fun h=>(hk5 h).2,fun j l y hj hy=>?_,fun h=>?_⟩,ha.keep [0,2,3,5,9,10,37,38],hs2.sub⟩
    · by_cases hji : j < i
      · rw [List.getElem?_append_left (by omega)] at hy
        exact hfit j l y hj hy
      · have hjl:=(List.getElem?_eq_some_iff.1 hy).1
        rw [List.length_append,List.length_singleton] at hjl
        obtain rfl : j=i:=by omega
        rw [List.getElem?_append_right (by omega),hxl,Nat.sub_self] at hy
        obtain rfl : (adl,cl,x)=y:=by simpa using hy
        rw [show l=ls.getD j [] from by rw [List.getD_eq_getElem?_getD,hj]; rfl]
        exact hfx
    · rw [List.map_append,hful h,List.take_succ_eq_append_getElem (by rw [fullL,List.length_map]; exact hil)]
      congr 1
      rw [List.map_singleton,hfu (hk5 h).1]
      simp [fullL,List.getD_eq_getElem?_getD,hil]
  ·
   obtain rfl : i=ls.length:=by omega
   have hX : FitX to ls (xs.map (·.2.2)):=⟨by rw [List.length_map]; exact hxl,fun j l x hj hx=>by
     rw [List.getElem?_map] at hx
     obtain ⟨y,hy,rfl⟩:=Option.map_eq_some_iff.1 hx
     exact hfit j l y hj hy⟩
   have hXf : r=0→xs.map (·.2.2)=fullL b ls to:=fun h=>by rw [hful h,List.take_of_length_le (by rw [fullL,List.length_map]; exact Nat.le_refl _)]
   clear hfit hful
   have hfr : frontL ls≤1000:=by
     obtain ⟨l,hl1,hl2⟩:=frontL_some h0
     rw [hl2]; exact hl l hl1
   refine wp_exit<|TE<|TE<|blk_e<|TN<|WS<|WR ?_
   refine S1 ha fun a ha=>?_
   refine LN<|TN<|WS<|WS<|WR ?_
   iterate 2 (refine S1 ha fun a ha=>?_)
   refine LN ?_
   replace hs:=hs.sl0 22 1 none
   replace hs:=St.allNil (f:=bbo) hs
   refine TN<|wp_block ?_
   refine wp_loop_ghost (fun μ a w=>∃ (d : Nat) (zs : List BBx) (adz : Option Addr) (cz : Nat),(μ=to - frontL ls - d∧d≤to - frontL ls∧zs.map (·.2.2)=(List.range d).map fun i=>jointL (xs.map (·.2.2)) (frontL ls+i))∧Fr a 84 [(3,.int .i64 to),(10,.slice adx ls.length cx),(14,.slice adz d cz),(15,.int .i64 (frontL ls+d : Nat))]∧St W w (Sl 22 1 adz d cz (zs.map bbv)::All bbo zs::Sl 22 1 adx ls.length cx (xs.map bbv)::All bbo xs::Qu qb lbs ls::L)) (to - frontL ls) ?_ ?_
   · exact ⟨0,[],none,0,⟨rfl,by omega,rfl⟩,by rw [Nat.add_zero]; exact ha.keep [3,10,14,15],(hs.sub : St W w (Sl 22 1 none 0 0 []::All bbo []::Sl 22 1 adx ls.length cx (xs.map bbv)::All bbo xs::Qu qb lbs ls::L))⟩
   ·
    clear ha hs
    rintro μ a w ⟨d,zs,adz,cz,⟨rfl,hd,hzs⟩,ha,hs⟩
    refine WS<|WS<|WR ?_
    iterate 3 (refine S1 ha fun a ha=>?_)
    refine LN<|TN ?_
    refine WI ha (fun hc3=>?_) (fun hc3=>?_)
    ·
     refine WK<|TN<|WS<|wp_block<|WS<|WR ?_
     refine S1 ha fun a ha=>?_
     refine LN ?_
     replace hs:=hs.sl0 5 1 none
     refine TN<|WS<|WS<|WR ?_
     iterate 3 (refine S1 ha fun a ha=>?_)
     refine LN<|TN<|wp_block ?_
     refine wp_loop_ghost (fun μ a w=>∃ (i : Nat) (adj : Option Addr) (cj : Nat),(μ=ls.length - i∧i≤ls.length)∧Fr a 84 [(3,.int .i64 to),(10,.slice adx ls.length cx),(14,.slice adz d cz),(15,.int .i64 (frontL ls+d : Nat)),(16,.slice adj i cj),(65,.slice adx ls.length cx),(66,.int .i64 ls.length),(67,.int .i64 i)]∧St W w (Sl 5 1 adj i cj (bc (jointN (xs.map (·.2.2)) (frontL ls+d) i))::Sl 22 1 adz d cz (zs.map bbv)::All bbo zs::Sl 22 1 adx ls.length cx (xs.map bbv)::All bbo xs::Qu qb lbs ls::L)) (ls.length) ?_ ?_
     · exact ⟨0,none,0,⟨rfl,by omega⟩,ha.keep [3,10,14,15,16,65,66,67],hs⟩
     ·
      clear ha hs
      rintro μ a w ⟨i,adj,cj,⟨rfl,hi⟩,ha,hs⟩
      refine WS<|WR ?_
      refine S1 ha fun a ha=>?_
      refine LN<|TN<|WS ?_
      refine WI ha (fun hc4=>?_) (fun hc4=>?_)
      ·
       have hil : i < ls.length:=by omega
       obtain ⟨x,hx⟩ : ∃ x,xs[i]?=some x:=⟨_,List.getElem?_eq_getElem (by omega)⟩
       have hrX:=St.rdX (xs:=xs) (hs.sub (M:=Sl 22 1 adx ls.length cx (xs.map bbv)::All bbo xs::[]))
       obtain ⟨bx,ox,rfl,hrx⟩:=hrX.1 (by omega)
       have hxf:=hX.fit i _ x.2.2 (List.getElem?_eq_getElem hil) (by rw [List.getElem?_map,hx]; rfl)
       obtain ⟨bl,ol,hxe,hrl⟩:=(hrX.2 x (List.mem_of_getElem? hx)).get (by have:=hxf.2.1; omega)
       refine WK<|TN<|WS<|wp_block<|WS<|WR ?_
       refine SK (st_set ha rfl (ex_indexAddr ha Tryz.underlying41 Ty.t22 (by omega)) rfl fun a ha=>?_)
       rw [Nat.mul_one] at ha
       refine SL ha (hrx i (bbv x) (by rw [List.getElem?_map,hx]; rfl)) fun a ha=>?_
       refine S1 ha fun a ha=>?_
       refine LN<|TN<|WR ?_
       iterate 3 (refine S1 ha fun a ha=>?_)
       rw [bbv,hxe] at ha
       refine SK (st_set ha rfl (ex_indexAddr ha Tryz.underlying22 Ty.t5 (by have:=hxf.2.1; omega)) rfl fun a ha=>?_)
       rw [Nat.mul_one] at ha
       refine SL ha (hrl (frontL ls+d) _ (bc_atD (by have:=hxf.2.1; omega))) fun a ha=>?_
       refine SK (st_buildSlice ha rfl hs Tryz.underlying22 Ty.t5 rfl rfl rfl rfl (by decide) (by decide) fun b76 a w ha hs ho=>?_)
       clear ho
       refine SK (st_append ha rfl hs Tryz.underlying22 Ty.t5 rfl rfl hs.rdAll rfl (bc_one [x.2.2.getD (frontL ls+d) 0]) (by decide) (by decide) (by omega) fun ad77 c77 a w ha hs=>?_)
       rw [show bc (jointN (xs.map (·.2.2)) (frontL ls+d) i)++_=bc (jointN (xs.map (·.2.2)) (frontL ls+d) (i+1)) from by rw [jointN_succ (by rw [List.length_map]; omega),List.getElem_map,bc_app,(List.getElem?_eq_some_iff.1 hx).2]] at hs
       refine S1d ha fun a ha=>?_
       refine LN<|BN<|TN<|WR ?_
       refine SK (st_set ha rfl (ex_addI ha (by omega) (by omega)) rfl fun a ha=>?_)
       refine S1d ha fun a ha=>?_
       refine LN<|TN ?_
       exact ⟨ls.length - (i+1),by omega,i+1,ad77,c77,⟨rfl,by omega⟩,ha.keep [3,10,14,15,16,65,66,67],hs.sub⟩
      ·
       obtain rfl : i=ls.length:=by omega
       have hjl : jointN (xs.map (·.2.2)) (frontL ls+d) ls.length=jointL (xs.map (·.2.2)) (frontL ls+d):=by
         conv=>lhs; rw [← hX.len]
         exact jointN_all _ _
       rw [hjl] at hs
       have hjn : (jointL (xs.map (·.2.2)) (frontL ls+d)).length=ls.length:=by rw [jointL_len]; exact hX.len
       refine wp_exit<|TE<|TE<|blk_e<|TN<|WR ?_
       iterate 2 (refine S1 ha fun a ha=>?_)
       refine SK (st_buildSlice ha rfl hs Tryz.underlying41 Ty.t22 rfl rfl rfl rfl (by decide) (by decide) fun b81 a w ha hs ho=>?_)
       clear ho
       refine SK (st_append ha rfl hs Tryz.underlying41 Ty.t22 rfl rfl hs.rdAll rfl (by simp [Value.oneCell']) (by decide) (by decide) (by omega) fun ad82 c82 a w ha hs=>?_)
       rw [show List.map bbv zs++_=List.map bbv (zs++[(adj,cj,jointL (xs.map (·.2.2)) (frontL ls+d))]) from by rw [List.map_append,List.map_singleton,bbv,hjn]; rfl] at hs
       refine S1d ha fun a ha=>?_
       refine LN<|BN<|TN<|WR ?_
       refine S1 ha fun a ha=>?_
       refine SK (st_set ha rfl (ex_addI ha (by omega) (by omega)) rfl fun a ha=>?_)
       refine S1d ha fun a ha=>?_
       refine LN<|TN ?_
       have hs2:=St.allPush (f:=bbo) (x:=(adj,cj,jointL (xs.map (·.2.2)) (frontL ls+d))) (by
         rw [bbo,hjn]
         exact hs.sub (M:=Sl 5 1 adj ls.length cj (bc (jointL (xs.map (·.2.2)) (frontL ls+d)))::All bbo zs::Sl 22 1 ad82 (d+1) c82 ((zs++[(adj,cj,jointL (xs.map (·.2.2)) (frontL ls+d))]).map bbv)::Sl 22 1 adx ls.length cx (xs.map bbv)::All bbo xs::Qu qb lbs ls::L))
       exact ⟨to - frontL ls - (d+1),by omega,d+1,zs++[(adj,cj,jointL (xs.map (·.2.2)) (frontL ls+d))],ad82,c82,⟨rfl,by omega,by rw [List.map_append,hzs,List.range_succ,List.map_append]; rfl⟩,by rw [show ((frontL ls+(d+1) : Nat) : Int)=((frontL ls+d : Nat) : Int)+1 from by omega]; exact ha.keep [3,10,14,15],hs2.sub⟩
    ·
     obtain rfl : d=to - frontL ls:=by omega
     refine wp_exit<|TE<|TE<|blk_e<|TN<|WS<|WR ?_
     iterate 2 (refine S1 ha fun a ha=>?_)
     refine LN<|TN<|wp_ret ?_
     refine ret1 ha rfl ?_
     exact ⟨adz,cz,xs.map (·.2.2),rfl,⟨hX,hXf⟩,OwnBB.close (xs:=zs) (hs.sub (M:=Sl 22 1 adz (to - frontL ls) cz (zs.map bbv)::All bbo zs::Qu qb lbs ls::L)) hzs (aheadX_len _ _ _)⟩
end
end Go.Proofs.YtagpkhbkdbaigaaGreat
