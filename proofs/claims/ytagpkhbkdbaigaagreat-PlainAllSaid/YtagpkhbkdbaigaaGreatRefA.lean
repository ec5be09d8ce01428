/- The document's lines and guesses for all: quintainref12.Front, Joint, Ahead. -/
import Derived.Test.YtagpkhbkdbaigaaGreatGuess
namespace Go.Proofs.YtagpkhbkdbaigaaGreat
open Go.RowKit
set_option linter.unusedVariables false
set_option linter.unusedSimpArgs false
set_option maxRecDepth 10000
set_option synthInstance.maxSize 4000
set_option synthInstance.maxHeartbeats 400000
abbrev prx (xs : List BBx) : List (List UInt8):=xs.map (·.2.2)
theorem prx_get {xs : List BBx} {i : Nat} {x : BBx} (h : xs[i]?=some x) : (prx xs).getD i []=x.2.2:=by
 rw [List.getD_eq_getElem?_getD,List.getElem?_map,h]; rfl
theorem prx_len (xs : List BBx) : (prx xs).length=xs.length:=List.length_map _
theorem RdX.at {w : World} {ad : Option Addr} {xs : List BBx} (h : RdX w ad xs) {i : Nat} (hi : i < xs.length) : ∃ b off x,ad=some ⟨b,off,none⟩∧xs[i]?=some x∧w.cell? ⟨b,off+i,none⟩=some (bbv x)∧RdB w x.1 x.2.2.length x.2.2:=by
 obtain ⟨b,off,hb,hr⟩:=h.1 (by omega)
 have hx : xs[i]?=some xs[i]:=List.getElem?_eq_getElem hi
 exact ⟨b,off,xs[i],hb,hx,hr i _ (by rw [List.getElem?_map,hx]; rfl),h.2 _ (List.mem_of_getElem? hx)⟩
section
variable {W w : World} {L L' R : List SP} {n c m cT to r f cl : Nat} {ad adT adl : Option Addr} {past : List UInt8} {b : Gs} {g : Nat→Int} {xs : List BBx}
theorem ref_front (hs : St W w L) (h0 : 0 < xs.length) (h8 : xs.length≤8) (hp : ∀ w',St W w' L→RdX w' adl xs) :
   Calls Tryz.prog 57 #[.slice adl xs.length cl] w fun e w'=>e=.returned (.int .i64 (frontL (prx xs)))∧St W w' L:=by
 refine calls_enter Tryz.func57 rfl Tryz.ntmps57 (Nat.le_of_ble_eq_true rfl) ?_
 intro a ha
 replace ha : Fr a 25 [(0,_)]:=ha
 refine WS<|WR ?_
 refine S1 ha fun a ha=>?_
 refine LN<|TN<|WS ?_
 obtain ⟨bl,ol,x0,rfl,hx0,hcx,hrx⟩:=(hp _ hs).at h0
 refine WR ?_
 refine S1 ha fun a ha=>?_
 refine SK (st_set ha rfl (ex_indexAddr ha Tryz.underlying55 Ty.t54 (by omega)) rfl fun a ha=>?_)
 rw [Nat.zero_mul] at ha
 refine S1 ha fun a ha=>?_
 refine SL ha (hcx) fun a ha=>?_
 rw [bbv] at ha
 iterate 2 (refine S1 ha fun a ha=>?_)
 refine LN<|TN<|WS<|WS<|WR ?_
 refine S1 ha fun a ha=>?_
 refine LN ?_
 rw [show ((x0.2.2.length : Nat) : Int)=(frontN (prx xs) 1 : Nat) from by rw [frontN_one,frontN,List.headD_eq_getD,prx_get hx0]] at ha
 refine TN<|wp_block ?_
 refine wp_loop_ghost (fun μ a w=>∃ (i : Nat),(μ=xs.length - i∧i≤xs.length∧1≤i)∧Fr a 25 [(0,.slice (some ⟨bl,ol,none⟩) xs.length cl),(3,.int .i64 (frontN (prx xs) i : Nat)),(4,.int .i64 i)]∧St W w L) (xs.length - 1) ?_ ?_
 · exact ⟨1,⟨rfl,by omega,by omega⟩,ha.keep [0,3,4],hs⟩
 ·
  clear ha hs
  rintro μ a w ⟨i,⟨rfl,hi,hi1⟩,ha,hs⟩
  refine WS<|WS<|WR ?_
  iterate 4 (refine S1 ha fun a ha=>?_)
  refine LN<|TN ?_
  refine WI ha (fun hc0=>?_) (fun hc0=>?_)
  ·
   obtain ⟨_,_,x,hxe,hx,hcx,hrx⟩:=(hp _ hs).at (i:=i) (by omega)
   cases hxe
   refine WK<|TN<|WS<|wp_block<|WR ?_
   iterate 3 (refine S1 ha fun a ha=>?_)
   refine SK (st_set ha rfl (ex_indexAddr ha Tryz.underlying55 Ty.t54 (by omega)) rfl fun a ha=>?_)
   rw [Nat.mul_one] at ha
   refine S1 ha fun a ha=>?_
   refine SL ha (hcx) fun a ha=>?_
   rw [bbv] at ha
   refine S1 ha fun a ha=>?_
   refine SK (st_set ha rfl (ex_min ha) rfl fun a ha=>?_)
   rw [show min ((frontN (prx xs) i : Nat) : Int) ((x.2.2.length : Nat) : Int)=((frontN (prx xs) (i+1) : Nat) : Int) from by rw [frontN,prx_get hx]; omega] at ha
   refine S1d ha fun a ha=>?_
   refine LN<|BN<|TN<|WR ?_
   refine S1 ha fun a ha=>?_
   refine SK (st_set ha rfl (ex_addI ha (by omega) (by omega)) rfl fun a ha=>?_)
   refine S1d ha fun a ha=>?_
   refine LN<|TN ?_
   exact ⟨xs.length - (i+1),by omega,i+1,⟨rfl,by omega,by omega⟩,ha.keep [0,3,4],hs⟩
  ·
   refine wp_exit<|TE<|TE<|blk_e<|TN<|WS<|WR ?_
   iterate 2 (refine S1 ha fun a ha=>?_)
   refine LN<|TN<|wp_ret ?_
   refine ret1 ha rfl ?_
   obtain rfl : i=xs.length:=by omega
   exact ⟨by rw [frontL,prx_len],hs⟩
theorem ref_joint (hs : St W w L) (h0 : 0 < xs.length) (h8 : xs.length≤8) (hp : ∀ w',St W w' L→RdX w' adl xs) (hf : f < frontL (prx xs)) :
   Calls Tryz.prog 22 #[.slice adl xs.length cl,.int .i64 f] w fun e w'=>∃ ad' c',e=.returned (.slice ad' (jointL (prx xs) f).length c')∧St W w' (Sl 5 1 ad' (jointL (prx xs) f).length c' (bc (jointL (prx xs) f))::L):=by
 refine calls_enter Tryz.func22 rfl Tryz.ntmps22 (Nat.le_of_ble_eq_true rfl) ?_
 intro a ha
 replace ha : Fr a 25 [(0,_),(1,_)]:=ha
 refine WS<|WR ?_
 refine S1 ha fun a ha=>?_
 refine LN<|TN<|WS<|WR ?_
 refine S1 ha fun a ha=>?_
 refine LN<|TN<|WS<|WS<|WR ?_
 refine S1 ha fun a ha=>?_
 refine LN ?_
 replace hs:=hs.sl0 5 1 none
 refine TN<|wp_block ?_
 refine wp_loop_ghost (fun μ a w=>∃ (i : Nat) (ad2 : Option Addr) (c2 : Nat),(μ=xs.length - i∧i≤xs.length)∧Fr a 25 [(0,.slice adl xs.length cl),(1,.int .i64 f),(5,.slice ad2 (jointN (prx xs) f i).length c2),(6,.int .i64 i)]∧St W w (Sl 5 1 ad2 (jointN (prx xs) f i).length c2 (bc (jointN (prx xs) f i))::L)) (xs.length) ?_ ?_
 · exact ⟨0,none,0,⟨rfl,by omega⟩,ha.keep [0,1,5,6],hs⟩
 ·
  clear ha hs
  rintro μ a w ⟨i,ad2,c2,⟨rfl,hi⟩,ha,hs⟩
  refine WS<|WS<|WR ?_
  iterate 4 (refine S1 ha fun a ha=>?_)
  refine LN<|TN ?_
  refine WI ha (fun hc0=>?_) (fun hc0=>?_)
  ·
   obtain ⟨bl,ol,x,rfl,hx,hcx,hrx⟩:=(hp _ hs.tail).at (i:=i) (by omega)
   have hfl : f < x.2.2.length:=by
     have h1:=frontL_le (ls:=prx xs) (l:=x.2.2) (List.mem_map.2 ⟨x,List.mem_of_getElem? hx,rfl⟩)
     omega
   obtain ⟨bx,ox,hxe,hrl⟩:=hrx.get (by omega)
   have hjl:=jointN_len (ls:=prx xs) (f:=f) (i:=i) (by rw [prx_len]; exact hi)
   refine WK<|TN<|WS<|wp_block<|WR ?_
   iterate 3 (refine S1 ha fun a ha=>?_)
   refine SK (st_set ha rfl (ex_indexAddr ha Tryz.underlying55 Ty.t54 (by omega)) rfl fun a ha=>?_)
   rw [Nat.mul_one] at ha
   refine S1 ha fun a ha=>?_
   refine SL ha (hcx) fun a ha=>?_
   rw [bbv,hxe] at ha
   refine S1 ha fun a ha=>?_
   refine SK (st_set ha rfl (ex_indexAddr ha Tryz.underlying22 Ty.t5 (by omega)) rfl fun a ha=>?_)
   rw [Nat.mul_one] at ha
   refine SL ha (hrl f _ (bc_atD hfl)) fun a ha=>?_
   refine SK (st_buildSlice ha rfl hs Tryz.underlying22 Ty.t5 rfl rfl rfl rfl (by decide) (by decide) fun b22 a w ha hs ho=>?_)
   clear ho
   refine SK (st_append ha rfl hs Tryz.underlying22 Ty.t5 rfl rfl hs.rdAll rfl (bc_one [x.2.2.getD f 0]) (by decide) (by decide) (by omega) fun ad23 c23 a w ha hs=>?_)
   rw [show bc (jointN (prx xs) f i)++_=bc (jointN (prx xs) f (i+1)) from by rw [jointN_succ (by rw [prx_len]; omega),List.getElem_map,bc_app,(List.getElem?_eq_some_iff.1 hx).2],show (jointN (prx xs) f i).length+1=(jointN (prx xs) f (i+1)).length from by rw [hjl,jointN_len (by rw [prx_len]; omega)]] at hs
   rw [show (jointN (prx xs) f i).length+1=(jointN (prx xs) f (i+1)).length from by rw [hjl,jointN_len (by rw [prx_len]; omega)]] at ha
   refine S1d ha fun a ha=>?_
   refine LN<|BN<|TN<|WR ?_
   refine S1 ha fun a ha=>?_
   refine SK (st_set ha rfl (ex_addI ha (by omega) (by omega)) rfl fun a ha=>?_)
   refine S1d ha fun a ha=>?_
   refine LN<|TN ?_
   exact ⟨xs.length - (i+1),by omega,i+1,ad23,c23,⟨rfl,by omega⟩,ha.keep [0,1,5,6],hs.sub⟩
  ·
   refine wp_exit<|TE<|TE<|blk_e<|TN<|WS<|WR ?_
   iterate 2 (refine S1 ha fun a ha=>?_)
   refine LN<|TN<|wp_ret ?_
   refine ret1 ha rfl ?_
   obtain rfl : i=xs.length:=by omega
   have hj : jointN (prx xs) f xs.length=jointL (prx xs) f:=by
     conv=>lhs; rw [← prx_len xs]
     exact jointN_all _ _
   rw [hj] at hs ⊢
   exact ⟨_,_,rfl,hs⟩
set_option maxHeartbeats 1000000 in
theorem ref_aheadG (hr : r≤100000) (hs : St W w L) (hb : mayGs b) (h0 : 0 < xs.length) (h8 : xs.length≤8) (hl : ∀ l∈prx xs,l.length≤1000) (hto : to≤1000) (hp : ∀ w',St W w' L→RdX w' adl xs) (ht : ∀ w',St W w' L→RdB w' adT b.table.length b.table) :
   Calls Tryz.prog 24 #[.slice adl xs.length cl,.agg (gsC b adT cT).toArray,.int .i64 r,.int .i64 to] w fun e w'=>∃ (ad' : Option Addr) (c' : Nat) (X : List (List UInt8)),e=.returned (.slice ad' (to - frontL (prx xs)) c')∧(FitX to (prx xs) X∧(r=0→X=fullL b (prx xs) to)) ∧
     St W w' (OwnBB ad' (to - frontL (prx xs)) c' (aheadX X (frontL (prx xs)) to)::L):=by
 have hne : prx xs≠[]:=fun e=>by have h1:=prx_len xs; rw [e] at h1; simp at h1; omega
 have hfr : frontL (prx xs)≤1000:=by
   obtain ⟨l,hl1,hl2⟩:=frontL_some hne
   rw [hl2]; exact hl l hl1
 refine calls_enter Tryz.func24 rfl Tryz.ntmps24 (Nat.le_of_ble_eq_true rfl) ?_
 intro a ha
 replace ha : Fr a 117 [(0,_),(1,_),(2,_),(3,_)]:=ha
 refine WS<|WR ?_
 refine SK (st_box ha rfl hs rfl fun b5 a w ha hs ho=>?_)
 clear ho
 change St W w (blk b5 50 (gsC b adT cT)::_) at hs
 refine S1 ha fun a ha=>?_
 refine LN<|TN<|WS<|WR ?_
 refine S1 ha fun a ha=>?_
 refine SK (st_call ha rfl Ty.c57 rfl (ref_front (cl:=cl) hs h0 h8 (fun w' hw=>hp w' hw.tail)) ?_); clear ha hs
 rintro e w ⟨rfl,hs⟩
 refine ⟨_,rfl,?_⟩
 intro a ha
 refine S1 ha fun a ha=>?_
 refine LN<|TN<|WS<|WS<|WR ?_
 refine SK (st_set ha rfl (ex_loadN ha Tryz.underlying50 rfl Ty.t50 (hs.rdAll (b:=b5))) rfl fun a ha=>?_)
 refine SK (st_call ha rfl Ty.c54 rfl (ref_mayBy hs) ?_); clear ha hs
 rintro e w ⟨rr,rfl,hrr,hs⟩
 refine ⟨_,rfl,?_⟩
 intro a ha
 rw [hrr.2 hb] at ha
 iterate 2 (refine S1 ha fun a ha=>?_)
 iterate 2 (refine S1g (s:=23) ha fun a ha=>?_)
 refine PF ha fun a ha=>?_
 refine S1 ha fun a ha=>?_
 rw [decide_eq_false (by omega)] at ha
 iterate 2 (refine S1g (s:=27) ha fun a ha=>?_)
 refine PF ha fun a ha=>?_
 refine S1 ha fun a ha=>?_
 rw [decide_eq_false (by omega)] at ha
 iterate 3 (refine S1g (s:=31) ha fun a ha=>?_)
 refine PF ha fun a ha=>?_
 refine LN<|TN ?_
 refine WI ha (fun hc0=>?_) (fun hc0=>?_)
 ·
  refine WS<|WR ?_
  refine S1d ha fun a ha=>?_
  refine LN<|TN<|wp_ret<|TR ?_
  refine ret1 ha rfl ?_
  have hz : to - frontL (prx xs)=0:=by omega
  refine ⟨none,0,fullL b (prx xs) to,by rw [hz],⟨⟨by rw [fullL,List.length_map],fun j l x hj hx=>?_⟩,fun _=>rfl⟩,?_⟩
  · rw [fullL,List.getElem?_map,hj] at hx
    obtain rfl : fullB b l to=x:=by simpa using hx
    exact fullB_fit (hl l (List.mem_of_getElem? hj)) hto
  · rw [aheadX,hz]; exact OwnBB.nil hs.tail
 ·
  refine WK<|TN<|WS<|WR ?_
  refine S1 ha fun a ha=>?_
  refine LN<|TN<|WS<|WR ?_
  refine S1 ha fun a ha=>?_
  refine LN<|TN<|WS<|WS<|WR ?_
  refine S1 ha fun a ha=>?_
  refine LN ?_
  replace hs:=hs.sl0 22 1 none
  replace hs:=St.allNil (f:=bbo) hs
  have hfto : frontL (prx xs) < to:=by omega
  refine TN<|wp_block ?_
  refine wp_loop_ghost (fun μ a w=>∃ (i : Nat) (odd : Bool) (ys : List BBx) (ady : Option Addr) (cy : Nat),(μ=xs.length - i∧i≤xs.length∧ys.length=i∧(∀ (j : Nat) (l : List UInt8) (x : BBx),(prx xs)[j]?=some l→ys[j]?=some x→FitB to l x.2.2)∧(r=0→prx ys=(fullL b (prx xs) to).take i))∧Fr a 117 [(0,.slice adl xs.length cl),(2,.int .i64 r),(3,.int .i64 to),(5,.pointer (some ⟨b5,0,none⟩)),(9,.int .i64 (frontL (prx xs))),(10,.slice ady i cy),(11,.bool odd),(12,.int .i64 i)]∧St W w (Sl 22 1 ady i cy (ys.map bbv)::All bbo ys::blk b5 50 (gsC b adT cT)::L)) (xs.length) ?_ ?_
  · exact ⟨0,false,[],none,0,⟨rfl,by omega,rfl,fun j l x _ h=>by simp at h,fun _=>rfl⟩,ha.keep [0,2,3,5,9,10,11,12],(hs.sub : St W w (Sl 22 1 none 0 0 []::All bbo []::blk b5 50 (gsC b adT cT)::L))⟩
  ·
   clear ha hs
   rintro μ a w ⟨i,odd,ys,ady,cy,⟨rfl,hi,hyl,hfit,hful⟩,ha,hs⟩
   refine WS<|WS<|WR ?_
   iterate 4 (refine S1 ha fun a ha=>?_)
   refine LN<|TN ?_
   refine WI ha (fun hc1=>?_) (fun hc1=>?_)
   ·
    obtain ⟨bl,ol,x,rfl,hx,hcx,hrx⟩:=(hp _ hs.tail.tail.tail).at (i:=i) (by omega)
    have hxm : (prx xs)[i]?=some x.2.2:=by rw [List.getElem?_map,hx]; rfl
    have hxl:=hl _ (List.mem_of_getElem? hxm)
    replace hs:=hs.sl0 5 1 none
    refine WK<|TN<|WS<|wp_block<|WS<|WR ?_
    iterate 2 (refine S1 ha fun a ha=>?_)
    refine SK (st_set ha rfl (ex_indexAddr ha Tryz.underlying55 Ty.t54 (by omega)) rfl fun a ha=>?_)
    rw [Nat.mul_one] at ha
    refine S1 ha fun a ha=>?_
    refine SL ha (hcx) fun a ha=>?_
    rw [bbv] at ha
    refine SK (st_appendT ha rfl hs Tryz.underlying22 Ty.t5 rfl rfl (by decide) (fun h0=>hrx.get h0) (by rw [bc_len]; omega) (bc_one _) (by omega) fun ad47 c47 a w ha hs=>?_)
    rw [List.nil_append,Nat.zero_add] at hs
    rw [Nat.zero_add] at ha
    refine S1 ha fun a ha=>?_
    refine LN<|TN ?_
    refine wp_seq_cut (M:=fun a w=>∃ (odd' : Bool) (adp : Option Addr) (cp : Nat) (y : List UInt8),((∃ t,y=x.2.2++t)∧y.length≤x.2.2.length+1∧(y=x.2.2∨x.2.2.length=frontL (prx xs))∧(r=0→y=x.2.2))∧Fr a 117 [(0,.slice (some ⟨bl,ol,none⟩) xs.length cl),(2,.int .i64 r),(3,.int .i64 to),(5,.pointer (some ⟨b5,0,none⟩)),(9,.int .i64 (frontL (prx xs))),(10,.slice ady i cy),(11,.bool odd'),(12,.int .i64 i),(13,.slice adp y.length cp)]∧St W w (Sl 5 1 adp y.length cp (bc y)::Sl 22 1 ady i cy (ys.map bbv)::All bbo ys::blk b5 50 (gsC b adT cT)::L)) ?_ ?_
    ·
     refine WS<|WR ?_
     iterate 3 (refine S1 ha fun a ha=>?_)
     refine ha.by (s:=50) (fun hg2 ha=>?_) (fun hg2 ha=>?_)
     ·
      iterate 2 (refine S1g (s:=50) ha fun a ha=>?_)
      refine PT ha fun a ha=>?_
      refine S1 ha fun a ha=>?_
      refine ha.by (s:=54) (fun hg6 ha=>?_) (fun hg6 ha=>?_)
      ·
       iterate 4 (refine S1g (s:=54) ha fun a ha=>?_)
       refine PT ha fun a ha=>?_
       refine LN<|TN ?_
       refine WI ha (fun hc2=>?_) (fun hc2=>?_)
       ·
        refine WS<|WR ?_
        refine S1d ha fun a ha=>?_
        refine LN<|TN ?_
        have hr6 : r % 256 < 256:=Nat.mod_lt _ (by decide)
        have hc47:=(hs.sl ad47).2
        refine WR ?_
        refine S1 ha fun a ha=>?_
        refine SK (st_set ha rfl (ex_loadN ha Tryz.underlying50 rfl Ty.t50 (hs.rdAll (b:=b5))) rfl fun a ha=>?_)
        iterate 2 (refine S1 ha fun a ha=>?_)
        refine SK (st_set ha rfl (ex_rem ha (by decide)) rfl fun a ha=>?_)
        rw [show ((r : Nat) : Int).tmod 256=((r % 256 : Nat) : Int) from remN _ 256] at ha
        generalize hre : r % 256=r6 at ha hr6
        refine SK (st_set ha rfl (ex_addI ha (by omega) (by omega)) rfl fun a ha=>?_)
        rw [show ((r6 : Nat) : Int)+1=((r6+1 : Nat) : Int) from by omega] at ha
        refine SK (st_call ha rfl Ty.c58 rfl (ref_rank (past:=x.2.2) (k:=r6+1) hs hb (by omega) (by omega) hc47 (fun w' hw=>hw.rdB ad47 x.2.2 rfl rfl) (fun w' hw=>ht w' hw.tail.tail.tail.tail)) ?_); clear ha hs
        rintro e w ⟨adr,cr,out,rfl,⟨hol,_⟩,hs⟩
        refine ⟨_,rfl,?_⟩
        intro a ha
        obtain ⟨br,or',rfl,hrr⟩:=hs.slRd adr (by omega)
        refine S1 ha fun a ha=>?_
        refine SK (st_set ha rfl (ex_rem ha (by decide)) rfl fun a ha=>?_)
        rw [show ((r : Nat) : Int).tmod 256=((r6 : Nat) : Int) from by rw [← hre]; exact remN _ 256] at ha
        refine SK (st_set ha rfl (ex_indexAddr ha Tryz.underlying22 Ty.t5 (by omega)) rfl fun a ha=>?_)
        rw [Nat.mul_one] at ha
        refine SL ha (hrr r6 _ (bc_at (by omega))) fun a ha=>?_
        refine SK (st_buildSlice ha rfl hs Tryz.underlying22 Ty.t5 rfl rfl rfl rfl (by decide) (by decide) fun b71 a w ha hs ho=>?_)
        clear ho
        refine SK (st_append ha rfl hs Tryz.underlying22 Ty.t5 rfl rfl hs.rdAll rfl (bc_one [out[r6]]) (by decide) (by decide) (by omega) fun ad72 c72 a w ha hs=>?_)
        rw [show bc x.2.2++_=bc (x.2.2++[out[r6]]) from (bc_app _ [_]).symm,show x.2.2.length+1=(x.2.2++[out[r6]]).length from by simp] at hs
        rw [show x.2.2.length+1=(x.2.2++[out[r6]]).length from by simp] at ha
        refine S1d ha fun a ha=>?_
        refine LN<|TN ?_
        exact ⟨_,ad72,c72,x.2.2++[out[r6]],⟨⟨_,rfl⟩,by simp,.inr (by omega),fun h=>by omega⟩,ha.keep [0,2,3,5,9,10,11,12,13],hs.sub⟩
       ·
        refine WK<|TN ?_
        exact ⟨_,ad47,c47,x.2.2,⟨⟨[],by simp⟩,by omega,.inl rfl,fun _=>rfl⟩,ha.keep [0,2,3,5,9,10,11,12,13],hs.sub⟩
      ·
       iterate 4 (refine SO (s:=54) ha fun a ha=>?_)
       refine PF ha fun a ha=>?_
       refine LN<|TN<|WFa ha<|WK<|TN ?_
       exact ⟨_,ad47,c47,x.2.2,⟨⟨[],by simp⟩,by omega,.inl rfl,fun _=>rfl⟩,ha.keep [0,2,3,5,9,10,11,12,13],hs.sub⟩
     ·
      iterate 2 (refine SO (s:=50) ha fun a ha=>?_)
      refine PF ha fun a ha=>?_
      refine S1 ha fun a ha=>?_
      iterate 4 (refine SO (s:=54) ha fun a ha=>?_)
      refine PF ha fun a ha=>?_
      refine LN<|TN<|WFa ha<|WK<|TN ?_
      exact ⟨_,ad47,c47,x.2.2,⟨⟨[],by simp⟩,by omega,.inl rfl,fun _=>rfl⟩,ha.keep [0,2,3,5,9,10,11,12,13],hs.sub⟩
    ·
     clear ha; (try clear hs)
     intro a w hcut
     obtain ⟨odd',adp,cp,y,⟨hy1,hy2,hy4,hy3⟩,ha,hs⟩:=hcut
     refine wp_seq_cut (M:=fun a w=>∃ (adq : Option Addr) (cq : Nat) (z : List UInt8),(FitB to x.2.2 z∧(r=0→z=fullB b x.2.2 to))∧Fr a 117 [(0,.slice (some ⟨bl,ol,none⟩) xs.length cl),(2,.int .i64 r),(3,.int .i64 to),(5,.pointer (some ⟨b5,0,none⟩)),(9,.int .i64 (frontL (prx xs))),(10,.slice ady i cy),(11,.bool odd'),(12,.int .i64 i),(13,.slice adq z.length cq)]∧St W w (Sl 5 1 adq z.length cq (bc z)::Sl 22 1 ady i cy (ys.map bbv)::All bbo ys::blk b5 50 (gsC b adT cT)::L)) ?_ ?_
     ·
      refine WS<|WR ?_
      iterate 4 (refine S1 ha fun a ha=>?_)
      refine LN<|TN ?_
      refine WI ha (fun hc3=>?_) (fun hc3=>?_)
      ·
       have hyc:=(hs.sl adp).2
       have hchl:=chainB_len b y (to - y.length)
       refine WR ?_
       refine S1 ha fun a ha=>?_
       refine SK (st_set ha rfl (ex_loadN ha Tryz.underlying50 rfl Ty.t50 (hs.rdAll (b:=b5))) rfl fun a ha=>?_)
       iterate 4 (refine S1 ha fun a ha=>?_)
       refine SK (st_set ha rfl (ex_subI ha (by omega) (by omega)) rfl fun a ha=>?_)
       rw [show ((to : Nat) : Int) - ((y.length : Nat) : Int)=((to - y.length : Nat) : Int) from by omega] at ha
       refine SK (st_call ha rfl Ty.c59 rfl (ref_chain (past:=y) (m:=to - y.length) hs hb (by omega) hyc (by omega) (fun w' hw=>hw.rdB adp y rfl rfl) (fun w' hw=>ht w' hw.tail.tail.tail.tail)) ?_); clear ha hs
       rintro e w ⟨adc,cc,rfl,hs⟩
       refine ⟨_,rfl,?_⟩
       intro a ha
       refine SK (st_appendT ha rfl hs Tryz.underlying22 Ty.t5 rfl rfl (by decide) (fun h0=>(hs.rdB adc (chainB b y (to - y.length)) rfl hchl).get h0) (by rw [bc_len]; omega) (bc_one _) (by omega) fun ad85 c85 a w ha hs=>?_)
       rw [← bc_app,chain_all,show y.length+(to - y.length)=(chainN b y (to - y.length)).length from by rw [chainN_len]] at hs
       rw [show y.length+(to - y.length)=(chainN b y (to - y.length)).length from by rw [chainN_len]] at ha
       refine S1d ha fun a ha=>?_
       refine LN<|TN ?_
       obtain ⟨t,hyt⟩:=hy1
       refine ⟨ad85,c85,_,⟨⟨⟨t++chainB b y (to - y.length),?_⟩,by rw [chainN_len]; omega,by rw [chainN_len]; omega⟩,fun h=>?_⟩,ha.keep [0,2,3,5,9,10,11,12,13],hs.sub⟩
       · rw [← chain_all,hyt,List.append_assoc]
       · rw [hy3 h,fullB]
      ·
       refine WK<|TN ?_
       exact ⟨adp,cp,y,⟨⟨hy1,by omega,by omega⟩,fun h=>by rw [fullB_long (by rw [← hy3 h]; omega)]; exact hy3 h⟩,ha.keep [0,2,3,5,9,10,11,12,13],hs⟩
     ·
      clear ha; (try clear hs)
      intro a w hcut
      obtain ⟨adq,cq,z,⟨hz1,hz2⟩,ha,hs⟩:=hcut
      refine WR ?_
      iterate 2 (refine S1 ha fun a ha=>?_)
      refine SK (st_buildSlice ha rfl hs Tryz.underlying41 Ty.t22 rfl rfl rfl rfl (by decide) (by decide) fun b88 a w ha hs ho=>?_)
      clear ho
      refine SK (st_append ha rfl hs Tryz.underlying41 Ty.t22 rfl rfl hs.rdAll rfl (by simp [Value.oneCell']) (by decide) (by decide) (by omega) fun ad89 c89 a w ha hs=>?_)
      rw [show List.map bbv ys++_=List.map bbv (ys++[(adq,cq,z)]) from by rw [List.map_append]; rfl] at hs
      refine S1d ha fun a ha=>?_
      refine LN<|BN<|TN<|WR ?_
      refine S1 ha fun a ha=>?_
      refine SK (st_set ha rfl (ex_addI ha (by omega) (by omega)) rfl fun a ha=>?_)
      refine S1d ha fun a ha=>?_
      refine LN<|TN ?_
      have hs2:=St.allPush (f:=bbo) (x:=(adq,cq,z)) (hs.sub (M:=Sl 5 1 adq z.length cq (bc z)::All bbo ys::Sl 22 1 ad89 (i+1) c89 ((ys++[(adq,cq,z)]).map bbv)::blk b5 50 (gsC b adT cT)::L))
      refine ⟨xs.length - (i+1),by omega,i+1,odd',ys++[(adq,cq,z)],ad89,c89,⟨rfl,by omega,by rw [List.length_append,hyl]; rfl,fun j l y hj hy=>?_,fun h=>?_⟩,ha.keep [0,2,3,5,9,10,11,12],hs2.sub⟩
      · by_cases hji : j < i
        · rw [List.getElem?_append_left (by omega)] at hy
          exact hfit j l y hj hy
        · have hjl:=(List.getElem?_eq_some_iff.1 hy).1
          rw [List.length_append,List.length_singleton] at hjl
          obtain rfl : j=i:=by omega
          rw [List.getElem?_append_right (by omega),hyl,Nat.sub_self] at hy
          obtain rfl : (adq,cq,z)=y:=by simpa using hy
          rw [hxm] at hj
          obtain rfl : x.2.2=l:=by simpa using hj
          exact hz1
      · rw [prx,List.map_append,← prx,hful h,List.take_succ_eq_append_getElem (by rw [fullL,List.length_map,prx_len]; omega)]
        congr 1
        rw [List.map_singleton,hz2 h]
        simp only [fullL,List.getElem_map]
        rw [(List.getElem?_eq_some_iff.1 hx).2]
   ·
    obtain rfl : i=xs.length:=by omega
    have hX : FitX to (prx xs) (prx ys):=⟨by rw [prx_len,prx_len]; exact hyl,fun j l x hj hx=>by
      rw [List.getElem?_map] at hx
      obtain ⟨y,hy,rfl⟩:=Option.map_eq_some_iff.1 hx
      exact hfit j l y hj hy⟩
    have hXf : r=0→prx ys=fullL b (prx xs) to:=fun h=>by rw [hful h,List.take_of_length_le (by rw [fullL,List.length_map,prx_len]; exact Nat.le_refl _)]
    clear hfit hful
    refine wp_exit<|TE<|TE<|blk_e<|TN<|WS<|WR ?_
    refine S1 ha fun a ha=>?_
    refine LN<|TN<|WS<|WS<|WR ?_
    iterate 2 (refine S1 ha fun a ha=>?_)
    refine LN ?_
    replace hs:=hs.sl0 22 1 none
    replace hs:=St.allNil (f:=bbo) hs
    refine TN<|wp_block ?_
    refine wp_loop_ghost (fun μ a w=>∃ (d : Nat) (zs : List BBx) (adz : Option Addr) (cz : Nat),(μ=to - frontL (prx xs) - d∧d≤to - frontL (prx xs)∧prx zs=(List.range d).map fun i=>jointL (prx ys) (frontL (prx xs)+i))∧Fr a 117 [(0,.slice adl xs.length cl),(3,.int .i64 to),(10,.slice ady xs.length cy),(14,.slice adz d cz),(15,.int .i64 (frontL (prx xs)+d : Nat))]∧St W w (Sl 22 1 adz d cz (zs.map bbv)::All bbo zs::Sl 22 1 ady xs.length cy (ys.map bbv)::All bbo ys::L)) (to - frontL (prx xs)) ?_ ?_
    · exact ⟨0,[],none,0,⟨rfl,by omega,rfl⟩,by rw [Nat.add_zero]; exact ha.keep [0,3,10,14,15],(hs.sub : St W w (Sl 22 1 none 0 0 []::All bbo []::Sl 22 1 ady xs.length cy (ys.map bbv)::All bbo ys::L))⟩
    ·
     clear ha hs
     rintro μ a w ⟨d,zs,adz,cz,⟨rfl,hd,hzs⟩,ha,hs⟩
     refine WS<|WS<|WR ?_
     iterate 3 (refine S1 ha fun a ha=>?_)
     refine LN<|TN ?_
     refine WI ha (fun hc4=>?_) (fun hc4=>?_)
     ·
      refine WK<|TN<|WS<|wp_block<|WS<|WR ?_
      refine S1 ha fun a ha=>?_
      refine LN<|TN<|WS<|WS<|WR ?_
      refine S1 ha fun a ha=>?_
      refine LN ?_
      replace hs:=hs.sl0 5 1 none
      refine TN<|wp_block ?_
      refine wp_loop_ghost (fun μ a w=>∃ (i : Nat) (adj : Option Addr) (cj : Nat),(μ=xs.length - i∧i≤xs.length)∧Fr a 117 [(0,.slice adl xs.length cl),(3,.int .i64 to),(10,.slice ady xs.length cy),(14,.slice adz d cz),(15,.int .i64 (frontL (prx xs)+d : Nat)),(16,.slice adj i cj),(17,.int .i64 i)]∧St W w (Sl 5 1 adj i cj (bc (jointN (prx ys) (frontL (prx xs)+d) i))::Sl 22 1 adz d cz (zs.map bbv)::All bbo zs::Sl 22 1 ady xs.length cy (ys.map bbv)::All bbo ys::L)) (xs.length) ?_ ?_
      · exact ⟨0,none,0,⟨rfl,by omega⟩,ha.keep [0,3,10,14,15,16,17],hs⟩
      ·
       clear ha hs
       rintro μ a w ⟨i,adj,cj,⟨rfl,hi⟩,ha,hs⟩
       refine WS<|WS<|WR ?_
       iterate 4 (refine S1 ha fun a ha=>?_)
       refine LN<|TN ?_
       refine WI ha (fun hc5=>?_) (fun hc5=>?_)
       ·
        have hil : i < xs.length:=by omega
        have hrX:=St.rdX (xs:=ys) (hs.sub (M:=Sl 22 1 ady xs.length cy (ys.map bbv)::All bbo ys::[]))
        obtain ⟨by',oy,y,rfl,hy,hcy,hry⟩:=hrX.at (i:=i) (by omega)
        have hyf:=hX.fit i _ y.2.2 (List.getElem?_eq_getElem (by rw [prx_len]; exact hil)) (by rw [List.getElem?_map,hy]; rfl)
        obtain ⟨bb,oo,hye,hrl⟩:=hry.get (by have:=hyf.2.1; omega)
        refine WK<|TN<|WS<|wp_block<|WR ?_
        iterate 3 (refine S1 ha fun a ha=>?_)
        refine SK (st_set ha rfl (ex_indexAddr ha Tryz.underlying41 Ty.t22 (by omega)) rfl fun a ha=>?_)
        rw [Nat.mul_one] at ha
        refine SL ha (hcy) fun a ha=>?_
        rw [bbv,hye] at ha
        refine S1 ha fun a ha=>?_
        refine SK (st_set ha rfl (ex_indexAddr ha Tryz.underlying22 Ty.t5 (by have:=hyf.2.1; omega)) rfl fun a ha=>?_)
        rw [Nat.mul_one] at ha
        refine SL ha (hrl (frontL (prx xs)+d) _ (bc_atD (by have:=hyf.2.1; omega))) fun a ha=>?_
        refine SK (st_buildSlice ha rfl hs Tryz.underlying22 Ty.t5 rfl rfl rfl rfl (by decide) (by decide) fun b110 a w ha hs ho=>?_)
        clear ho
        refine SK (st_append ha rfl hs Tryz.underlying22 Ty.t5 rfl rfl hs.rdAll rfl (bc_one [y.2.2.getD (frontL (prx xs)+d) 0]) (by decide) (by decide) (by omega) fun ad111 c111 a w ha hs=>?_)
        rw [show bc (jointN (prx ys) (frontL (prx xs)+d) i)++_=bc (jointN (prx ys) (frontL (prx xs)+d) (i+1)) from by rw [jointN_succ (by rw [prx_len]; omega),List.getElem_map,bc_app,(List.getElem?_eq_some_iff.1 hy).2]] at hs
        refine S1d ha fun a ha=>?_
        refine LN<|BN<|TN<|WR ?_
        refine S1 ha fun a ha=>?_
        refine SK (st_set ha rfl (ex_addI ha (by omega) (by omega)) rfl fun a ha=>?_)
        refine S1d ha fun a ha=>?_
        refine LN<|TN ?_
        exact ⟨xs.length - (i+1),by omega,i+1,ad111,c111,⟨rfl,by omega⟩,ha.keep [0,3,10,14,15,16,17],hs.sub⟩
       ·
        obtain rfl : i=xs.length:=by omega
        have hjl : jointN (prx ys) (frontL (prx xs)+d) xs.length=jointL (prx ys) (frontL (prx xs)+d):=by
          conv=>lhs; rw [← hyl,← prx_len]
          exact jointN_all _ _
        rw [hjl] at hs
        have hjn : (jointL (prx ys) (frontL (prx xs)+d)).length=xs.length:=by rw [jointL_len,prx_len]; exact hyl
        refine wp_exit<|TE<|TE<|blk_e<|TN<|WR ?_
        iterate 2 (refine S1 ha fun a ha=>?_)
        refine SK (st_buildSlice ha rfl hs Tryz.underlying41 Ty.t22 rfl rfl rfl rfl (by decide) (by decide) fun b114 a w ha hs ho=>?_)
        clear ho
        refine SK (st_append ha rfl hs Tryz.underlying41 Ty.t22 rfl rfl hs.rdAll rfl (by simp [Value.oneCell']) (by decide) (by decide) (by omega) fun ad115 c115 a w ha hs=>?_)
        rw [show List.map bbv zs++_=List.map bbv (zs++[(adj,cj,jointL (prx ys) (frontL (prx xs)+d))]) from by rw [List.map_append,List.map_singleton,bbv,hjn]; rfl] at hs
        refine S1d ha fun a ha=>?_
        refine LN<|BN<|TN<|WR ?_
        refine S1 ha fun a ha=>?_
        refine SK (st_set ha rfl (ex_addI ha (by omega) (by omega)) rfl fun a ha=>?_)
        refine S1d ha fun a ha=>?_
        refine LN<|TN ?_
        have hs2:=St.allPush (f:=bbo) (x:=(adj,cj,jointL (prx ys) (frontL (prx xs)+d))) (by
          rw [bbo,hjn]
          exact hs.sub (M:=Sl 5 1 adj xs.length cj (bc (jointL (prx ys) (frontL (prx xs)+d)))::All bbo zs::Sl 22 1 ad115 (d+1) c115 ((zs++[(adj,cj,jointL (prx ys) (frontL (prx xs)+d))]).map bbv)::Sl 22 1 ady xs.length cy (ys.map bbv)::All bbo ys::L))
        exact ⟨to - frontL (prx xs) - (d+1),by omega,d+1,zs++[(adj,cj,jointL (prx ys) (frontL (prx xs)+d))],ad115,c115,⟨rfl,by omega,by rw [prx,List.map_append,← prx,hzs,List.range_succ,List.map_append]; rfl⟩,by rw [show ((frontL (prx xs)+(d+1) : Nat) : Int)=((frontL (prx xs)+d : Nat) : Int)+1 from by omega]; exact ha.keep [0,3,10,14,15],hs2.sub⟩
     ·
      obtain rfl : d=to - frontL (prx xs):=by omega
      refine wp_exit<|TE<|TE<|blk_e<|TN<|WS<|WR ?_
      iterate 2 (refine S1 ha fun a ha=>?_)
      refine LN<|TN<|wp_ret ?_
      refine ret1 ha rfl ?_
      exact ⟨adz,cz,prx ys,rfl,⟨hX,hXf⟩,OwnBB.close (xs:=zs) (hs.sub (M:=Sl 22 1 adz (to - frontL (prx xs)) cz (zs.map bbv)::All bbo zs::L)) hzs (aheadX_len _ _ _)⟩
end
end Go.Proofs.YtagpkhbkdbaigaaGreat
