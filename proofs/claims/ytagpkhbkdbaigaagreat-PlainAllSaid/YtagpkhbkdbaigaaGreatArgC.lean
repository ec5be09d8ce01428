/- A configuration and a way to guess that came in as arguments; quintainlaw5.Cut, quintainref21.MayAll. -/
import Derived.Test.YtagpkhbkdbaigaaGreatArgP
import Derived.Test.YtagpkhbkdbaigaaGreatBeg
import Derived.Test.YtagpkhbkdbaigaaGreatRank
import Derived.Test.YtagpkhbkdbaigaaGreatRef
namespace Go.Proofs.YtagpkhbkdbaigaaGreat
open Go.RowKit Go.ChangeShapes Go.WideShapes Go.ChangeAt
set_option linter.unusedVariables false
set_option linter.unusedSimpArgs false
set_option linter.constructorNameAsVariable false
set_option maxRecDepth 100000
set_option synthInstance.maxSize 4000
set_option synthInstance.maxHeartbeats 400000
theorem argConf_of {H : Type} {enc : TypeId × Value→H} {W : World} {base : Nat} {v : Value} {d : DataW H} {q : List MemPlace} (hv : Value.okWide Tryz.prog W .any base 30 v)
   (h : DataW.Trod enc Tryz.prog W 0 (fun _=>true) true 30 v d q) : ∃ cf : Cf,v=.agg (cfC cf).toArray:=by
 obtain ⟨cs,rfl,hsz⟩:=okWide_struct Tryz.underlying30 hv
 obtain ⟨fuel,hf⟩:=h
 obtain ⟨xs,n,_,_,_,hlen,hfs⟩:=DataW.trod_struct Tryz.underlying30 hf
 rw [show Tryz.prog.cellsOf 30=10 from by kernel_rfl] at hsz
 have hc1 : Tryz.prog.cellsOf 3=1:=by kernel_rfl
 have hi : ∀ k,k < 10→∃ z,cs.toList[k]?=some (.int .i64 z):=by
   intro k hk
   obtain ⟨y,hy⟩ : ∃ y,xs[k]?=some y:=⟨_,List.getElem?_eq_getElem (by rw [hlen]; exact hk)⟩
   have hk2 : ∃ f : Field,Tryz.prog.underlying f.type=some (.int .i64)∧Tryz.prog.cellsOf f.type=1∧f.offset=k∧DataW.trod enc Tryz.prog W 0 (fun _=>true) true n f.type (((Value.agg cs).cells.toList.drop f.offset).take (Tryz.prog.cellsOf f.type))=some y:=by
     rcases (by omega : k=0∨k=1∨k=2∨k=3∨k=4∨k=5∨k=6∨k=7∨k=8∨k=9) with rfl | rfl | rfl | rfl | rfl | rfl | rfl | rfl | rfl | rfl
     · exact ⟨_,Tryz.underlying3,by kernel_rfl,rfl,(hfs 0 _ rfl).trans hy⟩
     · exact ⟨_,Tryz.underlying3,by kernel_rfl,rfl,(hfs 1 _ rfl).trans hy⟩
     · exact ⟨_,Tryz.underlying2,by kernel_rfl,rfl,(hfs 2 _ rfl).trans hy⟩
     · exact ⟨_,Tryz.underlying3,by kernel_rfl,rfl,(hfs 3 _ rfl).trans hy⟩
     · exact ⟨_,Tryz.underlying3,by kernel_rfl,rfl,(hfs 4 _ rfl).trans hy⟩
     · exact ⟨_,Tryz.underlying3,by kernel_rfl,rfl,(hfs 5 _ rfl).trans hy⟩
     · exact ⟨_,Tryz.underlying3,by kernel_rfl,rfl,(hfs 6 _ rfl).trans hy⟩
     · exact ⟨_,Tryz.underlying3,by kernel_rfl,rfl,(hfs 7 _ rfl).trans hy⟩
     · exact ⟨_,Tryz.underlying3,by kernel_rfl,rfl,(hfs 8 _ rfl).trans hy⟩
     · exact ⟨_,Tryz.underlying3,by kernel_rfl,rfl,(hfs 9 _ rfl).trans hy⟩
   obtain ⟨f,t1,t2,t4,t3⟩:=hk2
   rw [t4,t2] at t3
   obtain ⟨z,hz,_,_⟩:=DataW.trod_int t1 t3
   refine ⟨z,?_⟩
   have h9 : (((Value.agg cs).cells.toList.drop k).take 1)[0]?=some (.int .i64 z):=by rw [hz]; rfl
   rw [List.getElem?_take,if_pos (by decide),List.getElem?_drop] at h9
   simpa [Value.cells] using h9
 obtain ⟨c0,c1,c2,c3,c4,c5,c6,c7,c8,c9,rfl⟩ : ∃ c0 c1 c2 c3 c4 c5 c6 c7 c8 c9,cs=#[c0,c1,c2,c3,c4,c5,c6,c7,c8,c9]:=by
   match cs,hsz with
   | ⟨[c0,c1,c2,c3,c4,c5,c6,c7,c8,c9]⟩,_=>exact ⟨c0,c1,c2,c3,c4,c5,c6,c7,c8,c9,rfl⟩
 obtain ⟨z0,q0⟩:=hi 0 (by decide)
 obtain ⟨z1,q1⟩:=hi 1 (by decide)
 obtain ⟨z2,q2⟩:=hi 2 (by decide)
 obtain ⟨z3,q3⟩:=hi 3 (by decide)
 obtain ⟨z4,q4⟩:=hi 4 (by decide)
 obtain ⟨z5,q5⟩:=hi 5 (by decide)
 obtain ⟨z6,q6⟩:=hi 6 (by decide)
 obtain ⟨z7,q7⟩:=hi 7 (by decide)
 obtain ⟨z8,q8⟩:=hi 8 (by decide)
 obtain ⟨z9,q9⟩:=hi 9 (by decide)
 obtain rfl : c0=_:=Option.some.inj q0
 obtain rfl : c1=_:=Option.some.inj q1
 obtain rfl : c2=_:=Option.some.inj q2
 obtain rfl : c3=_:=Option.some.inj q3
 obtain rfl : c4=_:=Option.some.inj q4
 obtain rfl : c5=_:=Option.some.inj q5
 obtain rfl : c6=_:=Option.some.inj q6
 obtain rfl : c7=_:=Option.some.inj q7
 obtain rfl : c8=_:=Option.some.inj q8
 obtain rfl : c9=_:=Option.some.inj q9
 exact ⟨⟨z0,z1,z2,z3,z4,z5,z6,z7,z8,z9⟩,rfl⟩
def cutT (s : ByteArray) (n : Nat) : ByteArray:=if n < s.size then s.extract 0 n else s
theorem cutT_le (s : ByteArray) (n : Nat) : (cutT s n).size≤n:=by
 unfold cutT
 split
 · rw [ByteArray.size_extract]; omega
 · omega
def cutP (K : Nat) (p : Pr) : Pr:=⟨cutT p.title 40,p.ops.take K⟩
theorem cutP_ok {K : Nat} (hK : K≤1000) (p : Pr) : (cutP K p).title.size≤1000000000∧(cutP K p).ops.length≤1000000000:=by
 refine ⟨Nat.le_trans (cutT_le _ _) (by decide),?_⟩
 simp only [cutP,List.length_take]; omega
section
variable {W w : World} {L L' R : List SP} {n c cO cP cT : Nat} {ad adO adP adT : Option Addr} {p : Pr} {tb : List UInt8} {cf : Cf}
theorem cut1_spec {s : ByteArray} {n : Nat} (hs : St W w L) : Calls Tryz.prog 51 #[.string s,.int .i64 n] w fun e w'=>e=.returned (.string (cutT s n))∧St W w' L:=by
 refine calls_enter Tryz.func51 rfl Tryz.ntmps51 (Nat.le_of_ble_eq_true rfl) ?_
 intro a ha
 replace ha : Fr a 13 [(0,_),(1,_)]:=ha
 refine WS<|WR ?_
 refine S1 ha fun a ha=>?_
 refine LN<|TN<|WS<|WS<|WR ?_
 refine S1 ha fun a ha=>?_
 refine SK (st_set ha rfl (ex_lenS ha Tryz.underlying9) rfl fun a ha=>?_)
 iterate 2 (refine S1 ha fun a ha=>?_)
 refine LN<|TN ?_
 refine WI ha (fun hc0=>?_) (fun hc0=>?_)
 ·
  refine WS<|WR ?_
  iterate 2 (refine S1 ha fun a ha=>?_)
  refine SK (st_set ha rfl (ex_sliceSH ha Tryz.underlying9 (by omega)) rfl fun a ha=>?_)
  refine S1d ha fun a ha=>?_
  refine LN<|TN<|wp_ret<|TR ?_
  refine ret1 ha rfl ?_
  exact ⟨by rw [cutT,if_pos (by omega)],hs⟩
 ·
  refine WK<|TN<|WS<|WR ?_
  refine S1 ha fun a ha=>?_
  refine S1d ha fun a ha=>?_
  refine LN<|TN<|wp_ret ?_
  refine ret1 ha rfl ?_
  exact ⟨by rw [cutT,if_neg (by omega)],hs⟩
theorem rows_takeO (K : Nat) (ops : List OpR) : (rows opR ops).take (K*4)=rows opR (ops.take K):=rows_take opR_len ops K
theorem cut5_spec {K : Nat} (hs : St W w (RoP W p adO cO::L)) : Calls Tryz.prog 20 #[.agg (prV p adO cO).toArray,.int .i64 K] w fun e w'=>e=.returned (.agg (prV (cutP K p) adO cO).toArray)∧St W w' (RoP W (cutP K p) adO cO::L):=by
 have hco:=(hs.ro adO).2
 refine calls_enter Tryz.func20 rfl Tryz.ntmps20 (Nat.le_of_ble_eq_true rfl) ?_
 intro a ha
 replace ha : Fr a 20 [(0,_),(1,_)]:=ha
 refine WS<|WR ?_
 refine SK (st_box ha rfl hs rfl fun b2 a w ha hs ho=>?_)
 clear ho
 change St W w (blk b2 33 (prV p adO cO)::_) at hs
 refine SK (st_alloc ha rfl hs Ty.t33 rfl fun b4 a w ha hs ho=>?_)
 clear ho
 refine LN<|TN<|WS<|WR ?_
 refine S1 ha fun a ha=>?_
 refine SL ha (hs.rd1 rfl) fun a ha=>?_
 refine SK (st_call ha rfl Ty.c51 rfl (cut1_spec (n:=40) hs) ?_); clear ha hs
 rintro e w ⟨rfl,hs⟩
 refine ⟨_,rfl,?_⟩
 intro a ha
 refine S1 ha fun a ha=>?_
 refine SK (st_store ha rfl hs Ty.t9 rfl (by simp [prV]) fun a w ha hs=>?_)
 change St W w (blk b2 33 [.string (cutT p.title 40),.slice adO p.ops.length cO]::_) at hs
 refine LN<|TN<|WS<|WS<|WR ?_
 refine S1 ha fun a ha=>?_
 refine SL ha (hs.rd1 rfl) fun a ha=>?_
 iterate 3 (refine S1 ha fun a ha=>?_)
 refine LN<|TN ?_
 refine WI ha (fun hc0=>?_) (fun hc0=>?_)
 ·
  have hl : (cutP K p).ops.length=K:=by simp only [cutP,List.length_take]; omega
  refine WR ?_
  refine S1 ha fun a ha=>?_
  refine SL ha (hs.rd1 rfl) fun a ha=>?_
  refine S1 ha fun a ha=>?_
  refine SK (st_set ha rfl (ex_sliceH ha Tryz.underlying31 Ty.t87 (by omega)) rfl fun a ha=>?_)
  rw [cutAd_zero,Nat.sub_zero,Nat.sub_zero] at ha
  refine S1 ha fun a ha=>?_
  refine SK (st_store ha rfl hs Ty.t31 rfl (by simp) fun a w ha hs=>?_)
  change St W w (blk b2 33 [.string (cutT p.title 40),.slice adO K cO]::_) at hs
  refine LN<|TN<|WS<|WR ?_
  refine SK (st_set ha rfl (ex_loadN ha Tryz.underlying33 rfl Ty.t33 (hs.rdAll)) rfl fun a ha=>?_)
  refine SK (st_storeAll ha rfl hs Ty.t33 (by simp [Value.oneCell']) (by rfl) fun a w ha hs=>?_)
  refine LN<|TN<|wp_ret ?_
  refine retC1 ha rfl (run_loadN Tryz.underlying33 rfl Ty.t33 (hs.rdAll)) ?_
  refine ⟨by rw [prV,hl]; rfl,?_⟩
  have h1:=(hs.pick (RoP W p adO cO)).roCut (m:=K) (by omega)
  rw [rows_takeO] at h1
  have h2 : RoP W (cutP K p) adO cO=Ro W 87 4 adO K cO (rows opR (p.ops.take K)):=by rw [RoP,hl]; rfl
  rw [h2]; exact h1.sub
 ·
  have hl : (cutP K p).ops=p.ops:=by simp only [cutP]; exact List.take_of_length_le (by omega)
  refine WK<|TN<|WS<|WR ?_
  refine SK (st_set ha rfl (ex_loadN ha Tryz.underlying33 rfl Ty.t33 (hs.rdAll)) rfl fun a ha=>?_)
  refine SK (st_storeAll ha rfl hs Ty.t33 (by simp [Value.oneCell']) (by rfl) fun a w ha hs=>?_)
  refine LN<|TN<|wp_ret ?_
  refine retC1 ha rfl (run_loadN Tryz.underlying33 rfl Ty.t33 (hs.rdAll)) ?_
  refine ⟨by rw [prV,hl]; rfl,?_⟩
  have h2 : RoP W (cutP K p) adO cO=RoP W p adO cO:=by rw [RoP,RoP,hl]
  rw [h2]; exact hs.sub
theorem ref_within {x lo hi : Int} (hs : St W w L) : Calls Tryz.prog 101 #[.int .i64 x,.int .i64 lo,.int .i64 hi] w fun e w'=>∃ r : Bool,e=.returned (.bool r)∧(r=true ↔ inI x lo hi)∧St W w' L:=by
 refine calls_enter Tryz.func101 rfl Tryz.ntmps101 (Nat.le_of_ble_eq_true rfl) ?_
 intro a ha
 replace ha : Fr a 15 [(0,_),(1,_),(2,_)]:=ha
 refine WS<|WR ?_
 refine S1 ha fun a ha=>?_
 refine LN<|TN<|WS<|WR ?_
 iterate 4 (refine S1 ha fun a ha=>?_)
 refine ha.by (s:=10) (fun hg3 ha=>?_) (fun hg3 ha=>?_)
 ·
  iterate 3 (refine S1g (s:=10) ha fun a ha=>?_)
  refine PT ha fun a ha=>?_
  refine S1d ha fun a ha=>?_
  refine LN<|TN<|wp_ret ?_
  refine ret1 ha rfl ?_
  exact ⟨_,rfl,⟨fun h=>⟨hg3,of_decide_eq_true h⟩,fun h=>decide_eq_true h.2⟩,hs⟩
 ·
  iterate 3 (refine SO (s:=10) ha fun a ha=>?_)
  refine PF ha fun a ha=>?_
  refine S1d ha fun a ha=>?_
  refine LN<|TN<|wp_ret ?_
  refine ret1 ha rfl ?_
  exact ⟨_,rfl,⟨fun h=>(by cases h),fun h=>by have:=h.1; omega⟩,hs⟩
theorem ref_may (hs : St W w L) : Calls Tryz.prog 52 #[.agg (cfC cf).toArray] w fun e w'=>∃ r : Bool,e=.returned (.bool r)∧(r=true ↔ mayCf cf)∧St W w' L:=by
 refine calls_enter Tryz.func52 rfl Tryz.ntmps52 (Nat.le_of_ble_eq_true rfl) ?_
 intro a ha
 replace ha : Fr a 73 [(0,_)]:=ha
 refine WS<|WR ?_
 refine SK (st_box ha rfl hs rfl fun b1 a w ha hs ho=>?_)
 clear ho
 change St W w (blk b1 30 (cfC cf)::_) at hs
 refine S1 ha fun a ha=>?_
 refine LN<|TN<|WS<|WS<|WR ?_
 refine S1 ha fun a ha=>?_
 refine SL ha (hs.rd1 rfl) fun a ha=>?_
 refine SK (st_call ha rfl Ty.c101 rfl (ref_within hs) ?_); clear ha hs
 rintro e w ⟨r1,rfl,hr1,hs⟩
 refine ⟨_,rfl,?_⟩
 intro a ha
 iterate 2 (refine S1 ha fun a ha=>?_)
 refine ha.by (s:=7) (fun hg4 ha=>?_) (fun hg4 ha=>?_)
 ·
  iterate 7 (refine SO (s:=7) ha fun a ha=>?_)
  refine PT ha fun a ha=>?_
  refine S1 ha fun a ha=>?_
  iterate 3 (refine SO (s:=16) ha fun a ha=>?_)
  refine PT ha fun a ha=>?_
  refine S1 ha fun a ha=>?_
  iterate 3 (refine SO (s:=21) ha fun a ha=>?_)
  refine PT ha fun a ha=>?_
  refine S1 ha fun a ha=>?_
  iterate 4 (refine SO (s:=26) ha fun a ha=>?_)
  refine PT ha fun a ha=>?_
  refine S1 ha fun a ha=>?_
  iterate 4 (refine SO (s:=32) ha fun a ha=>?_)
  refine PT ha fun a ha=>?_
  refine S1 ha fun a ha=>?_
  iterate 4 (refine SO (s:=38) ha fun a ha=>?_)
  refine PT ha fun a ha=>?_
  refine S1 ha fun a ha=>?_
  iterate 4 (refine SO (s:=44) ha fun a ha=>?_)
  refine PT ha fun a ha=>?_
  refine S1 ha fun a ha=>?_
  iterate 3 (refine SO (s:=50) ha fun a ha=>?_)
  refine SK (st_offU ha (wgF ha rfl (s:=50) rfl) rfl fun a ha=>?_)
  iterate 3 (refine SK (st_off ha (wgU ha rfl (s:=54)) rfl fun a ha=>?_))
  refine SO (s:=50) ha fun a ha=>?_
  refine PT ha fun a ha=>?_
  refine LN<|TN<|WTr ha<|WS<|WR ?_
  refine S1d ha fun a ha=>?_
  refine LN<|TN<|wp_ret<|TR ?_
  refine ret1 ha rfl ?_
  exact ⟨_,rfl,⟨fun h=>(by cases h),fun h=>by have:=hr1.2 h.1.1; rw [hg4] at this; cases this⟩,hs.sub⟩
 ·
  have hn0:=hr1.1 hg4
  refine S1g (s:=7) ha fun a ha=>?_
  refine SLg (s:=7) ha (hs.rd1 rfl) fun a ha=>?_
  refine S1g (s:=7) ha fun a ha=>?_
  refine SLg (s:=7) ha (hs.rd1 rfl) fun a ha=>?_
  refine SK (st_set ha (wgT ha rfl (s:=7)) (ex_sub ha) rfl fun a ha=>?_)
  have hn1 : IntKind.i64.wrap (cf.n - 1)=cf.n - 1:=wrap_in (by have:=hn0.1; omega) (by have:=hn0.2; omega)
  rw [hn1] at ha
  refine SK (st_call ha (wgT ha rfl (s:=7)) Ty.c101 rfl (ref_within hs) ?_); clear ha hs
  rintro e w ⟨r2,rfl,hr2,hs⟩
  refine ⟨_,rfl,?_⟩
  intro a ha
  refine S1g (s:=7) ha fun a ha=>?_
  refine PF ha fun a ha=>?_
  refine S1 ha fun a ha=>?_
  refine ha.by (s:=16) (fun hg13 ha=>?_) (fun hg13 ha=>?_)
  ·
   iterate 3 (refine SO (s:=16) ha fun a ha=>?_)
   refine PT ha fun a ha=>?_
   refine S1 ha fun a ha=>?_
   iterate 3 (refine SO (s:=21) ha fun a ha=>?_)
   refine PT ha fun a ha=>?_
   refine S1 ha fun a ha=>?_
   iterate 4 (refine SO (s:=26) ha fun a ha=>?_)
   refine PT ha fun a ha=>?_
   refine S1 ha fun a ha=>?_
   iterate 4 (refine SO (s:=32) ha fun a ha=>?_)
   refine PT ha fun a ha=>?_
   refine S1 ha fun a ha=>?_
   iterate 4 (refine SO (s:=38) ha fun a ha=>?_)
   refine PT ha fun a ha=>?_
   refine S1 ha fun a ha=>?_
   iterate 4 (refine SO (s:=44) ha fun a ha=>?_)
   refine PT ha fun a ha=>?_
   refine S1 ha fun a ha=>?_
   iterate 3 (refine SO (s:=50) ha fun a ha=>?_)
   refine SK (st_offU ha (wgF ha rfl (s:=50) rfl) rfl fun a ha=>?_)
   iterate 3 (refine SK (st_off ha (wgU ha rfl (s:=54)) rfl fun a ha=>?_))
   refine SO (s:=50) ha fun a ha=>?_
   refine PT ha fun a ha=>?_
   refine LN<|TN<|WTr ha<|WS<|WR ?_
   refine S1d ha fun a ha=>?_
   refine LN<|TN<|wp_ret<|TR ?_
   refine ret1 ha rfl ?_
   exact ⟨_,rfl,⟨fun h=>(by cases h),fun h=>by have:=hr2.2 h.1.2.1; rw [hg13] at this; cases this⟩,hs.sub⟩
  ·
   refine S1g (s:=16) ha fun a ha=>?_
   refine SLg (s:=16) ha (hs.rd1 rfl) fun a ha=>?_
   refine S1g (s:=16) ha fun a ha=>?_
   refine PF ha fun a ha=>?_
   refine S1 ha fun a ha=>?_
   refine ha.by (s:=21) (fun hg18 ha=>?_) (fun hg18 ha=>?_)
   ·
    iterate 3 (refine SO (s:=21) ha fun a ha=>?_)
    refine PT ha fun a ha=>?_
    refine S1 ha fun a ha=>?_
    iterate 4 (refine SO (s:=26) ha fun a ha=>?_)
    refine PT ha fun a ha=>?_
    refine S1 ha fun a ha=>?_
    iterate 4 (refine SO (s:=32) ha fun a ha=>?_)
    refine PT ha fun a ha=>?_
    refine S1 ha fun a ha=>?_
    iterate 4 (refine SO (s:=38) ha fun a ha=>?_)
    refine PT ha fun a ha=>?_
    refine S1 ha fun a ha=>?_
    iterate 4 (refine SO (s:=44) ha fun a ha=>?_)
    refine PT ha fun a ha=>?_
    refine S1 ha fun a ha=>?_
    iterate 3 (refine SO (s:=50) ha fun a ha=>?_)
    refine SK (st_offU ha (wgF ha rfl (s:=50) rfl) rfl fun a ha=>?_)
    iterate 3 (refine SK (st_off ha (wgU ha rfl (s:=54)) rfl fun a ha=>?_))
    refine SO (s:=50) ha fun a ha=>?_
    refine PT ha fun a ha=>?_
    refine LN<|TN<|WTr ha<|WS<|WR ?_
    refine S1d ha fun a ha=>?_
    refine LN<|TN<|wp_ret<|TR ?_
    refine ret1 ha rfl ?_
    exact ⟨_,rfl,⟨fun h=>(by cases h),fun h=>by have:=h.1.2.2.1; omega⟩,hs.sub⟩
   ·
    refine S1g (s:=21) ha fun a ha=>?_
    refine SLg (s:=21) ha (hs.rd1 rfl) fun a ha=>?_
    refine S1g (s:=21) ha fun a ha=>?_
    refine PF ha fun a ha=>?_
    refine S1 ha fun a ha=>?_
    refine ha.by (s:=26) (fun hg23 ha=>?_) (fun hg23 ha=>?_)
    ·
     iterate 4 (refine SO (s:=26) ha fun a ha=>?_)
     refine PT ha fun a ha=>?_
     refine S1 ha fun a ha=>?_
     iterate 4 (refine SO (s:=32) ha fun a ha=>?_)
     refine PT ha fun a ha=>?_
     refine S1 ha fun a ha=>?_
     iterate 4 (refine SO (s:=38) ha fun a ha=>?_)
     refine PT ha fun a ha=>?_
     refine S1 ha fun a ha=>?_
     iterate 4 (refine SO (s:=44) ha fun a ha=>?_)
     refine PT ha fun a ha=>?_
     refine S1 ha fun a ha=>?_
     iterate 3 (refine SO (s:=50) ha fun a ha=>?_)
     refine SK (st_offU ha (wgF ha rfl (s:=50) rfl) rfl fun a ha=>?_)
     iterate 3 (refine SK (st_off ha (wgU ha rfl (s:=54)) rfl fun a ha=>?_))
     refine SO (s:=50) ha fun a ha=>?_
     refine PT ha fun a ha=>?_
     refine LN<|TN<|WTr ha<|WS<|WR ?_
     refine S1d ha fun a ha=>?_
     refine LN<|TN<|wp_ret<|TR ?_
     refine ret1 ha rfl ?_
     exact ⟨_,rfl,⟨fun h=>(by cases h),fun h=>by have:=h.1.2.2.2; omega⟩,hs.sub⟩
    ·
     refine S1g (s:=26) ha fun a ha=>?_
     refine SLg (s:=26) ha (hs.rd1 rfl) fun a ha=>?_
     refine SK (st_call ha (wgT ha rfl (s:=26)) Ty.c101 rfl (ref_within hs) ?_); clear ha hs
     rintro e w ⟨r3,rfl,hr3,hs⟩
     refine ⟨_,rfl,?_⟩
     intro a ha
     refine S1g (s:=26) ha fun a ha=>?_
     refine PF ha fun a ha=>?_
     refine S1 ha fun a ha=>?_
     refine ha.by (s:=32) (fun hg29 ha=>?_) (fun hg29 ha=>?_)
     ·
      iterate 4 (refine SO (s:=32) ha fun a ha=>?_)
      refine PT ha fun a ha=>?_
      refine S1 ha fun a ha=>?_
      iterate 4 (refine SO (s:=38) ha fun a ha=>?_)
      refine PT ha fun a ha=>?_
      refine S1 ha fun a ha=>?_
      iterate 4 (refine SO (s:=44) ha fun a ha=>?_)
      refine PT ha fun a ha=>?_
      refine S1 ha fun a ha=>?_
      iterate 3 (refine SO (s:=50) ha fun a ha=>?_)
      refine SK (st_offU ha (wgF ha rfl (s:=50) rfl) rfl fun a ha=>?_)
      iterate 3 (refine SK (st_off ha (wgU ha rfl (s:=54)) rfl fun a ha=>?_))
      refine SO (s:=50) ha fun a ha=>?_
      refine PT ha fun a ha=>?_
      refine LN<|TN<|WTr ha<|WS<|WR ?_
      refine S1d ha fun a ha=>?_
      refine LN<|TN<|wp_ret<|TR ?_
      refine ret1 ha rfl ?_
      exact ⟨_,rfl,⟨fun h=>(by cases h),fun h=>by have:=hr3.2 h.2.1.1; rw [hg29] at this; cases this⟩,hs.sub⟩
     ·
      refine S1g (s:=32) ha fun a ha=>?_
      refine SLg (s:=32) ha (hs.rd1 rfl) fun a ha=>?_
      refine SK (st_call ha (wgT ha rfl (s:=32)) Ty.c101 rfl (ref_within hs) ?_); clear ha hs
      rintro e w ⟨r4,rfl,hr4,hs⟩
      refine ⟨_,rfl,?_⟩
      intro a ha
      refine S1g (s:=32) ha fun a ha=>?_
      refine PF ha fun a ha=>?_
      refine S1 ha fun a ha=>?_
      refine ha.by (s:=38) (fun hg35 ha=>?_) (fun hg35 ha=>?_)
      ·
       iterate 4 (refine SO (s:=38) ha fun a ha=>?_)
       refine PT ha fun a ha=>?_
       refine S1 ha fun a ha=>?_
       iterate 4 (refine SO (s:=44) ha fun a ha=>?_)
       refine PT ha fun a ha=>?_
       refine S1 ha fun a ha=>?_
       iterate 3 (refine SO (s:=50) ha fun a ha=>?_)
       refine SK (st_offU ha (wgF ha rfl (s:=50) rfl) rfl fun a ha=>?_)
       iterate 3 (refine SK (st_off ha (wgU ha rfl (s:=54)) rfl fun a ha=>?_))
       refine SO (s:=50) ha fun a ha=>?_
       refine PT ha fun a ha=>?_
       refine LN<|TN<|WTr ha<|WS<|WR ?_
       refine S1d ha fun a ha=>?_
       refine LN<|TN<|wp_ret<|TR ?_
       refine ret1 ha rfl ?_
       exact ⟨_,rfl,⟨fun h=>(by cases h),fun h=>by have:=hr4.2 h.2.1.2.1; rw [hg35] at this; cases this⟩,hs.sub⟩
      ·
       refine S1g (s:=38) ha fun a ha=>?_
       refine SLg (s:=38) ha (hs.rd1 rfl) fun a ha=>?_
       refine SK (st_call ha (wgT ha rfl (s:=38)) Ty.c101 rfl (ref_within hs) ?_); clear ha hs
       rintro e w ⟨r5,rfl,hr5,hs⟩
       refine ⟨_,rfl,?_⟩
       intro a ha
       refine S1g (s:=38) ha fun a ha=>?_
       refine PF ha fun a ha=>?_
       refine S1 ha fun a ha=>?_
       refine ha.by (s:=44) (fun hg41 ha=>?_) (fun hg41 ha=>?_)
       ·
        iterate 4 (refine SO (s:=44) ha fun a ha=>?_)
        refine PT ha fun a ha=>?_
        refine S1 ha fun a ha=>?_
        iterate 3 (refine SO (s:=50) ha fun a ha=>?_)
        refine SK (st_offU ha (wgF ha rfl (s:=50) rfl) rfl fun a ha=>?_)
        iterate 3 (refine SK (st_off ha (wgU ha rfl (s:=54)) rfl fun a ha=>?_))
        refine SO (s:=50) ha fun a ha=>?_
        refine PT ha fun a ha=>?_
        refine LN<|TN<|WTr ha<|WS<|WR ?_
        refine S1d ha fun a ha=>?_
        refine LN<|TN<|wp_ret<|TR ?_
        refine ret1 ha rfl ?_
        exact ⟨_,rfl,⟨fun h=>(by cases h),fun h=>by have:=hr5.2 h.2.1.2.2.1; rw [hg41] at this; cases this⟩,hs.sub⟩
       ·
        refine S1g (s:=44) ha fun a ha=>?_
        refine SLg (s:=44) ha (hs.rd1 rfl) fun a ha=>?_
        refine SK (st_call ha (wgT ha rfl (s:=44)) Ty.c101 rfl (ref_within hs) ?_); clear ha hs
        rintro e w ⟨r6,rfl,hr6,hs⟩
        refine ⟨_,rfl,?_⟩
        intro a ha
        refine S1g (s:=44) ha fun a ha=>?_
        refine PF ha fun a ha=>?_
        refine S1 ha fun a ha=>?_
        refine ha.by (s:=50) (fun hg47 ha=>?_) (fun hg47 ha=>?_)
        ·
         iterate 3 (refine SO (s:=50) ha fun a ha=>?_)
         refine SK (st_offU ha (wgF ha rfl (s:=50) rfl) rfl fun a ha=>?_)
         iterate 3 (refine SK (st_off ha (wgU ha rfl (s:=54)) rfl fun a ha=>?_))
         refine SO (s:=50) ha fun a ha=>?_
         refine PT ha fun a ha=>?_
         refine LN<|TN<|WTr ha<|WS<|WR ?_
         refine S1d ha fun a ha=>?_
         refine LN<|TN<|wp_ret<|TR ?_
         refine ret1 ha rfl ?_
         exact ⟨_,rfl,⟨fun h=>(by cases h),fun h=>by have:=hr6.2 h.2.1.2.2.2; rw [hg47] at this; cases this⟩,hs.sub⟩
        ·
         refine S1g (s:=50) ha fun a ha=>?_
         refine SLg (s:=50) ha (hs.rd1 rfl) fun a ha=>?_
         iterate 2 (refine S1g (s:=50) ha fun a ha=>?_)
         refine ha.by (s:=54) (fun hg51 ha=>?_) (fun hg51 ha=>?_)
         ·
          refine S1g (s:=54) ha fun a ha=>?_
          refine SLg (s:=54) ha (hs.rd1 rfl) fun a ha=>?_
          refine S1g (s:=54) ha fun a ha=>?_
          refine PTg (s:=50) ha fun a ha=>?_
          refine PF ha fun a ha=>?_
          refine LN<|TN ?_
          refine WI ha (fun hc0=>?_) (fun hc0=>?_)
          ·
           refine WS<|WR ?_
           refine S1d ha fun a ha=>?_
           refine LN<|TN<|wp_ret<|TR ?_
           refine ret1 ha rfl ?_
           exact ⟨_,rfl,⟨fun h=>(by cases h),fun h=>by have:=h.2.2.1; omega⟩,hs.sub⟩
          ·
           refine WK<|TN<|WS ?_
           have hog : cf.order=0∨cf.guess=2:=by omega
           have hA : (inI cf.n 2 8∧inI cf.me 0 (cf.n - 1)∧inI cf.id 0 1099511627776)∧(inI cf.delay 0 8∧inI cf.window 1 16∧inI cf.guess 1 3∧inI cf.order 0 3):=⟨⟨hn0,hr2.1 hg13,hg18,hg23⟩,hr3.1 hg29,hr4.1 hg35,hr5.1 hg41,hr6.1 hg47⟩
           refine WR ?_
           refine S1 ha fun a ha=>?_
           refine SL ha (hs.rd1 rfl) fun a ha=>?_
           refine SK (st_call ha rfl Ty.c101 rfl (ref_within hs) ?_); clear ha hs
           rintro e w ⟨s1,rfl,hs1,hs⟩
           refine ⟨_,rfl,?_⟩
           intro a ha
           refine S1 ha fun a ha=>?_
           refine ha.by (s:=63) (fun hg3 ha=>?_) (fun hg3 ha=>?_)
           ·
            refine S1g (s:=63) ha fun a ha=>?_
            refine SLg (s:=63) ha (hs.rd1 rfl) fun a ha=>?_
            refine SK (st_call ha (wgT ha rfl (s:=63)) Ty.c101 rfl (ref_within hs) ?_); clear ha hs
            rintro e w ⟨s2,rfl,hs2,hs⟩
            refine ⟨_,rfl,?_⟩
            intro a ha
            refine PT ha fun a ha=>?_
            refine S1 ha fun a ha=>?_
            refine ha.by (s:=68) (fun hg8 ha=>?_) (fun hg8 ha=>?_)
            ·
             refine S1g (s:=68) ha fun a ha=>?_
             refine SLg (s:=68) ha (hs.rd1 rfl) fun a ha=>?_
             refine SK (st_call ha (wgT ha rfl (s:=68)) Ty.c101 rfl (ref_within hs) ?_); clear ha hs
             rintro e w ⟨s3,rfl,hs3,hs⟩
             refine ⟨_,rfl,?_⟩
             intro a ha
             refine PT ha fun a ha=>?_
             refine S1d ha fun a ha=>?_
             refine LN<|TN<|wp_ret ?_
             refine ret1 ha rfl ?_
             exact ⟨_,rfl,⟨fun h=>⟨hA.1,hA.2,hog,hs1.1 hg3,hs2.1 hg8,hs3.1 h⟩,fun h=>hs3.2 h.2.2.2.2.2⟩,hs.sub⟩
            ·
             iterate 3 (refine SO (s:=68) ha fun a ha=>?_)
             refine PF ha fun a ha=>?_
             refine S1d ha fun a ha=>?_
             refine LN<|TN<|wp_ret ?_
             refine ret1 ha rfl ?_
             exact ⟨_,rfl,⟨fun h=>(by cases h),fun h=>by have:=hs2.2 h.2.2.2.2.1; rw [hg8] at this; cases this⟩,hs.sub⟩
           ·
            iterate 3 (refine SO (s:=63) ha fun a ha=>?_)
            refine PF ha fun a ha=>?_
            refine S1 ha fun a ha=>?_
            iterate 3 (refine SO (s:=68) ha fun a ha=>?_)
            refine PF ha fun a ha=>?_
            refine S1d ha fun a ha=>?_
            refine LN<|TN<|wp_ret ?_
            refine ret1 ha rfl ?_
            exact ⟨_,rfl,⟨fun h=>(by cases h),fun h=>by have:=hs1.2 h.2.2.2.1; rw [hg3] at this; cases this⟩,hs.sub⟩
         ·
          iterate 3 (refine SO (s:=54) ha fun a ha=>?_)
          refine PFg (s:=50) ha fun a ha=>?_
          refine PF ha fun a ha=>?_
          refine LN<|TN<|WFa ha<|WK<|TN<|WS ?_
          have hog : cf.order=0∨cf.guess=2:=by omega
          have hA : (inI cf.n 2 8∧inI cf.me 0 (cf.n - 1)∧inI cf.id 0 1099511627776)∧(inI cf.delay 0 8∧inI cf.window 1 16∧inI cf.guess 1 3∧inI cf.order 0 3):=⟨⟨hn0,hr2.1 hg13,hg18,hg23⟩,hr3.1 hg29,hr4.1 hg35,hr5.1 hg41,hr6.1 hg47⟩
          refine WR ?_
          refine S1 ha fun a ha=>?_
          refine SL ha (hs.rd1 rfl) fun a ha=>?_
          refine SK (st_call ha rfl Ty.c101 rfl (ref_within hs) ?_); clear ha hs
          rintro e w ⟨s1,rfl,hs1,hs⟩
          refine ⟨_,rfl,?_⟩
          intro a ha
          refine S1 ha fun a ha=>?_
          refine ha.by (s:=63) (fun hg3 ha=>?_) (fun hg3 ha=>?_)
          ·
           refine S1g (s:=63) ha fun a ha=>?_
           refine SLg (s:=63) ha (hs.rd1 rfl) fun a ha=>?_
           refine SK (st_call ha (wgT ha rfl (s:=63)) Ty.c101 rfl (ref_within hs) ?_); clear ha hs
           rintro e w ⟨s2,rfl,hs2,hs⟩
           refine ⟨_,rfl,?_⟩
           intro a ha
           refine PT ha fun a ha=>?_
           refine S1 ha fun a ha=>?_
           refine ha.by (s:=68) (fun hg8 ha=>?_) (fun hg8 ha=>?_)
           ·
            refine S1g (s:=68) ha fun a ha=>?_
            refine SLg (s:=68) ha (hs.rd1 rfl) fun a ha=>?_
            refine SK (st_call ha (wgT ha rfl (s:=68)) Ty.c101 rfl (ref_within hs) ?_); clear ha hs
            rintro e w ⟨s3,rfl,hs3,hs⟩
            refine ⟨_,rfl,?_⟩
            intro a ha
            refine PT ha fun a ha=>?_
            refine S1d ha fun a ha=>?_
            refine LN<|TN<|wp_ret ?_
            refine ret1 ha rfl ?_
            exact ⟨_,rfl,⟨fun h=>⟨hA.1,hA.2,hog,hs1.1 hg3,hs2.1 hg8,hs3.1 h⟩,fun h=>hs3.2 h.2.2.2.2.2⟩,hs.sub⟩
           ·
            iterate 3 (refine SO (s:=68) ha fun a ha=>?_)
            refine PF ha fun a ha=>?_
            refine S1d ha fun a ha=>?_
            refine LN<|TN<|wp_ret ?_
            refine ret1 ha rfl ?_
            exact ⟨_,rfl,⟨fun h=>(by cases h),fun h=>by have:=hs2.2 h.2.2.2.2.1; rw [hg8] at this; cases this⟩,hs.sub⟩
          ·
           iterate 3 (refine SO (s:=63) ha fun a ha=>?_)
           refine PF ha fun a ha=>?_
           refine S1 ha fun a ha=>?_
           iterate 3 (refine SO (s:=68) ha fun a ha=>?_)
           refine PF ha fun a ha=>?_
           refine S1d ha fun a ha=>?_
           refine LN<|TN<|wp_ret ?_
           refine ret1 ha rfl ?_
           exact ⟨_,rfl,⟨fun h=>(by cases h),fun h=>by have:=hs1.2 h.2.2.2.1; rw [hg3] at this; cases this⟩,hs.sub⟩
def mayAll (cf : Cf) (p : Pr) (tb : List UInt8) : Prop:=mayCf cf∧prOk p∧mayGs ⟨cf.guess,cf.order,tb⟩
theorem refMayAll (hs : St W w (RoP W p adP cP::L)) (hsz : p.title.size≤1000000000) (hol : p.ops.length≤1000000000) (hn : tb.length=n) :
   Calls Tryz.prog 21 #[.agg (cfC cf).toArray,.agg (prV p adP cP).toArray,.slice adT n cT] w fun e w'=>∃ r : Bool,e=.returned (.bool r)∧(r=true ↔ mayAll cf p tb)∧St W w' (RoP W p adP cP::L):=by
 subst hn
 refine calls_enter Tryz.func21 rfl Tryz.ntmps21 (Nat.le_of_ble_eq_true rfl) ?_
 intro a ha
 replace ha : Fr a 23 [(0,_),(1,_),(2,_)]:=ha
 refine WS<|WR ?_
 refine SK (st_box ha rfl hs rfl fun b3 a w ha hs ho=>?_)
 clear ho
 change St W w (blk b3 30 (cfC cf)::_) at hs
 refine SK (st_box ha rfl hs rfl fun b4 a w ha hs ho=>?_)
 clear ho
 change St W w (blk b4 33 (prV p adP cP)::_) at hs
 refine S1 ha fun a ha=>?_
 refine LN<|TN<|WS<|WR ?_
 refine SK (st_set ha rfl (ex_loadN ha Tryz.underlying30 rfl Ty.t30 (hs.rdAll (b:=b3))) rfl fun a ha=>?_)
 refine SK (st_call ha rfl Ty.c52 rfl (ref_may hs) ?_); clear ha hs
 rintro e w ⟨r1,rfl,hr1,hs⟩
 refine ⟨_,rfl,?_⟩
 intro a ha
 refine S1 ha fun a ha=>?_
 refine ha.by (s:=9) (fun hg2 ha=>?_) (fun hg2 ha=>?_)
 ·
  refine SK (st_set ha (wgT ha rfl (s:=9)) (ex_loadN ha Tryz.underlying33 rfl Ty.t33 (hs.rdAll (b:=b4))) rfl fun a ha=>?_)
  refine SK (st_call ha (wgT ha rfl (s:=9)) Ty.c53 rfl (refFault_spec (hs.pick (RoP W p adP cP)) hsz hol) ?_); clear ha hs
  rintro e w ⟨r2,rfl,hr2,hs⟩
  refine ⟨_,rfl,?_⟩
  intro a ha
  refine S1g (s:=9) ha fun a ha=>?_
  refine PT ha fun a ha=>?_
  refine S1 ha fun a ha=>?_
  refine ha.by (s:=14) (fun hg7 ha=>?_) (fun hg7 ha=>?_)
  ·
   refine S1g (s:=14) ha fun a ha=>?_
   refine SLg (s:=14) ha (hs.rd1 (b:=b3) rfl) fun a ha=>?_
   refine S1g (s:=14) ha fun a ha=>?_
   refine SLg (s:=14) ha (hs.rd1 (b:=b3) rfl) fun a ha=>?_
   refine S1g (s:=14) ha fun a ha=>?_
   refine SK (st_set ha (wgT ha rfl (s:=14)) (ex_build ha Ty.b50 Ty.t50 rfl) rfl fun a ha=>?_)
   refine SK (st_call ha (wgT ha rfl (s:=14)) Ty.c54 rfl (ref_mayBy (b:=⟨cf.guess,cf.order,tb⟩) hs) ?_); clear ha hs
   rintro e w ⟨r3,rfl,hr3,hs⟩
   refine ⟨_,rfl,?_⟩
   intro a ha
   refine PT ha fun a ha=>?_
   refine S1d ha fun a ha=>?_
   refine LN<|TN<|wp_ret ?_
   refine ret1 ha rfl ?_
   exact ⟨_,rfl,⟨fun h=>⟨hr1.1 hg2,hr2.1 hg7,hr3.1 h⟩,fun h=>hr3.2 h.2.2⟩,hs.sub⟩
  ·
   iterate 7 (refine SO (s:=14) ha fun a ha=>?_)
   refine PF ha fun a ha=>?_
   refine S1d ha fun a ha=>?_
   refine LN<|TN<|wp_ret ?_
   refine ret1 ha rfl ?_
   refine ⟨_,rfl,⟨fun h=>(by cases h),fun h=>?_⟩,hs.sub⟩
   have:=hr2.2 h.2.1
   simp_all
 ·
  iterate 3 (refine SO (s:=9) ha fun a ha=>?_)
  refine PF ha fun a ha=>?_
  refine S1 ha fun a ha=>?_
  iterate 7 (refine SO (s:=14) ha fun a ha=>?_)
  refine PF ha fun a ha=>?_
  refine S1d ha fun a ha=>?_
  refine LN<|TN<|wp_ret ?_
  refine ret1 ha rfl ?_
  refine ⟨_,rfl,⟨fun h=>(by cases h),fun h=>?_⟩,hs.sub⟩
  have:=hr1.2 h.1
  simp_all
theorem plain_newX (hs : St W w (RoP W p adP cP::L)) (hn : tb.length=n) (hsz : p.title.size≤1000000000) (hol : p.ops.length≤1000000000) (htl : tb.length≤1099511627776) (hT : ∀ w',St W w' (RoP W p adP cP::L)→RdB w' adT tb.length tb) :
   Calls Tryz.prog 12 #[.agg (cfC cf).toArray,.agg (prV p adP cP).toArray,.slice adT n cT] w fun r w'=>(mayAll cf p tb∧∃ B : PlB,r=.returned (.tuple #[.pointer (some ⟨B.pb,0,none⟩),.int .i64 0])∧B.gs=⟨cf.guess,cf.order,tb⟩∧St W w' (PlainS W B p (newP p cf)::RoP W p adP cP::L)) ∨
     (¬ mayAll cf p tb∧r=.returned (.tuple #[.pointer none,.int .i64 1])∧St W w' (RoP W p adP cP::L)):=by
 subst hn
 by_cases h1 : mayCf cf
 · obtain ⟨n,me,delay,window,hcf⟩:=mayCf_nat h1
   generalize hg : cf.guess=guess at hcf
   generalize ho : cf.order=order at hcf
   by_cases h2 : prOk p∧mayGs ⟨guess,order,tb⟩
   · have hma : mayAll cf p tb:=⟨h1,h2.1,by rw [hg,ho]; exact h2.2⟩
     rw [hcf] at h1 hma ⊢
     exact (plain_new (adT:=adT) (cT:=cT) hs h1 h2.1 h2.2 hsz hol htl hT).mono fun r w' ⟨B,h3,h4,h5⟩=>.inl ⟨hma,B,h3,h4,h5⟩
   · have hma : ¬ mayAll cf p tb:=fun h=>h2 ⟨h.2.1,by have:=h.2.2; rw [hg,ho] at this; exact this⟩
     rw [hcf] at h1 hma ⊢
     exact (plain_new_no2 (adT:=adT) (cT:=cT) hs h1 h2 hsz hol htl hT).mono fun r w' ⟨h3,h4⟩=>.inr ⟨hma,h3,h4⟩
 · exact (plain_new_no1 (adT:=adT) (cT:=cT) hs h1 htl hT).mono fun r w' ⟨h3,h4⟩=>.inr ⟨fun h=>h1 h.1,h3,h4⟩
theorem plain_newY (hma : mayAll cf p tb) (hs : St W w (RoP W p adP cP::L)) (hn : tb.length=n) (hsz : p.title.size≤1000000000) (hol : p.ops.length≤1000000000) (htl : tb.length≤1099511627776) (hT : ∀ w',St W w' (RoP W p adP cP::L)→RdB w' adT tb.length tb) :
   Calls Tryz.prog 12 #[.agg (cfC cf).toArray,.agg (prV p adP cP).toArray,.slice adT n cT] w fun r w'=>∃ B : PlB,r=.returned (.tuple #[.pointer (some ⟨B.pb,0,none⟩),.int .i64 0])∧B.gs=⟨cf.guess,cf.order,tb⟩∧St W w' (PlainS W B p (newP p cf)::RoP W p adP cP::L) :=
 (plain_newX (cf:=cf) hs hn hsz hol htl hT).mono fun r w' h=>by
   rcases h with ⟨_,h⟩ | ⟨h,_⟩
   · exact h
   · exact absurd hma h
theorem plain_newN (hma : ¬ mayAll cf p tb) (hs : St W w (RoP W p adP cP::L)) (hn : tb.length=n) (hsz : p.title.size≤1000000000) (hol : p.ops.length≤1000000000) (htl : tb.length≤1099511627776) (hT : ∀ w',St W w' (RoP W p adP cP::L)→RdB w' adT tb.length tb) :
   Calls Tryz.prog 12 #[.agg (cfC cf).toArray,.agg (prV p adP cP).toArray,.slice adT n cT] w fun r w'=>r=.returned (.tuple #[.pointer none,.int .i64 1])∧St W w' (RoP W p adP cP::L) :=
 (plain_newX (cf:=cf) hs hn hsz hol htl hT).mono fun r w' h=>by
   rcases h with ⟨h,_⟩ | ⟨_,h⟩
   · exact absurd h hma
   · exact h
end
end Go.Proofs.YtagpkhbkdbaigaaGreat
