/- Packets: which there may be, and their bytes: packet.May, packet.Encode, quintainref12.MayPacket, quintainref12.Packet. -/
import Derived.Test.YtagpkhbkdbaigaaGreatRuns
namespace Go.Proofs.YtagpkhbkdbaigaaGreat
open Go.RowKit
set_option linter.unusedVariables false
set_option linter.unusedSimpArgs false
set_option maxRecDepth 10000
set_option synthInstance.maxSize 4000
set_option synthInstance.maxHeartbeats 400000
def pkC (p : Pk) (ad : Option Addr) (c : Nat) : List Value:=[.int .i64 p.kind,.int .i64 p.from',.int .i64 p.to,.int .i64 p.id,.int .i64 p.first,.slice ad p.press.length c,.int .i64 p.ack,.int .i64 p.frame,.int .u32 p.sum]
theorem pkC_one (p : Pk) (ad : Option Addr) (c : Nat) : ∀ v∈pkC p ad c,v.oneCell'=true:=by
 intro v hv
 simp only [pkC,List.mem_cons,List.not_mem_nil,or_false] at hv
 rcases hv with rfl | rfl | rfl | rfl | rfl | rfl | rfl | rfl | rfl <;> rfl
def inP (m : Int) (ns : List Int) : Prop:=∀ n∈ns,0≤n∧n≤m
def ivs (ns : List Int) : List Value:=ns.map fun n=>.int .i64 n
theorem ivs_at {ns : List Int} {i : Nat} (h : i < ns.length) : (ivs ns)[i]?=some (.int .i64 ns[i]):=by simp [ivs,h]
def headP (p : Pk) : Prop:=(0≤p.from'∧p.from'≤7)∧(0≤p.to∧p.to≤7)∧p.from'≠p.to∧(0≤p.id∧p.id≤1099511627776)
theorem mayPk_1 {p : Pk} (h : headP p) (hk : p.kind=1) : mayPk p ↔ (inP 1000 [p.first,p.ack,p.frame]∧p.press.length≤32):=by
 unfold headP at h
 simp only [mayPk,inP,frP,List.forall_mem_cons,List.not_mem_nil,false_implies,implies_true,and_true]
 omega
theorem mayPk_2 {p : Pk} (h : headP p) (hk : p.kind=2) : mayPk p ↔ (inP 0 [p.first,p.ack,p.frame,(p.press.length : Int)]∧p.sum=0):=by
 unfold headP at h
 simp only [mayPk,inP,frP,List.forall_mem_cons,List.not_mem_nil,false_implies,implies_true,and_true]
 omega
theorem mayPk_h {p : Pk} (h : mayPk p) : headP p:=⟨h.1,h.2.1,h.2.2.1,h.2.2.2.1⟩
theorem mayPk_k {p : Pk} (h : mayPk p) : p.kind=1∨p.kind=2:=by
 rcases h.2.2.2.2 with h | h
 · exact .inl h.1
 · exact .inr h.1
section
variable {W w : World} {L L' R : List SP} {n c m : Nat} {ad : Option Addr} {bs : List UInt8} {p : Pk}
theorem in_any {ns : List Int} {b : Nat} {M : Int} (hs : St W w L) (hb : ns.length≤1000) (hp : ∀ w',St W w' L→Rd w' b 0 (ivs ns)) :
   Calls Tryz.prog 168 #[.int .i64 M,.slice (some ⟨b,0,none⟩) ns.length ns.length] w fun e w'=>∃ r : Bool,e=.returned (.bool r)∧(r=true ↔ inP M ns)∧St W w' L:=by
 refine calls_enter Tryz.func168 rfl Tryz.ntmps168 (Nat.le_of_ble_eq_true rfl) ?_
 intro a ha
 replace ha : Fr a 21 [(0,_),(1,_)]:=ha
 refine WS<|WR ?_
 refine S1 ha fun a ha=>?_
 refine LN<|TN<|WS<|WS<|WR ?_
 iterate 3 (refine S1 ha fun a ha=>?_)
 refine LN<|TN<|wp_block ?_
 refine wp_loop_ghost (fun μ a w=>∃ (i : Nat),(μ=ns.length - i∧i≤ns.length∧inP M (ns.take i))∧Fr a 21 [(0,.int .i64 M),(7,.slice (some ⟨b,0,none⟩) ns.length ns.length),(8,.int .i64 ns.length),(9,.int .i64 i)]∧St W w L) (ns.length) ?_ ?_
 · exact ⟨0,⟨rfl,by omega,fun n h=>by simp at h⟩,ha.keep [0,7,8,9],hs⟩
 ·
  clear ha hs
  rintro μ a w ⟨i,⟨rfl,hi,hin⟩,ha,hs⟩
  refine WS<|WR ?_
  refine S1 ha fun a ha=>?_
  refine LN<|TN<|WS ?_
  refine WI ha (fun hc0=>?_) (fun hc0=>?_)
  ·
   have hil : i < ns.length:=by omega
   refine WK<|TN<|WS<|wp_block<|WS<|WR ?_
   refine SK (st_set ha rfl (ex_indexAddr ha Tryz.underlying63 Ty.t3 (by omega)) rfl fun a ha=>?_)
   rw [Nat.mul_one,Nat.zero_add] at ha
   refine SL ha (by have:=hp _ hs i _ (ivs_at hil); rwa [Nat.zero_add] at this) fun a ha=>?_
   refine S1 ha fun a ha=>?_
   refine LN<|TN ?_
   refine wp_seq_cut (M:=fun a w=>∃ z : Bool,(z=true ↔ ¬ (0≤ns[i]∧ns[i]≤M))∧Fr a 21 [(0,.int .i64 M),(7,.slice (some ⟨b,0,none⟩) ns.length ns.length),(8,.int .i64 ns.length),(9,.int .i64 i),(19,.bool z)]∧St W w L) ?_ ?_
   ·
    refine WR ?_
    iterate 3 (refine S1 ha fun a ha=>?_)
    refine ha.by (s:=15) (fun hg2 ha=>?_) (fun hg2 ha=>?_)
    ·
     iterate 3 (refine SO (s:=15) ha fun a ha=>?_)
     refine PT ha fun a ha=>?_
     refine LN<|TN ?_
     exact ⟨_,by first | (rw [decide_eq_true_iff]; omega) | exact ⟨fun h=>(by cases h),fun h=>absurd h (by omega)⟩ | exact ⟨fun _=>by omega,fun _=>rfl⟩,ha.keep [0,7,8,9,19],hs⟩
    ·
     iterate 3 (refine S1g (s:=15) ha fun a ha=>?_)
     refine PF ha fun a ha=>?_
     refine LN<|TN ?_
     exact ⟨_,by first | (rw [decide_eq_true_iff]; omega) | exact ⟨fun h=>(by cases h),fun h=>absurd h (by omega)⟩ | exact ⟨fun _=>by omega,fun _=>rfl⟩,ha.keep [0,7,8,9,19],hs⟩
   ·
    clear ha; (try clear hs)
    intro a w hcut
    obtain ⟨z,hz,ha,hs⟩:=hcut
    refine WI ha (fun hc1=>?_) (fun hc1=>?_)
    ·
     refine WS<|WR ?_
     refine S1 ha fun a ha=>?_
     refine LN<|TN<|wp_ret<|BR<|TR<|TR<|BR<|TR ?_
     refine ret1 ha rfl ?_
     exact ⟨_,rfl,⟨fun h=>(by cases h),fun h=>absurd (h _ (List.getElem_mem hil)) (hz.1 hc1)⟩,hs⟩
    ·
     refine WK<|BN<|TN<|WR ?_
     refine SK (st_set ha rfl (ex_addI ha (by omega) (by omega)) rfl fun a ha=>?_)
     refine S1d ha fun a ha=>?_
     refine LN<|TN ?_
     exact ⟨ns.length - (i+1),by omega,i+1,⟨rfl,by omega,fun n hn=>by
       rw [List.take_succ_eq_append_getElem hil,List.mem_append,List.mem_singleton] at hn
       rcases hn with hn | rfl
       · exact hin n hn
       · exact Classical.byContradiction fun h=>by have:=hz.2 h; rw [hc1] at this; cases this⟩,ha.keep [0,7,8,9],hs⟩
  ·
   refine wp_exit<|TE<|TE<|blk_e<|TN<|WS<|WR ?_
   refine S1 ha fun a ha=>?_
   refine LN<|TN<|wp_ret ?_
   refine ret1 ha rfl ?_
   rw [List.take_of_length_le (by omega)] at hin
   exact ⟨_,rfl,⟨fun _=>hin,fun _=>rfl⟩,hs⟩
theorem in2 {M a b : Int} : inP M [a,b] ↔ (0≤a∧a≤M)∧(0≤b∧b≤M):=by simp [inP]
theorem in3 {M a b c : Int} : inP M [a,b,c] ↔ (0≤a∧a≤M)∧(0≤b∧b≤M)∧(0≤c∧c≤M):=by simp [inP]
theorem packet_may (hs : St W w L) : Calls Tryz.prog 154 #[.agg (pkC p ad c).toArray] w fun e w'=>∃ r : Bool,e=.returned (.bool r)∧(r=true ↔ mayPk p)∧St W w' L:=by
 have hL:=hs
 refine calls_enter Tryz.func154 rfl Tryz.ntmps154 (Nat.le_of_ble_eq_true rfl) ?_
 intro a ha
 replace ha : Fr a 63 [(0,_)]:=ha
 refine WS<|WR ?_
 refine SK (st_box ha rfl hs rfl fun b1 a w ha hs ho=>?_)
 clear ho
 refine S1 ha fun a ha=>?_
 refine LN<|TN<|WS ?_
 refine wp_seq_cut (M:=fun a w=>∃ (z : Bool) (b1 : Nat),(z=true ↔ ¬ headP p)∧Fr a 63 [(1,.pointer (some ⟨b1,0,none⟩)),(26,.bool z)]∧St W w (blk b1 40 (pkC p ad c)::L)) ?_ ?_
 ·
  refine WR ?_
  refine S1 ha fun a ha=>?_
  refine SL ha (hs.rd1 rfl) fun a ha=>?_
  refine S1 ha fun a ha=>?_
  refine SL ha (hs.rd1 rfl) fun a ha=>?_
  refine SK (st_buildSlice ha rfl hs Tryz.underlying63 Ty.t3 rfl rfl rfl rfl (by decide) (by decide) fun b7 a w ha hs ho=>?_)
  clear ho
  refine SK (st_call ha rfl Ty.c168 rfl (in_any (ns:=[p.from',p.to]) hs (by simp) (fun w' hw=>hw.rdAll)) ?_); clear ha hs
  rintro e w ⟨r1,rfl,hr1,hs⟩
  refine ⟨_,rfl,?_⟩
  intro a ha
  iterate 2 (refine S1 ha fun a ha=>?_)
  refine ha.by (s:=10) (fun hg7 ha=>?_) (fun hg7 ha=>?_)
  ·
   have hh : ¬ headP p:=fun h=>by
     have:=hr1.2 (in2.2 ⟨h.1,h.2.1⟩)
     rw [hg7] at this; cases this
   iterate 5 (refine SO (s:=10) ha fun a ha=>?_)
   refine PT ha fun a ha=>?_
   refine S1 ha fun a ha=>?_
   iterate 3 (refine SO (s:=17) ha fun a ha=>?_)
   refine PT ha fun a ha=>?_
   refine S1 ha fun a ha=>?_
   iterate 3 (refine SO (s:=22) ha fun a ha=>?_)
   refine PT ha fun a ha=>?_
   refine LN<|TN ?_
   exact ⟨_,_,⟨fun _=>hh,fun _=>rfl⟩,ha.keep [1,26],hs.sub⟩
  ·
   have hh:=in2.1 (hr1.1 hg7)
   refine S1g (s:=10) ha fun a ha=>?_
   refine SLg (s:=10) ha (hs.rd1 rfl) fun a ha=>?_
   refine S1g (s:=10) ha fun a ha=>?_
   refine SLg (s:=10) ha (hs.rd1 rfl) fun a ha=>?_
   refine S1g (s:=10) ha fun a ha=>?_
   refine PF ha fun a ha=>?_
   refine S1 ha fun a ha=>?_
   refine ha.by (s:=17) (fun hg14 ha=>?_) (fun hg14 ha=>?_)
   ·
    iterate 3 (refine SO (s:=17) ha fun a ha=>?_)
    refine PT ha fun a ha=>?_
    refine S1 ha fun a ha=>?_
    iterate 3 (refine SO (s:=22) ha fun a ha=>?_)
    refine PT ha fun a ha=>?_
    refine LN<|TN ?_
    exact ⟨_,_,by unfold headP; first | (rw [decide_eq_true_iff]; omega) | exact ⟨fun h=>(by cases h),fun h=>absurd h (by omega)⟩ | exact ⟨fun _=>by omega,fun _=>rfl⟩,ha.keep [1,26],hs.sub⟩
   ·
    refine S1g (s:=17) ha fun a ha=>?_
    refine SLg (s:=17) ha (hs.rd1 rfl) fun a ha=>?_
    refine S1g (s:=17) ha fun a ha=>?_
    refine PF ha fun a ha=>?_
    refine S1 ha fun a ha=>?_
    refine ha.by (s:=22) (fun hg19 ha=>?_) (fun hg19 ha=>?_)
    ·
     iterate 3 (refine SO (s:=22) ha fun a ha=>?_)
     refine PT ha fun a ha=>?_
     refine LN<|TN ?_
     exact ⟨_,_,by unfold headP; first | (rw [decide_eq_true_iff]; omega) | exact ⟨fun h=>(by cases h),fun h=>absurd h (by omega)⟩ | exact ⟨fun _=>by omega,fun _=>rfl⟩,ha.keep [1,26],hs.sub⟩
    ·
     refine S1g (s:=22) ha fun a ha=>?_
     refine SLg (s:=22) ha (hs.rd1 rfl) fun a ha=>?_
     refine S1g (s:=22) ha fun a ha=>?_
     refine PF ha fun a ha=>?_
     refine LN<|TN ?_
     exact ⟨_,_,by unfold headP; first | (rw [decide_eq_true_iff]; omega) | exact ⟨fun h=>(by cases h),fun h=>absurd h (by omega)⟩ | exact ⟨fun _=>by omega,fun _=>rfl⟩,ha.keep [1,26],hs.sub⟩
 ·
  clear ha; (try clear hs)
  intro a w hcut
  obtain ⟨z,b1,hz,ha,hs⟩:=hcut
  refine WI ha (fun hc0=>?_) (fun hc0=>?_)
  ·
   have hn:=hz.1 hc0
   refine WS<|WR ?_
   refine S1 ha fun a ha=>?_
   refine LN<|TN<|wp_ret<|TR ?_
   refine ret1 ha rfl ?_
   exact ⟨_,rfl,⟨fun h=>(by cases h),fun h=>absurd (mayPk_h h) hn⟩,hs.sub⟩
  ·
   have hh : headP p:=Classical.byContradiction fun h=>by have:=hz.2 h; rw [hc0] at this; cases this
   refine WK<|TN<|WS<|WS<|WR ?_
   refine S1 ha fun a ha=>?_
   refine SL ha (hs.rd1 rfl) fun a ha=>?_
   refine LN<|TN<|wp_block<|WS<|WR ?_
   iterate 2 (refine S1 ha fun a ha=>?_)
   refine LN<|TN ?_
   refine WI ha (fun hc1=>?_) (fun hc1=>?_)
   ·
    have hk1 : p.kind=1:=hc1
    refine WS<|WR ?_
    refine S1 ha fun a ha=>?_
    refine SL ha (hs.rd1 rfl) fun a ha=>?_
    refine S1 ha fun a ha=>?_
    refine SL ha (hs.rd1 rfl) fun a ha=>?_
    refine S1 ha fun a ha=>?_
    refine SL ha (hs.rd1 rfl) fun a ha=>?_
    refine SK (st_buildSlice ha rfl hs Tryz.underlying63 Ty.t3 rfl rfl rfl rfl (by decide) (by decide) fun b37 a w ha hs ho=>?_)
    clear ho
    refine SK (st_call ha rfl Ty.c168 rfl (in_any (ns:=[p.first,p.ack,p.frame]) hs (by simp) (fun w' hw=>hw.rdAll)) ?_); clear ha hs
    rintro e w ⟨r5,rfl,hr5,hs⟩
    refine ⟨_,rfl,?_⟩
    intro a ha
    refine S1 ha fun a ha=>?_
    refine ha.by (s:=39) (fun hg8 ha=>?_) (fun hg8 ha=>?_)
    ·
     refine S1g (s:=39) ha fun a ha=>?_
     refine SLg (s:=39) ha (hs.rd1 rfl) fun a ha=>?_
     iterate 2 (refine S1g (s:=39) ha fun a ha=>?_)
     refine PT ha fun a ha=>?_
     refine S1 ha fun a ha=>?_
     refine LN<|TN<|wp_ret<|BR<|TR ?_
     refine ret1 ha rfl ?_
     refine ⟨_,rfl,?_,hs.sub⟩
     rw [mayPk_1 hh hk1,decide_eq_true_iff]
     exact ⟨fun h=>⟨hr5.1 hg8,by omega⟩,fun h=>by omega⟩
    ·
     iterate 4 (refine SO (s:=39) ha fun a ha=>?_)
     refine PF ha fun a ha=>?_
     refine S1 ha fun a ha=>?_
     refine LN<|TN<|wp_ret<|BR<|TR ?_
     refine ret1 ha rfl ?_
     exact ⟨_,rfl,⟨fun h=>(by cases h),fun h=>by have:=hr5.2 ((mayPk_1 hh hk1).1 h).1; rw [hg8] at this; cases this⟩,hs.sub⟩
   ·
    refine WS<|WR ?_
    iterate 2 (refine S1 ha fun a ha=>?_)
    refine LN<|TN ?_
    refine WI ha (fun hc2=>?_) (fun hc2=>?_)
    ·
     have hk2 : p.kind=2:=hc2
     refine WS<|WR ?_
     refine S1 ha fun a ha=>?_
     refine SL ha (hs.rd1 rfl) fun a ha=>?_
     refine S1 ha fun a ha=>?_
     refine SL ha (hs.rd1 rfl) fun a ha=>?_
     refine S1 ha fun a ha=>?_
     refine SL ha (hs.rd1 rfl) fun a ha=>?_
     refine S1 ha fun a ha=>?_
     refine SL ha (hs.rd1 rfl) fun a ha=>?_
     refine S1 ha fun a ha=>?_
     refine SK (st_buildSlice ha rfl hs Tryz.underlying63 Ty.t3 rfl rfl rfl rfl (by decide) (by decide) fun b56 a w ha hs ho=>?_)
     clear ho
     refine SK (st_call ha rfl Ty.c168 rfl (in_any (ns:=[p.first,p.ack,p.frame,(p.press.length : Int)]) hs (by simp) (fun w' hw=>hw.rdAll)) ?_); clear ha hs
     rintro e w ⟨r7,rfl,hr7,hs⟩
     refine ⟨_,rfl,?_⟩
     intro a ha
     refine S1 ha fun a ha=>?_
     refine ha.by (s:=58) (fun hg11 ha=>?_) (fun hg11 ha=>?_)
     ·
      refine S1g (s:=58) ha fun a ha=>?_
      refine SLg (s:=58) ha (hs.rd1 rfl) fun a ha=>?_
      refine S1g (s:=58) ha fun a ha=>?_
      refine PT ha fun a ha=>?_
      refine S1 ha fun a ha=>?_
      refine LN<|TN<|wp_ret<|BR<|TR ?_
      refine ret1 ha rfl ?_
      refine ⟨_,rfl,?_,hs.sub⟩
      rw [mayPk_2 hh hk2,decide_eq_true_iff]
      exact ⟨fun h=>⟨hr7.1 hg11,by omega⟩,fun h=>by omega⟩
     ·
      iterate 3 (refine SO (s:=58) ha fun a ha=>?_)
      refine PF ha fun a ha=>?_
      refine S1 ha fun a ha=>?_
      refine LN<|TN<|wp_ret<|BR<|TR ?_
      refine ret1 ha rfl ?_
      exact ⟨_,rfl,⟨fun h=>(by cases h),fun h=>by have:=hr7.2 ((mayPk_2 hh hk2).1 h).1; rw [hg11] at this; cases this⟩,hs.sub⟩
    ·
     refine WK<|BN<|TN<|WS<|WR ?_
     refine S1 ha fun a ha=>?_
     refine LN<|TN<|wp_ret ?_
     refine ret1 ha rfl ?_
     exact ⟨_,rfl,⟨fun h=>(by cases h),fun h=>by rcases mayPk_k h with h | h; exact absurd h hc1; exact absurd h hc2⟩,hs.sub⟩
theorem frames_any {x : Int} (hs : St W w L) : Calls Tryz.prog 93 #[.int .i64 x] w fun e w'=>∃ r : Bool,e=.returned (.bool r)∧(r=true ↔ frP x)∧St W w' L:=by
 refine calls_enter Tryz.func93 rfl Tryz.ntmps93 (Nat.le_of_ble_eq_true rfl) ?_
 intro a ha
 replace ha : Fr a 9 [(0,_)]:=ha
 refine WS<|WR ?_
 refine S1 ha fun a ha=>?_
 refine LN<|TN<|WS<|WR ?_
 iterate 3 (refine S1 ha fun a ha=>?_)
 refine ha.by (s:=5) (fun hg2 ha=>?_) (fun hg2 ha=>?_)
 ·
  iterate 2 (refine S1g (s:=5) ha fun a ha=>?_)
  refine PT ha fun a ha=>?_
  refine S1d ha fun a ha=>?_
  refine LN<|TN<|wp_ret ?_
  refine ret1 ha rfl ?_
  exact ⟨_,rfl,by unfold frP; first | (rw [decide_eq_true_iff]; omega) | exact ⟨fun h=>(by cases h),fun h=>absurd h (by omega)⟩,hs⟩
 ·
  iterate 2 (refine SO (s:=5) ha fun a ha=>?_)
  refine PF ha fun a ha=>?_
  refine S1d ha fun a ha=>?_
  refine LN<|TN<|wp_ret ?_
  refine ret1 ha rfl ?_
  exact ⟨_,rfl,by unfold frP; first | (rw [decide_eq_true_iff]; omega) | exact ⟨fun h=>(by cases h),fun h=>absurd h (by omega)⟩,hs⟩
theorem refMay_spec (hs : St W w L) : Calls Tryz.prog 42 #[.agg (pkC p ad c).toArray] w fun e w'=>∃ r : Bool,e=.returned (.bool r)∧(r=true ↔ mayPk p)∧St W w' L:=by
 refine calls_enter Tryz.func42 rfl Tryz.ntmps42 (Nat.le_of_ble_eq_true rfl) ?_
 intro a ha
 replace ha : Fr a 94 [(0,_)]:=ha
 refine WS<|WR ?_
 refine SK (st_box ha rfl hs rfl fun b1 a w ha hs ho=>?_)
 clear ho
 refine S1 ha fun a ha=>?_
 refine LN<|TN<|WS ?_
 refine wp_seq_cut (M:=fun a w=>∃ (z : Bool) (b1 : Nat),(z=true ↔ ¬ (headP p∧1≤p.kind∧p.kind≤2))∧Fr a 94 [(1,.pointer (some ⟨b1,0,none⟩)),(47,.bool z)]∧St W w (blk b1 40 (pkC p ad c)::L)) ?_ ?_
 ·
  refine WR ?_
  refine S1 ha fun a ha=>?_
  refine SL ha (hs.rd1 rfl) fun a ha=>?_
  iterate 2 (refine S1 ha fun a ha=>?_)
  refine ha.by (s:=6) (fun hg3 ha=>?_) (fun hg3 ha=>?_)
  ·
   iterate 3 (refine SO (s:=6) ha fun a ha=>?_)
   refine PT ha fun a ha=>?_
   refine S1 ha fun a ha=>?_
   iterate 3 (refine SO (s:=11) ha fun a ha=>?_)
   refine PT ha fun a ha=>?_
   refine S1 ha fun a ha=>?_
   iterate 3 (refine SO (s:=16) ha fun a ha=>?_)
   refine PT ha fun a ha=>?_
   refine S1 ha fun a ha=>?_
   iterate 3 (refine SO (s:=21) ha fun a ha=>?_)
   refine PT ha fun a ha=>?_
   refine S1 ha fun a ha=>?_
   iterate 3 (refine SO (s:=26) ha fun a ha=>?_)
   refine PT ha fun a ha=>?_
   refine S1 ha fun a ha=>?_
   iterate 5 (refine SO (s:=31) ha fun a ha=>?_)
   refine PT ha fun a ha=>?_
   refine S1 ha fun a ha=>?_
   iterate 3 (refine SO (s:=38) ha fun a ha=>?_)
   refine PT ha fun a ha=>?_
   refine S1 ha fun a ha=>?_
   iterate 3 (refine SO (s:=43) ha fun a ha=>?_)
   refine PT ha fun a ha=>?_
   refine LN<|TN ?_
   exact ⟨_,_,by unfold headP; first | (rw [decide_eq_true_iff]; omega) | exact ⟨fun h=>(by cases h),fun h=>absurd h (by omega)⟩ | exact ⟨fun _=>by omega,fun _=>rfl⟩,ha.keep [1,47],hs.sub⟩
  ·
   refine S1g (s:=6) ha fun a ha=>?_
   refine SLg (s:=6) ha (hs.rd1 rfl) fun a ha=>?_
   refine S1g (s:=6) ha fun a ha=>?_
   refine PF ha fun a ha=>?_
   refine S1 ha fun a ha=>?_
   refine ha.by (s:=11) (fun hg8 ha=>?_) (fun hg8 ha=>?_)
   ·
    iterate 3 (refine SO (s:=11) ha fun a ha=>?_)
    refine PT ha fun a ha=>?_
    refine S1 ha fun a ha=>?_
    iterate 3 (refine SO (s:=16) ha fun a ha=>?_)
    refine PT ha fun a ha=>?_
    refine S1 ha fun a ha=>?_
    iterate 3 (refine SO (s:=21) ha fun a ha=>?_)
    refine PT ha fun a ha=>?_
    refine S1 ha fun a ha=>?_
    iterate 3 (refine SO (s:=26) ha fun a ha=>?_)
    refine PT ha fun a ha=>?_
    refine S1 ha fun a ha=>?_
    iterate 5 (refine SO (s:=31) ha fun a ha=>?_)
    refine PT ha fun a ha=>?_
    refine S1 ha fun a ha=>?_
    iterate 3 (refine SO (s:=38) ha fun a ha=>?_)
    refine PT ha fun a ha=>?_
    refine S1 ha fun a ha=>?_
    iterate 3 (refine SO (s:=43) ha fun a ha=>?_)
    refine PT ha fun a ha=>?_
    refine LN<|TN ?_
    exact ⟨_,_,by unfold headP; first | (rw [decide_eq_true_iff]; omega) | exact ⟨fun h=>(by cases h),fun h=>absurd h (by omega)⟩ | exact ⟨fun _=>by omega,fun _=>rfl⟩,ha.keep [1,47],hs.sub⟩
   ·
    refine S1g (s:=11) ha fun a ha=>?_
    refine SLg (s:=11) ha (hs.rd1 rfl) fun a ha=>?_
    refine S1g (s:=11) ha fun a ha=>?_
    refine PF ha fun a ha=>?_
    refine S1 ha fun a ha=>?_
    refine ha.by (s:=16) (fun hg13 ha=>?_) (fun hg13 ha=>?_)
    ·
     iterate 3 (refine SO (s:=16) ha fun a ha=>?_)
     refine PT ha fun a ha=>?_
     refine S1 ha fun a ha=>?_
     iterate 3 (refine SO (s:=21) ha fun a ha=>?_)
     refine PT ha fun a ha=>?_
     refine S1 ha fun a ha=>?_
     iterate 3 (refine SO (s:=26) ha fun a ha=>?_)
     refine PT ha fun a ha=>?_
     refine S1 ha fun a ha=>?_
     iterate 5 (refine SO (s:=31) ha fun a ha=>?_)
     refine PT ha fun a ha=>?_
     refine S1 ha fun a ha=>?_
     iterate 3 (refine SO (s:=38) ha fun a ha=>?_)
     refine PT ha fun a ha=>?_
     refine S1 ha fun a ha=>?_
     iterate 3 (refine SO (s:=43) ha fun a ha=>?_)
     refine PT ha fun a ha=>?_
     refine LN<|TN ?_
     exact ⟨_,_,by unfold headP; first | (rw [decide_eq_true_iff]; omega) | exact ⟨fun h=>(by cases h),fun h=>absurd h (by omega)⟩ | exact ⟨fun _=>by omega,fun _=>rfl⟩,ha.keep [1,47],hs.sub⟩
    ·
     refine S1g (s:=16) ha fun a ha=>?_
     refine SLg (s:=16) ha (hs.rd1 rfl) fun a ha=>?_
     refine S1g (s:=16) ha fun a ha=>?_
     refine PF ha fun a ha=>?_
     refine S1 ha fun a ha=>?_
     refine ha.by (s:=21) (fun hg18 ha=>?_) (fun hg18 ha=>?_)
     ·
      iterate 3 (refine SO (s:=21) ha fun a ha=>?_)
      refine PT ha fun a ha=>?_
      refine S1 ha fun a ha=>?_
      iterate 3 (refine SO (s:=26) ha fun a ha=>?_)
      refine PT ha fun a ha=>?_
      refine S1 ha fun a ha=>?_
      iterate 5 (refine SO (s:=31) ha fun a ha=>?_)
      refine PT ha fun a ha=>?_
      refine S1 ha fun a ha=>?_
      iterate 3 (refine SO (s:=38) ha fun a ha=>?_)
      refine PT ha fun a ha=>?_
      refine S1 ha fun a ha=>?_
      iterate 3 (refine SO (s:=43) ha fun a ha=>?_)
      refine PT ha fun a ha=>?_
      refine LN<|TN ?_
      exact ⟨_,_,by unfold headP; first | (rw [decide_eq_true_iff]; omega) | exact ⟨fun h=>(by cases h),fun h=>absurd h (by omega)⟩ | exact ⟨fun _=>by omega,fun _=>rfl⟩,ha.keep [1,47],hs.sub⟩
     ·
      refine S1g (s:=21) ha fun a ha=>?_
      refine SLg (s:=21) ha (hs.rd1 rfl) fun a ha=>?_
      refine S1g (s:=21) ha fun a ha=>?_
      refine PF ha fun a ha=>?_
      refine S1 ha fun a ha=>?_
      refine ha.by (s:=26) (fun hg23 ha=>?_) (fun hg23 ha=>?_)
      ·
       iterate 3 (refine SO (s:=26) ha fun a ha=>?_)
       refine PT ha fun a ha=>?_
       refine S1 ha fun a ha=>?_
       iterate 5 (refine SO (s:=31) ha fun a ha=>?_)
       refine PT ha fun a ha=>?_
       refine S1 ha fun a ha=>?_
       iterate 3 (refine SO (s:=38) ha fun a ha=>?_)
       refine PT ha fun a ha=>?_
       refine S1 ha fun a ha=>?_
       iterate 3 (refine SO (s:=43) ha fun a ha=>?_)
       refine PT ha fun a ha=>?_
       refine LN<|TN ?_
       exact ⟨_,_,by unfold headP; first | (rw [decide_eq_true_iff]; omega) | exact ⟨fun h=>(by cases h),fun h=>absurd h (by omega)⟩ | exact ⟨fun _=>by omega,fun _=>rfl⟩,ha.keep [1,47],hs.sub⟩
      ·
       refine S1g (s:=26) ha fun a ha=>?_
       refine SLg (s:=26) ha (hs.rd1 rfl) fun a ha=>?_
       refine S1g (s:=26) ha fun a ha=>?_
       refine PF ha fun a ha=>?_
       refine S1 ha fun a ha=>?_
       refine ha.by (s:=31) (fun hg28 ha=>?_) (fun hg28 ha=>?_)
       ·
        iterate 5 (refine SO (s:=31) ha fun a ha=>?_)
        refine PT ha fun a ha=>?_
        refine S1 ha fun a ha=>?_
        iterate 3 (refine SO (s:=38) ha fun a ha=>?_)
        refine PT ha fun a ha=>?_
        refine S1 ha fun a ha=>?_
        iterate 3 (refine SO (s:=43) ha fun a ha=>?_)
        refine PT ha fun a ha=>?_
        refine LN<|TN ?_
        exact ⟨_,_,by unfold headP; first | (rw [decide_eq_true_iff]; omega) | exact ⟨fun h=>(by cases h),fun h=>absurd h (by omega)⟩ | exact ⟨fun _=>by omega,fun _=>rfl⟩,ha.keep [1,47],hs.sub⟩
       ·
        refine S1g (s:=31) ha fun a ha=>?_
        refine SLg (s:=31) ha (hs.rd1 rfl) fun a ha=>?_
        refine S1g (s:=31) ha fun a ha=>?_
        refine SLg (s:=31) ha (hs.rd1 rfl) fun a ha=>?_
        refine S1g (s:=31) ha fun a ha=>?_
        refine PF ha fun a ha=>?_
        refine S1 ha fun a ha=>?_
        refine ha.by (s:=38) (fun hg35 ha=>?_) (fun hg35 ha=>?_)
        ·
         iterate 3 (refine SO (s:=38) ha fun a ha=>?_)
         refine PT ha fun a ha=>?_
         refine S1 ha fun a ha=>?_
         iterate 3 (refine SO (s:=43) ha fun a ha=>?_)
         refine PT ha fun a ha=>?_
         refine LN<|TN ?_
         exact ⟨_,_,by unfold headP; first | (rw [decide_eq_true_iff]; omega) | exact ⟨fun h=>(by cases h),fun h=>absurd h (by omega)⟩ | exact ⟨fun _=>by omega,fun _=>rfl⟩,ha.keep [1,47],hs.sub⟩
        ·
         refine S1g (s:=38) ha fun a ha=>?_
         refine SLg (s:=38) ha (hs.rd1 rfl) fun a ha=>?_
         refine S1g (s:=38) ha fun a ha=>?_
         refine PF ha fun a ha=>?_
         refine S1 ha fun a ha=>?_
         refine ha.by (s:=43) (fun hg40 ha=>?_) (fun hg40 ha=>?_)
         ·
          iterate 3 (refine SO (s:=43) ha fun a ha=>?_)
          refine PT ha fun a ha=>?_
          refine LN<|TN ?_
          exact ⟨_,_,by unfold headP; first | (rw [decide_eq_true_iff]; omega) | exact ⟨fun h=>(by cases h),fun h=>absurd h (by omega)⟩ | exact ⟨fun _=>by omega,fun _=>rfl⟩,ha.keep [1,47],hs.sub⟩
         ·
          refine S1g (s:=43) ha fun a ha=>?_
          refine SLg (s:=43) ha (hs.rd1 rfl) fun a ha=>?_
          refine S1g (s:=43) ha fun a ha=>?_
          refine PF ha fun a ha=>?_
          refine LN<|TN ?_
          exact ⟨_,_,by unfold headP; first | (rw [decide_eq_true_iff]; omega) | exact ⟨fun h=>(by cases h),fun h=>absurd h (by omega)⟩ | exact ⟨fun _=>by omega,fun _=>rfl⟩,ha.keep [1,47],hs.sub⟩
 ·
  clear ha; (try clear hs)
  intro a w hcut
  obtain ⟨z,b1,hz,ha,hs⟩:=hcut
  refine WI ha (fun hc0=>?_) (fun hc0=>?_)
  ·
   have hn:=hz.1 hc0
   refine WS<|WR ?_
   refine S1 ha fun a ha=>?_
   refine LN<|TN<|wp_ret<|TR ?_
   refine ret1 ha rfl ?_
   exact ⟨_,rfl,⟨fun h=>(by cases h),fun h=>absurd ⟨mayPk_h h,by have:=mayPk_k h; omega⟩ hn⟩,hs.sub⟩
  ·
   have hh : headP p∧1≤p.kind∧p.kind≤2:=Classical.byContradiction fun h=>by have:=hz.2 h; rw [hc0] at this; cases this
   refine WK<|TN<|WS<|WS<|WR ?_
   refine S1 ha fun a ha=>?_
   refine SL ha (hs.rd1 rfl) fun a ha=>?_
   refine S1 ha fun a ha=>?_
   refine LN<|TN ?_
   refine WI ha (fun hc1=>?_) (fun hc1=>?_)
   ·
    have hk2 : p.kind=2:=hc1
    have hm2:=mayPk_2 hh.1 hk2
    simp only [inP,List.forall_mem_cons,List.not_mem_nil,false_implies,implies_true,and_true] at hm2
    refine WS<|WR ?_
    refine S1 ha fun a ha=>?_
    refine SL ha (hs.rd1 rfl) fun a ha=>?_
    iterate 2 (refine S1 ha fun a ha=>?_)
    refine ha.by (s:=54) (fun hg3 ha=>?_) (fun hg3 ha=>?_)
    ·
     refine S1g (s:=54) ha fun a ha=>?_
     refine SLg (s:=54) ha (hs.rd1 rfl) fun a ha=>?_
     iterate 2 (refine S1g (s:=54) ha fun a ha=>?_)
     refine PT ha fun a ha=>?_
     refine S1 ha fun a ha=>?_
     refine ha.by (s:=60) (fun hg9 ha=>?_) (fun hg9 ha=>?_)
     ·
      refine S1g (s:=60) ha fun a ha=>?_
      refine SLg (s:=60) ha (hs.rd1 rfl) fun a ha=>?_
      refine S1g (s:=60) ha fun a ha=>?_
      refine PT ha fun a ha=>?_
      refine S1 ha fun a ha=>?_
      refine ha.by (s:=65) (fun hg14 ha=>?_) (fun hg14 ha=>?_)
      ·
       refine S1g (s:=65) ha fun a ha=>?_
       refine SLg (s:=65) ha (hs.rd1 rfl) fun a ha=>?_
       refine S1g (s:=65) ha fun a ha=>?_
       refine PT ha fun a ha=>?_
       refine S1 ha fun a ha=>?_
       refine ha.by (s:=70) (fun hg19 ha=>?_) (fun hg19 ha=>?_)
       ·
        refine S1g (s:=70) ha fun a ha=>?_
        refine SLg (s:=70) ha (hs.rd1 rfl) fun a ha=>?_
        refine S1g (s:=70) ha fun a ha=>?_
        refine PT ha fun a ha=>?_
        refine S1 ha fun a ha=>?_
        refine LN<|TN<|wp_ret<|TR ?_
        refine ret1 ha rfl ?_
        first | exact ⟨_,rfl,by rw [hm2]; first | (rw [decide_eq_true_iff]; omega) | exact ⟨fun h=>(by cases h),fun h=>absurd h (by omega)⟩ | exact ⟨fun _=>by omega,fun _=>rfl⟩,hs.sub⟩ | exact ⟨_,rfl,by rw [hm1]; first | (rw [decide_eq_true_iff]; omega) | exact ⟨fun h=>(by cases h),fun h=>absurd h (by omega)⟩ | exact ⟨fun _=>by omega,fun _=>rfl⟩,hs.sub⟩
       ·
        iterate 3 (refine SO (s:=70) ha fun a ha=>?_)
        refine PF ha fun a ha=>?_
        refine S1 ha fun a ha=>?_
        refine LN<|TN<|wp_ret<|TR ?_
        refine ret1 ha rfl ?_
        first | exact ⟨_,rfl,by rw [hm2]; first | (rw [decide_eq_true_iff]; omega) | exact ⟨fun h=>(by cases h),fun h=>absurd h (by omega)⟩ | exact ⟨fun _=>by omega,fun _=>rfl⟩,hs.sub⟩ | exact ⟨_,rfl,by rw [hm1]; first | (rw [decide_eq_true_iff]; omega) | exact ⟨fun h=>(by cases h),fun h=>absurd h (by omega)⟩ | exact ⟨fun _=>by omega,fun _=>rfl⟩,hs.sub⟩
      ·
       iterate 3 (refine SO (s:=65) ha fun a ha=>?_)
       refine PF ha fun a ha=>?_
       refine S1 ha fun a ha=>?_
       iterate 3 (refine SO (s:=70) ha fun a ha=>?_)
       refine PF ha fun a ha=>?_
       refine S1 ha fun a ha=>?_
       refine LN<|TN<|wp_ret<|TR ?_
       refine ret1 ha rfl ?_
       first | exact ⟨_,rfl,by rw [hm2]; first | (rw [decide_eq_true_iff]; omega) | exact ⟨fun h=>(by cases h),fun h=>absurd h (by omega)⟩ | exact ⟨fun _=>by omega,fun _=>rfl⟩,hs.sub⟩ | exact ⟨_,rfl,by rw [hm1]; first | (rw [decide_eq_true_iff]; omega) | exact ⟨fun h=>(by cases h),fun h=>absurd h (by omega)⟩ | exact ⟨fun _=>by omega,fun _=>rfl⟩,hs.sub⟩
     ·
      iterate 3 (refine SO (s:=60) ha fun a ha=>?_)
      refine PF ha fun a ha=>?_
      refine S1 ha fun a ha=>?_
      iterate 3 (refine SO (s:=65) ha fun a ha=>?_)
      refine PF ha fun a ha=>?_
      refine S1 ha fun a ha=>?_
      iterate 3 (refine SO (s:=70) ha fun a ha=>?_)
      refine PF ha fun a ha=>?_
      refine S1 ha fun a ha=>?_
      refine LN<|TN<|wp_ret<|TR ?_
      refine ret1 ha rfl ?_
      first | exact ⟨_,rfl,by rw [hm2]; first | (rw [decide_eq_true_iff]; omega) | exact ⟨fun h=>(by cases h),fun h=>absurd h (by omega)⟩ | exact ⟨fun _=>by omega,fun _=>rfl⟩,hs.sub⟩ | exact ⟨_,rfl,by rw [hm1]; first | (rw [decide_eq_true_iff]; omega) | exact ⟨fun h=>(by cases h),fun h=>absurd h (by omega)⟩ | exact ⟨fun _=>by omega,fun _=>rfl⟩,hs.sub⟩
    ·
     iterate 4 (refine SO (s:=54) ha fun a ha=>?_)
     refine PF ha fun a ha=>?_
     refine S1 ha fun a ha=>?_
     iterate 3 (refine SO (s:=60) ha fun a ha=>?_)
     refine PF ha fun a ha=>?_
     refine S1 ha fun a ha=>?_
     iterate 3 (refine SO (s:=65) ha fun a ha=>?_)
     refine PF ha fun a ha=>?_
     refine S1 ha fun a ha=>?_
     iterate 3 (refine SO (s:=70) ha fun a ha=>?_)
     refine PF ha fun a ha=>?_
     refine S1 ha fun a ha=>?_
     refine LN<|TN<|wp_ret<|TR ?_
     refine ret1 ha rfl ?_
     first | exact ⟨_,rfl,by rw [hm2]; first | (rw [decide_eq_true_iff]; omega) | exact ⟨fun h=>(by cases h),fun h=>absurd h (by omega)⟩ | exact ⟨fun _=>by omega,fun _=>rfl⟩,hs.sub⟩ | exact ⟨_,rfl,by rw [hm1]; first | (rw [decide_eq_true_iff]; omega) | exact ⟨fun h=>(by cases h),fun h=>absurd h (by omega)⟩ | exact ⟨fun _=>by omega,fun _=>rfl⟩,hs.sub⟩
   ·
    have hk1 : p.kind=1:=by omega
    have hm1:=mayPk_1 hh.1 hk1
    rw [in3] at hm1
    refine WK<|TN<|WS<|WR ?_
    refine S1 ha fun a ha=>?_
    refine SL ha (hs.rd1 rfl) fun a ha=>?_
    refine SK (st_call ha rfl Ty.c93 rfl (frames_any hs) ?_); clear ha hs
    rintro e w ⟨f1,rfl,hf1,hs⟩
    refine ⟨_,rfl,?_⟩
    intro a ha
    refine S1 ha fun a ha=>?_
    refine ha.by (s:=78) (fun hg3 ha=>?_) (fun hg3 ha=>?_)
    ·
     have k1:=hf1.1 hg3
     unfold frP at k1
     refine S1g (s:=78) ha fun a ha=>?_
     refine SLg (s:=78) ha (hs.rd1 rfl) fun a ha=>?_
     refine SK (st_call ha (wgT ha rfl (s:=78)) Ty.c93 rfl (frames_any hs) ?_); clear ha hs
     rintro e w ⟨f2,rfl,hf2,hs⟩
     refine ⟨_,rfl,?_⟩
     intro a ha
     refine PT ha fun a ha=>?_
     refine S1 ha fun a ha=>?_
     refine ha.by (s:=83) (fun hg8 ha=>?_) (fun hg8 ha=>?_)
     ·
      have k2:=hf2.1 hg8
      unfold frP at k2
      refine S1g (s:=83) ha fun a ha=>?_
      refine SLg (s:=83) ha (hs.rd1 rfl) fun a ha=>?_
      refine SK (st_call ha (wgT ha rfl (s:=83)) Ty.c93 rfl (frames_any hs) ?_); clear ha hs
      rintro e w ⟨f3,rfl,hf3,hs⟩
      refine ⟨_,rfl,?_⟩
      intro a ha
      refine PT ha fun a ha=>?_
      refine S1 ha fun a ha=>?_
      refine ha.by (s:=88) (fun hg13 ha=>?_) (fun hg13 ha=>?_)
      ·
       have k3:=hf3.1 hg13
       unfold frP at k3
       refine S1g (s:=88) ha fun a ha=>?_
       refine SLg (s:=88) ha (hs.rd1 rfl) fun a ha=>?_
       iterate 2 (refine S1g (s:=88) ha fun a ha=>?_)
       refine PT ha fun a ha=>?_
       refine S1 ha fun a ha=>?_
       refine LN<|TN<|wp_ret ?_
       refine ret1 ha rfl ?_
       first | exact ⟨_,rfl,by rw [hm2]; first | (rw [decide_eq_true_iff]; omega) | exact ⟨fun h=>(by cases h),fun h=>absurd h (by omega)⟩ | exact ⟨fun _=>by omega,fun _=>rfl⟩,hs.sub⟩ | exact ⟨_,rfl,by rw [hm1]; first | (rw [decide_eq_true_iff]; omega) | exact ⟨fun h=>(by cases h),fun h=>absurd h (by omega)⟩ | exact ⟨fun _=>by omega,fun _=>rfl⟩,hs.sub⟩
      ·
       have k3 : ¬ frP p.frame:=fun h=>by rw [hf3.2 h] at hg13; cases hg13
       unfold frP at k3
       iterate 4 (refine SO (s:=88) ha fun a ha=>?_)
       refine PF ha fun a ha=>?_
       refine S1 ha fun a ha=>?_
       refine LN<|TN<|wp_ret ?_
       refine ret1 ha rfl ?_
       first | exact ⟨_,rfl,by rw [hm2]; first | (rw [decide_eq_true_iff]; omega) | exact ⟨fun h=>(by cases h),fun h=>absurd h (by omega)⟩ | exact ⟨fun _=>by omega,fun _=>rfl⟩,hs.sub⟩ | exact ⟨_,rfl,by rw [hm1]; first | (rw [decide_eq_true_iff]; omega) | exact ⟨fun h=>(by cases h),fun h=>absurd h (by omega)⟩ | exact ⟨fun _=>by omega,fun _=>rfl⟩,hs.sub⟩
     ·
      have k2 : ¬ frP p.ack:=fun h=>by rw [hf2.2 h] at hg8; cases hg8
      unfold frP at k2
      iterate 3 (refine SO (s:=83) ha fun a ha=>?_)
      refine PF ha fun a ha=>?_
      refine S1 ha fun a ha=>?_
      iterate 4 (refine SO (s:=88) ha fun a ha=>?_)
      refine PF ha fun a ha=>?_
      refine S1 ha fun a ha=>?_
      refine LN<|TN<|wp_ret ?_
      refine ret1 ha rfl ?_
      first | exact ⟨_,rfl,by rw [hm2]; first | (rw [decide_eq_true_iff]; omega) | exact ⟨fun h=>(by cases h),fun h=>absurd h (by omega)⟩ | exact ⟨fun _=>by omega,fun _=>rfl⟩,hs.sub⟩ | exact ⟨_,rfl,by rw [hm1]; first | (rw [decide_eq_true_iff]; omega) | exact ⟨fun h=>(by cases h),fun h=>absurd h (by omega)⟩ | exact ⟨fun _=>by omega,fun _=>rfl⟩,hs.sub⟩
    ·
     have k1 : ¬ frP p.first:=fun h=>by rw [hf1.2 h] at hg3; cases hg3
     unfold frP at k1
     iterate 3 (refine SO (s:=78) ha fun a ha=>?_)
     refine PF ha fun a ha=>?_
     refine S1 ha fun a ha=>?_
     iterate 3 (refine SO (s:=83) ha fun a ha=>?_)
     refine PF ha fun a ha=>?_
     refine S1 ha fun a ha=>?_
     iterate 4 (refine SO (s:=88) ha fun a ha=>?_)
     refine PF ha fun a ha=>?_
     refine S1 ha fun a ha=>?_
     refine LN<|TN<|wp_ret ?_
     refine ret1 ha rfl ?_
     first | exact ⟨_,rfl,by rw [hm2]; first | (rw [decide_eq_true_iff]; omega) | exact ⟨fun h=>(by cases h),fun h=>absurd h (by omega)⟩ | exact ⟨fun _=>by omega,fun _=>rfl⟩,hs.sub⟩ | exact ⟨_,rfl,by rw [hm1]; first | (rw [decide_eq_true_iff]; omega) | exact ⟨fun h=>(by cases h),fun h=>absurd h (by omega)⟩ | exact ⟨fun _=>by omega,fun _=>rfl⟩,hs.sub⟩
end
end Go.Proofs.YtagpkhbkdbaigaaGreat
