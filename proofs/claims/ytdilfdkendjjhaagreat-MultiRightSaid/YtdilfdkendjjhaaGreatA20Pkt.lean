/- Packets: which there may be, and their bytes: packet.May, packet.Encode, quintainref12.MayPacket, quintainref12.Packet. -/
import Derived.Test.YtdilfdkendjjhaaGreatA19Runs
namespace Go.Proofs.YtdilfdkendjjhaaGreat
open Go.RowKit
set_option linter.unusedVariables false
set_option linter.unusedSimpArgs false
set_option maxRecDepth 10000
set_option synthInstance.maxSize 4000
set_option synthInstance.maxHeartbeats 400000
section
abbrev pkC (p:Pk)(ad:Option Addr)(c:Nat):List Value:=[.int .i64 p.kind,.int .i64 p.from',.int .i64 p.to,.int .i64 p.id,.int .i64 p.first,.slice ad p.press.length c,.int .i64 p.ack,.int .i64 p.frame,.int .u32 p.sum]
def inP (m:Int)(ns:List Int):Prop:=∀ n∈ns,0≤n∧n≤m
def ivs (ns:List Int):List Value:=ns.map λn=>.int .i64 n
theorem ivs_at {ns:List Int}{i:Nat}(h:i<ns.length):(ivs ns)[i]?=some (.int .i64 ns[i]):=by simp[ivs,h]
def headP (p:Pk):Prop:=(0≤p.from'∧p.from'≤7)∧(0≤p.to∧p.to≤7)∧p.from'≠p.to∧(0≤p.id∧p.id≤1099511627776)
theorem mayPk_1 {p:Pk}(h:headP p)(hk:p.kind=1):mayPk p↔(inP 1000 [p.first,p.ack,p.frame]∧p.press.length≤32):=by
 unfold headP at h
 simp only[mayPk,inP,frP,List.forall_mem_cons,List.not_mem_nil,false_implies,implies_true,and_true]
 omega
theorem mayPk_2 {p:Pk}(h:headP p)(hk:p.kind=2):mayPk p↔(inP 0 [p.first,p.ack,p.frame,(p.press.length:Int)]∧p.sum=0):=by
 unfold headP at h
 simp only[mayPk,inP,frP,List.forall_mem_cons,List.not_mem_nil,false_implies,implies_true,and_true]
 omega
theorem mayPk_h {p:Pk}(h:mayPk p):headP p:=⟨h.1,h.2.1,h.2.2.1,h.2.2.2.1⟩
theorem mayPk_k {p:Pk}(h:mayPk p):p.kind=1∨p.kind=2:=by
 rcases h.2.2.2.2 with h | h
 · exact .inl h.1
 · exact .inr h.1
section
variable {W w:World}{L:List SP}{n c:Nat}{ad:Option Addr}{p:Pk}
theorem in_any {ns:List Int}{b:Nat}{M:Int}(hs:St W w L)(hb:ns.length≤1000)(hp:∀ w',St W w' L→Rd w' b 0 (ivs ns)) :
   Calls Tryz.prog 287 #[.int .i64 M,.slice (some ⟨b,0,none⟩) ns.length ns.length] w λe w'=>∃ r:Bool,e=.returned (.bool r)∧(r=true↔inP M ns)∧St W w' L:=by
 refine EN Tryz.func287 Tryz.ntmps287 rfl rfl λa ha=>?_
 refine RN 7 ha hs λa ha=>?_
 refine wp_loop_ghost (λμ a w=>∃ (i:Nat),(μ=ns.length-i∧i≤ns.length∧inP M (ns.take i))∧Fr a 21 [(0,.int .i64 M),(7,.slice (some ⟨b,0,none⟩) ns.length ns.length),(8,.int .i64 ns.length),(9,.int .i64 i)]∧St W w L) (ns.length) (⟨0,⟨rfl,by omega,λn h=>by simp at h⟩,ha.keep [0,7,8,9],hs⟩) ?_
 clear ha hs
 rintro μ a w ⟨i,⟨rfl,hi,hin⟩,ha,hs⟩
 refine IF 3 ha hs (λhc0 a ha=>?_) λhc0 a ha=>?_
 ·
  have hil:i<ns.length:=by omega
  refine RN 3 ha hs λa ha=>?_
  refine SS ha (ld1 ha (by have:=hp _ hs i _ (ivs_at hil);rwa [Nat.zero_add]at this)) λa ha=>?_
  refine RN 1 ha hs λa ha=>?_
  refine wp_seq_cut (M:=λa w=>∃ z:Bool,(z=true↔¬ (0≤ns[i]∧ns[i]≤M))∧Fr a 21 [(0,.int .i64 M),(7,.slice (some ⟨b,0,none⟩) ns.length ns.length),(8,.int .i64 ns.length),(9,.int .i64 i),(19,.bool z)]∧St W w L) ?_ ?_
  ·
   refine BY 3 ha hs (λhg2 a ha=>?_) λhg2 a ha=>?_
   ·
    refine RN 4 ha hs λa ha=>?_
    exact⟨_,by first | (rw[decide_eq_true_iff];omega) | exact⟨λh=>(by cases h),λh=>absurd h (by omega)⟩ | exact⟨λ_=>by omega,λ_=>rfl⟩,ha.keep [0,7,8,9,19],hs⟩
   refine RN 4 ha hs λa ha=>?_
   exact⟨_,by first | (rw[decide_eq_true_iff];omega) | exact⟨λh=>(by cases h),λh=>absurd h (by omega)⟩ | exact⟨λ_=>by omega,λ_=>rfl⟩,ha.keep [0,7,8,9,19],hs⟩
  clear ha;(try clear hs)
  rintro a w ⟨z,hz,ha,hs⟩
  refine IF 0 ha hs (λhc1 a ha=>?_) λhc1 a ha=>?_
  ·
   refine RT 2 ha hs ?_
   exact⟨_,rfl,⟨λh=>(by cases h),λh=>absurd (h _ (List.getElem_mem hil)) (hz.1 hc1)⟩,hs⟩
  refine RN 2 ha hs λa ha=>?_
  exact⟨ns.length-(i+1),by omega,i+1,⟨rfl,by omega,λn hn=>by
    rw[List.take_succ_eq_append_getElem hil,List.mem_append,List.mem_singleton]at hn
    rcases hn with hn | rfl
    · exact hin n hn
    · exact Classical.byContradiction λh=>by have:=hz.2 h;rw[hc1]at this;cases this⟩,ha.keep [0,7,8,9],hs⟩
 refine RT 2 ha hs ?_
 rw[List.take_of_length_le (by omega)]at hin
 exact⟨_,rfl,⟨λ_=>hin,λ_=>rfl⟩,hs⟩
theorem in2 {M a b:Int}:inP M [a,b]↔(0≤a∧a≤M)∧(0≤b∧b≤M):=by simp[inP]
theorem in3 {M a b c:Int}:inP M [a,b,c]↔(0≤a∧a≤M)∧(0≤b∧b≤M)∧(0≤c∧c≤M):=by simp[inP]
theorem packet_may (hs:St W w L):Calls Tryz.prog 272 #[.agg (pkC p ad c).toArray] w λe w'=>∃ r:Bool,e=.returned (.bool r)∧(r=true↔mayPk p)∧St W w' L:=by
 have hL:=hs
 refine EN Tryz.func272 Tryz.ntmps272 rfl rfl λa ha=>?_
 refine BX 1 ha hs λb1 a w ha hs=>?_
 refine RN 2 ha hs λa ha=>?_
 refine wp_seq_cut (M:=λa w=>∃ (z:Bool) (b1:Nat),(z=true↔¬ headP p)∧Fr a 63 [(1,pt b1),(26,.bool z)]∧St W w (blk b1 70 (pkC p ad c)::L)) ?_ ?_
 ·
  refine RN 4 ha hs λa ha=>?_
  refine st_buildSlice ha rfl hs Tryz.underlying52 Ty.t3 rfl rfl rfl rfl (by decide) (by decide) λb7 a w ha hs ho=>?_
  clear ho
  refine CL1 0 ha hs (in_any (ns:=[p.from',p.to]) hs (by simp) (λw' hw=>hw.rdAll)) λr1 a w ha ⟨hr1,hs⟩=>?_
  refine BY 2 ha hs (λhg7 a ha=>?_) λhg7 a ha=>?_
  ·
   have hh:¬ headP p:=λh=>by
     have:=hr1.2 (in2.2 ⟨h.1,h.2.1⟩)
     rw[hg7]at this;cases this
   refine RN 16 ha hs λa ha=>?_
   exact⟨_,_,⟨λ_=>hh,λ_=>rfl⟩,ha.keep [1,26],hs.sub⟩
  have hh:=in2.1 (hr1.1 hg7)
  refine BY 7 ha hs (λhg14 a ha=>?_) λhg14 a ha=>?_
  ·
   refine RN 9 ha hs λa ha=>?_
   exact⟨_,_,by unfold headP;first | (rw[decide_eq_true_iff];omega) | exact⟨λh=>(by cases h),λh=>absurd h (by omega)⟩ | exact⟨λ_=>by omega,λ_=>rfl⟩,ha.keep [1,26],hs.sub⟩
  refine BY 5 ha hs (λhg19 a ha=>?_) λhg19 a ha=>?_
  ·
   refine RN 4 ha hs λa ha=>?_
   exact⟨_,_,by unfold headP;first | (rw[decide_eq_true_iff];omega) | exact⟨λh=>(by cases h),λh=>absurd h (by omega)⟩ | exact⟨λ_=>by omega,λ_=>rfl⟩,ha.keep [1,26],hs.sub⟩
  refine RN 4 ha hs λa ha=>?_
  exact⟨_,_,by unfold headP;first | (rw[decide_eq_true_iff];omega) | exact⟨λh=>(by cases h),λh=>absurd h (by omega)⟩ | exact⟨λ_=>by omega,λ_=>rfl⟩,ha.keep [1,26],hs.sub⟩
 clear ha;(try clear hs)
 rintro a w ⟨z,b1,hz,ha,hs⟩
 refine IF 0 ha hs (λhc0 a ha=>?_) λhc0 a ha=>?_
 ·
  have hn:=hz.1 hc0
  refine RT 2 ha hs ?_
  exact⟨_,rfl,⟨λh=>(by cases h),λh=>absurd (mayPk_h h) hn⟩,hs.sub⟩
 have hh:headP p:=Classical.byContradiction λh=>by have:=hz.2 h;rw[hc0]at this;cases this
 refine IF 7 ha hs (λhc1 a ha=>?_) λhc1 a ha=>?_
 ·
  have hk1:p.kind=1:=hc1
  refine RN 7 ha hs λa ha=>?_
  refine st_buildSlice ha rfl hs Tryz.underlying52 Ty.t3 rfl rfl rfl rfl (by decide) (by decide) λb37 a w ha hs ho=>?_
  clear ho
  refine CL1 0 ha hs (in_any (ns:=[p.first,p.ack,p.frame]) hs (by simp) (λw' hw=>hw.rdAll)) λr5 a w ha ⟨hr5,hs⟩=>?_
  refine BY 1 ha hs (λhg8 a ha=>?_) λhg8 a ha=>?_
  ·
   refine RT 6 ha hs ?_
   refine⟨_,rfl,?_,hs.sub⟩
   rw[mayPk_1 hh hk1,decide_eq_true_iff]
   exact⟨λh=>⟨hr5.1 hg8,by omega⟩,λh=>by omega⟩
  refine RT 6 ha hs ?_
  exact⟨_,rfl,⟨λh=>(by cases h),λh=>by have:=hr5.2 ((mayPk_1 hh hk1).1 h).1;rw[hg8]at this;cases this⟩,hs.sub⟩
 refine IF 3 ha hs (λhc2 a ha=>?_) λhc2 a ha=>?_
 ·
  have hk2:p.kind=2:=hc2
  refine RN 10 ha hs λa ha=>?_
  refine st_buildSlice ha rfl hs Tryz.underlying52 Ty.t3 rfl rfl rfl rfl (by decide) (by decide) λb56 a w ha hs ho=>?_
  clear ho
  refine CL1 0 ha hs (in_any (ns:=[p.first,p.ack,p.frame,(p.press.length:Int)]) hs (by simp) (λw' hw=>hw.rdAll)) λr7 a w ha ⟨hr7,hs⟩=>?_
  refine BY 1 ha hs (λhg11 a ha=>?_) λhg11 a ha=>?_
  ·
   refine RT 5 ha hs ?_
   refine⟨_,rfl,?_,hs.sub⟩
   rw[mayPk_2 hh hk2,decide_eq_true_iff]
   exact⟨λh=>⟨hr7.1 hg11,by omega⟩,λh=>by omega⟩
  refine RT 5 ha hs ?_
  exact⟨_,rfl,⟨λh=>(by cases h),λh=>by have:=hr7.2 ((mayPk_2 hh hk2).1 h).1;rw[hg11]at this;cases this⟩,hs.sub⟩
 refine RT 2 ha hs ?_
 exact⟨_,rfl,⟨λh=>(by cases h),λh=>by rcases mayPk_k h with h | h;exact absurd h hc1;exact absurd h hc2⟩,hs.sub⟩
theorem frames_any {x:Int}(hs:St W w L):Calls Tryz.prog 144 #[.int .i64 x] w λe w'=>∃ r:Bool,e=.returned (.bool r)∧(r=true↔frP x)∧St W w' L:=by
 refine EN Tryz.func144 Tryz.ntmps144 rfl rfl λa ha=>?_
 refine BY 6 ha hs (λhg2 a ha=>?_) λhg2 a ha=>?_
 ·
  refine RT 4 ha hs ?_
  exact⟨_,rfl,by unfold frP;first | (rw[decide_eq_true_iff];omega) | exact⟨λh=>(by cases h),λh=>absurd h (by omega)⟩,hs⟩
 refine RT 4 ha hs ?_
 exact⟨_,rfl,by unfold frP;first | (rw[decide_eq_true_iff];omega) | exact⟨λh=>(by cases h),λh=>absurd h (by omega)⟩,hs⟩
theorem refMay_spec (hs:St W w L):Calls Tryz.prog 76 #[.agg (pkC p ad c).toArray] w λe w'=>∃ r:Bool,e=.returned (.bool r)∧(r=true↔mayPk p)∧St W w' L:=by
 refine EN Tryz.func76 Tryz.ntmps76 rfl rfl λa ha=>?_
 refine BX 1 ha hs λb1 a w ha hs=>?_
 refine RN 2 ha hs λa ha=>?_
 refine wp_seq_cut (M:=λa w=>∃ (z:Bool) (b1:Nat),(z=true↔¬ (headP p∧1≤p.kind∧p.kind≤2))∧Fr a 94 [(1,pt b1),(47,.bool z)]∧St W w (blk b1 70 (pkC p ad c)::L)) ?_ ?_
 ·
  refine BY 4 ha hs (λhg3 a ha=>?_) λhg3 a ha=>?_
  ·
   refine RN 41 ha hs λa ha=>?_
   exact⟨_,_,by unfold headP;first | (rw[decide_eq_true_iff];omega) | exact⟨λh=>(by cases h),λh=>absurd h (by omega)⟩ | exact⟨λ_=>by omega,λ_=>rfl⟩,ha.keep [1,47],hs.sub⟩
  refine BY 5 ha hs (λhg8 a ha=>?_) λhg8 a ha=>?_
  ·
   refine RN 36 ha hs λa ha=>?_
   exact⟨_,_,by unfold headP;first | (rw[decide_eq_true_iff];omega) | exact⟨λh=>(by cases h),λh=>absurd h (by omega)⟩ | exact⟨λ_=>by omega,λ_=>rfl⟩,ha.keep [1,47],hs.sub⟩
  refine BY 5 ha hs (λhg13 a ha=>?_) λhg13 a ha=>?_
  ·
   refine RN 31 ha hs λa ha=>?_
   exact⟨_,_,by unfold headP;first | (rw[decide_eq_true_iff];omega) | exact⟨λh=>(by cases h),λh=>absurd h (by omega)⟩ | exact⟨λ_=>by omega,λ_=>rfl⟩,ha.keep [1,47],hs.sub⟩
  refine BY 5 ha hs (λhg18 a ha=>?_) λhg18 a ha=>?_
  ·
   refine RN 26 ha hs λa ha=>?_
   exact⟨_,_,by unfold headP;first | (rw[decide_eq_true_iff];omega) | exact⟨λh=>(by cases h),λh=>absurd h (by omega)⟩ | exact⟨λ_=>by omega,λ_=>rfl⟩,ha.keep [1,47],hs.sub⟩
  refine BY 5 ha hs (λhg23 a ha=>?_) λhg23 a ha=>?_
  ·
   refine RN 21 ha hs λa ha=>?_
   exact⟨_,_,by unfold headP;first | (rw[decide_eq_true_iff];omega) | exact⟨λh=>(by cases h),λh=>absurd h (by omega)⟩ | exact⟨λ_=>by omega,λ_=>rfl⟩,ha.keep [1,47],hs.sub⟩
  refine BY 5 ha hs (λhg28 a ha=>?_) λhg28 a ha=>?_
  ·
   refine RN 16 ha hs λa ha=>?_
   exact⟨_,_,by unfold headP;first | (rw[decide_eq_true_iff];omega) | exact⟨λh=>(by cases h),λh=>absurd h (by omega)⟩ | exact⟨λ_=>by omega,λ_=>rfl⟩,ha.keep [1,47],hs.sub⟩
  refine BY 7 ha hs (λhg35 a ha=>?_) λhg35 a ha=>?_
  ·
   refine RN 9 ha hs λa ha=>?_
   exact⟨_,_,by unfold headP;first | (rw[decide_eq_true_iff];omega) | exact⟨λh=>(by cases h),λh=>absurd h (by omega)⟩ | exact⟨λ_=>by omega,λ_=>rfl⟩,ha.keep [1,47],hs.sub⟩
  refine BY 5 ha hs (λhg40 a ha=>?_) λhg40 a ha=>?_
  ·
   refine RN 4 ha hs λa ha=>?_
   exact⟨_,_,by unfold headP;first | (rw[decide_eq_true_iff];omega) | exact⟨λh=>(by cases h),λh=>absurd h (by omega)⟩ | exact⟨λ_=>by omega,λ_=>rfl⟩,ha.keep [1,47],hs.sub⟩
  refine RN 4 ha hs λa ha=>?_
  exact⟨_,_,by unfold headP;first | (rw[decide_eq_true_iff];omega) | exact⟨λh=>(by cases h),λh=>absurd h (by omega)⟩ | exact⟨λ_=>by omega,λ_=>rfl⟩,ha.keep [1,47],hs.sub⟩
 clear ha;(try clear hs)
 rintro a w ⟨z,b1,hz,ha,hs⟩
 refine IF 0 ha hs (λhc0 a ha=>?_) λhc0 a ha=>?_
 ·
  have hn:=hz.1 hc0
  refine RT 2 ha hs ?_
  exact⟨_,rfl,⟨λh=>(by cases h),λh=>absurd ⟨mayPk_h h,by have:=mayPk_k h;omega⟩ hn⟩,hs.sub⟩
 have hh:headP p∧1≤p.kind∧p.kind≤2:=Classical.byContradiction λh=>by have:=hz.2 h;rw[hc0]at this;cases this
 refine IF 5 ha hs (λhc1 a ha=>?_) λhc1 a ha=>?_
 ·
  have hk2:p.kind=2:=hc1
  have hm2:=mayPk_2 hh.1 hk2
  simp only[inP,List.forall_mem_cons,List.not_mem_nil,false_implies,implies_true,and_true]at hm2
  refine BY 5 ha hs (λhg3 a ha=>?_) λhg3 a ha=>?_
  ·
   refine BY 6 ha hs (λhg9 a ha=>?_) λhg9 a ha=>?_
   ·
    refine BY 5 ha hs (λhg14 a ha=>?_) λhg14 a ha=>?_
    ·
     refine BY 5 ha hs (λhg19 a ha=>?_) λhg19 a ha=>?_
     ·
      refine RT 5 ha hs ?_
      first | exact⟨_,rfl,by rw[hm2];first | (rw[decide_eq_true_iff];omega) | exact⟨λh=>(by cases h),λh=>absurd h (by omega)⟩ | exact⟨λ_=>by omega,λ_=>rfl⟩,hs.sub⟩ | exact⟨_,rfl,by rw[hm1];first | (rw[decide_eq_true_iff];omega) | exact⟨λh=>(by cases h),λh=>absurd h (by omega)⟩ | exact⟨λ_=>by omega,λ_=>rfl⟩,hs.sub⟩
     refine RT 5 ha hs ?_
     first | exact⟨_,rfl,by rw[hm2];first | (rw[decide_eq_true_iff];omega) | exact⟨λh=>(by cases h),λh=>absurd h (by omega)⟩ | exact⟨λ_=>by omega,λ_=>rfl⟩,hs.sub⟩ | exact⟨_,rfl,by rw[hm1];first | (rw[decide_eq_true_iff];omega) | exact⟨λh=>(by cases h),λh=>absurd h (by omega)⟩ | exact⟨λ_=>by omega,λ_=>rfl⟩,hs.sub⟩
    refine RT 10 ha hs ?_
    first | exact⟨_,rfl,by rw[hm2];first | (rw[decide_eq_true_iff];omega) | exact⟨λh=>(by cases h),λh=>absurd h (by omega)⟩ | exact⟨λ_=>by omega,λ_=>rfl⟩,hs.sub⟩ | exact⟨_,rfl,by rw[hm1];first | (rw[decide_eq_true_iff];omega) | exact⟨λh=>(by cases h),λh=>absurd h (by omega)⟩ | exact⟨λ_=>by omega,λ_=>rfl⟩,hs.sub⟩
   refine RT 15 ha hs ?_
   first | exact⟨_,rfl,by rw[hm2];first | (rw[decide_eq_true_iff];omega) | exact⟨λh=>(by cases h),λh=>absurd h (by omega)⟩ | exact⟨λ_=>by omega,λ_=>rfl⟩,hs.sub⟩ | exact⟨_,rfl,by rw[hm1];first | (rw[decide_eq_true_iff];omega) | exact⟨λh=>(by cases h),λh=>absurd h (by omega)⟩ | exact⟨λ_=>by omega,λ_=>rfl⟩,hs.sub⟩
  refine RT 21 ha hs ?_
  first | exact⟨_,rfl,by rw[hm2];first | (rw[decide_eq_true_iff];omega) | exact⟨λh=>(by cases h),λh=>absurd h (by omega)⟩ | exact⟨λ_=>by omega,λ_=>rfl⟩,hs.sub⟩ | exact⟨_,rfl,by rw[hm1];first | (rw[decide_eq_true_iff];omega) | exact⟨λh=>(by cases h),λh=>absurd h (by omega)⟩ | exact⟨λ_=>by omega,λ_=>rfl⟩,hs.sub⟩
 have hk1:p.kind=1:=by omega
 have hm1:=mayPk_1 hh.1 hk1
 rw[in3]at hm1
 refine CL1 3 ha hs (frames_any hs) λf1 a w ha ⟨hf1,hs⟩=>?_
 refine BY 1 ha hs (λhg3 a ha=>?_) λhg3 a ha=>?_
 ·
  have k1:=hf1.1 hg3
  unfold frP at k1
  refine CL1 2 ha hs (frames_any hs) λf2 a w ha ⟨hf2,hs⟩=>?_
  refine BY 2 ha hs (λhg8 a ha=>?_) λhg8 a ha=>?_
  ·
   have k2:=hf2.1 hg8
   unfold frP at k2
   refine CL1 2 ha hs (frames_any hs) λf3 a w ha ⟨hf3,hs⟩=>?_
   refine BY 2 ha hs (λhg13 a ha=>?_) λhg13 a ha=>?_
   ·
    have k3:=hf3.1 hg13
    unfold frP at k3
    refine RT 6 ha hs ?_
    first | exact⟨_,rfl,by rw[hm2];first | (rw[decide_eq_true_iff];omega) | exact⟨λh=>(by cases h),λh=>absurd h (by omega)⟩ | exact⟨λ_=>by omega,λ_=>rfl⟩,hs.sub⟩ | exact⟨_,rfl,by rw[hm1];first | (rw[decide_eq_true_iff];omega) | exact⟨λh=>(by cases h),λh=>absurd h (by omega)⟩ | exact⟨λ_=>by omega,λ_=>rfl⟩,hs.sub⟩
   have k3:¬ frP p.frame:=λh=>by rw[hf3.2 h]at hg13;cases hg13
   unfold frP at k3
   refine RT 6 ha hs ?_
   first | exact⟨_,rfl,by rw[hm2];first | (rw[decide_eq_true_iff];omega) | exact⟨λh=>(by cases h),λh=>absurd h (by omega)⟩ | exact⟨λ_=>by omega,λ_=>rfl⟩,hs.sub⟩ | exact⟨_,rfl,by rw[hm1];first | (rw[decide_eq_true_iff];omega) | exact⟨λh=>(by cases h),λh=>absurd h (by omega)⟩ | exact⟨λ_=>by omega,λ_=>rfl⟩,hs.sub⟩
  have k2:¬ frP p.ack:=λh=>by rw[hf2.2 h]at hg8;cases hg8
  unfold frP at k2
  refine RT 11 ha hs ?_
  first | exact⟨_,rfl,by rw[hm2];first | (rw[decide_eq_true_iff];omega) | exact⟨λh=>(by cases h),λh=>absurd h (by omega)⟩ | exact⟨λ_=>by omega,λ_=>rfl⟩,hs.sub⟩ | exact⟨_,rfl,by rw[hm1];first | (rw[decide_eq_true_iff];omega) | exact⟨λh=>(by cases h),λh=>absurd h (by omega)⟩ | exact⟨λ_=>by omega,λ_=>rfl⟩,hs.sub⟩
 have k1:¬ frP p.first:=λh=>by rw[hf1.2 h]at hg3;cases hg3
 unfold frP at k1
 refine RT 16 ha hs ?_
 first | exact⟨_,rfl,by rw[hm2];first | (rw[decide_eq_true_iff];omega) | exact⟨λh=>(by cases h),λh=>absurd h (by omega)⟩ | exact⟨λ_=>by omega,λ_=>rfl⟩,hs.sub⟩ | exact⟨_,rfl,by rw[hm1];first | (rw[decide_eq_true_iff];omega) | exact⟨λh=>(by cases h),λh=>absurd h (by omega)⟩ | exact⟨λ_=>by omega,λ_=>rfl⟩,hs.sub⟩
end
end
section
def numsL (p:Pk):List Int:=[p.first,p.ack,p.frame]
def upN (p:Pk)(i:Nat):List UInt8:=headPk p++(putL (zz p.id)++((numsL p).take i).flatMap λn=>putL (zz n))
theorem upN_succ {p:Pk}{i:Nat}(h:i<3):upN p (i+1)=upN p i++putL (zz ((numsL p).getD i 0)):=by
 have hl:i<(numsL p).length:=h
 rw[upN,upN,List.take_succ_eq_append_getElem hl,List.flatMap_append,List.append_assoc,List.append_assoc,List.getD_eq_getElem?_getD,List.getElem?_eq_getElem hl]
 simp
theorem upN_all {p:Pk}(h:p.kind=1):upN p 3++(fourL p.sum++(putL (zz (p.press.length:Int))++runsL p.press 0))=bodyPk p:=by
 simp[upN,bodyPk,midPk,numsPk,h,tailPk,numsL]
theorem upN_quit {p:Pk}(h:p.kind≠1):upN p 0=bodyPk p:=by simp[upN,bodyPk,midPk,numsPk,h]
theorem upN_len {p:Pk}(h:mayPk p){i:Nat}(hi:i≤3):(upN p i).length≤43:=by
 obtain⟨h1,h2,h3,h4,h5⟩:=h
 have hq:∀ n:Int,0≤n→n≤1099511627776→(putL (zz n)).length≤10:=λn a b=>putz_len (by omega) (by omega)
 have hf:(0≤p.first∧p.first≤1000)∧(0≤p.ack∧p.ack≤1000)∧(0≤p.frame∧p.frame≤1000):=by unfold frP at h5;omega
 have a0:=hq p.id (by omega) (by omega)
 have a1:=hq p.first (by omega) (by omega)
 have a2:=hq p.ack (by omega) (by omega)
 have a3:=hq p.frame (by omega) (by omega)
 rcases (by omega:i=0∨i=1∨i=2∨i=3) with rfl | rfl | rfl | rfl <;> simp[upN,headPk,numsL] <;> omega
theorem numsL_at {p:Pk}{i:Nat}(h:i<3):([Value.int .i64 p.first,.int .i64 p.ack,.int .i64 p.frame]:List Value)[i]?=some (.int .i64 ((numsL p).getD i 0)):=by
 rcases (by omega:i=0∨i=1∨i=2) with rfl | rfl | rfl <;> rfl
theorem numsL_in {p:Pk}(h:mayPk p)(i:Nat):0≤(numsL p).getD i 0∧(numsL p).getD i 0≤1000:=by
 have h5:=h.2.2.2.2
 have hf:(0≤p.first∧p.first≤1000)∧(0≤p.ack∧p.ack≤1000)∧(0≤p.frame∧p.frame≤1000):=by unfold frP at h5;omega
 match i with
 | 0=>exact hf.1
 | 1=>exact hf.2.1
 | 2=>exact hf.2.2
 | _+3=>exact⟨Int.le_refl _,by show (0:Int)≤1000;omega⟩
theorem headPk_c {p:Pk}(h:mayPk p):[[Value.int .u8 p.kind],[Value.int .u8 p.from'],[Value.int .u8 p.to]].flatten=bc (headPk p):=by
 have hk:=mayPk_k h
 obtain⟨h1,h2,h3,h4,h5⟩:=h
 simp[bc,headPk,UInt8.toNat_ofNat']
 omega
theorem bodyPk_len {p:Pk}(h:mayPk p):(bodyPk p).length≤503:=by
 have:=midPk_len h
 simp[bodyPk,headPk];omega
section
variable {W w:World}{L:List SP}{n c:Nat}{ad:Option Addr}{bs:List UInt8}{p:Pk}
theorem packet_enc (hs:St W w L)(hsum:p.sum<4294967296)(hp:∀ w',St W w' L→RdB w' ad p.press.length p.press) :
   Calls Tryz.prog 240 #[.agg (pkC p ad c).toArray] w λe w'=>∃ ad' c',e=.returned (.slice ad' (encO p).length c')∧St W w' (Sl 5 1 ad' (encO p).length c' (bc (encO p))::L):=by
 refine EN Tryz.func240 Tryz.ntmps240 rfl rfl λa ha=>?_
 refine BX 1 ha hs λb1 a w ha hs=>?_
 refine CL1 4 ha hs (packet_may (p:=p) (ad:=ad) (c:=c) hs) λr1 a w ha ⟨hr1,hs⟩=>?_
 refine IF 1 ha hs (λhc0 a ha=>?_) λhc0 a ha=>?_
 ·
  have hn:¬ mayPk p:=λh=>by rw[hr1.2 h]at hc0;cases hc0
  refine RT 2 ha hs ?_
  have he:encO p=[]:=by rw[encO,if_neg hn]
  rw[he]
  exact⟨none,0,rfl,hs.tail.sl0 _ _ _⟩
 have hm:mayPk p:=hr1.1 hc0
 have hk:=mayPk_k hm
 have hh:=mayPk_h hm
 unfold headP at hh
 have he:encO p=bodyPk p++fourL (crcSum (bodyPk p)):=by rw[encO,if_pos hm,encPk]
 have hbl:=bodyPk_len hm
 refine SX 3 ha hs (by rw[wrap_u8];omega) λa ha=>?_
 refine SX 2 ha hs (by rw[wrap_u8];omega) λa ha=>?_
 refine SX 2 ha hs (by rw[wrap_u8];omega) λa ha=>?_
 refine RN 0 ha hs λa ha=>?_
 refine st_buildSlice ha rfl hs Tryz.underlying22 Ty.t5 rfl rfl rfl rfl (by decide) (by decide) λb18 a w ha hs ho=>?_
 clear ho
 replace hs:=hs.litS (l:=headPk p) rfl rfl (headPk_c hm)
 refine CL2 2 ha hs (put_bytes (bs:=headPk p) (N:=p.id) hs (by omega) (by omega) (by simp[headPk])) λad3 c3 a w ha hs=>?_
 refine RN 1 ha hs λa ha=>?_
 rw[show headPk p++putL (zz p.id)=upN p 0 from by simp[upN]]at ha hs
 refine wp_seq_cut (M:=λa w=>∃ (ad3:Option Addr) (c3:Nat),Fr a 58 [(3,.slice ad3 (bodyPk p).length c3)]∧St W w (Sl 5 1 ad3 (bodyPk p).length c3 (bc (bodyPk p))::L)) ?_ ?_
 ·
  refine IF 4 ha hs (λhc1 a ha=>?_) λhc1 a ha=>?_
  ·
   have hk1:p.kind=1:=hc1
   have hpl:p.press.length≤32:=by have:=hm.2.2.2.2;omega
   refine RN 8 ha hs λa ha=>?_
   refine SS ha (ex_buildA ha Tryz.underlying359 Ty.t359 Ty.t3 rfl rfl) λa ha=>?_
   refine RN 1 ha hs λa ha=>?_
   refine wp_loop_ghost (λμ a w=>∃ (i c3:Nat) (ad3:Option Addr),(μ=3-i∧i≤3)∧Fr a 58 [(1,pt b1),(3,.slice ad3 (upN p i).length c3),(31,.agg #[.int .i64 p.first,.int .i64 p.ack,.int .i64 p.frame]),(32,.int .i64 i)]∧St W w (Sl 5 1 ad3 (upN p i).length c3 (bc (upN p i))::blk b1 70 (pkC p ad c)::L)) (3) (⟨0,c3,ad3,⟨rfl,by omega⟩,ha.keep [1,3,31,32],hs⟩) ?_
   clear ha hs
   rintro μ a w ⟨i,c3,ad3,⟨rfl,hi⟩,ha,hs⟩
   refine IF 3 ha hs (λhc2 a ha=>?_) λhc2 a ha=>?_
   ·
    refine RN 2 ha hs λa ha=>?_
    refine SS ha (ex_index1 ha Tryz.underlying359 Tryz.underlying3 rfl Ty.t3 (by omega) (numsL_at (p:=p) (by omega))) λa ha=>?_
    refine RN 1 ha hs λa ha=>?_
    have hin:=numsL_in hm i
    have hul:=upN_len hm (show i≤3 by omega)
    refine CL2 2 ha hs (put_bytes hs (by omega) (by omega) (by omega)) λad4 c4 a w ha hs=>?_
    refine RN 1 ha hs λa ha=>?_
    rw[← upN_succ (by omega)]at ha hs
    refine RN 2 ha hs λa ha=>?_
    exact⟨3-(i+1),by omega,i+1,_,_,⟨rfl,by omega⟩,ha.keep [1,3,31,32],hs.sub⟩
   obtain rfl:i=3:=by omega
   have hul:=upN_len hm (Nat.le_refl 3)
   have hll:=putz_len (n:=(p.press.length:Int)) (by omega) (by omega)
   have hal:=upN_all hk1
   generalize upN p 3=u3 at ha hs hul hal
   refine DWC 1 (λw0 w=>Rd w b1 0 (pkC p ad c)) [3,4,6,7] [0,1,5,3002,3006,3007,1003,1004,1008,9] ha hs λa w ha hs hH=>?_
   have hC:Rd w b1 0 (pkC p ad c):=hs.rdAll
   refine RH 3 ha hs hH hC λa ha=>?_
   refine QH ha (λw hc=>ld1 ha (hc 8 _ rfl)) hC λa ha=>?_
   refine QH ha (λw hc=>ld1 ha (hc 5 _ rfl)) hC λa ha=>?_
   refine RH 1 ha hs hH hC λa ha=>?_
   refine CL1 0 ha hs (num_four hs) λad5 a w ha hs=>?_
   replace hC:=hH.at w hs.rdAll
   refine RH 0 ha hs hH hC λa ha=>?_
   refine st_appendT ha rfl hs Tryz.underlying22 Ty.t5 rfl rfl (by decide) (λh0=>(hs.rdB ad5 (fourL p.sum) rfl rfl).get h0) (by rw[bc_len];rfl) (bc_one _) (by rw[fourL_len];omega) λad43 c43 a w ha hs=>?_
   replace hC:=hH.at w hs.rdAll
   rw[← bc_app,← List.length_append]at hs
   rw[← List.length_append]at ha
   refine RH 0 ha hs hH hC λa ha=>?_
   refine CL2 0 ha hs (put_bytes hs (by omega) (by omega) (by rw[List.length_append,fourL_len];omega)) λad6 c6 a w ha hs=>?_
   refine RN 1 ha hs λa ha=>?_
   have hrl:=runsL_len p.press 0
   generalize hu:u3++fourL p.sum++putL (zz (p.press.length:Int))=u4 at ha hs
   have hul4:u4.length≤60:=by rw[← hu];simp[fourL_len];omega
   refine CL2 3 ha hs (runs_enc (bs:=p.press) hs (by omega) (λw' hw=>hp w' hw.sub)) λad7 c7 a w ha hs=>?_
   refine RN 0 ha hs λa ha=>?_
   refine st_appendT ha rfl hs Tryz.underlying22 Ty.t5 rfl rfl (by decide) (λh0=>(hs.rdB ad7 _ rfl rfl).get h0) (by rw[bc_len,Nat.mul_one]) (bc_one _) (by omega) λad52 c52 a w ha hs=>?_
   refine RN 1 ha hs λa ha=>?_
   rw[← bc_app,show u4.length+(runsL p.press 0).length=(u4++runsL p.press 0).length from by rw[List.length_append]]at hs
   rw[show u4.length+(runsL p.press 0).length=(u4++runsL p.press 0).length from by rw[List.length_append]]at ha
   rw[show u4++runsL p.press 0=bodyPk p from by rw[← hu,← hal];simp]at ha hs
   exact⟨_,_,ha.keep [3],hs.sub⟩
  rw[upN_quit (by omega)]at ha hs
  refine RN 0 ha hs λa ha=>?_
  exact⟨_,_,ha.keep [3],hs.sub⟩
 clear ha;(try clear hs)
 rintro a w ⟨ad3,c3,ha,hs⟩
 refine CL 3 ha hs (crc_sum hs (by omega) (λw' hw=>hw.rdB ad3 _ rfl rfl)) λa w ha hs=>?_
 refine CL1 0 ha hs (num_four hs) λad8 a w ha hs=>?_
 refine RN 0 ha hs λa ha=>?_
 refine st_appendT ha rfl hs Tryz.underlying22 Ty.t5 rfl rfl (by decide) (λh0=>(hs.rdB ad8 (fourL (crcSum (bodyPk p))) rfl rfl).get h0) (by rw[bc_len];rfl) (bc_one _) (by rw[fourL_len];omega) λad57 c57 a w ha hs=>?_
 refine RT 1 ha hs ?_
 rw[he]
 rw[← bc_app,← List.length_append]at hs
 rw[← List.length_append]
 exact⟨_,_,rfl,hs.sub⟩
theorem refPacket_spec (hs:St W w L)(hsum:p.sum<4294967296)(hp:∀ w',St W w' L→RdB w' ad p.press.length p.press) :
   Calls Tryz.prog 32 #[.agg (pkC p ad c).toArray] w λe w'=>∃ ad' c',e=.returned (.slice ad' (encO p).length c')∧St W w' (Sl 5 1 ad' (encO p).length c' (bc (encO p))::L):=by
 refine EN Tryz.func32 Tryz.ntmps32 rfl rfl λa ha=>?_
 refine BX 1 ha hs λb1 a w ha hs=>?_
 refine CL1 4 ha hs (refMay_spec (p:=p) (ad:=ad) (c:=c) hs) λr1 a w ha ⟨hr1,hs⟩=>?_
 refine IF 1 ha hs (λhc0 a ha=>?_) λhc0 a ha=>?_
 ·
  have hn:¬ mayPk p:=λh=>by rw[hr1.2 h]at hc0;cases hc0
  refine RT 2 ha hs ?_
  have he:encO p=[]:=by rw[encO,if_neg hn]
  rw[he]
  exact⟨none,0,rfl,hs.tail.sl0 _ _ _⟩
 have hm:mayPk p:=hr1.1 hc0
 have hk:=mayPk_k hm
 have hh:=mayPk_h hm
 unfold headP at hh
 have he:encO p=bodyPk p++fourL (crcSum (bodyPk p)):=by rw[encO,if_pos hm,encPk]
 have hbl:=bodyPk_len hm
 have hid:=putz_len (n:=p.id) (by omega) (by omega)
 refine RN 0 ha hs λa ha=>?_
 refine wp_seq_cut (M:=λa w=>∃ (a3:Option Addr) (c3:Nat),Fr a 57 [(1,pt b1),(3,.slice a3 (upN p 0).length c3)]∧St W w (Sl 5 1 a3 (upN p 0).length c3 (bc (upN p 0))::blk b1 70 (pkC p ad c)::L)) ?_ ?_
 ·
  refine DWC 0 (λw0 w=>Rd w b1 0 (pkC p ad c)) [4,5,7,8,9,11,12] [0,3,6,10,3001,2,3004,3005,3007,3008,3011,2009,1012,1013,14] ha hs λa w ha hs hH=>?_
  have hC:Rd w b1 0 (pkC p ad c):=hs.rdAll
  refine RH 4 ha hs hH hC λa ha=>?_
  refine QH ha (λw hc=>ld1 ha (hc 0 _ rfl)) hC λa ha=>?_
  refine QP ha (λw=>ex_convIIs ha Tryz.underlying3 Tryz.underlying5 (by rw[wrap_u8];omega)) λa ha=>?_
  refine QH ha (λw hc=>ld1 ha (hc 1 _ rfl)) hC λa ha=>?_
  refine QH ha (λw hc=>ex_convIIs ha Tryz.underlying3 Tryz.underlying5 (by rw[wrap_u8];omega)) hC λa ha=>?_
  refine QH ha (λw hc=>ld1 ha (hc 2 _ rfl)) hC λa ha=>?_
  refine QH ha (λw hc=>ex_convIIs ha Tryz.underlying3 Tryz.underlying5 (by rw[wrap_u8];omega)) hC λa ha=>?_
  refine QH ha (λw hc=>ld1 ha (hc 3 _ rfl)) hC λa ha=>?_
  refine RH 0 ha hs hH hC λa ha=>?_
  refine DN [(9,[1012,1013,14]),(12,[1009,1013,14])] (by kernel_rfl) rfl ⟨⟨_,rfl,?_⟩,⟨_,rfl,?_⟩,trivial⟩
  ·
   refine RH 0 ha hs hH hC λa ha=>?_
   refine st_buildSlice ha rfl hs Tryz.underlying22 Ty.t5 rfl rfl rfl rfl (by decide) (by decide) λb16 a w ha hs ho=>?_
   clear ho
   replace hC:=hH.at w hs.rdAll
   replace hs:=hs.litS (l:=headPk p) rfl rfl (headPk_c hm)
   refine RH 0 ha hs hH hC λa ha=>?_
   refine CL2 0 ha hs (refPut_spec (N:=p.id) hs (by omega) (by omega)) λadp cp a w ha hs=>?_
   replace hC:=hH.at w hs.rdAll
   refine RH 0 ha hs hH hC λa ha=>?_
   refine st_appendT ha rfl hs Tryz.underlying22 Ty.t5 rfl rfl (by decide) (λh0=>(hs.rdB adp (putL (zz p.id)) rfl rfl).get h0) (by rw[bc_len,Nat.mul_one]) (bc_one _) (by omega) λad20 c20 a w ha hs=>?_
   refine RN 1 ha hs λa ha=>?_
   rw[show 3+(putL (zz p.id)).length=(headPk p++putL (zz p.id)).length from by rw[List.length_append];rfl]at ha hs
   rw[← bc_app]at hs
   rw[show headPk p++putL (zz p.id)=upN p 0 from by simp[upN]]at ha hs
   skip
   exact⟨_,_,ha.keep [1,3],hs.sub⟩
  refine RH 0 ha hs hH hC λa ha=>?_
  refine CL2 0 ha hs (refPut_spec (N:=p.id) hs (by omega) (by omega)) λadp cp a w ha hs=>?_
  replace hC:=hH.at w hs.rdAll
  refine RH 0 ha hs hH hC λa ha=>?_
  refine st_buildSlice ha rfl hs Tryz.underlying22 Ty.t5 rfl rfl rfl rfl (by decide) (by decide) λb16 a w ha hs ho=>?_
  clear ho
  replace hC:=hH.at w hs.rdAll
  replace hs:=hs.litS (l:=headPk p) rfl rfl (headPk_c hm)
  refine RH 0 ha hs hH hC λa ha=>?_
  refine st_appendT ha rfl hs Tryz.underlying22 Ty.t5 rfl rfl (by decide) (λh0=>(hs.rdB adp (putL (zz p.id)) rfl rfl).get h0) (by rw[bc_len,Nat.mul_one]) (bc_one _) (by omega) λad20 c20 a w ha hs=>?_
  refine RN 1 ha hs λa ha=>?_
  rw[show 3+(putL (zz p.id)).length=(headPk p++putL (zz p.id)).length from by rw[List.length_append];rfl]at ha hs
  rw[← bc_app]at hs
  rw[show headPk p++putL (zz p.id)=upN p 0 from by simp[upN]]at ha hs
  skip
  exact⟨_,_,ha.keep [1,3],hs.sub⟩
 clear ha;(try clear hs)
 rintro a w ⟨a3,c3,ha,hs⟩
 refine wp_seq_cut (M:=λa w=>∃ (ad3:Option Addr) (c3:Nat),Fr a 57 [(3,.slice ad3 (bodyPk p).length c3)]∧St W w (Sl 5 1 ad3 (bodyPk p).length c3 (bc (bodyPk p))::L)) ?_ ?_
 ·
  refine IF 4 ha hs (λhc1 a ha=>?_) λhc1 a ha=>?_
  ·
   have hk1:p.kind=1:=hc1
   have hpl:p.press.length≤32:=by have:=hm.2.2.2.2;omega
   have hff:(0≤p.first∧p.first≤1000)∧(0≤p.ack∧p.ack≤1000)∧(0≤p.frame∧p.frame≤1000):=by have:=hm.2.2.2.2;unfold frP at this;omega
   have q1:=putz_len (n:=p.first) (by omega) (by omega)
   have q2:=putz_len (n:=p.ack) (by omega) (by omega)
   have q3:=putz_len (n:=p.frame) (by omega) (by omega)
   have q4:=putz_len (n:=(p.press.length:Int)) (by omega) (by omega)
   have hul:=upN_len hm (show 0≤3 by decide)
   have hal:upN p 0++putL (zz p.first)++putL (zz p.ack)++putL (zz p.frame)++fourL p.sum++putL (zz (p.press.length:Int))++runsL p.press 0=bodyPk p:=by rw[← upN_all hk1];simp[upN,numsL]
   generalize hu0:upN p 0=u0 at ha hs hul hal
   refine DWC 1 (λw0 w=>Rd w b1 0 (pkC p ad c)) [3,4,6] [0,1,5,3002,3006,1003,1004,1007,1008,9] ha hs λa w ha hs hH=>?_
   have hC:Rd w b1 0 (pkC p ad c):=hs.rdAll
   refine RH 3 ha hs hH hC λa ha=>?_
   refine QH ha (λw hc=>ld1 ha (hc 4 _ rfl)) hC λa ha=>?_
   refine QH ha (λw hc=>ld1 ha (hc 6 _ rfl)) hC λa ha=>?_
   refine RH 0 ha hs hH hC λa ha=>?_
   refine CL2 0 ha hs (refPut_spec hs (by omega) (by omega)) λa1 c1 a w ha hs=>?_
   replace hC:=hH.at w hs.rdAll
   refine RH 0 ha hs hH hC λa ha=>?_
   refine st_appendT ha rfl hs Tryz.underlying22 Ty.t5 rfl rfl (by decide) (λh0=>(hs.rdB a1 (putL (zz p.first)) rfl rfl).get h0) (by rw[bc_len,Nat.mul_one]) (bc_one _) (by omega) λad28 c28 a w ha hs=>?_
   replace hC:=hH.at w hs.rdAll
   rw[← bc_app,← List.length_append]at hs
   rw[← List.length_append]at ha
   refine RH 0 ha hs hH hC λa ha=>?_
   refine CL2 0 ha hs (refPut_spec hs (by omega) (by omega)) λa2 c2 a w ha hs=>?_
   have hl1:(u0++putL (zz p.first)).length≤53:=by rw[List.length_append];omega
   refine RN 0 ha hs λa ha=>?_
   refine st_appendT ha rfl hs Tryz.underlying22 Ty.t5 rfl rfl (by decide) (λh0=>(hs.rdB a2 (putL (zz p.ack)) rfl rfl).get h0) (by rw[bc_len,Nat.mul_one]) (bc_one _) (by omega) λad32 c32 a w ha hs=>?_
   rw[← bc_app,← List.length_append]at hs
   rw[← List.length_append]at ha
   refine RN 1 ha hs λa ha=>?_
   replace hs:=hs.sub (M:=Sl 5 1 ad32 (u0++putL (zz p.first)++putL (zz p.ack)).length c32 (bc (u0++putL (zz p.first)++putL (zz p.ack)))::blk b1 70 (pkC p ad c)::L)
   have hl2:(u0++putL (zz p.first)++putL (zz p.ack)).length≤63:=by rw[List.length_append];omega
   generalize u0++putL (zz p.first)++putL (zz p.ack)=u1 at ha hs hl2 hal
   refine DWC 1 (λw0 w=>Rd w b1 0 (pkC p ad c)) [3,4,6] [0,1,5,3002,3006,1003,1004,1007,1008,9] ha hs λa w ha hs hH=>?_
   have hC:Rd w b1 0 (pkC p ad c):=hs.rdAll
   refine RH 3 ha hs hH hC λa ha=>?_
   refine QH ha (λw hc=>ld1 ha (hc 7 _ rfl)) hC λa ha=>?_
   refine QH ha (λw hc=>ld1 ha (hc 8 _ rfl)) hC λa ha=>?_
   refine RH 0 ha hs hH hC λa ha=>?_
   refine CL2 0 ha hs (refPut_spec hs (by omega) (by omega)) λa1 c1 a w ha hs=>?_
   replace hC:=hH.at w hs.rdAll
   refine RH 0 ha hs hH hC λa ha=>?_
   refine st_appendT ha rfl hs Tryz.underlying22 Ty.t5 rfl rfl (by decide) (λh0=>(hs.rdB a1 (putL (zz p.frame)) rfl rfl).get h0) (by rw[bc_len,Nat.mul_one]) (bc_one _) (by omega) λad37 c37 a w ha hs=>?_
   replace hC:=hH.at w hs.rdAll
   rw[← bc_app,← List.length_append]at hs
   rw[← List.length_append]at ha
   refine RH 0 ha hs hH hC λa ha=>?_
   refine CL1 0 ha hs (refFour_spec hs) λa2 a w ha hs=>?_
   have hl1:(u1++putL (zz p.frame)).length≤73:=by rw[List.length_append];omega
   refine RN 0 ha hs λa ha=>?_
   refine st_appendT ha rfl hs Tryz.underlying22 Ty.t5 rfl rfl (by decide) (λh0=>(hs.rdB a2 (fourL p.sum) rfl rfl).get h0) (by rw[bc_len];rfl) (bc_one _) (by rw[fourL_len];omega) λad41 c41 a w ha hs=>?_
   rw[← bc_app,← List.length_append]at hs
   rw[← List.length_append]at ha
   refine RN 1 ha hs λa ha=>?_
   replace hs:=hs.sub (M:=Sl 5 1 ad41 (u1++putL (zz p.frame)++fourL p.sum).length c41 (bc (u1++putL (zz p.frame)++fourL p.sum))::blk b1 70 (pkC p ad c)::L)
   have hl2:(u1++putL (zz p.frame)++fourL p.sum).length≤77:=by rw[List.length_append,fourL_len];omega
   generalize u1++putL (zz p.frame)++fourL p.sum=u2 at ha hs hl2 hal
   refine DWC 0 (λw0 w=>Rd w b1 0 (pkC p ad c)) [4,5,7] [0,1,6,3002,3,3007,1004,1005,1008,1009,10] ha hs λa w ha hs hH=>?_
   have hC:Rd w b1 0 (pkC p ad c):=hs.rdAll
   have hrl:=runsL_len p.press 0
   refine RH 3 ha hs hH hC λa ha=>?_
   refine QH ha (λw hc=>ld1 ha (hc 5 _ rfl)) hC λa ha=>?_
   refine RH 1 ha hs hH hC λa ha=>?_
   refine QH ha (λw hc=>ld1 ha (hc 5 _ rfl)) hC λa ha=>?_
   refine RH 0 ha hs hH hC λa ha=>?_
   refine CL2 0 ha hs (refPut_spec hs (by omega) (by omega)) λa1 c1 a w ha hs=>?_
   replace hC:=hH.at w hs.rdAll
   refine RH 0 ha hs hH hC λa ha=>?_
   refine st_appendT ha rfl hs Tryz.underlying22 Ty.t5 rfl rfl (by decide) (λh0=>(hs.rdB a1 (putL (zz (p.press.length:Int))) rfl rfl).get h0) (by rw[bc_len,Nat.mul_one]) (bc_one _) (by omega) λad47 c47 a w ha hs=>?_
   replace hC:=hH.at w hs.rdAll
   rw[← bc_app,← List.length_append]at hs
   rw[← List.length_append]at ha
   refine RH 0 ha hs hH hC λa ha=>?_
   refine CL2 0 ha hs (refRuns_spec (bs:=p.press) hs (by omega) (λw' hw=>hp w' hw.sub)) λa2 c2 a w ha hs=>?_
   have hl1:(u2++putL (zz (p.press.length:Int))).length≤87:=by rw[List.length_append];omega
   refine RN 0 ha hs λa ha=>?_
   refine st_appendT ha rfl hs Tryz.underlying22 Ty.t5 rfl rfl (by decide) (λh0=>(hs.rdB a2 (runsL p.press 0) rfl rfl).get h0) (by rw[bc_len,Nat.mul_one]) (bc_one _) (by omega) λad51 c51 a w ha hs=>?_
   rw[← bc_app,← List.length_append]at hs
   rw[← List.length_append]at ha
   refine RN 1 ha hs λa ha=>?_
   rw[hal]at ha hs
   exact⟨_,_,ha.keep [3],hs.sub⟩
  rw[upN_quit (by omega)]at ha hs
  refine RN 0 ha hs λa ha=>?_
  exact⟨_,_,ha.keep [3],hs.sub⟩
 clear ha;(try clear hs)
 rintro a w ⟨ad3,c3,ha,hs⟩
 refine CL 3 ha hs (refSum_spec hs (by omega) (λw' hw=>hw.rdB ad3 _ rfl rfl)) λa w ha hs=>?_
 refine CL1 0 ha hs (refFour_spec hs) λad8 a w ha hs=>?_
 refine RN 0 ha hs λa ha=>?_
 refine st_appendT ha rfl hs Tryz.underlying22 Ty.t5 rfl rfl (by decide) (λh0=>(hs.rdB ad8 (fourL (crcSum (bodyPk p))) rfl rfl).get h0) (by rw[bc_len];rfl) (bc_one _) (by rw[fourL_len];omega) λad56 c56 a w ha hs=>?_
 refine RT 1 ha hs ?_
 rw[he]
 rw[← bc_app,← List.length_append]at hs
 rw[← List.length_append]
 exact⟨_,_,rfl,hs.sub⟩
end
end
end Go.Proofs.YtdilfdkendjjhaaGreat
