/- Packets' bytes: packet.Encode, quintainref12.Packet. -/
import Derived.Test.YtagpkhbkdbaigaaGreatPkt
namespace Go.Proofs.YtagpkhbkdbaigaaGreat
open Go.RowKit
set_option linter.unusedVariables false
set_option linter.unusedSimpArgs false
set_option maxRecDepth 10000
set_option synthInstance.maxSize 4000
set_option synthInstance.maxHeartbeats 400000
def numsL (p : Pk) : List Int:=[p.first,p.ack,p.frame]
def upN (p : Pk) (i : Nat) : List UInt8:=headPk p++(putL (zz p.id)++((numsL p).take i).flatMap fun n=>putL (zz n))
theorem upN_succ {p : Pk} {i : Nat} (h : i < 3) : upN p (i+1)=upN p i++putL (zz ((numsL p).getD i 0)):=by
 have hl : i < (numsL p).length:=h
 rw [upN,upN,List.take_succ_eq_append_getElem hl,List.flatMap_append,List.append_assoc,List.append_assoc,List.getD_eq_getElem?_getD,List.getElem?_eq_getElem hl]
 simp
theorem upN_all {p : Pk} (h : p.kind=1) : upN p 3++(fourL p.sum++(putL (zz (p.press.length : Int))++runsL p.press 0))=bodyPk p:=by
 simp [upN,bodyPk,midPk,numsPk,h,tailPk,numsL]
theorem upN_quit {p : Pk} (h : p.kind≠1) : upN p 0=bodyPk p:=by simp [upN,bodyPk,midPk,numsPk,h]
theorem upN_len {p : Pk} (h : mayPk p) {i : Nat} (hi : i≤3) : (upN p i).length≤43:=by
 obtain ⟨h1,h2,h3,h4,h5⟩:=h
 have hq : ∀ n : Int,0≤n→n≤1099511627776→(putL (zz n)).length≤10:=fun n a b=>putz_len (by omega) (by omega)
 have hf : (0≤p.first∧p.first≤1000)∧(0≤p.ack∧p.ack≤1000)∧(0≤p.frame∧p.frame≤1000):=by unfold frP at h5; omega
 have a0:=hq p.id (by omega) (by omega)
 have a1:=hq p.first (by omega) (by omega)
 have a2:=hq p.ack (by omega) (by omega)
 have a3:=hq p.frame (by omega) (by omega)
 rcases (by omega : i=0∨i=1∨i=2∨i=3) with rfl | rfl | rfl | rfl <;> simp [upN,headPk,numsL] <;> omega
theorem numsL_at {p : Pk} {i : Nat} (h : i < 3) : ([Value.int .i64 p.first,.int .i64 p.ack,.int .i64 p.frame] : List Value)[i]?=some (.int .i64 ((numsL p).getD i 0)):=by
 rcases (by omega : i=0∨i=1∨i=2) with rfl | rfl | rfl <;> rfl
theorem numsL_in {p : Pk} (h : mayPk p) (i : Nat) : 0≤(numsL p).getD i 0∧(numsL p).getD i 0≤1000:=by
 have h5:=h.2.2.2.2
 have hf : (0≤p.first∧p.first≤1000)∧(0≤p.ack∧p.ack≤1000)∧(0≤p.frame∧p.frame≤1000):=by unfold frP at h5; omega
 match i with
 | 0=>exact hf.1
 | 1=>exact hf.2.1
 | 2=>exact hf.2.2
 | _+3=>exact ⟨Int.le_refl _,by show (0 : Int)≤1000; omega⟩
theorem headPk_c {p : Pk} (h : mayPk p) : [[Value.int .u8 p.kind],[Value.int .u8 p.from'],[Value.int .u8 p.to]].flatten=bc (headPk p):=by
 have hk:=mayPk_k h
 obtain ⟨h1,h2,h3,h4,h5⟩:=h
 simp [bc,headPk,UInt8.toNat_ofNat']
 omega
theorem bodyPk_len {p : Pk} (h : mayPk p) : (bodyPk p).length≤503:=by
 have:=midPk_len h
 simp [bodyPk,headPk]; omega
section
variable {W w : World} {L L' R : List SP} {n c m : Nat} {ad : Option Addr} {bs : List UInt8} {p : Pk}
theorem packet_enc (hs : St W w L) (hsum : p.sum < 4294967296) (hp : ∀ w',St W w' L→RdB w' ad p.press.length p.press) :
   Calls Tryz.prog 131 #[.agg (pkC p ad c).toArray] w fun e w'=>∃ ad' c',e=.returned (.slice ad' (encO p).length c')∧St W w' (Sl 5 1 ad' (encO p).length c' (bc (encO p))::L):=by
 refine calls_enter Tryz.func131 rfl Tryz.ntmps131 (Nat.le_of_ble_eq_true rfl) ?_
 intro a ha
 replace ha : Fr a 58 [(0,_)]:=ha
 refine WS<|WR ?_
 refine SK (st_box ha rfl hs rfl fun b1 a w ha hs ho=>?_)
 clear ho
 refine S1 ha fun a ha=>?_
 refine LN<|TN<|WS<|WS<|WR ?_
 refine SK (st_set ha rfl (ex_loadN ha Tryz.underlying40 rfl Ty.t40 (hs.rdN 9)) rfl fun a ha=>?_)
 refine SK (st_call ha rfl Ty.c154 rfl (packet_may (p:=p) (ad:=ad) (c:=c) hs) ?_); clear ha hs
 rintro e w ⟨r1,rfl,hr1,hs⟩
 refine ⟨_,rfl,?_⟩
 intro a ha
 refine S1 ha fun a ha=>?_
 refine LN<|TN ?_
 refine WI ha (fun hc0=>?_) (fun hc0=>?_)
 ·
  have hn : ¬ mayPk p:=fun h=>by rw [hr1.2 h] at hc0; cases hc0
  refine WS<|WR ?_
  refine S1d ha fun a ha=>?_
  refine LN<|TN<|wp_ret<|TR ?_
  refine ret1 ha rfl ?_
  have he : encO p=[]:=by rw [encO,if_neg hn]
  rw [he]
  exact ⟨none,0,rfl,hs.tail.sl0 _ _ _⟩
 ·
  have hm : mayPk p:=hr1.1 hc0
  have hk:=mayPk_k hm
  have hh:=mayPk_h hm
  unfold headP at hh
  have he : encO p=bodyPk p++fourL (crcSum (bodyPk p)):=by rw [encO,if_pos hm,encPk]
  have hbl:=bodyPk_len hm
  refine WK<|TN<|WS<|WR ?_
  refine S1 ha fun a ha=>?_
  refine SL ha (hs.rd1 rfl) fun a ha=>?_
  refine SK (st_set ha rfl (ex_convIIs ha Tryz.underlying3 Tryz.underlying5 (by rw [wrap_u8]; omega)) rfl fun a ha=>?_)
  refine S1 ha fun a ha=>?_
  refine SL ha (hs.rd1 rfl) fun a ha=>?_
  refine SK (st_set ha rfl (ex_convIIs ha Tryz.underlying3 Tryz.underlying5 (by rw [wrap_u8]; omega)) rfl fun a ha=>?_)
  refine S1 ha fun a ha=>?_
  refine SL ha (hs.rd1 rfl) fun a ha=>?_
  refine SK (st_set ha rfl (ex_convIIs ha Tryz.underlying3 Tryz.underlying5 (by rw [wrap_u8]; omega)) rfl fun a ha=>?_)
  refine SK (st_buildSlice ha rfl hs Tryz.underlying22 Ty.t5 rfl rfl rfl rfl (by decide) (by decide) fun b18 a w ha hs ho=>?_)
  clear ho
  replace hs:=hs.litS (l:=headPk p) rfl rfl (headPk_c hm)
  refine S1 ha fun a ha=>?_
  refine SL ha (hs.rd1 rfl) fun a ha=>?_
  refine SK (st_call ha rfl Ty.c146 rfl (put_bytes (bs:=headPk p) (N:=p.id) hs (by omega) (by omega) (by simp [headPk])) ?_); clear ha hs
  rintro e w ⟨ad3,c3,rfl,hs⟩
  refine ⟨_,rfl,?_⟩
  intro a ha
  refine S1 ha fun a ha=>?_
  rw [show headPk p++putL (zz p.id)=upN p 0 from by simp [upN]] at ha hs
  refine LN<|TN ?_
  refine wp_seq_cut (M:=fun a w=>∃ (ad3 : Option Addr) (c3 : Nat),Fr a 58 [(3,.slice ad3 (bodyPk p).length c3)]∧St W w (Sl 5 1 ad3 (bodyPk p).length c3 (bc (bodyPk p))::L)) ?_ ?_
  ·
   refine WS<|WR ?_
   refine S1 ha fun a ha=>?_
   refine SL ha (hs.rd1 rfl) fun a ha=>?_
   refine S1 ha fun a ha=>?_
   refine LN<|TN ?_
   refine WI ha (fun hc1=>?_) (fun hc1=>?_)
   ·
    have hk1 : p.kind=1:=hc1
    have hpl : p.press.length≤32:=by have:=hm.2.2.2.2; omega
    refine WS<|WS<|WR ?_
    refine S1 ha fun a ha=>?_
    refine SL ha (hs.rd1 rfl) fun a ha=>?_
    refine S1 ha fun a ha=>?_
    refine SL ha (hs.rd1 rfl) fun a ha=>?_
    refine S1 ha fun a ha=>?_
    refine SL ha (hs.rd1 rfl) fun a ha=>?_
    refine SK (st_set ha rfl (ex_buildA ha Tryz.underlying228 Ty.t228 Ty.t3 rfl rfl) rfl fun a ha=>?_)
    refine S1 ha fun a ha=>?_
    refine LN<|TN<|wp_block ?_
    refine wp_loop_ghost (fun μ a w=>∃ (i c3 : Nat) (ad3 : Option Addr),(μ=3 - i∧i≤3)∧Fr a 58 [(1,.pointer (some ⟨b1,0,none⟩)),(3,.slice ad3 (upN p i).length c3),(31,.agg #[.int .i64 p.first,.int .i64 p.ack,.int .i64 p.frame]),(32,.int .i64 i)]∧St W w (Sl 5 1 ad3 (upN p i).length c3 (bc (upN p i))::blk b1 40 (pkC p ad c)::L)) (3) ?_ ?_
    · exact ⟨0,c3,ad3,⟨rfl,by omega⟩,ha.keep [1,3,31,32],hs⟩
    ·
     clear ha hs
     rintro μ a w ⟨i,c3,ad3,⟨rfl,hi⟩,ha,hs⟩
     refine WS<|WR ?_
     refine S1 ha fun a ha=>?_
     refine LN<|TN<|WS ?_
     refine WI ha (fun hc2=>?_) (fun hc2=>?_)
     ·
      refine WK<|TN<|WS<|wp_block<|WS<|WR ?_
      refine SK (st_set ha rfl (ex_index1 ha Tryz.underlying228 Tryz.underlying3 rfl Ty.t3 (by omega) (numsL_at (p:=p) (by omega))) rfl fun a ha=>?_)
      refine S1 ha fun a ha=>?_
      refine LN<|TN ?_
      have hin:=numsL_in hm i
      have hul:=upN_len hm (show i≤3 by omega)
      refine WR ?_
      iterate 2 (refine S1 ha fun a ha=>?_)
      refine SK (st_call ha rfl Ty.c146 rfl (put_bytes hs (by omega) (by omega) (by omega)) ?_); clear ha hs
      rintro e w ⟨ad4,c4,rfl,hs⟩
      refine ⟨_,rfl,?_⟩
      intro a ha
      refine S1d ha fun a ha=>?_
      rw [← upN_succ (by omega)] at ha hs
      refine LN<|BN<|TN<|WR ?_
      refine SK (st_set ha rfl (ex_addI ha (by omega) (by omega)) rfl fun a ha=>?_)
      refine S1d ha fun a ha=>?_
      refine LN<|TN ?_
      exact ⟨3 - (i+1),by omega,i+1,_,_,⟨rfl,by omega⟩,ha.keep [1,3,31,32],hs.sub⟩
     ·
      obtain rfl : i=3:=by omega
      have hul:=upN_len hm (Nat.le_refl 3)
      have hll:=putz_len (n:=(p.press.length : Int)) (by omega) (by omega)
      have hal:=upN_all hk1
      generalize upN p 3=u3 at ha hs hul hal
      refine wp_exit<|TE<|TE<|blk_e<|TN<|WS ?_
      refine DW (m:=10) (fun w=>Rd w b1 0 (pkC p ad c)) [3,4,6,7] [0,1,5,2,6,7,3,4,8,9] Ty.mixed (pk_then (pk_then pk_body)) (fun hpk=>?_)
      replace hs:=hs.drew
      generalize w.drew=w at hs hpk ⊢
      have hC : Rd w b1 0 (pkC p ad c):=hs.rdAll
      iterate 3 (refine DP hpk ha rfl fun a ha=>?_)
      refine DL hpk ha rfl (fun w hc=>hc 8 _ rfl) hC fun a ha=>?_
      refine DL hpk ha rfl (fun w hc=>hc 5 _ rfl) hC fun a ha=>?_
      refine DH hpk ha rfl rfl (fun w hc=>ex_len ha Tryz.underlying22) hC fun a ha=>?_
      refine D1 rfl (st_call ha rfl Ty.c155 rfl (num_four hs) ?_); clear ha hs
      rintro e w ⟨ad5,rfl,hs⟩
      refine ⟨_,rfl,?_⟩
      intro a ha
      replace hC : (fun w=>Rd w b1 0 (pkC p ad c)) w:=hs.rdAll
      refine ⟨fun _=>hC,?_⟩
      refine D1 rfl (st_appendT ha rfl hs Tryz.underlying22 Ty.t5 rfl rfl (by decide) (fun h0=>(hs.rdB ad5 (fourL p.sum) rfl rfl).get h0) (by rw [bc_len]; rfl) (bc_one _) (by rw [fourL_len]; omega) fun ad43 c43 a w ha hs=>?_)
      replace hC : (fun w=>Rd w b1 0 (pkC p ad c)) w:=hs.rdAll
      refine ⟨fun _=>hC,?_⟩
      rw [← bc_app,← List.length_append] at hs
      rw [← List.length_append] at ha
      refine D1 rfl (st_call ha rfl Ty.c146 rfl (put_bytes hs (by omega) (by omega) (by rw [List.length_append,fourL_len]; omega)) ?_); clear ha hs
      rintro e w ⟨ad6,c6,rfl,hs⟩
      refine ⟨_,rfl,?_⟩
      intro a ha
      refine ⟨fun h=>absurd h (by decide),?_⟩
      replace ha:=ha.del 3
      refine DP hpk ha rfl fun a ha=>?_
      refine DD<|TN ?_
      have hrl:=runsL_len p.press 0
      generalize hu : u3++fourL p.sum++putL (zz (p.press.length : Int))=u4 at ha hs
      have hul4 : u4.length≤60:=by rw [← hu]; simp [fourL_len]; omega
      refine WR ?_
      iterate 2 (refine S1 ha fun a ha=>?_)
      refine SL ha (hs.rd1 rfl) fun a ha=>?_
      refine SK (st_call ha rfl Ty.c156 rfl (runs_enc (bs:=p.press) hs (by omega) (fun w' hw=>hp w' hw.sub)) ?_); clear ha hs
      rintro e w ⟨ad7,c7,rfl,hs⟩
      refine ⟨_,rfl,?_⟩
      intro a ha
      refine SK (st_appendT ha rfl hs Tryz.underlying22 Ty.t5 rfl rfl (by decide) (fun h0=>(hs.rdB ad7 _ rfl rfl).get h0) (by rw [bc_len,Nat.mul_one]) (bc_one _) (by omega) fun ad52 c52 a w ha hs=>?_)
      refine S1d ha fun a ha=>?_
      rw [← bc_app,show u4.length+(runsL p.press 0).length=(u4++runsL p.press 0).length from by rw [List.length_append]] at hs
      rw [show u4.length+(runsL p.press 0).length=(u4++runsL p.press 0).length from by rw [List.length_append]] at ha
      rw [show u4++runsL p.press 0=bodyPk p from by rw [← hu,← hal]; simp] at ha hs
      refine LN<|TN ?_
      exact ⟨_,_,ha.keep [3],hs.sub⟩
   ·
    rw [upN_quit (by omega)] at ha hs
    refine WK<|TN ?_
    exact ⟨_,_,ha.keep [3],hs.sub⟩
  ·
   clear ha; (try clear hs)
   intro a w hcut
   obtain ⟨ad3,c3,ha,hs⟩:=hcut
   refine WS<|WR ?_
   iterate 2 (refine S1 ha fun a ha=>?_)
   refine SK (st_call ha rfl Ty.c127 rfl (crc_sum hs (by omega) (fun w' hw=>hw.rdB ad3 _ rfl rfl)) ?_); clear ha hs
   rintro e w ⟨rfl,hs⟩
   refine ⟨_,rfl,?_⟩
   intro a ha
   refine SK (st_call ha rfl Ty.c155 rfl (num_four hs) ?_); clear ha hs
   rintro e w ⟨ad8,rfl,hs⟩
   refine ⟨_,rfl,?_⟩
   intro a ha
   refine SK (st_appendT ha rfl hs Tryz.underlying22 Ty.t5 rfl rfl (by decide) (fun h0=>(hs.rdB ad8 (fourL (crcSum (bodyPk p))) rfl rfl).get h0) (by rw [bc_len]; rfl) (bc_one _) (by rw [fourL_len]; omega) fun ad57 c57 a w ha hs=>?_)
   refine S1 ha fun a ha=>?_
   refine LN<|TN<|wp_ret ?_
   refine ret1 ha rfl ?_
   rw [he]
   rw [← bc_app,← List.length_append] at hs
   rw [← List.length_append]
   exact ⟨_,_,rfl,hs.sub⟩
theorem refPacket_spec (hs : St W w L) (hsum : p.sum < 4294967296) (hp : ∀ w',St W w' L→RdB w' ad p.press.length p.press) :
   Calls Tryz.prog 16 #[.agg (pkC p ad c).toArray] w fun e w'=>∃ ad' c',e=.returned (.slice ad' (encO p).length c')∧St W w' (Sl 5 1 ad' (encO p).length c' (bc (encO p))::L):=by
 refine calls_enter Tryz.func16 rfl Tryz.ntmps16 (Nat.le_of_ble_eq_true rfl) ?_
 intro a ha
 replace ha : Fr a 57 [(0,_)]:=ha
 refine WS<|WR ?_
 refine SK (st_box ha rfl hs rfl fun b1 a w ha hs ho=>?_)
 clear ho
 refine S1 ha fun a ha=>?_
 refine LN<|TN<|WS<|WS<|WR ?_
 refine SK (st_set ha rfl (ex_loadN ha Tryz.underlying40 rfl Ty.t40 (hs.rdN 9)) rfl fun a ha=>?_)
 refine SK (st_call ha rfl Ty.c42 rfl (refMay_spec (p:=p) (ad:=ad) (c:=c) hs) ?_); clear ha hs
 rintro e w ⟨r1,rfl,hr1,hs⟩
 refine ⟨_,rfl,?_⟩
 intro a ha
 refine S1 ha fun a ha=>?_
 refine LN<|TN ?_
 refine WI ha (fun hc0=>?_) (fun hc0=>?_)
 ·
  have hn : ¬ mayPk p:=fun h=>by rw [hr1.2 h] at hc0; cases hc0
  refine WS<|WR ?_
  refine S1d ha fun a ha=>?_
  refine LN<|TN<|wp_ret<|TR ?_
  refine ret1 ha rfl ?_
  have he : encO p=[]:=by rw [encO,if_neg hn]
  rw [he]
  exact ⟨none,0,rfl,hs.tail.sl0 _ _ _⟩
 ·
  have hm : mayPk p:=hr1.1 hc0
  have hk:=mayPk_k hm
  have hh:=mayPk_h hm
  unfold headP at hh
  have he : encO p=bodyPk p++fourL (crcSum (bodyPk p)):=by rw [encO,if_pos hm,encPk]
  have hbl:=bodyPk_len hm
  have hid:=putz_len (n:=p.id) (by omega) (by omega)
  refine WK<|TN ?_
  refine wp_seq_cut (M:=fun a w=>∃ (a3 : Option Addr) (c3 : Nat),Fr a 57 [(1,.pointer (some ⟨b1,0,none⟩)),(3,.slice a3 (upN p 0).length c3)]∧St W w (Sl 5 1 a3 (upN p 0).length c3 (bc (upN p 0))::blk b1 40 (pkC p ad c)::L)) ?_ ?_
  ·
   refine DW (m:=15) (fun w=>Rd w b1 0 (pkC p ad c)) [4,5,7,8,9,11,12] [0,3,6,10,1,2,4,5,7,8,11,9,12,13,14] Ty.mixed (pk_then pk_body) (fun hpk=>?_)
   replace hs:=hs.drew
   generalize w.drew=w at hs hpk ⊢
   have hC : Rd w b1 0 (pkC p ad c):=hs.rdAll
   iterate 4 (refine DP hpk ha rfl fun a ha=>?_)
   refine DL hpk ha rfl (fun w hc=>hc 0 _ rfl) hC fun a ha=>?_
   refine DQ hpk ha rfl rfl (fun w=>ex_convIIs ha Tryz.underlying3 Tryz.underlying5 (by rw [wrap_u8]; omega)) fun a ha=>?_
   refine DL hpk ha rfl (fun w hc=>hc 1 _ rfl) hC fun a ha=>?_
   refine DH hpk ha rfl rfl (fun w hc=>ex_convIIs ha Tryz.underlying3 Tryz.underlying5 (by rw [wrap_u8]; omega)) hC fun a ha=>?_
   refine DL hpk ha rfl (fun w hc=>hc 2 _ rfl) hC fun a ha=>?_
   refine DH hpk ha rfl rfl (fun w hc=>ex_convIIs ha Tryz.underlying3 Tryz.underlying5 (by rw [wrap_u8]; omega)) hC fun a ha=>?_
   refine DL hpk ha rfl (fun w hc=>hc 3 _ rfl) hC fun a ha=>?_
   refine D2 (i:=9) (j:=12) [12,13,14] [9,13,14] (by kernel_rfl) rfl rfl ?_ ?_
   ·
    refine st_buildSlice ha rfl hs Tryz.underlying22 Ty.t5 rfl rfl rfl rfl (by decide) (by decide) fun b16 a w ha hs ho=>?_
    (try replace hC:=hC.trans ho); clear ho
    replace hC : (fun w=>Rd w b1 0 (pkC p ad c)) w:=hs.rdAll
    refine ⟨fun _=>hC,?_⟩
    replace hs:=hs.litS (l:=headPk p) rfl rfl (headPk_c hm)
    refine D1 rfl (st_call ha rfl Ty.c43 rfl (refPut_spec (N:=p.id) hs (by omega) (by omega)) ?_); clear ha hs
    rintro e w ⟨adp,cp,rfl,hs⟩
    refine ⟨_,rfl,?_⟩
    intro a ha
    replace hC : (fun w=>Rd w b1 0 (pkC p ad c)) w:=hs.rdAll
    refine ⟨fun _=>hC,?_⟩
    refine D1 rfl (st_appendT ha rfl hs Tryz.underlying22 Ty.t5 rfl rfl (by decide) (fun h0=>(hs.rdB adp (putL (zz p.id)) rfl rfl).get h0) (by rw [bc_len,Nat.mul_one]) (bc_one _) (by omega) fun ad20 c20 a w ha hs=>?_)
    refine ⟨fun h=>absurd h (by decide),?_⟩
    refine DP hpk ha rfl fun a ha=>?_
    rw [show 3+(putL (zz p.id)).length=(headPk p++putL (zz p.id)).length from by rw [List.length_append]; rfl] at ha hs
    rw [← bc_app] at hs
    rw [show headPk p++putL (zz p.id)=upN p 0 from by simp [upN]] at ha hs
    skip
    refine DD<|TN ?_
    exact ⟨_,_,ha.keep [1,3],hs.sub⟩
   ·
    refine st_call ha rfl Ty.c43 rfl (refPut_spec (N:=p.id) hs (by omega) (by omega)) ?_; clear ha hs
    rintro e w ⟨adp,cp,rfl,hs⟩
    refine ⟨_,rfl,?_⟩
    intro a ha
    replace hC : (fun w=>Rd w b1 0 (pkC p ad c)) w:=hs.rdAll
    refine ⟨fun _=>hC,?_⟩
    refine D1 rfl (st_buildSlice ha rfl hs Tryz.underlying22 Ty.t5 rfl rfl rfl rfl (by decide) (by decide) fun b16 a w ha hs ho=>?_)
    (try replace hC:=hC.trans ho); clear ho
    replace hC : (fun w=>Rd w b1 0 (pkC p ad c)) w:=hs.rdAll
    refine ⟨fun _=>hC,?_⟩
    replace hs:=hs.litS (l:=headPk p) rfl rfl (headPk_c hm)
    refine D1 rfl (st_appendT ha rfl hs Tryz.underlying22 Ty.t5 rfl rfl (by decide) (fun h0=>(hs.rdB adp (putL (zz p.id)) rfl rfl).get h0) (by rw [bc_len,Nat.mul_one]) (bc_one _) (by omega) fun ad20 c20 a w ha hs=>?_)
    refine ⟨fun h=>absurd h (by decide),?_⟩
    refine DP hpk ha rfl fun a ha=>?_
    rw [show 3+(putL (zz p.id)).length=(headPk p++putL (zz p.id)).length from by rw [List.length_append]; rfl] at ha hs
    rw [← bc_app] at hs
    rw [show headPk p++putL (zz p.id)=upN p 0 from by simp [upN]] at ha hs
    skip
    refine DD<|TN ?_
    exact ⟨_,_,ha.keep [1,3],hs.sub⟩
  ·
   clear ha; (try clear hs)
   intro a w hcut
   obtain ⟨a3,c3,ha,hs⟩:=hcut
   refine wp_seq_cut (M:=fun a w=>∃ (ad3 : Option Addr) (c3 : Nat),Fr a 57 [(3,.slice ad3 (bodyPk p).length c3)]∧St W w (Sl 5 1 ad3 (bodyPk p).length c3 (bc (bodyPk p))::L)) ?_ ?_
   ·
    refine WS<|WR ?_
    refine S1 ha fun a ha=>?_
    refine SL ha (hs.rd1 rfl) fun a ha=>?_
    refine S1 ha fun a ha=>?_
    refine LN<|TN ?_
    refine WI ha (fun hc1=>?_) (fun hc1=>?_)
    ·
     have hk1 : p.kind=1:=hc1
     have hpl : p.press.length≤32:=by have:=hm.2.2.2.2; omega
     have hff : (0≤p.first∧p.first≤1000)∧(0≤p.ack∧p.ack≤1000)∧(0≤p.frame∧p.frame≤1000):=by have:=hm.2.2.2.2; unfold frP at this; omega
     have q1:=putz_len (n:=p.first) (by omega) (by omega)
     have q2:=putz_len (n:=p.ack) (by omega) (by omega)
     have q3:=putz_len (n:=p.frame) (by omega) (by omega)
     have q4:=putz_len (n:=(p.press.length : Int)) (by omega) (by omega)
     have hul:=upN_len hm (show 0≤3 by decide)
     have hal : upN p 0++putL (zz p.first)++putL (zz p.ack)++putL (zz p.frame)++fourL p.sum++putL (zz (p.press.length : Int))++runsL p.press 0=bodyPk p:=by rw [← upN_all hk1]; simp [upN,numsL]
     generalize hu0 : upN p 0=u0 at ha hs hul hal
     refine WS ?_
     refine DW (m:=10) (fun w=>Rd w b1 0 (pkC p ad c)) [3,4,6] [0,1,5,2,6,3,4,7,8,9] Ty.mixed (pk_then (pk_then pk_body)) (fun hpk=>?_)
     replace hs:=hs.drew
     generalize w.drew=w at hs hpk ⊢
     have hC : Rd w b1 0 (pkC p ad c):=hs.rdAll
     iterate 3 (refine DP hpk ha rfl fun a ha=>?_)
     refine DL hpk ha rfl (fun w hc=>hc 4 _ rfl) hC fun a ha=>?_
     refine DL hpk ha rfl (fun w hc=>hc 6 _ rfl) hC fun a ha=>?_
     refine D1 rfl (st_call ha rfl Ty.c43 rfl (refPut_spec hs (by omega) (by omega)) ?_); clear ha hs
     rintro e w ⟨a1,c1,rfl,hs⟩
     refine ⟨_,rfl,?_⟩
     intro a ha
     replace hC : (fun w=>Rd w b1 0 (pkC p ad c)) w:=hs.rdAll
     refine ⟨fun _=>hC,?_⟩
     refine D1 rfl (st_appendT ha rfl hs Tryz.underlying22 Ty.t5 rfl rfl (by decide) (fun h0=>(hs.rdB a1 (putL (zz p.first)) rfl rfl).get h0) (by rw [bc_len,Nat.mul_one]) (bc_one _) (by omega) fun ad28 c28 a w ha hs=>?_)
     replace hC : (fun w=>Rd w b1 0 (pkC p ad c)) w:=hs.rdAll
     refine ⟨fun _=>hC,?_⟩
     rw [← bc_app,← List.length_append] at hs
     rw [← List.length_append] at ha
     refine D1 rfl (st_call ha rfl Ty.c43 rfl (refPut_spec hs (by omega) (by omega)) ?_); clear ha hs
     rintro e w ⟨a2,c2,rfl,hs⟩
     refine ⟨_,rfl,?_⟩
     intro a ha
     refine ⟨fun h=>absurd h (by decide),?_⟩
     have hl1 : (u0++putL (zz p.first)).length≤53:=by rw [List.length_append]; omega
     refine D1 rfl (st_appendT ha rfl hs Tryz.underlying22 Ty.t5 rfl rfl (by decide) (fun h0=>(hs.rdB a2 (putL (zz p.ack)) rfl rfl).get h0) (by rw [bc_len,Nat.mul_one]) (bc_one _) (by omega) fun ad32 c32 a w ha hs=>?_)
     refine ⟨fun h=>absurd h (by decide),?_⟩
     rw [← bc_app,← List.length_append] at hs
     rw [← List.length_append] at ha
     replace ha:=ha.del 3
     refine DP hpk ha rfl fun a ha=>?_
     replace hs:=hs.sub (M:=Sl 5 1 ad32 (u0++putL (zz p.first)++putL (zz p.ack)).length c32 (bc (u0++putL (zz p.first)++putL (zz p.ack)))::blk b1 40 (pkC p ad c)::L)
     have hl2 : (u0++putL (zz p.first)++putL (zz p.ack)).length≤63:=by rw [List.length_append]; omega
     generalize u0++putL (zz p.first)++putL (zz p.ack)=u1 at ha hs hl2 hal
     refine DD<|TN<|WS ?_
     refine DW (m:=10) (fun w=>Rd w b1 0 (pkC p ad c)) [3,4,6] [0,1,5,2,6,3,4,7,8,9] Ty.mixed (pk_then (pk_then pk_body)) (fun hpk=>?_)
     replace hs:=hs.drew
     generalize w.drew=w at hs hpk ⊢
     have hC : Rd w b1 0 (pkC p ad c):=hs.rdAll
     iterate 3 (refine DP hpk ha rfl fun a ha=>?_)
     refine DL hpk ha rfl (fun w hc=>hc 7 _ rfl) hC fun a ha=>?_
     refine DL hpk ha rfl (fun w hc=>hc 8 _ rfl) hC fun a ha=>?_
     refine D1 rfl (st_call ha rfl Ty.c43 rfl (refPut_spec hs (by omega) (by omega)) ?_); clear ha hs
     rintro e w ⟨a1,c1,rfl,hs⟩
     refine ⟨_,rfl,?_⟩
     intro a ha
     replace hC : (fun w=>Rd w b1 0 (pkC p ad c)) w:=hs.rdAll
     refine ⟨fun _=>hC,?_⟩
     refine D1 rfl (st_appendT ha rfl hs Tryz.underlying22 Ty.t5 rfl rfl (by decide) (fun h0=>(hs.rdB a1 (putL (zz p.frame)) rfl rfl).get h0) (by rw [bc_len,Nat.mul_one]) (bc_one _) (by omega) fun ad37 c37 a w ha hs=>?_)
     replace hC : (fun w=>Rd w b1 0 (pkC p ad c)) w:=hs.rdAll
     refine ⟨fun _=>hC,?_⟩
     rw [← bc_app,← List.length_append] at hs
     rw [← List.length_append] at ha
     refine D1 rfl (st_call ha rfl Ty.c44 rfl (refFour_spec hs) ?_); clear ha hs
     rintro e w ⟨a2,rfl,hs⟩
     refine ⟨_,rfl,?_⟩
     intro a ha
     refine ⟨fun h=>absurd h (by decide),?_⟩
     have hl1 : (u1++putL (zz p.frame)).length≤73:=by rw [List.length_append]; omega
     refine D1 rfl (st_appendT ha rfl hs Tryz.underlying22 Ty.t5 rfl rfl (by decide) (fun h0=>(hs.rdB a2 (fourL p.sum) rfl rfl).get h0) (by rw [bc_len]; rfl) (bc_one _) (by rw [fourL_len]; omega) fun ad41 c41 a w ha hs=>?_)
     refine ⟨fun h=>absurd h (by decide),?_⟩
     rw [← bc_app,← List.length_append] at hs
     rw [← List.length_append] at ha
     replace ha:=ha.del 3
     refine DP hpk ha rfl fun a ha=>?_
     replace hs:=hs.sub (M:=Sl 5 1 ad41 (u1++putL (zz p.frame)++fourL p.sum).length c41 (bc (u1++putL (zz p.frame)++fourL p.sum))::blk b1 40 (pkC p ad c)::L)
     have hl2 : (u1++putL (zz p.frame)++fourL p.sum).length≤77:=by rw [List.length_append,fourL_len]; omega
     generalize u1++putL (zz p.frame)++fourL p.sum=u2 at ha hs hl2 hal
     refine DD<|TN ?_
     refine DW (m:=11) (fun w=>Rd w b1 0 (pkC p ad c)) [4,5,7] [0,1,6,2,3,7,4,5,8,9,10] Ty.mixed (pk_then pk_body) (fun hpk=>?_)
     replace hs:=hs.drew
     generalize w.drew=w at hs hpk ⊢
     have hC : Rd w b1 0 (pkC p ad c):=hs.rdAll
     have hrl:=runsL_len p.press 0
     iterate 3 (refine DP hpk ha rfl fun a ha=>?_)
     refine DL hpk ha rfl (fun w hc=>hc 5 _ rfl) hC fun a ha=>?_
     refine DP hpk ha rfl fun a ha=>?_
     refine DL hpk ha rfl (fun w hc=>hc 5 _ rfl) hC fun a ha=>?_
     refine D1 rfl (st_call ha rfl Ty.c43 rfl (refPut_spec hs (by omega) (by omega)) ?_); clear ha hs
     rintro e w ⟨a1,c1,rfl,hs⟩
     refine ⟨_,rfl,?_⟩
     intro a ha
     replace hC : (fun w=>Rd w b1 0 (pkC p ad c)) w:=hs.rdAll
     refine ⟨fun _=>hC,?_⟩
     refine D1 rfl (st_appendT ha rfl hs Tryz.underlying22 Ty.t5 rfl rfl (by decide) (fun h0=>(hs.rdB a1 (putL (zz (p.press.length : Int))) rfl rfl).get h0) (by rw [bc_len,Nat.mul_one]) (bc_one _) (by omega) fun ad47 c47 a w ha hs=>?_)
     replace hC : (fun w=>Rd w b1 0 (pkC p ad c)) w:=hs.rdAll
     refine ⟨fun _=>hC,?_⟩
     rw [← bc_app,← List.length_append] at hs
     rw [← List.length_append] at ha
     refine D1 rfl (st_call ha rfl Ty.c45 rfl (refRuns_spec (bs:=p.press) hs (by omega) (fun w' hw=>hp w' hw.sub)) ?_); clear ha hs
     rintro e w ⟨a2,c2,rfl,hs⟩
     refine ⟨_,rfl,?_⟩
     intro a ha
     refine ⟨fun h=>absurd h (by decide),?_⟩
     have hl1 : (u2++putL (zz (p.press.length : Int))).length≤87:=by rw [List.length_append]; omega
     refine D1 rfl (st_appendT ha rfl hs Tryz.underlying22 Ty.t5 rfl rfl (by decide) (fun h0=>(hs.rdB a2 (runsL p.press 0) rfl rfl).get h0) (by rw [bc_len,Nat.mul_one]) (bc_one _) (by omega) fun ad51 c51 a w ha hs=>?_)
     refine ⟨fun h=>absurd h (by decide),?_⟩
     rw [← bc_app,← List.length_append] at hs
     rw [← List.length_append] at ha
     replace ha:=ha.del 3
     refine DP hpk ha rfl fun a ha=>?_
     rw [hal] at ha hs
     refine DD<|TN ?_
     exact ⟨_,_,ha.keep [3],hs.sub⟩
    ·
     rw [upN_quit (by omega)] at ha hs
     refine WK<|TN ?_
     exact ⟨_,_,ha.keep [3],hs.sub⟩
   ·
    clear ha; (try clear hs)
    intro a w hcut
    obtain ⟨ad3,c3,ha,hs⟩:=hcut
    refine WS<|WR ?_
    iterate 2 (refine S1 ha fun a ha=>?_)
    refine SK (st_call ha rfl Ty.c46 rfl (refSum_spec hs (by omega) (fun w' hw=>hw.rdB ad3 _ rfl rfl)) ?_); clear ha hs
    rintro e w ⟨rfl,hs⟩
    refine ⟨_,rfl,?_⟩
    intro a ha
    refine SK (st_call ha rfl Ty.c44 rfl (refFour_spec hs) ?_); clear ha hs
    rintro e w ⟨ad8,rfl,hs⟩
    refine ⟨_,rfl,?_⟩
    intro a ha
    refine SK (st_appendT ha rfl hs Tryz.underlying22 Ty.t5 rfl rfl (by decide) (fun h0=>(hs.rdB ad8 (fourL (crcSum (bodyPk p))) rfl rfl).get h0) (by rw [bc_len]; rfl) (bc_one _) (by rw [fourL_len]; omega) fun ad56 c56 a w ha hs=>?_)
    refine S1 ha fun a ha=>?_
    refine LN<|TN<|wp_ret ?_
    refine ret1 ha rfl ?_
    rw [he]
    rw [← bc_app,← List.length_append] at hs
    rw [← List.length_append]
    exact ⟨_,_,rfl,hs.sub⟩
end
end Go.Proofs.YtagpkhbkdbaigaaGreat
