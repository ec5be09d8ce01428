/- A game's cells as bytes, and their sum: state.Encode, Sum; quintainref1.Bytes, SumOf. -/
import Derived.Test.YtagpkhbkdbaigaaGreatPkt4
namespace Go.Proofs.YtagpkhbkdbaigaaGreat
open Go.RowKit
set_option linter.unusedVariables false
set_option linter.unusedSimpArgs false
set_option maxRecDepth 10000
set_option synthInstance.maxSize 4000
set_option synthInstance.maxHeartbeats 400000
section
variable {W w : World} {L L' R : List SP} {n c m : Nat} {ad : Option Addr} {g : Nat→Int}
theorem state_encode (hs : St W w L) : Calls Tryz.prog 47 #[.agg (ints .i32 32 g).toArray] w fun e w'=>∃ ad c,e=.returned (.slice ad 128 c)∧St W w' (Sl 5 1 ad 128 c (bc (gameB g))::L):=by
 refine calls_enter Tryz.func47 rfl Tryz.ntmps47 (Nat.le_of_ble_eq_true rfl) ?_
 intro a ha
 replace ha : Fr a 16 [(0,_)]:=ha
 refine WS<|WR ?_
 refine SK (st_box ha rfl hs rfl fun b1 a w ha hs ho=>?_)
 clear ho
 refine S1 ha fun a ha=>?_
 refine LN<|TN<|WS<|WR ?_
 refine S1 ha fun a ha=>?_
 refine LN<|TN<|WS<|WS<|WR ?_
 refine SK (st_set ha rfl (ex_loadN ha Tryz.underlying83 rfl Ty.t83 (hs.rdAll)) rfl fun a ha=>?_)
 refine S1 ha fun a ha=>?_
 refine LN<|TN<|wp_block ?_
 refine wp_loop_ghost (fun μ a w=>∃ (i : Nat) (ad : Option Addr) (c : Nat),(μ=32 - i∧i≤32)∧Fr a 16 [(3,.slice ad (gameBn g i).length c),(6,.agg (ints .i32 32 g).toArray),(7,.int .i64 i)]∧St W w (Sl 5 1 ad (gameBn g i).length c (bc (gameBn g i))::L)) (32) ?_ ?_
 · exact ⟨0,none,0,⟨rfl,by omega⟩,ha.keep [3,6,7],hs.tail.sl0 5 1 none⟩
 ·
  clear ha hs
  rintro μ a w ⟨i,ad,c,⟨rfl,hi⟩,ha,hs⟩
  refine WS<|WR ?_
  refine S1 ha fun a ha=>?_
  refine LN<|TN<|WS ?_
  refine WI ha (fun hc0=>?_) (fun hc0=>?_)
  ·
   have hi32 : i < 32:=by omega
   have hgl:=gameBn_len g i
   refine WK<|TN<|WS<|wp_block<|WS<|WR ?_
   refine SK (st_set ha rfl (ex_index1 ha Tryz.underlying83 Tryz.underlying21 rfl Ty.t21 (by omega) (ints_get g hi32)) rfl fun a ha=>?_)
   refine S1 ha fun a ha=>?_
   refine LN<|TN<|WR ?_
   iterate 2 (refine S1 ha fun a ha=>?_)
   refine SK (st_call ha rfl Ty.c94 rfl (word_put hs) ?_); clear ha hs
   rintro e w ⟨ad2,rfl,hs⟩
   refine ⟨_,rfl,?_⟩
   intro a ha
   refine SK (st_appendT ha rfl hs Tryz.underlying22 Ty.t5 rfl rfl (by decide) (fun h0=>(hs.rdB ad2 (fourL (unI (g i))) rfl rfl).get h0) (by rw [bc_len]; rfl) (bc_one _) (by rw [fourL_len]; omega) fun ad13 c13 a w ha hs=>?_)
   rw [← bc_app,← gameBn_succ] at hs
   rw [show (gameBn g i).length+(fourL (unI (g i))).length=(gameBn g (i+1)).length from by rw [gameBn_len,gameBn_len,fourL_len]; omega] at ha hs
   refine S1d ha fun a ha=>?_
   refine LN<|BN<|TN<|WR ?_
   refine SK (st_set ha rfl (ex_addI ha (by omega) (by omega)) rfl fun a ha=>?_)
   refine S1d ha fun a ha=>?_
   refine LN<|TN ?_
   exact ⟨32 - (i+1),by omega,i+1,_,_,⟨rfl,by omega⟩,ha.keep [3,6,7],hs.sub⟩
  ·
   obtain rfl : i=32:=by omega
   rw [show (gameBn g 32).length=128 from gameBn_len g 32] at ha hs
   refine wp_exit<|TE<|TE<|blk_e<|TN<|WS<|WR ?_
   iterate 2 (refine S1 ha fun a ha=>?_)
   refine LN<|TN<|wp_ret ?_
   refine ret1 ha rfl ?_
   exact ⟨_,_,rfl,hs⟩
theorem state_sum (hs : St W w L) : Calls Tryz.prog 87 #[.agg (ints .i32 32 g).toArray] w fun e w'=>e=.returned (.int .u32 (crcSum (gameB g)))∧St W w' L:=by
 refine calls_enter Tryz.func87 rfl Tryz.ntmps87 (Nat.le_of_ble_eq_true rfl) ?_
 intro a ha
 replace ha : Fr a 6 [(0,_)]:=ha
 refine WS<|WR ?_
 refine SK (st_box ha rfl hs rfl fun b1 a w ha hs ho=>?_)
 clear ho
 refine S1 ha fun a ha=>?_
 refine LN<|TN<|WS<|WR ?_
 refine SK (st_set ha rfl (ex_loadN ha Tryz.underlying83 rfl Ty.t83 (hs.rdAll)) rfl fun a ha=>?_)
 refine SK (st_call ha rfl Ty.c47 rfl (state_encode hs) ?_); clear ha hs
 rintro e w ⟨ad,c,rfl,hs⟩
 refine ⟨_,rfl,?_⟩
 intro a ha
 rw [show 128=(gameB g).length from (gameB_len g).symm] at ha hs
 refine SK (st_call ha rfl Ty.c127 rfl (crc_sum hs (by rw [gameB_len]; decide) (fun w' hw=>hw.rdB ad (gameB g) rfl rfl)) ?_); clear ha hs
 rintro e w ⟨rfl,hs⟩
 refine ⟨_,rfl,?_⟩
 intro a ha
 refine S1d ha fun a ha=>?_
 refine LN<|TN<|wp_ret ?_
 refine ret1 ha rfl ?_
 exact ⟨rfl,hs.sub⟩
theorem refBytes_spec (hs : St W w L) : Calls Tryz.prog 18 #[.agg (ints .i32 32 g).toArray] w fun e w'=>∃ ad c,e=.returned (.slice ad 128 c)∧St W w' (Sl 5 1 ad 128 c (bc (gameB g))::L):=by
 refine calls_enter Tryz.func18 rfl Tryz.ntmps18 (Nat.le_of_ble_eq_true rfl) ?_
 intro a ha
 replace ha : Fr a 17 [(0,_)]:=ha
 refine WS<|WR ?_
 refine SK (st_box ha rfl hs rfl fun b1 a w ha hs ho=>?_)
 clear ho
 refine S1 ha fun a ha=>?_
 refine LN<|TN<|WS<|WR ?_
 refine S1 ha fun a ha=>?_
 refine LN<|TN<|WS<|WS<|WR ?_
 refine S1 ha fun a ha=>?_
 refine LN<|TN<|wp_block ?_
 refine wp_loop_ghost (fun μ a w=>∃ (i : Nat) (ad : Option Addr) (c : Nat),(μ=32 - i∧i≤32)∧Fr a 17 [(1,.pointer (some ⟨b1,0,none⟩)),(3,.slice ad (gameBn g i).length c),(4,.int .i64 i)]∧St W w (Sl 5 1 ad (gameBn g i).length c (bc (gameBn g i))::blk b1 46 (ints .i32 32 g)::L)) (32) ?_ ?_
 · exact ⟨0,none,0,⟨rfl,by omega⟩,ha.keep [1,3,4],hs.sl0 5 1 none⟩
 ·
  clear ha hs
  rintro μ a w ⟨i,ad,c,⟨rfl,hi⟩,ha,hs⟩
  refine WS<|WS<|WR ?_
  iterate 2 (refine S1 ha fun a ha=>?_)
  refine LN<|TN ?_
  refine WI ha (fun hc0=>?_) (fun hc0=>?_)
  ·
   have hi32 : i < 32:=by omega
   have hgl:=gameBn_len g i
   refine WK<|TN<|WS<|wp_block<|WR ?_
   iterate 2 (refine S1 ha fun a ha=>?_)
   refine SK (st_set ha rfl (ex_indexAddrA ha Tryz.underlying46 Ty.t21 (by omega)) rfl fun a ha=>?_)
   rw [Nat.mul_one] at ha
   refine SL ha ((hs.rdAll (b:=b1)) i _ (ints_get g hi32)) fun a ha=>?_
   refine SK (st_set ha rfl (ex_convII ha Tryz.underlying21 Tryz.underlying38) rfl fun a ha=>?_)
   rw [wrap_un] at ha
   refine SK (st_call ha rfl Ty.c44 rfl (refFour_spec hs) ?_); clear ha hs
   rintro e w ⟨ad2,rfl,hs⟩
   refine ⟨_,rfl,?_⟩
   intro a ha
   refine SK (st_appendT ha rfl hs Tryz.underlying22 Ty.t5 rfl rfl (by decide) (fun h0=>(hs.rdB ad2 (fourL (unI (g i))) rfl rfl).get h0) (by rw [bc_len]; rfl) (bc_one _) (by rw [fourL_len]; omega) fun ad15 c15 a w ha hs=>?_)
   rw [← bc_app,← gameBn_succ] at hs
   rw [show (gameBn g i).length+(fourL (unI (g i))).length=(gameBn g (i+1)).length from by rw [gameBn_len,gameBn_len,fourL_len]; omega] at ha hs
   refine S1d ha fun a ha=>?_
   refine LN<|BN<|TN<|WR ?_
   refine S1 ha fun a ha=>?_
   refine SK (st_set ha rfl (ex_addI ha (by omega) (by omega)) rfl fun a ha=>?_)
   refine S1d ha fun a ha=>?_
   refine LN<|TN ?_
   exact ⟨32 - (i+1),by omega,i+1,_,_,⟨rfl,by omega⟩,ha.keep [1,3,4],hs.sub⟩
  ·
   obtain rfl : i=32:=by omega
   rw [show (gameBn g 32).length=128 from gameBn_len g 32] at ha hs
   refine wp_exit<|TE<|TE<|blk_e<|TN<|WS<|WR ?_
   iterate 2 (refine S1 ha fun a ha=>?_)
   refine LN<|TN<|wp_ret ?_
   refine ret1 ha rfl ?_
   exact ⟨_,_,rfl,(hs.perm (List.Perm.swap _ _ _)).tail⟩
theorem refSumOf_spec (hs : St W w L) : Calls Tryz.prog 113 #[.agg (ints .i32 32 g).toArray] w fun e w'=>e=.returned (.int .u32 (crcSum (gameB g)))∧St W w' L:=by
 refine calls_enter Tryz.func113 rfl Tryz.ntmps113 (Nat.le_of_ble_eq_true rfl) ?_
 intro a ha
 replace ha : Fr a 6 [(0,_)]:=ha
 refine WS<|WR ?_
 refine SK (st_box ha rfl hs rfl fun b1 a w ha hs ho=>?_)
 clear ho
 refine S1 ha fun a ha=>?_
 refine LN<|TN<|WS<|WR ?_
 refine SK (st_set ha rfl (ex_loadN ha Tryz.underlying46 rfl Ty.t46 (hs.rdAll)) rfl fun a ha=>?_)
 refine SK (st_call ha rfl Ty.c18 rfl (refBytes_spec hs) ?_); clear ha hs
 rintro e w ⟨ad,c,rfl,hs⟩
 refine ⟨_,rfl,?_⟩
 intro a ha
 rw [show 128=(gameB g).length from (gameB_len g).symm] at ha hs
 refine SK (st_call ha rfl Ty.c46 rfl (refSum_spec hs (by rw [gameB_len]; decide) (fun w' hw=>hw.rdB ad (gameB g) rfl rfl)) ?_); clear ha hs
 rintro e w ⟨rfl,hs⟩
 refine ⟨_,rfl,?_⟩
 intro a ha
 refine S1d ha fun a ha=>?_
 refine LN<|TN<|wp_ret ?_
 refine ret1 ha rfl ?_
 exact ⟨rfl,hs.sub⟩
end
end Go.Proofs.YtagpkhbkdbaigaaGreat
