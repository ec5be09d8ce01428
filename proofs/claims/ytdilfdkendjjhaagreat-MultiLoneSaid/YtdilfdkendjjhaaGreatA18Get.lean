/- Numbers out of bytes: num.Get, quintainref1.Get; quintainref1.Put. -/
import Derived.Test.YtdilfdkendjjhaaGreatA17Byt
namespace Go.Proofs.YtdilfdkendjjhaaGreat
open Go.RowKit
set_option linter.unusedVariables false
set_option linter.unusedSimpArgs false
set_option maxRecDepth 10000
set_option synthInstance.maxSize 4000
set_option synthInstance.maxHeartbeats 400000
section
theorem and_u8 {x:Nat}(h:x<256):IntKind.u8.wrap ((BitVec.ofInt IntKind.u8.bits (x:Int) &&& BitVec.ofInt IntKind.u8.bits 127).toNat)=((x%128:Nat):Int):=by
 have:∀ y:Fin 256,IntKind.u8.wrap ((BitVec.ofInt IntKind.u8.bits ((y.val:Nat):Int) &&& BitVec.ofInt IntKind.u8.bits 127).toNat)=((y.val%128:Nat):Int):=by decide +kernel
 exact this ⟨x,h⟩
theorem pow7 (i:Nat):(2:Nat) ^ (7*i)=128 ^ i:=by rw[Nat.pow_mul]
theorem or_add {u d i:Nat}(hu:u<128 ^ i):u ||| d*128 ^ i=u+d*128 ^ i:=by
 rw[← pow7]at hu ⊢
 rw[Nat.mul_comm,Nat.add_comm,Nat.two_pow_add_eq_or_of_lt hu,Nat.or_comm]
theorem p128 {i:Nat}(hi:i≤9):128 ^ i≤9223372036854775808∧(i≤8→128 ^ i≤72057594037927936):=by
 have h9:(128:Nat) ^ 9=9223372036854775808:=by decide
 have h8:(128:Nat) ^ 8=72057594037927936:=by decide
 refine⟨h9 ▸ Nat.pow_le_pow_right (by decide) hi,λh=>h8 ▸ Nat.pow_le_pow_right (by decide) h⟩
theorem dig_lt {i d:Nat}(hi:i≤9)(h:i=9→d≤1)(hd:d≤127):d*128 ^ i≤9223372036854775808∧(i≤8→d*128 ^ i+128 ^ i≤128 ^ (i+1)):=by
 obtain⟨h1,h2⟩:=p128 hi
 have hm:d*128 ^ i≤127*128 ^ i:=Nat.mul_le_mul_right _ hd
 refine⟨?_,λh8=>by rw[pow_mul128];omega⟩
 rcases Nat.lt_or_ge i 9 with h9 | h9
 · have:=h2 (by omega);omega
 · have:i=9:=by omega
   have hd1:=h this
   have:d*128 ^ i≤1*128 ^ i:=Nat.mul_le_mul_right _ hd1
   omega
theorem getL_step {bs:List UInt8}{i:Nat}(h:i<bs.length)(u:Nat):getL (bs.drop i) i u=if i=9∧1<bs[i].toNat then none
   else if 127<bs[i].toNat then getL (bs.drop (i+1)) (i+1) (u+bs[i].toNat%128*128 ^ i)
   else if 0<i∧bs[i].toNat=0 then none
   else some (u+bs[i].toNat*128 ^ i,i+1):=by
 rw[List.drop_eq_getElem_cons h,getL]
theorem and_one64 {x:Nat}(h:x<18446744073709551616):IntKind.u64.wrap (((BitVec.ofInt IntKind.u64.bits (x:Int) &&& BitVec.ofInt IntKind.u64.bits 1).toNat:Nat):Int)=((x%2:Nat):Int):=by
 have h1:=and_u64 (y:=1) h (by decide)
 rw[Nat.and_one_is_mod]at h1;exact h1
theorem com_i64 {x:Int}(h1:-9223372036854775808≤x)(h2:x≤9223372036854775807):IntKind.i64.wrap (((BitVec.ofInt IntKind.i64.bits (if IntKind.i64.signed then -1 else IntKind.i64.max) ^^^ BitVec.ofInt IntKind.i64.bits x).toNat:Nat):Int) = -x-1:=by
 have e:BitVec.ofInt IntKind.i64.bits (if IntKind.i64.signed then -1 else IntKind.i64.max)=BitVec.allOnes 64:=by
   show BitVec.ofInt 64 (-1)=_
   decide
 rw[e]
 show IntKind.i64.wrap (((BitVec.allOnes 64 ^^^ BitVec.ofInt 64 x).toNat:Nat):Int)=_
 rw[BitVec.allOnes_xor,BitVec.toNat_not,BitVec.toNat_ofInt]
 simp only[IntKind.wrap,IntKind.signed,IntKind.bits]
 simp
 omega
section
variable {W w:World}{L:List SP}{c:Nat}{ad:Option Addr}{bs:List UInt8}
theorem num_get (hs:St W w L)(hb:bs.length≤1099511627776)(hp:∀ w',St W w' L→RdB w' ad bs.length bs) :
   Calls Tryz.prog 275 #[.slice ad bs.length c] w λe w'=>∃ (x:Int) (k:Nat) (er:Int),e=.returned (.tuple #[.int .i64 x,.int .i64 k,.int .i64 er])∧GetR bs x k er∧St W w' L:=by
 refine EN Tryz.func275 Tryz.ntmps275 rfl rfl λa ha=>?_
 refine RN 11 ha hs λa ha=>?_
 refine wp_loop_ghost (λμ a w=>∃ (i u:Nat),(μ=bs.length-i∧i≤bs.length∧i≤9∧u<128 ^ i∧getL (bs.drop i) i u=getF bs)∧Fr a 50 [(5,.int .u64 u),(9,.slice ad bs.length c),(10,.int .i64 bs.length),(11,.int .i64 i)]∧St W w L) (bs.length) (⟨0,0,⟨rfl,by omega,by omega,by decide,rfl⟩,ha.keep [5,9,10,11],hs⟩) ?_
 clear ha hs
 rintro μ a w ⟨i,u,⟨rfl,hi,hi9,hu,hg⟩,ha,hs⟩
 refine IF 3 ha hs (λhc0 a ha=>?_) λhc0 a ha=>?_
 ·
  obtain⟨bb,oo,rfl,hr⟩:=(hp _ hs).get (by omega)
  have hil:i<bs.length:=by omega
  have hb8:=u8_lt bs[i]
  rw[getL_step hil]at hg
  obtain⟨hp1,hp2⟩:=p128 hi9
  refine RN 4 ha hs λa ha=>?_
  refine SS ha (ld1 ha (hr i _ (bc_at hil))) λa ha=>?_
  refine RN 3 ha hs λa ha=>?_
  refine wp_seq_cut (M:=λa w=>∃ z:Bool,(z=true↔(i=9∧1<bs[i].toNat))∧Fr a 50 [(5,.int .u64 u),(6,.int .i64 i),(7,.int .u8 (bs[i].toNat:Int)),(9,.slice (some ⟨bb,oo,none⟩) bs.length c),(10,.int .i64 bs.length),(11,.int .i64 i),(21,.bool z)]∧St W w L) ?_ ?_
  ·
   refine BY 3 ha hs (λhg2 a ha=>?_) λhg2 a ha=>?_
   ·
    refine RN 3 ha hs λa ha=>?_
    exact⟨_,by rw[decide_eq_true_iff];omega,ha.keep [5,6,7,9,10,11,21],hs⟩
   refine RN 3 ha hs λa ha=>?_
   exact⟨_,by simp;omega,ha.keep [5,6,7,9,10,11,21],hs⟩
  clear ha;(try clear hs)
  rintro a w ⟨z,hz,ha,hs⟩
  refine IF 0 ha hs (λhc1 a ha=>?_) λhc1 a ha=>?_
  ·
   rw[if_pos (hz.1 hc1)]at hg
   refine RT 4 ha hs ?_
   exact⟨_,_,_,rfl,GetR.bad hg.symm (by omega),hs⟩
  have hz0:¬ (i=9∧1<bs[i].toNat):=λh=>absurd (hz.2 h) (by simp[hc1])
  rw[if_neg hz0]at hg
  obtain⟨hd1,hd2⟩:=dig_lt (d:=bs[i].toNat%128) hi9 (by omega) (by omega)
  refine RN 4 ha hs λa ha=>?_
  rw[and_u8 hb8]at ha
  refine SX 0 ha hs (by rw[wrap_u64];omega) λa ha=>?_
  refine RN 2 ha hs λa ha=>?_
  rw[show (7:Int)*(i:Int)=((7*i:Nat):Int) from by omega]at ha
  refine SS ha (ex_shl ha (jn:=7*i) (by show 7*i≤64;omega)) λa ha=>?_
  rw[show ((bs[i].toNat%128:Nat):Int)*2 ^ (7*i)=((bs[i].toNat%128*128 ^ i:Nat):Int) from by rw[Int.natCast_mul,← pow7];simp,show IntKind.u64.wrap ((bs[i].toNat%128*128 ^ i:Nat):Int)=((bs[i].toNat%128*128 ^ i:Nat):Int) from by rw[wrap_u64];omega]at ha
  refine RN 1 ha hs λa ha=>?_
  rw[or_u64 (by omega) (by omega),or_add hu]at ha
  refine IF 5 ha hs (λhc2 a ha=>?_) λhc2 a ha=>?_
  ·
   rw[if_pos (by omega)]at hg
   refine RN 2 ha hs λa ha=>?_
   exact⟨bs.length-(i+1),by omega,i+1,_,⟨rfl,by omega,by omega,by have:=hd2 (by omega);omega,hg⟩,ha.keep [5,9,10,11],hs⟩
  rw[if_neg (by omega)]at hg
  rw[Nat.mod_eq_of_lt (show bs[i].toNat<128 from by omega)]at ha hd1 hd2
  refine RN 1 ha hs λa ha=>?_
  refine wp_seq_cut (M:=λa w=>∃ z:Bool,(z=true↔(0<i∧bs[i].toNat=0))∧Fr a 50 [(5,.int .u64 ((u+bs[i].toNat*128 ^ i:Nat):Int)),(6,.int .i64 i),(37,.bool z)]∧St W w L) ?_ ?_
  ·
   refine BY 3 ha hs (λhg2 a ha=>?_) λhg2 a ha=>?_
   ·
    refine RN 3 ha hs λa ha=>?_
    exact⟨_,by rw[decide_eq_true_iff];omega,ha.keep [5,6,37],hs⟩
   refine RN 3 ha hs λa ha=>?_
   exact⟨_,by simp;omega,ha.keep [5,6,37],hs⟩
  clear ha;(try clear hs)
  rintro a w ⟨z,hz,ha,hs⟩
  refine IF 0 ha hs (λhc3 a ha=>?_) λhc3 a ha=>?_
  ·
   rw[if_pos (hz.1 hc3)]at hg
   refine RT 4 ha hs ?_
   exact⟨_,_,_,rfl,GetR.bad hg.symm (by omega),hs⟩
  rw[if_neg (λh=>absurd (hz.2 h) (by simp[hc3]))]at hg
  generalize u+bs[i].toNat*128 ^ i=v at ha hg
  have hv:=(getF_bd hg.symm).1
  refine RN 3 ha hs λa ha=>?_
  rw[show ((v:Nat):Int).fdiv (2 ^ 1)=((v/2:Nat):Int) from fdivN _ 2]at ha
  refine SS ha (ex_convII ha Tryz.underlying224 Tryz.underlying2) λa ha=>?_
  rw[show IntKind.i64.wrap ((v/2:Nat):Int)=((v/2:Nat):Int) from wrap_in (by omega) (by omega)]at ha
  refine RN 1 ha hs λa ha=>?_
  refine wp_seq_cut (M:=λa w=>Fr a 50 [(6,.int .i64 i),(8,.int .i64 (unzz v))]∧St W w L) ?_ ?_
  ·
   refine RN 3 ha hs λa ha=>?_
   rw[and_one64 hv]at ha
   refine IF 1 ha hs (λhc4 a ha=>?_) λhc4 a ha=>?_
   ·
    refine RN 2 ha hs λa ha=>?_
    rw[com_i64 (by omega) (by omega)]at ha
    refine RN 1 ha hs λa ha=>?_
    rw[show -((v/2:Nat):Int)-1=unzz v from by rw[unzz,if_pos (by omega)]]at ha
    exact⟨ha.keep [6,8],hs⟩
   refine RN 0 ha hs λa ha=>?_
   rw[show ((v/2:Nat):Int)=unzz v from by rw[unzz,if_neg (by omega)]]at ha
   exact⟨ha.keep [6,8],hs⟩
  clear ha;(try clear hs)
  rintro a w ⟨ha,hs⟩
  refine RT 7 ha hs ?_
  exact⟨_,_,_,rfl,GetR.good hg.symm,hs⟩
 rw[List.drop_eq_nil_of_le (by omega),getL]at hg
 refine RT 4 ha hs ?_
 exact⟨_,_,_,rfl,GetR.bad hg.symm (by omega),hs⟩
theorem refGet_spec (hs:St W w L)(hb:bs.length≤1099511627776)(hp:∀ w',St W w' L→RdB w' ad bs.length bs) :
   Calls Tryz.prog 212 #[.slice ad bs.length c] w λe w'=>∃ (x:Int) (k:Nat) (er:Int),e=.returned (.tuple #[.int .i64 x,.int .i64 k,.int .i64 er])∧GetR bs x k er∧St W w' L:=by
 refine EN Tryz.func212 Tryz.ntmps212 rfl rfl λa ha=>?_
 refine RN 11 ha hs λa ha=>?_
 refine wp_loop_ghost (λμ a w=>∃ (i u:Nat),(μ=bs.length-i∧i≤bs.length∧i≤9∧u<128 ^ i∧getL (bs.drop i) i u=getF bs)∧Fr a 64 [(0,.slice ad bs.length c),(5,.int .u64 u),(6,.int .u64 ((128 ^ i:Nat):Int)),(7,.int .i64 i)]∧St W w L) (bs.length) (⟨0,0,⟨rfl,by omega,by omega,by decide,rfl⟩,ha.keep [0,5,6,7],hs⟩) ?_
 clear ha hs
 rintro μ a w ⟨i,u,⟨rfl,hi,hi9,hu,hg⟩,ha,hs⟩
 refine IF 6 ha hs (λhc0 a ha=>?_) λhc0 a ha=>?_
 ·
  obtain⟨bb,oo,rfl,hr⟩:=(hp _ hs).get (by omega)
  have hil:i<bs.length:=by omega
  have hb8:=u8_lt bs[i]
  rw[getL_step hil]at hg
  obtain⟨hp1,hp2⟩:=p128 hi9
  refine RN 2 ha hs λa ha=>?_
  refine wp_seq_cut (M:=λa w=>∃ z:Bool,(z=true↔(i=9∧1<bs[i].toNat)∨(0<i∧bs[i].toNat=0))∧Fr a 64 [(0,.slice (some ⟨bb,oo,none⟩) bs.length c),(5,.int .u64 u),(6,.int .u64 ((128 ^ i:Nat):Int)),(7,.int .i64 i),(34,.bool z)]∧St W w L) ?_ ?_
  ·
   refine BY 3 ha hs (λhg2 a ha=>?_) λhg2 a ha=>?_
   ·
    refine RN 3 ha hs λa ha=>?_
    refine st_set ha (wgT ha rfl (s:=17)) (ld1 ha (hr i _ (bc_at hil))) rfl λa ha=>?_
    refine BY 3 ha hs (λhg9 a ha=>?_) λhg9 a ha=>?_
    ·
     refine RN 10 ha hs λa ha=>?_
     refine⟨_,?_,ha.keep [0,5,6,7,34],hs⟩
     (try simp only[decide_eq_true_iff]);(try simp only[Bool.false_eq_true,true_iff,false_iff]);omega
    refine BY 3 ha hs (λhg12 a ha=>?_) λhg12 a ha=>?_
    ·
     refine RN 3 ha hs λa ha=>?_
     refine st_set ha (wgT ha rfl (s:=27)) (ld1 ha (hr i _ (bc_at hil))) rfl λa ha=>?_
     refine RN 3 ha hs λa ha=>?_
     refine⟨_,?_,ha.keep [0,5,6,7,34],hs⟩
     (try simp only[decide_eq_true_iff]);(try simp only[Bool.false_eq_true,true_iff,false_iff]);omega
    refine RN 7 ha hs λa ha=>?_
    refine⟨_,?_,ha.keep [0,5,6,7,34],hs⟩
    (try simp only[decide_eq_true_iff]);(try simp only[Bool.false_eq_true,true_iff,false_iff]);omega
   refine BY 10 ha hs (λhg12 a ha=>?_) λhg12 a ha=>?_
   ·
    refine RN 3 ha hs λa ha=>?_
    refine st_set ha (wgT ha rfl (s:=27)) (ld1 ha (hr i _ (bc_at hil))) rfl λa ha=>?_
    refine RN 3 ha hs λa ha=>?_
    refine⟨_,?_,ha.keep [0,5,6,7,34],hs⟩
    (try simp only[decide_eq_true_iff]);(try simp only[Bool.false_eq_true,true_iff,false_iff]);omega
   refine RN 7 ha hs λa ha=>?_
   refine⟨_,?_,ha.keep [0,5,6,7,34],hs⟩
   (try simp only[decide_eq_true_iff]);(try simp only[Bool.false_eq_true,true_iff,false_iff]);omega
  clear ha;(try clear hs)
  rintro a w ⟨z,hz,ha,hs⟩
  refine IF 0 ha hs (λhc1 a ha=>?_) λhc1 a ha=>?_
  ·
   have hz1:=hz.1 hc1
   have hgn:getF bs=none:=by
     rw[← hg]
     by_cases h9:i=9∧1<bs[i].toNat
     · rw[if_pos h9]
     · rw[if_neg h9,if_neg (by omega),if_pos (by omega)]
   refine RT 4 ha hs ?_
   exact⟨_,_,_,rfl,GetR.bad hgn (by omega),hs⟩
  have hz0:¬ ((i=9∧1<bs[i].toNat)∨(0<i∧bs[i].toNat=0)):=λh=>absurd (hz.2 h) (by simp[hc1])
  have hr:=(hp _ hs).rd (by omega)
  obtain⟨hd1,hd2⟩:=dig_lt (d:=bs[i].toNat%128) hi9 (by omega) (by omega)
  refine RN 5 ha hs λa ha=>?_
  refine SS ha (ld1 ha (hr i _ (bc_at hil))) λa ha=>?_
  refine SX 0 ha hs (by decide) λa ha=>?_
  rw[show ((bs[i].toNat:Nat):Int).tmod 128=((bs[i].toNat%128:Nat):Int) from remN _ 128]at ha
  refine SX 0 ha hs (by rw[wrap_u64];omega) λa ha=>?_
  refine RN 2 ha hs λa ha=>?_
  rw[show ((bs[i].toNat%128:Nat):Int)*((128 ^ i:Nat):Int)=((bs[i].toNat%128*128 ^ i:Nat):Int) from (Int.natCast_mul ..).symm,show IntKind.u64.wrap ((bs[i].toNat%128*128 ^ i:Nat):Int)=((bs[i].toNat%128*128 ^ i:Nat):Int) from by rw[wrap_u64];omega]at ha
  refine RN 1 ha hs λa ha=>?_
  rw[show IntKind.u64.wrap ((u:Int)+((bs[i].toNat%128*128 ^ i:Nat):Int))=((u+bs[i].toNat%128*128 ^ i:Nat):Int) from by rw[wrap_u64];omega]at ha
  refine RN 9 ha hs λa ha=>?_
  refine SS ha (ld1 ha (hr i _ (bc_at hil))) λa ha=>?_
  refine IF 1 ha hs (λhc2 a ha=>?_) λhc2 a ha=>?_
  ·
   rw[if_neg (by omega),if_neg (by omega),if_neg (by omega)]at hg
   rw[Nat.mod_eq_of_lt (show bs[i].toNat<128 from by omega)]at ha hd1 hd2
   generalize u+bs[i].toNat*128 ^ i=v at ha hg
   have hv:=(getF_bd hg.symm).1
   refine RN 2 ha hs λa ha=>?_
   refine SS ha (ex_quo ha (by decide) (by rw[show ((v:Nat):Int).tdiv 2=((v/2:Nat):Int) from quoN _ 2,wrap_u64];omega)) λa ha=>?_
   rw[show ((v:Nat):Int).tdiv 2=((v/2:Nat):Int) from quoN _ 2]at ha
   refine RN 0 ha hs λa ha=>?_
   refine SS ha (ex_convII ha Tryz.underlying224 Tryz.underlying2) λa ha=>?_
   rw[show IntKind.i64.wrap ((v/2:Nat):Int)=((v/2:Nat):Int) from wrap_in (by omega) (by omega)]at ha
   refine RN 1 ha hs λa ha=>?_
   refine wp_seq_cut (M:=λa w=>Fr a 64 [(7,.int .i64 i),(8,.int .i64 (unzz v))]∧St W w L) ?_ ?_
   ·
    refine SX 2 ha hs (by decide) λa ha=>?_
    rw[show ((v:Nat):Int).tmod 2=((v%2:Nat):Int) from remN _ 2]at ha
    refine IF 1 ha hs (λhc3 a ha=>?_) λhc3 a ha=>?_
    ·
     refine RN 2 ha hs λa ha=>?_
     rw[show IntKind.i64.wrap (0-((v/2:Nat):Int)) = -((v/2:Nat):Int) from by rw[wrap_in (by omega) (by omega)];omega]at ha
     refine RN 2 ha hs λa ha=>?_
     rw[show -((v/2:Nat):Int)-1=unzz v from by rw[unzz,if_pos (by omega)]]at ha
     exact⟨ha.keep [7,8],hs⟩
    refine RN 0 ha hs λa ha=>?_
    rw[show ((v/2:Nat):Int)=unzz v from by rw[unzz,if_neg (by omega)]]at ha
    exact⟨ha.keep [7,8],hs⟩
   clear ha;(try clear hs)
   rintro a w ⟨ha,hs⟩
   refine RT 7 ha hs ?_
   exact⟨_,_,_,rfl,GetR.good hg.symm,hs⟩
  rw[if_neg (by omega),if_pos (by omega)]at hg
  have hi8:i≤8:=by omega
  rw[show IntKind.u64.wrap (((128 ^ i:Nat):Int)*128)=((128 ^ (i+1):Nat):Int) from by rw[wrap_u64,pow_mul128];have:=hp2 hi8;omega]at ha
  refine RN 3 ha hs λa ha=>?_
  exact⟨bs.length-(i+1),by omega,i+1,_,⟨rfl,by omega,by omega,by have:=hd2 (by omega);omega,hg⟩,ha.keep [0,5,6,7],hs⟩
 rw[List.drop_eq_nil_of_le (by omega),getL]at hg
 refine RT 4 ha hs ?_
 exact⟨_,_,_,rfl,GetR.bad hg.symm (by omega),hs⟩
theorem refPut_spec {N:Int}(hs:St W w L)(h1:-9223372036854775808≤N)(h2:N≤9223372036854775807) :
   Calls Tryz.prog 77 #[.int .i64 N] w λe w'=>∃ ad' c',e=.returned (.slice ad' (putL (zz N)).length c')∧St W w' (Sl 5 1 ad' (putL (zz N)).length c' (bc (putL (zz N)))::L):=by
 refine EN Tryz.func77 Tryz.ntmps77 rfl rfl λa ha=>?_
 refine RN 4 ha hs λa ha=>?_
 refine SS ha (ex_convII ha Tryz.underlying2 Tryz.underlying224) λa ha=>?_
 refine RN 1 ha hs λa ha=>?_
 rw[wrap_u64,wrap_u64]at ha
 refine RN 1 ha hs λa ha=>?_
 obtain⟨U0,hU0⟩:∃ U0:Nat,(N%18446744073709551616*2)%18446744073709551616=(U0:Int):=⟨((N%18446744073709551616*2)%18446744073709551616).toNat,by omega⟩
 rw[hU0]at ha
 have hU1:U0<18446744073709551616:=by omega
 refine wp_seq_cut (M:=λa w=>Fr a 28 [(3,.int .u64 ((zz N:Nat):Int))]∧St W w L) ?_ ?_
 ·
  refine IF 3 ha hs (λhc0 a ha=>?_) λhc0 a ha=>?_
  ·
   refine RN 2 ha hs λa ha=>?_
   rw[com_u64 hU1]at ha
   refine RN 1 ha hs λa ha=>?_
   rw[show 18446744073709551615-U0=zz N from by rw[zz,if_pos hc0];omega]at ha
   exact⟨ha.keep [3],hs⟩
  refine RN 0 ha hs λa ha=>?_
  rw[show U0=zz N from by rw[zz,if_neg (by omega)];omega]at ha
  exact⟨ha.keep [3],hs⟩
 clear ha;(try clear hs)
 rintro a w ⟨ha,hs⟩
 refine RN 3 ha hs λa ha=>?_
 refine wp_loop_ghost (λμ a w=>∃ (U c':Nat) (ad':Option Addr) (dn:List UInt8),(μ=U∧dn++putL U=putL (zz N)∧U≤zz N)∧Fr a 28 [(3,.int .u64 (U:Int)),(4,.slice ad' dn.length c')]∧St W w (Sl 5 1 ad' dn.length c' (bc dn)::L)) (zz N) (⟨zz N,0,none,[],⟨rfl,rfl,by omega⟩,ha.keep [3,4],hs.sl0 5 1 none⟩) ?_
 clear ha hs
 rintro μ a w ⟨U,c',ad',dn,⟨hμ,hdn,hUz⟩,ha,hs⟩
 refine RN 2 ha hs λa ha=>?_
 have hz1:zz N<18446744073709551616:=by rw[zz];split <;> omega
 have hp1:=putL_len 9 (zz N) (by simp;omega)
 have hdl:dn.length≤10:=by
   have:=congrArg List.length hdn
   rw[List.length_append]at this
   omega
 clear hp1
 refine IF 2 ha hs (λhc1 a ha=>?_) λhc1 a ha=>?_
 ·
  refine SX 3 ha hs (by decide) λa ha=>?_
  rw[show ((U:Nat):Int).tmod 128=((U%128:Nat):Int) from remN _ 128]at ha
  refine RN 1 ha hs λa ha=>?_
  rw[show IntKind.u64.wrap (((U%128:Nat):Int)+128)=((U%128+128:Nat):Int) from by rw[wrap_u64];omega]at ha
  refine SX 0 ha hs (by rw[wrap_u8];omega) λa ha=>?_
  refine RN 0 ha hs λa ha=>?_
  refine st_buildSlice ha rfl hs Tryz.underlying22 Ty.t5 rfl rfl rfl rfl (by decide) (by decide) λb19 a w ha hs ho=>?_
  clear ho
  refine RN 0 ha hs λa ha=>?_
  refine st_append ha rfl hs Tryz.underlying22 Ty.t5 rfl rfl hs.rdAll rfl (by simp[Value.oneCell']) (by decide) (by decide) (by omega) λad20 c20 a w ha hs=>?_
  have hst:bc dn++[[Value.int .u8 ((U%128+128:Nat):Int)]].flatten=bc (dn++[UInt8.ofNat (U%128+128)]):=by
    simp[bc,UInt8.toNat_ofNat']
    omega
  rw[hst]at hs
  refine RN 2 ha hs λa ha=>?_
  refine SS ha (ex_quo ha (by decide) (by rw[show ((U:Nat):Int).tdiv 128=((U/128:Nat):Int) from quoN _ 128,wrap_u64];omega)) λa ha=>?_
  rw[show ((U:Nat):Int).tdiv 128=((U/128:Nat):Int) from quoN _ 128]at ha
  refine RN 1 ha hs λa ha=>?_
  exact⟨U/128,by omega,U/128,_,ad20,dn++[UInt8.ofNat (U%128+128)],⟨rfl,by rw[← hdn,putL_big (u:=U) (by omega),List.append_assoc];rfl,by omega⟩,by rw[List.length_append];exact ha.keep [3,4],by rw[List.length_append];exact hs.sub⟩
 refine SX 3 ha hs (by rw[wrap_u8];omega) λa ha=>?_
 refine RN 0 ha hs λa ha=>?_
 refine st_buildSlice ha rfl hs Tryz.underlying22 Ty.t5 rfl rfl rfl rfl (by decide) (by decide) λb26 a w ha hs ho=>?_
 clear ho
 refine RN 0 ha hs λa ha=>?_
 refine st_append ha rfl hs Tryz.underlying22 Ty.t5 rfl rfl hs.rdAll rfl (by simp[Value.oneCell']) (by decide) (by decide) (by omega) λad27 c27 a w ha hs=>?_
 have hst:bc dn++[[Value.int .u8 ((U:Nat):Int)]].flatten=bc (dn++[UInt8.ofNat U]):=by
   simp[bc,UInt8.toNat_ofNat']
   omega
 rw[hst,← putL_small (by omega),hdn]at hs
 refine RT 1 ha hs ?_
 have hl:dn.length+1=(putL (zz N)).length:=by rw[← hdn,putL_small (by omega),List.length_append];rfl
 rw[hl]at hs ⊢
 exact⟨_,_,rfl,hs.sub⟩
end
end
end Go.Proofs.YtdilfdkendjjhaaGreat
