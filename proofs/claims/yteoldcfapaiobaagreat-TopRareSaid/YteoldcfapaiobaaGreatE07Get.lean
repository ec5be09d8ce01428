/- Numbers out of bytes: num.Get, quintainref1.Get; quintainref1.Put. -/
import Derived.Test.YteoldcfapaiobaaGreatE06Ref
namespace Go.Proofs.YteoldcfapaiobaaGreat
open Tryz
open List (drop_zero getElem?_drop getElem?_append_right drop_drop drop_left foldl_cons drop_eq_nil_of_le append_nil getElem_mem mem_singleton foldl_append forall_mem_cons not_mem_nil replicate_succ')
open Go.RowKit
set_option linter.unusedVariables false
set_option linter.unusedSimpArgs false
set_option maxRecDepth 10000
set_option synthInstance.maxSize 4000
set_option synthInstance.maxHeartbeats 400000
section
theorem XB {x:Nat}(h:x<256):IntKind.u8.wrap ((BitVec.ofInt IntKind.u8.bits (x:Int) &&& BitVec.ofInt IntKind.u8.bits 127).toNat)=((x%128:Nat):Int):=by
 have:∀ y:Fin 256,IntKind.u8.wrap ((BitVec.ofInt IntKind.u8.bits ((y.val:Nat):Int) &&& BitVec.ofInt IntKind.u8.bits 127).toNat)=((y.val%128:Nat):Int):=by decide +kernel
 exact this ⟨x,h⟩
theorem Ke (i:Nat):(2:Nat) ^ (7*i)=128 ^ i:=by rw[Nat.pow_mul]
theorem XC {u d i:Nat}(hu:u<128 ^ i):u ||| d*128 ^ i=u+d*128 ^ i:=by
 rw[← Ke]at hu ⊢;rw[Nat.mul_comm,Nat.add_comm,Nat.two_pow_add_eq_or_of_lt hu,Nat.or_comm]
theorem Eu {i:Nat}(hi:i≤9):128 ^ i≤9223372036854775808∧(i≤8→128 ^ i≤72057594037927936):=by
 have h9:(128:Nat) ^ 9=9223372036854775808:=by decide
 have h8:(128:Nat) ^ 8=72057594037927936:=by decide
 refine⟨h9 ▸ Nat.pow_le_pow_right (by decide) hi,λh=>h8 ▸ Nat.pow_le_pow_right (by decide) h⟩
theorem Kf {i d:Nat}(hi:i≤9)(h:i=9→d≤1)(hd:d≤127):d*128 ^ i≤9223372036854775808∧(i≤8→d*128 ^ i+128 ^ i≤128 ^ (i+1)):=by
 obtain⟨h1,h2⟩:=Eu hi;have hm:d*128 ^ i≤127*128 ^ i:=Nat.mul_le_mul_right _ hd;refine⟨?_,λh8=>by rw[xZ];omega⟩;rcases Nat.lt_or_ge i 9 with h9 | h9
 ·have:=h2 (by omega);omega
 ·have:i=9:=by omega
  have sD:=h this;have:d*128 ^ i≤1*128 ^ i:=Nat.mul_le_mul_right _ sD;omega
theorem Kg {bs:List UInt8}{i:Nat}(h:i<bs.length)(u:Nat):m0 (bs.drop i) i u=if i=9∧1<bs[i].toNat then none
   else if 127<bs[i].toNat then m0 (bs.drop (i+1)) (i+1) (u+bs[i].toNat%128*128 ^ i)
   else if 0<i∧bs[i].toNat=0 then none
   else some (u+bs[i].toNat*128 ^ i,i+1):=by
 rw[kl h,m0]
theorem XD {x:Nat}(h:x<18446744073709551616):IntKind.u64.wrap (((BitVec.ofInt IntKind.u64.bits (x:Int) &&& BitVec.ofInt IntKind.u64.bits 1).toNat:Nat):Int)=((x%2:Nat):Int):=by
 have h1:=Xb (y:=1) h (by decide);rw[Nat.and_one_is_mod]at h1;exact h1
theorem XE {x:Int}(h1:-9223372036854775808≤x)(h2:x≤9223372036854775807):IntKind.i64.wrap (((BitVec.ofInt IntKind.i64.bits (if IntKind.i64.signed then -1 else IntKind.i64.max) ^^^ BitVec.ofInt IntKind.i64.bits x).toNat:Nat):Int) = -x-1:=by
 have e:BitVec.ofInt IntKind.i64.bits (if IntKind.i64.signed then -1 else IntKind.i64.max)=BitVec.allOnes 64:=by
  show BitVec.ofInt 64 (-1)=_;decide
 rw[e];show IntKind.i64.wrap (((BitVec.allOnes 64 ^^^ BitVec.ofInt 64 x).toNat:Nat):Int)=_;rw[BitVec.allOnes_xor,BitVec.toNat_not,BitVec.toNat_ofInt];simp only[IntKind.wrap,IntKind.signed,IntKind.bits];simp;omega
section
variable {W w:World}{L:List SP}{c:Nat}{ad:Option Addr}{bs:List UInt8}
theorem Kh (I:U W w L)(hb:bs.length≤1099511627776)(hp:∀ w',U W w' L→aX w' ad bs.length bs) :
   Calls prog 339 #[.slice ad bs.length c] w λe w'=>∃ (x:Int) (k:Nat) (er:Int),e=.returned (.tuple #[.int .i64 x,.int .i64 k,.int .i64 er])∧lS bs x k er∧U W w' L:=by
 refine EN func339 ntmps339 rfl rfl λa E=>?_;refine RN 11 E I λa E=>?_;refine aO (λμ a w=>∃ (i u:Nat),(μ=bs.length-i∧i≤bs.length∧i≤9∧u<128 ^ i∧m0 (bs.drop i) i u=sP bs)∧Fr a 50 [(5,.int .u64 u),(9,.slice ad bs.length c),(10,.int .i64 bs.length),(11,.int .i64 i)]∧U W w L) (bs.length) (⟨0,0,⟨rfl,by omega,by omega,by decide,rfl⟩,E.ab [5,9,10,11],I⟩) ?_;clear E I;rintro μ a w ⟨i,u,⟨rfl,hi,rh,hu,hg⟩,E,I⟩;refine IF 3 E I (λaj a E=>?_) λaj a E=>?_
 ·
  obtain⟨bb,oo,rfl,hr⟩:=(hp _ I).get (by omega);have aH:i<bs.length:=by omega
  have qp:=lQ bs[i];rw[Kg aH]at hg;obtain⟨gz,hX⟩:=Eu rh;refine RN 4 E I λa E=>?_;refine SS E (ae E (hr i _ (dQ aH))) λa E=>?_;refine RN 3 E I λa E=>?_;refine cc (M:=λa w=>∃ z:Bool,(z=true↔(i=9∧1<bs[i].toNat))∧Fr a 50 [(5,.int .u64 u),(6,.int .i64 i),(7,.int .u8 (bs[i].toNat:Int)),(9,.slice (some ⟨bb,oo,none⟩) bs.length c),(10,.int .i64 bs.length),(11,.int .i64 i),(21,.bool z)]∧U W w L) ?_ ?_
  ·
   refine BY 3 E I (λbA a E=>?_) λbA a E=>?_
   ·
    refine RN 3 E I λa E=>?_;exact⟨_,by rw[ct];omega,E.ab [5,6,7,9,10,11,21],I⟩
   refine RN 3 E I λa E=>?_;exact⟨_,by simp;omega,E.ab [5,6,7,9,10,11,21],I⟩
  clear E;(try clear I);rintro a w ⟨z,hz,E,I⟩;refine IF 0 E I (λao a E=>?_) λao a E=>?_
  ·
   rw[ak (hz.1 ao)]at hg;refine RT 4 E I ?_;exact⟨_,_,_,rfl,lS.bad hg.symm (by omega),I⟩
  have kB:¬ (i=9∧1<bs[i].toNat):=λh=>absurd (hz.2 h) (by simp[ao]);rw[ag kB]at hg;obtain⟨sD,jh⟩:=Kf (d:=bs[i].toNat%128) rh (by omega) (by omega);refine RN 4 E I λa E=>?_;rw[XB qp]at E;refine SX 0 E I (by rw[wrap_u64];omega) λa E=>?_;refine RN 2 E I λa E=>?_;rw[show (7:Int)*(i:Int)=((7*i:Nat):Int) from by omega]at E;refine SS E (H3 E (jn:=7*i) (by show 7*i≤64;omega)) λa E=>?_;rw[show ((bs[i].toNat%128:Nat):Int)*2 ^ (7*i)=((bs[i].toNat%128*128 ^ i:Nat):Int) from by rw[Int.natCast_mul,← Ke];simp,show IntKind.u64.wrap ((bs[i].toNat%128*128 ^ i:Nat):Int)=((bs[i].toNat%128*128 ^ i:Nat):Int) from by rw[wrap_u64];omega]at E;refine RN 1 E I λa E=>?_;rw[Xa (by omega) (by omega),XC hu]at E;refine IF 5 E I (λay a E=>?_) λay a E=>?_
  ·
   rw[ak (by omega)]at hg;refine RN 2 E I λa E=>?_;exact⟨bs.length-(i+1),by omega,i+1,_,⟨rfl,by omega,by omega,by have:=jh (by omega);omega,hg⟩,E.ab [5,9,10,11],I⟩
  rw[ag (by omega)]at hg;rw[Nat.mod_eq_of_lt (show bs[i].toNat<128 from by omega)]at E sD jh;refine RN 1 E I λa E=>?_;refine cc (M:=λa w=>∃ z:Bool,(z=true↔(0<i∧bs[i].toNat=0))∧Fr a 50 [(5,.int .u64 ((u+bs[i].toNat*128 ^ i:Nat):Int)),(6,.int .i64 i),(37,.bool z)]∧U W w L) ?_ ?_
  ·
   refine BY 3 E I (λbA a E=>?_) λbA a E=>?_
   ·
    refine RN 3 E I λa E=>?_;exact⟨_,by rw[ct];omega,E.ab [5,6,37],I⟩
   refine RN 3 E I λa E=>?_;exact⟨_,by simp;omega,E.ab [5,6,37],I⟩
  clear E;(try clear I);rintro a w ⟨z,hz,E,I⟩;refine IF 0 E I (λbk a E=>?_) λbk a E=>?_
  ·
   rw[ak (hz.1 bk)]at hg;refine RT 4 E I ?_;exact⟨_,_,_,rfl,lS.bad hg.symm (by omega),I⟩
  rw[ag (λh=>absurd (hz.2 h) (by simp[bk]))]at hg;generalize u+bs[i].toNat*128 ^ i=v at E hg;have hv:=(Eh hg.symm).1;refine RN 3 E I λa E=>?_;rw[show ((v:Nat):Int).fdiv (2 ^ 1)=((v/2:Nat):Int) from kS _ 2]at E;refine SS E (gj E underlying319 underlying2) λa E=>?_;rw[show IntKind.i64.wrap ((v/2:Nat):Int)=((v/2:Nat):Int) from gi (by omega) (by omega)]at E;refine RN 1 E I λa E=>?_;refine cc (M:=λa w=>Fr a 50 [(6,.int .i64 i),(8,.int .i64 (m1 v))]∧U W w L) ?_ ?_
  ·
   refine RN 3 E I λa E=>?_;rw[XD hv]at E;refine IF 1 E I (λbO a E=>?_) λbO a E=>?_
   ·
    refine RN 2 E I λa E=>?_;rw[XE (by omega) (by omega)]at E;refine RN 1 E I λa E=>?_;rw[show -((v/2:Nat):Int)-1=m1 v from by rw[m1,ak (by omega)]]at E;exact⟨E.ab [6,8],I⟩
   refine RN 0 E I λa E=>?_;rw[show ((v/2:Nat):Int)=m1 v from by rw[m1,ag (by omega)]]at E;exact⟨E.ab [6,8],I⟩
  clear E;(try clear I);rintro a w ⟨E,I⟩;refine RT 7 E I ?_;exact⟨_,_,_,rfl,lS.J8 hg.symm,I⟩
 rw[drop_eq_nil_of_le (by omega),m0]at hg;refine RT 4 E I ?_;exact⟨_,_,_,rfl,lS.bad hg.symm (by omega),I⟩
theorem Ew (I:U W w L)(hb:bs.length≤1099511627776)(hp:∀ w',U W w' L→aX w' ad bs.length bs) :
   Calls prog 215 #[.slice ad bs.length c] w λe w'=>∃ (x:Int) (k:Nat) (er:Int),e=.returned (.tuple #[.int .i64 x,.int .i64 k,.int .i64 er])∧lS bs x k er∧U W w' L:=by
 refine EN func215 ntmps215 rfl rfl λa E=>?_;refine RN 11 E I λa E=>?_;refine aO (λμ a w=>∃ (i u:Nat),(μ=bs.length-i∧i≤bs.length∧i≤9∧u<128 ^ i∧m0 (bs.drop i) i u=sP bs)∧Fr a 64 [(0,.slice ad bs.length c),(5,.int .u64 u),(6,.int .u64 ((128 ^ i:Nat):Int)),(7,.int .i64 i)]∧U W w L) (bs.length) (⟨0,0,⟨rfl,by omega,by omega,by decide,rfl⟩,E.ab [0,5,6,7],I⟩) ?_;clear E I;rintro μ a w ⟨i,u,⟨rfl,hi,rh,hu,hg⟩,E,I⟩;refine IF 6 E I (λaj a E=>?_) λaj a E=>?_
 ·
  obtain⟨bb,oo,rfl,hr⟩:=(hp _ I).get (by omega);have aH:i<bs.length:=by omega
  have qp:=lQ bs[i];rw[Kg aH]at hg;obtain⟨gz,hX⟩:=Eu rh;refine RN 2 E I λa E=>?_;refine cc (M:=λa w=>∃ z:Bool,(z=true↔(i=9∧1<bs[i].toNat)∨(0<i∧bs[i].toNat=0))∧Fr a 64 [(0,.slice (some ⟨bb,oo,none⟩) bs.length c),(5,.int .u64 u),(6,.int .u64 ((128 ^ i:Nat):Int)),(7,.int .i64 i),(34,.bool z)]∧U W w L) ?_ ?_
  ·
   refine BY 3 E I (λbA a E=>?_) λbA a E=>?_
   ·
    refine RN 3 E I λa E=>?_;refine bo E (b7 E rfl (s:=17)) (ae E (hr i _ (dQ aH))) rfl λa E=>?_;refine BY 3 E I (λuh a E=>?_) λuh a E=>?_
    ·
     refine RN 10 E I λa E=>?_;refine⟨_,?_,E.ab [0,5,6,7,34],I⟩
     (try simp only[ct]);(try simp only[Bool.false_eq_true,true_iff,false_iff]);omega
    refine BY 3 E I (λhY a E=>?_) λhY a E=>?_
    ·
     refine RN 3 E I λa E=>?_;refine bo E (b7 E rfl (s:=27)) (ae E (hr i _ (dQ aH))) rfl λa E=>?_;refine RN 3 E I λa E=>?_;refine⟨_,?_,E.ab [0,5,6,7,34],I⟩
     (try simp only[ct]);(try simp only[Bool.false_eq_true,true_iff,false_iff]);omega
    refine RN 7 E I λa E=>?_;refine⟨_,?_,E.ab [0,5,6,7,34],I⟩
    (try simp only[ct]);(try simp only[Bool.false_eq_true,true_iff,false_iff]);omega
   refine BY 10 E I (λhY a E=>?_) λhY a E=>?_
   ·
    refine RN 3 E I λa E=>?_;refine bo E (b7 E rfl (s:=27)) (ae E (hr i _ (dQ aH))) rfl λa E=>?_;refine RN 3 E I λa E=>?_;refine⟨_,?_,E.ab [0,5,6,7,34],I⟩
    (try simp only[ct]);(try simp only[Bool.false_eq_true,true_iff,false_iff]);omega
   refine RN 7 E I λa E=>?_;refine⟨_,?_,E.ab [0,5,6,7,34],I⟩
   (try simp only[ct]);(try simp only[Bool.false_eq_true,true_iff,false_iff]);omega
  clear E;(try clear I);rintro a w ⟨z,hz,E,I⟩;refine IF 0 E I (λao a E=>?_) λao a E=>?_
  ·
   have cU:=hz.1 ao;have zC:sP bs=none:=by
    rw[← hg];by_cases h9:i=9∧1<bs[i].toNat
    ·rw[ak h9]
    ·rw[ag h9,ag (by omega),ak (by omega)]
   refine RT 4 E I ?_;exact⟨_,_,_,rfl,lS.bad zC (by omega),I⟩
  have kB:¬ ((i=9∧1<bs[i].toNat)∨(0<i∧bs[i].toNat=0)):=λh=>absurd (hz.2 h) (by simp[ao]);have hr:=(hp _ I).rd (by omega);obtain⟨sD,jh⟩:=Kf (d:=bs[i].toNat%128) rh (by omega) (by omega);refine RN 5 E I λa E=>?_;refine SS E (ae E (hr i _ (dQ aH))) λa E=>?_;refine SX 0 E I (by decide) λa E=>?_;rw[show ((bs[i].toNat:Nat):Int).tmod 128=((bs[i].toNat%128:Nat):Int) from nY _ 128]at E;refine SX 0 E I (by rw[wrap_u64];omega) λa E=>?_;refine RN 2 E I λa E=>?_;rw[show ((bs[i].toNat%128:Nat):Int)*((128 ^ i:Nat):Int)=((bs[i].toNat%128*128 ^ i:Nat):Int) from (Int.natCast_mul ..).symm,show IntKind.u64.wrap ((bs[i].toNat%128*128 ^ i:Nat):Int)=((bs[i].toNat%128*128 ^ i:Nat):Int) from by rw[wrap_u64];omega]at E;refine RN 1 E I λa E=>?_;rw[show IntKind.u64.wrap ((u:Int)+((bs[i].toNat%128*128 ^ i:Nat):Int))=((u+bs[i].toNat%128*128 ^ i:Nat):Int) from by rw[wrap_u64];omega]at E;refine RN 9 E I λa E=>?_;refine SS E (ae E (hr i _ (dQ aH))) λa E=>?_;refine IF 1 E I (λay a E=>?_) λay a E=>?_
  ·
   rw[ag (by omega),ag (by omega),ag (by omega)]at hg;rw[Nat.mod_eq_of_lt (show bs[i].toNat<128 from by omega)]at E sD jh;generalize u+bs[i].toNat*128 ^ i=v at E hg;have hv:=(Eh hg.symm).1;refine RN 2 E I λa E=>?_;refine SS E (vk E (by decide) (by rw[show ((v:Nat):Int).tdiv 2=((v/2:Nat):Int) from qO _ 2,wrap_u64];omega)) λa E=>?_;rw[show ((v:Nat):Int).tdiv 2=((v/2:Nat):Int) from qO _ 2]at E;refine RN 0 E I λa E=>?_;refine SS E (gj E underlying319 underlying2) λa E=>?_;rw[show IntKind.i64.wrap ((v/2:Nat):Int)=((v/2:Nat):Int) from gi (by omega) (by omega)]at E;refine RN 1 E I λa E=>?_;refine cc (M:=λa w=>Fr a 64 [(7,.int .i64 i),(8,.int .i64 (m1 v))]∧U W w L) ?_ ?_
   ·
    refine SX 2 E I (by decide) λa E=>?_;rw[show ((v:Nat):Int).tmod 2=((v%2:Nat):Int) from nY _ 2]at E;refine IF 1 E I (λbk a E=>?_) λbk a E=>?_
    ·
     refine RN 2 E I λa E=>?_;rw[show IntKind.i64.wrap (0-((v/2:Nat):Int)) = -((v/2:Nat):Int) from by rw[gi (by omega) (by omega)];omega]at E;refine RN 2 E I λa E=>?_;rw[show -((v/2:Nat):Int)-1=m1 v from by rw[m1,ak (by omega)]]at E;exact⟨E.ab [7,8],I⟩
    refine RN 0 E I λa E=>?_;rw[show ((v/2:Nat):Int)=m1 v from by rw[m1,ag (by omega)]]at E;exact⟨E.ab [7,8],I⟩
   clear E;(try clear I);rintro a w ⟨E,I⟩;refine RT 7 E I ?_;exact⟨_,_,_,rfl,lS.J8 hg.symm,I⟩
  rw[ag (by omega),ak (by omega)]at hg;have Ki:i≤8:=by omega
  rw[show IntKind.u64.wrap (((128 ^ i:Nat):Int)*128)=((128 ^ (i+1):Nat):Int) from by rw[wrap_u64,xZ];have:=hX Ki;omega]at E;refine RN 3 E I λa E=>?_;exact⟨bs.length-(i+1),by omega,i+1,_,⟨rfl,by omega,by omega,by have:=jh (by omega);omega,hg⟩,E.ab [0,5,6,7],I⟩
 rw[drop_eq_nil_of_le (by omega),m0]at hg;refine RT 4 E I ?_;exact⟨_,_,_,rfl,lS.bad hg.symm (by omega),I⟩
theorem sR {N:Int}(I:U W w L)(h1:-9223372036854775808≤N)(h2:N≤9223372036854775807) :
   Calls prog 157 #[.int .i64 N] w λe w'=>∃ av c',e=.returned (.slice av (aP (zz N)).length c')∧U W w' (Sl 5 1 av (aP (zz N)).length c' (bc (aP (zz N)))::L):=by
 refine EN func157 ntmps157 rfl rfl λa E=>?_;refine RN 4 E I λa E=>?_;refine SS E (gj E underlying2 underlying319) λa E=>?_;refine RN 1 E I λa E=>?_;rw[wrap_u64,wrap_u64]at E;refine RN 1 E I λa E=>?_;obtain⟨U0,Dz⟩:∃ U0:Nat,(N%18446744073709551616*2)%18446744073709551616=(U0:Int):=⟨((N%18446744073709551616*2)%18446744073709551616).toNat,by omega⟩;rw[Dz]at E;have DA:U0<18446744073709551616:=by omega
 refine cc (M:=λa w=>Fr a 28 [(3,.int .u64 ((zz N:Nat):Int))]∧U W w L) ?_ ?_
 ·
  refine IF 3 E I (λaj a E=>?_) λaj a E=>?_
  ·
   refine RN 2 E I λa E=>?_;rw[Jq DA]at E;refine RN 1 E I λa E=>?_;rw[show 18446744073709551615-U0=zz N from by rw[zz,ak aj];omega]at E;exact⟨E.ab [3],I⟩
  refine RN 0 E I λa E=>?_;rw[show U0=zz N from by rw[zz,ag (by omega)];omega]at E;exact⟨E.ab [3],I⟩
 clear E;(try clear I);rintro a w ⟨E,I⟩;refine RN 3 E I λa E=>?_;refine aO (λμ a w=>∃ (eb c':Nat) (av:Option Addr) (dn:List UInt8),(μ=eb∧dn++aP eb=aP (zz N)∧eb≤zz N)∧Fr a 28 [(3,.int .u64 (eb:Int)),(4,.slice av dn.length c')]∧U W w (Sl 5 1 av dn.length c' (bc dn)::L)) (zz N) (⟨zz N,0,none,[],⟨rfl,rfl,by omega⟩,E.ab [3,4],I.bN 5 1 none⟩) ?_;clear E I;rintro μ a w ⟨eb,c',av,dn,⟨xK,c6,VE⟩,E,I⟩;refine RN 2 E I λa E=>?_;have cU:zz N<18446744073709551616:=by rw[zz];split <;> omega
 have gz:=qj 9 (zz N) (by simp;omega);have mn:dn.length≤10:=by
  have:=congrArg List.length c6;rw[aL]at this;omega
 clear gz;refine IF 2 E I (λao a E=>?_) λao a E=>?_
 ·
  refine SX 3 E I (by decide) λa E=>?_;rw[show ((eb:Nat):Int).tmod 128=((eb%128:Nat):Int) from nY _ 128]at E;refine RN 1 E I λa E=>?_;rw[show IntKind.u64.wrap (((eb%128:Nat):Int)+128)=((eb%128+128:Nat):Int) from by rw[wrap_u64];omega]at E;refine SX 0 E I (by rw[wrap_u8];omega) λa E=>?_;refine RN 0 E I λa E=>?_;refine cr E rfl I underlying22 Ty.t5 rfl rfl rfl rfl (by decide) (by decide) λmT a w E I ho=>?_;clear ho;refine RN 0 E I λa E=>?_;refine cK E rfl I underlying22 Ty.t5 rfl rfl I.ai rfl (by simp[Value.oneCell']) (by decide) (by decide) (by omega) λxL DB a w E I=>?_;have aS:bc dn++[[Value.int .u8 ((eb%128+128:Nat):Int)]].flatten=bc (dn++[UInt8.ofNat (eb%128+128)]):=by
   simp[bc,UInt8.toNat_ofNat'];omega
  rw[aS]at I;refine RN 2 E I λa E=>?_;refine SS E (vk E (by decide) (by rw[show ((eb:Nat):Int).tdiv 128=((eb/128:Nat):Int) from qO _ 128,wrap_u64];omega)) λa E=>?_;rw[show ((eb:Nat):Int).tdiv 128=((eb/128:Nat):Int) from qO _ 128]at E;refine RN 1 E I λa E=>?_;exact⟨eb/128,by omega,eb/128,_,xL,dn++[UInt8.ofNat (eb%128+128)],⟨rfl,by rw[← c6,vJ (u:=eb) (by omega),ds];rfl,by omega⟩,by rw[aL];exact E.ab [3,4],by rw[aL];exact I.sub⟩
 refine SX 3 E I (by rw[wrap_u8];omega) λa E=>?_;refine RN 0 E I λa E=>?_;refine cr E rfl I underlying22 Ty.t5 rfl rfl rfl rfl (by decide) (by decide) λJr a w E I ho=>?_;clear ho;refine RN 0 E I λa E=>?_;refine cK E rfl I underlying22 Ty.t5 rfl rfl I.ai rfl (by simp[Value.oneCell']) (by decide) (by decide) (by omega) λDD DE a w E I=>?_;have aS:bc dn++[[Value.int .u8 ((eb:Nat):Int)]].flatten=bc (dn++[UInt8.ofNat eb]):=by
  simp[bc,UInt8.toNat_ofNat'];omega
 rw[aS,← qi (by omega),c6]at I;refine RT 1 E I ?_;have hl:dn.length+1=(aP (zz N)).length:=by rw[← c6,qi (by omega),aL];rfl
 rw[hl]at I ⊢;exact⟨_,_,rfl,I.sub⟩
end
end
section
theorem ri {n:Int}(h1:-9223372036854775808≤n)(h2:n≤9223372036854775807):(aP (zz n)).length≤10:=qj 9 _ (by
 have:=Eg h1 h2;have eI:(128:Nat) ^ (9+1)=1180591620717411303424:=by decide
 omega)
theorem ui {l:List UInt8}{x:UInt8}:bc l++[[Value.int .u8 (x.toNat:Int)]].flatten=bc (l++[x]):=by simp[bc]
structure m4 (bs:List UInt8)(i e:Nat):Prop where
 lt:i<e
 le:e≤bs.length
 same:∀ (j:Nat) (h:j<bs.length),i≤j→j<e→bs[j]=bs[i]'(by omega)
theorem m4.one {bs:List UInt8}{i:Nat}(h:i<bs.length):m4 bs i (i+1):=⟨by omega,by omega,λj hj h1 h2=>by
 have:j=i:=by omega
 subst this;rfl⟩
theorem m4.more {bs:List UInt8}{i e:Nat}(h:m4 bs i e)(he:e<bs.length)(hb:bs[e]'he=bs[i]'(by have:=h.lt;omega)):m4 bs i (e+1):=⟨by have:=h.lt;omega,by omega,λj hj h1 h2=>by
 by_cases XF:j=e
 ·subst XF;exact hb
 ·exact h.same j hj h1 (by omega)⟩
theorem m4.runs {bs:List UInt8}{i e:Nat}(h:m4 bs i e)(hi:i<bs.length)(hn:∀ he:e<bs.length,bs[e]≠bs[i])(last:UInt8) :
   dv (bs.drop i) last=aP (zz ((e-i:Nat):Int))++(bs[i] ^^^ last)::dv (bs.drop e) bs[i]:=by
 have h1:=h.lt;have h2:=h.le;have hr:runN bs[i] (bs.drop (i+1))=e-i-1:=by
  refine Xo (λj hj=>?_) ?_
  ·rw[getElem?_drop,aE (by omega),h.same (i+1+j) (by omega) (by omega) (by omega)]
  ·rw[getElem?_drop,show i+1+(e-i-1)=e from by omega];rcases Nat.lt_or_ge e bs.length with he | he
   ·rw[aE he];exact λhx=>hn he (Option.some.inj hx)
   ·rw[iW he];simp
 rw[kl hi,sQ,hr,drop_drop,show i+1+(e-i-1)=e from by omega,show e-i-1+1=e-i from by omega]
theorem kX {bs:List UInt8}{i:Nat}(h:i<bs.length):(bc bs)[i]?=some (.int .u8 ((bs.getD i 0).toNat:Int)):=by rw[dQ h,bn,aE h];rfl
theorem my.get {p dn rest:List UInt8}{last:UInt8}{x:Int}{k:Nat}{er:Int}(h:my p dn last rest)(hp:p.length≤1000000)(h0:rest≠[])(hg:lS rest x k er) :
   er=0∧1≤x∧k<rest.length∧(dn≠[]→(rest.getD k 0).toNat≠0)∧(dn.length:Int)+x≤p.length∧my p (dn++List.replicate x.toNat (last ^^^ rest.getD k 0)) (last ^^^ rest.getD k 0) (rest.drop (k+1)):=by
 obtain⟨m,y,r,e1,e2,e3,iX⟩:=h.next h0;obtain⟨rfl,rfl,rfl⟩:=hg.2.2.2.2 ((m+1:Nat):Int) _ (by omega) (by omega) e1;have hk:rest.getD (aP (zz ((m+1:Nat):Int))).length 0=y ^^^ last:=by rw[e1,bn,getElem?_append_right (a7 _)];simp
 refine⟨rfl,by omega,by rw[e1];simp,by rw[hk];exact e3,by omega,?_⟩;rw[hk,Aq,show ((m+1:Nat):Int).toNat=m+1 from by omega];have hd:rest.drop ((aP (zz ((m+1:Nat):Int))).length+1)=r:=by
  rw[e1,← drop_drop,drop_left];rfl
 rw[hd];exact iX
def sS (bs:List UInt8)(m:Nat)(out:List UInt8)(er:Int):Prop:=(er=0∨er=1∨er=4)∧out.length≤m∧∀ p:List UInt8,p.length≤m→bs=dv p 0→out=p∧er=0
theorem Kj (bs:List UInt8)(i k:Nat):(bs.drop i).getD k 0=bs.getD (i+k) 0:=by simp[bn,getElem?_drop]
theorem sS.bad {bs dn rest:List UInt8}{last:UInt8}{m k:Nat}{x er Ey:Int}(mZ:∀ p:List UInt8,p.length≤m→bs=dv p 0→my p dn last rest)(hm:m≤1000000)(h0:rest≠[])(hg:lS rest x k er)
   (jW:er≠0∨x<1∨rest.length≤k∨(dn≠[]∧(rest.getD k 0).toNat=0)∨(m:Int)<dn.length+x) (he:Ey=1∨Ey=4):sS bs m [] Ey:=by
 refine⟨by omega,by simp,λp hp e=>?_⟩;exfalso;obtain⟨g1,iA,l8,lH,oy,_⟩:=(mZ p hp e).get (by omega) h0 hg;rcases jW with h | h | h | h | h
 ·exact h g1
 ·omega
 ·omega
 ·exact lH h.1 h.2
 ·omega
section
variable {W w:World}{L:List SP}{n c m:Nat}{ad:Option Addr}{bs:List UInt8}
theorem XG (I:U W w L)(hb:bs.length≤65536)(hp:∀ w',U W w' L→aX w' ad bs.length bs) :
   Calls prog 338 #[.slice ad bs.length c] w λe w'=>∃ av c',e=.returned (.slice av (dv bs 0).length c')∧U W w' (Sl 5 1 av (dv bs 0).length c' (bc (dv bs 0))::L):=by
 have gl:=x5 bs 0;refine EN func338 ntmps338 rfl rfl λa E=>?_;refine RN 9 E I λa E=>?_;refine aO (λμ a w=>∃ (i c':Nat) (av:Option Addr) (dn:List UInt8) (last:UInt8),(μ=bs.length-i∧i≤bs.length∧dn++dv (bs.drop i) last=dv bs 0)∧Fr a 48 [(0,.slice ad bs.length c),(3,.slice av dn.length c'),(4,.int .u8 (last.toNat:Int)),(5,.int .i64 i)]∧U W w (Sl 5 1 av dn.length c' (bc dn)::L)) (bs.length) (⟨0,0,none,[],0,⟨rfl,by omega,rfl⟩,E.ab [0,3,4,5],I.bN 5 1 none⟩) ?_;clear E I;rintro μ a w ⟨i,c',av,dn,last,⟨rfl,hi,c6⟩,E,I⟩;refine IF 6 E I (λaj a E=>?_) λaj a E=>?_
 ·
  obtain⟨bb,oo,rfl,_⟩:=(hp _ I.tail).get (by omega);have aH:i<bs.length:=by omega
  have mn:dn.length≤11*bs.length:=by
   have:=congrArg List.length c6;rw[aL]at this;omega
  refine RN 4 E I λa E=>?_;refine aO (λμ a w=>∃ (k:Nat),(μ=bs.length-k∧i≤k∧k≤bs.length∧(k=i∨m4 bs i k))∧Fr a 48 [(0,.slice (some ⟨bb,oo,none⟩) bs.length c),(3,.slice av dn.length c'),(4,.int .u8 (last.toNat:Int)),(5,.int .i64 i),(6,.int .i64 k)]∧U W w (Sl 5 1 av dn.length c' (bc dn)::L)) (bs.length-i) (⟨i,⟨rfl,by omega,by omega,.inl rfl⟩,E.ab [0,3,4,5,6],I⟩) ?_;clear E I;rintro μ a w ⟨k,⟨rfl,pn,hk,kC⟩,E,I⟩;refine RN 1 E I λa E=>?_;refine cc (M:=λa w=>∃ z:Bool,(z=true→m4 bs i (k+1))∧(z=false→m4 bs i k∧∀ he:k<bs.length,bs[k]≠bs[i])∧Fr a 48 [(0,.slice (some ⟨bb,oo,none⟩) bs.length c),(3,.slice av dn.length c'),(4,.int .u8 (last.toNat:Int)),(5,.int .i64 i),(6,.int .i64 k),(26,.bool z)]∧U W w (Sl 5 1 av dn.length c' (bc dn)::L)) ?_ ?_
  ·
   refine bQ 0 [12] [0,1,2,3,4,5,6,7,9,10,11,3008,1012,13,14] E I λa w E I hH hC=>?_;have hr:=(hp _ I.tail).rd (by omega);refine RH 5 E I hH hC λa E=>?_;refine E.by (s:=16) (λdz E=>?_) (λdz E=>?_)
   ·
    refine RH 6 E I hH hC λa E=>?_;refine QH E (λw hc=>ae E ((hc.rd hr) k _ (dQ (i:=k) (bs:=bs) (show k<bs.length by omega)))) hC λa E=>?_;refine RH 0 E I hH hC λa E=>?_;refine bo E (b7 E rfl (s:=16)) (ae E ((hC.rd hr) i _ (dQ aH))) rfl λa E=>?_;refine RH 2 E I hH hC λa E=>?_;have dM:k<bs.length:=by omega
    refine⟨_,λh=>?_,λh=>?_,E.ab [0,3,4,5,6,26],I⟩
    ·have he:bs[k]=bs[i]:=UInt8.toNat_inj.1 (by have:=of_decide_eq_true h;omega);rcases kC with rfl | kC
     ·exact m4.one aH
     ·exact kC.more dM he
    ·have he:bs[k]≠bs[i]:=λe=>of_decide_eq_false h (by rw[e]);rcases kC with rfl | kC
     ·exact absurd rfl he
     ·exact⟨kC,λ_=>he⟩
   refine RH 10 E I hH hC λa E=>?_;refine⟨_,λh=>(by cases h),λh=>?_,E.ab [0,3,4,5,6,26],I⟩;rcases kC with rfl | kC
   ·omega
   ·exact⟨kC,λ_=>absurd (show k<bs.length by assumption) (by omega)⟩
  clear E;(try clear I);rintro a w ⟨z,cU,kB,E,I⟩;refine IF 0 E I (λao a E=>?_) λao a E=>?_
  ·
   have pC:=cU ao;refine RN 3 E I λa E=>?_;exact⟨bs.length-(k+1),by have:=pC.le;omega,k+1,⟨rfl,by omega,pC.le,.inr pC⟩,E.ab [0,3,4,5,6],I⟩
  obtain⟨pC,bD⟩:=kB ao;rw[pC.runs aH bD last]at c6;have dM:=pC.lt;have xG:=pC.le;refine aV 1 (λw0 w=>Rd w bb oo (bc bs)) [4] [0,1,2,3,5,6,7,9,3008,10,2004,1011,1012,13] E I λa w E I hH=>?_;have hC:=(hp _ I.tail).rd (by omega);have eB:=ri (n:=((k-i:Nat):Int)) (by omega) (by omega);refine RH 4 E I hH hC λa E=>?_;rw[show ((k:Nat):Int)-((i:Nat):Int)=((k-i:Nat):Int) from by omega]at E;refine RH 4 E I hH hC λa E=>?_;refine QH E (λw hc=>ae E (hc i _ (dQ aH))) hC λa E=>?_;refine RH 1 E I hH hC λa E=>?_;refine DN [(4,[1011,1012,13]),(11,[1004,1012,13])] (by kernel_rfl) rfl ⟨⟨_,rfl,?_⟩,⟨_,rfl,?_⟩,trivial⟩
  ·
   refine RH 0 E I hH hC λa E=>?_;refine aY 0 E I (sE (N:=((k-i:Nat):Int)) (I.pick (Sl 5 1 av dn.length c' (bc dn))) (by omega) (by omega) (by omega)) λcY dP a w E I=>?_;replace hC:=hH.at w ((hp _ I.sub).rd (by omega));refine RH 0 E I hH hC λa E=>?_;refine cr E rfl I underlying22 Ty.t5 rfl rfl rfl rfl (by decide) (by decide) λIg a w E I ho=>?_;clear ho;refine RN 0 E I λa E=>?_;refine cK E rfl I underlying22 Ty.t5 rfl rfl I.ai rfl (by simp[Value.oneCell']) (by decide) (by decide) (by rw[aL];omega) λx7 Ez a w E I=>?_;refine RN 1 E I λa E=>?_;rw[ui]at I;have m5:(dn++aP (zz ((k-i:Nat):Int))++[bs[i] ^^^ last])++dv (bs.drop k) bs[i]=dv bs 0:=by rw[← c6];simp
   rw[show (dn++aP (zz ((k-i:Nat):Int))).length+1=(dn++aP (zz ((k-i:Nat):Int))++[bs[i] ^^^ last]).length from by simp only[aL,jl]]at E I;generalize dn++aP (zz ((k-i:Nat):Int))++[bs[i] ^^^ last]=rj at E I m5;refine RN 4 E I λa E=>?_;refine SS E (ae E (((hp _ I.sub).rd (by omega)) i _ (dQ aH))) λa E=>?_;refine RN 3 E I λa E=>?_;exact⟨bs.length-k,by omega,k,_,x7,rj,bs[i],⟨rfl,by omega,m5⟩,E.ab [0,3,4,5],I.sub⟩
  refine RH 0 E I hH hC λa E=>?_;refine cr E rfl I underlying22 Ty.t5 rfl rfl rfl rfl (by decide) (by decide) λIg a w E I ho=>?_;clear ho;refine aY 0 E I (sE (N:=((k-i:Nat):Int)) (I.pick (Sl 5 1 av dn.length c' (bc dn))) (by omega) (by omega) (by omega)) λcY dP a w E I=>?_;replace hC:=hH.at w ((hp _ I.sub).rd (by omega));refine RH 0 E I hH hC λa E=>?_;refine cK E rfl I underlying22 Ty.t5 rfl rfl I.ai rfl (by simp[Value.oneCell']) (by decide) (by decide) (by rw[aL];omega) λx7 Ez a w E I=>?_;refine RN 1 E I λa E=>?_;rw[ui]at I;have m5:(dn++aP (zz ((k-i:Nat):Int))++[bs[i] ^^^ last])++dv (bs.drop k) bs[i]=dv bs 0:=by rw[← c6];simp
  rw[show (dn++aP (zz ((k-i:Nat):Int))).length+1=(dn++aP (zz ((k-i:Nat):Int))++[bs[i] ^^^ last]).length from by simp only[aL,jl]]at E I;generalize dn++aP (zz ((k-i:Nat):Int))++[bs[i] ^^^ last]=rj at E I m5;refine RN 4 E I λa E=>?_;refine SS E (ae E (((hp _ I.sub).rd (by omega)) i _ (dQ aH))) λa E=>?_;refine RN 3 E I λa E=>?_;exact⟨bs.length-k,by omega,k,_,x7,rj,bs[i],⟨rfl,by omega,m5⟩,E.ab [0,3,4,5],I.sub⟩
 rw[drop_eq_nil_of_le (by omega),vT,append_nil]at c6;refine RT 3 E I ?_;exact⟨_,_,by rw[← c6],by rw[← c6];exact I⟩
theorem XH (I:U W w L)(hb:bs.length≤65536)(hp:∀ w',U W w' L→aX w' ad bs.length bs) :
   Calls prog 159 #[.slice ad bs.length c] w λe w'=>∃ av c',e=.returned (.slice av (dv bs 0).length c')∧U W w' (Sl 5 1 av (dv bs 0).length c' (bc (dv bs 0))::L):=by
 have gl:=x5 bs 0;refine EN func159 ntmps159 rfl rfl λa E=>?_;refine RN 9 E I λa E=>?_;refine aO (λμ a w=>∃ (i c':Nat) (av:Option Addr) (dn:List UInt8) (last:UInt8),(μ=bs.length-i∧i≤bs.length∧dn++dv (bs.drop i) last=dv bs 0)∧Fr a 52 [(0,.slice ad bs.length c),(3,.slice av dn.length c'),(4,.int .u8 (last.toNat:Int)),(5,.int .i64 i)]∧U W w (Sl 5 1 av dn.length c' (bc dn)::L)) (bs.length) (⟨0,0,none,[],0,⟨rfl,by omega,rfl⟩,E.ab [0,3,4,5],I.bN 5 1 none⟩) ?_;clear E I;rintro μ a w ⟨i,c',av,dn,last,⟨rfl,hi,c6⟩,E,I⟩;refine IF 6 E I (λaj a E=>?_) λaj a E=>?_
 ·
  obtain⟨bb,oo,rfl,_⟩:=(hp _ I.tail).get (by omega);have aH:i<bs.length:=by omega
  have mn:dn.length≤11*bs.length:=by
   have:=congrArg List.length c6;rw[aL]at this;omega
  refine RN 3 E I λa E=>?_;refine aO (λμ a w=>∃ (k:Nat),(μ=bs.length-k∧k≤bs.length∧m4 bs i k)∧Fr a 52 [(0,.slice (some ⟨bb,oo,none⟩) bs.length c),(3,.slice av dn.length c'),(4,.int .u8 (last.toNat:Int)),(5,.int .i64 i),(6,.int .i64 ((k-i:Nat):Int))]∧U W w (Sl 5 1 av dn.length c' (bc dn)::L)) (bs.length-(i+1)) (⟨i+1,⟨rfl,by omega,m4.one aH⟩,by rw[show i+1-i=1 from by omega];exact E.ab [0,3,4,5,6],I⟩) ?_;clear E I;rintro μ a w ⟨k,⟨rfl,hk,kC⟩,E,I⟩;refine RN 1 E I λa E=>?_;refine cc (M:=λa w=>∃ z:Bool,(z=true→m4 bs i (k+1))∧(z=false→∀ he:k<bs.length,bs[k]≠bs[i])∧Fr a 52 [(0,.slice (some ⟨bb,oo,none⟩) bs.length c),(3,.slice av dn.length c'),(4,.int .u8 (last.toNat:Int)),(5,.int .i64 i),(6,.int .i64 ((k-i:Nat):Int)),(29,.bool z)]∧U W w (Sl 5 1 av dn.length c' (bc dn)::L)) ?_ ?_
  ·
   refine RN 0 E I λa E=>?_;have pn:=kC.lt;refine bQ 0 [16] [0,1,2,3,4,5,6,7,8,9,10,11,13,14,15,3012,1016,17,18] E I λa w E I hH hC=>?_;have hr:=(hp _ I.tail).rd (by omega);refine RH 3 E I hH hC λa E=>?_;rw[show ((i:Nat):Int)+((k-i:Nat):Int)=(k:Int) from by omega]at E;refine RH 4 E I hH hC λa E=>?_;refine E.by (s:=17) (λjX E=>?_) (λjX E=>?_)
   ·
    refine RH 4 E I hH hC λa E=>?_;rw[show ((i:Nat):Int)+((k-i:Nat):Int)=(k:Int) from by omega]at E;refine RH 4 E I hH hC λa E=>?_;refine QH E (λw hc=>ae E ((hc.rd hr) k _ (dQ (i:=k) (bs:=bs) (show k<bs.length by omega)))) hC λa E=>?_;refine RH 0 E I hH hC λa E=>?_;refine bo E (b7 E rfl (s:=17)) (ae E ((hC.rd hr) i _ (dQ aH))) rfl λa E=>?_;refine RH 2 E I hH hC λa E=>?_;have dM:k<bs.length:=by omega
    refine⟨_,λh=>?_,λh=>?_,E.ab [0,3,4,5,6,29],I⟩
    ·have he:bs[k]=bs[i]:=UInt8.toNat_inj.1 (by have:=of_decide_eq_true h;omega);exact kC.more dM he
    ·have he:bs[k]≠bs[i]:=λe=>of_decide_eq_false h (by rw[e]);exact λ_=>he
   refine RH 12 E I hH hC λa E=>?_;refine⟨_,λh=>(by cases h),λh=>?_,E.ab [0,3,4,5,6,29],I⟩;exact λ_=>absurd (show k<bs.length by assumption) (by omega)
  clear E;(try clear I);rintro a w ⟨z,cU,kB,E,I⟩;refine IF 0 E I (λao a E=>?_) λao a E=>?_
  ·
   have pC:=cU ao;refine RN 1 E I λa E=>?_;have pn:=kC.lt;have cd:((k-i:Nat):Int)≤65536:=by omega
   refine RN 1 E I λa E=>?_;rw[show ((k-i:Nat):Int)+1=((k+1-i:Nat):Int) from by omega]at E;refine RN 1 E I λa E=>?_;exact⟨bs.length-(k+1),by have:=pC.le;omega,k+1,⟨rfl,pC.le,pC⟩,E.ab [0,3,4,5,6],I⟩
  have bD:=kB ao;rw[kC.runs aH bD last]at c6;have dM:=kC.lt;have xG:=kC.le;refine aV 1 (λw0 w=>Rd w bb oo (bc bs)) [2,3] [0,1,4,5,6,8,3007,9,2002,2003,1010,1011,12] E I λa w E I hH=>?_;have hC:=(hp _ I.tail).rd (by omega);have eB:=ri (n:=((k-i:Nat):Int)) (by omega) (by omega);refine RH 6 E I hH hC λa E=>?_;refine QH E (λw hc=>ae E (hc i _ (dQ aH))) hC λa E=>?_;refine RH 1 E I hH hC λa E=>?_;refine DN [(2,[2003,1010,1011,12]),(10,[1002,1003,1011,12])] (by kernel_rfl) rfl ⟨⟨_,rfl,?_⟩,⟨_,rfl,?_⟩,trivial⟩
  ·
   refine RH 0 E I hH hC λa E=>?_;refine aY 0 E I (sR (N:=((k-i:Nat):Int)) I (by omega) (by omega)) λcY dP a w E I=>?_;replace hC:=hH.at w ((hp _ I.sub).rd (by omega));refine RH 0 E I hH hC λa E=>?_;refine DN [(3,[1010,1011,12]),(10,[1003,1011,12])] (by kernel_rfl) rfl ⟨⟨_,rfl,?_⟩,⟨_,rfl,?_⟩,trivial⟩
   ·
    obtain⟨bp,op,rfl,fb⟩:=(I.cu cY (aP (zz ((k-i:Nat):Int))) rfl rfl).get (q8 _);refine RH 0 E I hH hC λa E=>?_;refine cK E rfl I underlying22 Ty.t5 rfl rfl fb (by rw[dt,Nat.mul_one]) (eo _) (q8 _) (by decide) (by omega) λEA EB a w E I=>?_;replace hC:=hH.at w ((hp _ I.sub).rd (by omega));refine RH 0 E I hH hC λa E=>?_;refine cr E rfl I underlying22 Ty.t5 rfl rfl rfl rfl (by decide) (by decide) λKk a w E I ho=>?_;clear ho;refine RN 0 E I λa E=>?_;refine cK E rfl I underlying22 Ty.t5 rfl rfl I.ai rfl (by simp[Value.oneCell']) (by decide) (by decide) (by omega) λvW EC a w E I=>?_;refine RN 1 E I λa E=>?_;rw[← fG,ui]at I;have m5:(dn++aP (zz ((k-i:Nat):Int))++[bs[i] ^^^ last])++dv (bs.drop k) bs[i]=dv bs 0:=by rw[← c6];simp
    rw[show dn.length+(aP (zz ((k-i:Nat):Int))).length+1=(dn++aP (zz ((k-i:Nat):Int))++[bs[i] ^^^ last]).length from by simp only[aL,jl]]at E I;generalize dn++aP (zz ((k-i:Nat):Int))++[bs[i] ^^^ last]=rj at E I m5;refine RN 4 E I λa E=>?_;refine SS E (ae E (((hp _ I.sub).rd (by omega)) i _ (dQ aH))) λa E=>?_;refine RN 4 E I λa E=>?_;rw[show ((i:Nat):Int)+((k-i:Nat):Int)=(k:Int) from by omega]at E;refine RN 1 E I λa E=>?_;exact⟨bs.length-k,by omega,k,_,vW,rj,bs[i],⟨rfl,by omega,m5⟩,E.ab [0,3,4,5],I.sub⟩
   refine RH 0 E I hH hC λa E=>?_;refine cr E rfl I underlying22 Ty.t5 rfl rfl rfl rfl (by decide) (by decide) λKk a w E I ho=>?_;clear ho;obtain⟨bp,op,rfl,fb⟩:=(I.cu cY (aP (zz ((k-i:Nat):Int))) rfl rfl).get (q8 _);refine RN 0 E I λa E=>?_;refine cK E rfl I underlying22 Ty.t5 rfl rfl fb (by rw[dt,Nat.mul_one]) (eo _) (q8 _) (by decide) (by omega) λEA EB a w E I=>?_;replace hC:=hH.at w ((hp _ I.sub).rd (by omega));refine RH 0 E I hH hC λa E=>?_;refine cK E rfl I underlying22 Ty.t5 rfl rfl I.ai rfl (by simp[Value.oneCell']) (by decide) (by decide) (by omega) λvW EC a w E I=>?_;refine RN 1 E I λa E=>?_;rw[← fG,ui]at I;have m5:(dn++aP (zz ((k-i:Nat):Int))++[bs[i] ^^^ last])++dv (bs.drop k) bs[i]=dv bs 0:=by rw[← c6];simp
   rw[show dn.length+(aP (zz ((k-i:Nat):Int))).length+1=(dn++aP (zz ((k-i:Nat):Int))++[bs[i] ^^^ last]).length from by simp only[aL,jl]]at E I;generalize dn++aP (zz ((k-i:Nat):Int))++[bs[i] ^^^ last]=rj at E I m5;refine RN 4 E I λa E=>?_;refine SS E (ae E (((hp _ I.sub).rd (by omega)) i _ (dQ aH))) λa E=>?_;refine RN 4 E I λa E=>?_;rw[show ((i:Nat):Int)+((k-i:Nat):Int)=(k:Int) from by omega]at E;refine RN 1 E I λa E=>?_;exact⟨bs.length-k,by omega,k,_,vW,rj,bs[i],⟨rfl,by omega,m5⟩,E.ab [0,3,4,5],I.sub⟩
  refine RH 0 E I hH hC λa E=>?_;refine cr E rfl I underlying22 Ty.t5 rfl rfl rfl rfl (by decide) (by decide) λKk a w E I ho=>?_;clear ho;refine aY 0 E I (sR (N:=((k-i:Nat):Int)) I (by omega) (by omega)) λcY dP a w E I=>?_;replace hC:=hH.at w ((hp _ I.sub).rd (by omega));obtain⟨bp,op,rfl,fb⟩:=(I.cu cY (aP (zz ((k-i:Nat):Int))) rfl rfl).get (q8 _);refine RH 0 E I hH hC λa E=>?_;refine cK E rfl I underlying22 Ty.t5 rfl rfl fb (by rw[dt,Nat.mul_one]) (eo _) (q8 _) (by decide) (by omega) λEA EB a w E I=>?_;replace hC:=hH.at w ((hp _ I.sub).rd (by omega));refine RH 0 E I hH hC λa E=>?_;refine cK E rfl I underlying22 Ty.t5 rfl rfl I.ai rfl (by simp[Value.oneCell']) (by decide) (by decide) (by omega) λvW EC a w E I=>?_;refine RN 1 E I λa E=>?_;rw[← fG,ui]at I;have m5:(dn++aP (zz ((k-i:Nat):Int))++[bs[i] ^^^ last])++dv (bs.drop k) bs[i]=dv bs 0:=by rw[← c6];simp
  rw[show dn.length+(aP (zz ((k-i:Nat):Int))).length+1=(dn++aP (zz ((k-i:Nat):Int))++[bs[i] ^^^ last]).length from by simp only[aL,jl]]at E I;generalize dn++aP (zz ((k-i:Nat):Int))++[bs[i] ^^^ last]=rj at E I m5;refine RN 4 E I λa E=>?_;refine SS E (ae E (((hp _ I.sub).rd (by omega)) i _ (dQ aH))) λa E=>?_;refine RN 4 E I λa E=>?_;rw[show ((i:Nat):Int)+((k-i:Nat):Int)=(k:Int) from by omega]at E;refine RN 1 E I λa E=>?_;exact⟨bs.length-k,by omega,k,_,vW,rj,bs[i],⟨rfl,by omega,m5⟩,E.ab [0,3,4,5],I.sub⟩
 rw[drop_eq_nil_of_le (by omega),vT,append_nil]at c6;refine RT 3 E I ?_;exact⟨_,_,by rw[← c6],by rw[← c6];exact I⟩
theorem XI (I:U W w L)(hb:bs.length≤65536)(hc:bs.length≤c)(hm:m≤1000000)(hp:∀ w',U W w' L→aX w' ad bs.length bs) :
   Calls prog 333 #[.slice ad bs.length c,.int .i64 m] w λe w'=>∃ (out:List UInt8) (av:Option Addr) (c':Nat) (er:Int),e=.returned (.tuple #[.slice av out.length c',.int .i64 er])∧sS bs m out er∧U W w' (Sl 5 1 av out.length c' (bc out)::L):=by
 refine EN func333 ntmps333 rfl rfl λa E=>?_;refine RN 10 E I λa E=>?_;refine aO (λμ a w=>∃ (i c':Nat) (av:Option Addr) (dn:List UInt8) (last:UInt8),(μ=bs.length-i∧i≤bs.length∧dn.length≤m∧(0<i→dn≠[])∧∀ p:List UInt8,p.length≤m→bs=dv p 0→my p dn last (bs.drop i))∧Fr a 79 [(0,.slice ad bs.length c),(1,.int .i64 m),(6,.slice av dn.length c'),(7,.int .u8 (last.toNat:Int)),(8,.int .i64 i)]∧U W w (Sl 5 1 av dn.length c' (bc dn)::L)) (bs.length) (⟨0,0,none,[],0,⟨rfl,by omega,by simp,by omega,λp _ e=>by rw[drop_zero,e];exact my.start p⟩,E.ab [0,1,6,7,8],I.bN 5 1 none⟩) ?_;clear E I;rintro μ a w ⟨i,c',av,dn,last,⟨rfl,hi,ED,EE,mZ⟩,E,I⟩;refine IF 6 E I (λaj a E=>?_) λaj a E=>?_
 ·
  obtain⟨bb,oo,rfl,_⟩:=(hp _ I.tail).get (by omega);have aH:i<bs.length:=by omega
  have bD:bs.drop i≠[]:=λe=>by have:=congrArg List.length e;simp at this;omega
  refine RN 4 E I λa E=>?_;rw[show bs.length-i=(bs.drop i).length from by simp]at E;refine jO 0 E I (Kh (bs:=bs.drop i) I (by simp;omega) (λw' hw=>(hp w' hw.tail).ue hi hc)) λx k er a w E ⟨hg,I⟩=>?_;refine RN 8 E I λa E=>?_;refine cc (M:=λa w=>∃ z:Bool,(z=true↔(er≠0∨x<1∨bs.length≤i+k∨((bs.getD (i+k) 0).toNat=0∧0<i)))∧Fr a 79 [(0,.slice (some ⟨bb,oo,none⟩) bs.length c),(1,.int .i64 m),(6,.slice av dn.length c'),(7,.int .u8 (last.toNat:Int)),(8,.int .i64 i),(9,.int .i64 x),(10,.int .i64 k),(50,.bool z)]∧U W w (Sl 5 1 av dn.length c' (bc dn)::L)) ?_ ?_
  ·
   have mn:(bs.drop i).length=bs.length-i:=by simp
   have pD:=hg.2.2.1;have nt:=hg.2.1;have ou:=hg.1;have dM:k≤bs.length:=by
    by_cases h0:er=0
    ·have:=pD h0;omega
    ·have:=(hg.2.2.2.1 h0).1;omega
   refine BY 3 E I (λbA a E=>?_) λbA a E=>?_
   ·
    refine RN 24 E I λa E=>?_;exact⟨_,by first | (rw[ct];omega) | exact⟨λh=>(by cases h),λh=>absurd h (by omega)⟩ | exact⟨λ_=>by omega,λ_=>rfl⟩,E.ab [0,1,6,7,8,9,10,50],I⟩
   refine BY 4 E I (λjX a E=>?_) λjX a E=>?_
   ·
    refine RN 20 E I λa E=>?_;exact⟨_,by first | (rw[ct];omega) | exact⟨λh=>(by cases h),λh=>absurd h (by omega)⟩ | exact⟨λ_=>by omega,λ_=>rfl⟩,E.ab [0,1,6,7,8,9,10,50],I⟩
   refine BY 8 E I (λkP a E=>?_) λkP a E=>?_
   ·
    refine RN 12 E I λa E=>?_;exact⟨_,by first | (rw[ct];omega) | exact⟨λh=>(by cases h),λh=>absurd h (by omega)⟩ | exact⟨λ_=>by omega,λ_=>rfl⟩,E.ab [0,1,6,7,8,9,10,50],I⟩
   refine RN 4 E I λa E=>?_;rw[show ((i:Nat):Int)+((k:Nat):Int)=((i+k:Nat):Int) from by omega]at E;refine RN 1 E I λa E=>?_;refine bo E (b7 E rfl (s:=38)) (ae E (((hp _ I.tail).rd (by omega)) (i+k) _ (kX (by omega)))) rfl λa E=>?_;refine BY 2 E I (λpE a E=>?_) λpE a E=>?_
   ·
    refine RN 4 E I λa E=>?_;exact⟨_,by first | (rw[ct];omega) | exact⟨λh=>(by cases h),λh=>absurd h (by omega)⟩ | exact⟨λ_=>by omega,λ_=>rfl⟩,E.ab [0,1,6,7,8,9,10,50],I⟩
   refine RN 4 E I λa E=>?_;exact⟨_,by first | (rw[ct];omega) | exact⟨λh=>(by cases h),λh=>absurd h (by omega)⟩ | exact⟨λ_=>by omega,λ_=>rfl⟩,E.ab [0,1,6,7,8,9,10,50],I⟩
  clear E;(try clear I);rintro a w ⟨z,hz,E,I⟩;refine IF 0 E I (λao a E=>?_) λao a E=>?_
  ·
   have jW:=hz.1 ao;refine RT 3 E I ?_;exact⟨[],none,0,1,rfl,sS.bad mZ hm bD hg (by rw[Kj,c3];rcases jW with h | h | h | h;exact .inl h;exact .inr (.inl h);exact .inr (.inr (.inl (by omega)));exact .inr (.inr (.inr (.inl ⟨EE h.2,h.1⟩)))) (.inl rfl),I.tail.bN _ _ _⟩
  have D2:¬ (er≠0∨x<1∨bs.length≤i+k∨((bs.getD (i+k) 0).toNat=0∧0<i)):=λh=>absurd (hz.2 h) (by simp[ao]);refine IF 9 E I (λay a E=>?_) λay a E=>?_
  ·
   refine RT 3 E I ?_;exact⟨[],none,0,4,rfl,sS.bad mZ hm bD hg (.inr (.inr (.inr (.inr (by omega))))) (.inr rfl),I.tail.bN _ _ _⟩
  refine RN 6 E I λa E=>?_;rw[show ((i:Nat):Int)+((k:Nat):Int)=((i+k:Nat):Int) from by omega]at E;refine RN 1 E I λa E=>?_;refine SS E (ae E (((hp _ I.tail).rd (by omega)) (i+k) _ (kX (by omega)))) λa E=>?_;refine RN 2 E I λa E=>?_;generalize hy:last ^^^ bs.getD (i+k) 0=y at E;refine RN 4 E I λa E=>?_;refine aO (λμ a w=>∃ (j c2:Nat) (ad2:Option Addr),(μ=x.toNat-j∧j≤x.toNat)∧Fr a 79 [(0,.slice (some ⟨bb,oo,none⟩) bs.length c),(1,.int .i64 m),(6,.slice ad2 (dn++List.replicate j y).length c2),(7,.int .u8 (y.toNat:Int)),(8,.int .i64 i),(10,.int .i64 k),(66,.int .i64 x),(67,.int .i64 j)]∧U W w (Sl 5 1 ad2 (dn++List.replicate j y).length c2 (bc (dn++List.replicate j y))::L)) (x.toNat) (⟨0,c',av,⟨rfl,by omega⟩,by rw[List.replicate_zero,append_nil];exact E.ab [0,1,6,7,8,10,66,67],by rw[List.replicate_zero,append_nil];exact I⟩) ?_;clear E I;rintro μ a w ⟨j,c2,ad2,⟨rfl,hj⟩,E,I⟩;refine IF 3 E I (λbk a E=>?_) λbk a E=>?_
  ·
   refine RN 1 E I λa E=>?_;have ei:(dn++List.replicate j y).length=dn.length+j:=by simp
   refine RN 2 E I λa E=>?_;refine cr E rfl I underlying22 Ty.t5 rfl rfl rfl rfl (by decide) (by decide) λXJ a w E I ho=>?_;clear ho;refine RN 0 E I λa E=>?_;refine cK E rfl I underlying22 Ty.t5 rfl rfl I.ai rfl (by simp[Value.oneCell']) (by decide) (by decide) (by omega) λKl Km a w E I=>?_;refine RN 1 E I λa E=>?_;rw[ui,show (dn++List.replicate j y)++[y]=dn++List.replicate (j+1) y from by rw[ds,← replicate_succ']]at I;rw[show (dn++List.replicate j y).length+1=(dn++List.replicate (j+1) y).length from by simp;omega]at E I;refine RN 2 E I λa E=>?_;exact⟨x.toNat-(j+1),by omega,j+1,_,_,⟨rfl,by omega⟩,E.ab [0,1,6,7,8,10,66,67],I.sub⟩
  obtain rfl:j=x.toNat:=by omega
  refine RN 0 E I λa E=>?_;have mX:(dn++List.replicate x.toNat y).length=dn.length+x.toNat:=by simp
  refine RN 4 E I λa E=>?_;rw[show ((i:Nat):Int)+(((k:Nat):Int)+1)=((i+k+1:Nat):Int) from by omega]at E;refine RN 1 E I λa E=>?_;exact⟨bs.length-(i+k+1),by omega,i+k+1,_,_,_,y,⟨rfl,by omega,by omega,λ_ e=>(by rw[e]at mX;simp at mX;omega),λp uj e=>(by
   have h2:=((mZ p uj e).get (by omega) bD hg).2.2.2.2.2;rw[Kj,hy,drop_drop]at h2;exact h2)⟩,E.ab [0,1,6,7,8],I⟩
 refine RT 4 E I ?_;exact⟨dn,_,_,0,rfl,⟨by omega,ED,λp uj e=>⟨by have h2:=mZ p uj e;rw[drop_eq_nil_of_le (by omega)]at h2;exact h2.done.symm,rfl⟩⟩,I⟩
theorem XK (I:U W w L)(hb:bs.length≤65536)(hc:bs.length≤c)(hm:m≤1000000)(hp:∀ w',U W w' L→aX w' ad bs.length bs) :
   Calls prog 216 #[.slice ad bs.length c,.int .i64 m] w λe w'=>∃ (out:List UInt8) (av:Option Addr) (c':Nat) (er:Int),e=.returned (.tuple #[.slice av out.length c',.int .i64 er])∧sS bs m out er∧U W w' (Sl 5 1 av out.length c' (bc out)::L):=by
 refine EN func216 ntmps216 rfl rfl λa E=>?_;refine RN 10 E I λa E=>?_;refine aO (λμ a w=>∃ (i c' oz:Nat) (av rk:Option Addr) (dn rest:List UInt8) (last:UInt8) (fi:Bool),(μ=rest.length∧rest.length≤bs.length∧rest.length≤oz∧dn.length≤m∧(fi=false→dn≠[])∧(∀ w',U W w' L→aX w' rk rest.length rest)∧∀ p:List UInt8,p.length≤m→bs=dv p 0→my p dn last rest)∧Fr a 72 [(0,.slice rk rest.length oz),(1,.int .i64 m),(6,.slice av dn.length c'),(7,.int .u8 (last.toNat:Int)),(8,.bool fi)]∧U W w (Sl 5 1 av dn.length c' (bc dn)::L)) (bs.length) (⟨0,0,c,none,ad,[],bs,0,true,⟨rfl,by omega,hc,by simp,(by simp),hp,λp _ e=>by rw[e];exact my.start p⟩,E.ab [0,1,6,7,8],I.bN 5 1 none⟩) ?_;clear E I;rintro μ a w ⟨i,c',oz,av,rk,dn,rest,last,fi,⟨rfl,As,jF,ED,EE,a6,mZ⟩,E,I⟩;refine IF 5 E I (λaj a E=>?_) λaj a E=>?_
 ·
  obtain⟨bb,oo,rfl,_⟩:=(a6 _ I.tail).get (by omega);have bD:rest≠[]:=λe=>by rw[e]at aj;simp at aj
  refine jO 3 E I (Ew (bs:=rest) I (by omega) (λw' hw=>a6 w' hw.tail)) λx k er a w E ⟨hg,I⟩=>?_;refine RN 8 E I λa E=>?_;refine cc (M:=λa w=>∃ z:Bool,(z=true↔(er≠0∨x<1∨rest.length≤k∨((rest.getD k 0).toNat=0∧fi=false)))∧Fr a 72 [(0,.slice (some ⟨bb,oo,none⟩) rest.length oz),(1,.int .i64 m),(6,.slice av dn.length c'),(7,.int .u8 (last.toNat:Int)),(8,.bool fi),(9,.int .i64 x),(10,.int .i64 k),(44,.bool z)]∧U W w (Sl 5 1 av dn.length c' (bc dn)::L)) ?_ ?_
  ·
   have pD:=hg.2.2.1;have nt:=hg.2.1;have ou:=hg.1;have dM:k≤rest.length:=by
    by_cases h0:er=0
    ·have:=pD h0;omega
    ·have:=(hg.2.2.2.1 h0).1;omega
   refine BY 3 E I (λbA a E=>?_) λbA a E=>?_
   ·
    refine RN 20 E I λa E=>?_;exact⟨_,by first | (rw[ct];omega) | exact⟨λh=>(by cases h),λh=>absurd h (by omega)⟩ | exact⟨λ_=>by omega,λ_=>rfl⟩ | (cases fi;exact⟨λ_=>.inr (.inr (.inr ⟨by omega,rfl⟩)),λ_=>rfl⟩;exact⟨λh=>(by cases h),λh=>by rcases h with h | h | h | h;exact absurd h (by omega);exact absurd h (by omega);exact absurd h (by omega);exact absurd h.2 (by decide)⟩),E.ab [0,1,6,7,8,9,10,44],I⟩
   refine BY 4 E I (λjX a E=>?_) λjX a E=>?_
   ·
    refine RN 16 E I λa E=>?_;exact⟨_,by first | (rw[ct];omega) | exact⟨λh=>(by cases h),λh=>absurd h (by omega)⟩ | exact⟨λ_=>by omega,λ_=>rfl⟩ | (cases fi;exact⟨λ_=>.inr (.inr (.inr ⟨by omega,rfl⟩)),λ_=>rfl⟩;exact⟨λh=>(by cases h),λh=>by rcases h with h | h | h | h;exact absurd h (by omega);exact absurd h (by omega);exact absurd h (by omega);exact absurd h.2 (by decide)⟩),E.ab [0,1,6,7,8,9,10,44],I⟩
   refine BY 6 E I (λhY a E=>?_) λhY a E=>?_
   ·
    refine RN 10 E I λa E=>?_;exact⟨_,by first | (rw[ct];omega) | exact⟨λh=>(by cases h),λh=>absurd h (by omega)⟩ | exact⟨λ_=>by omega,λ_=>rfl⟩ | (cases fi;exact⟨λ_=>.inr (.inr (.inr ⟨by omega,rfl⟩)),λ_=>rfl⟩;exact⟨λh=>(by cases h),λh=>by rcases h with h | h | h | h;exact absurd h (by omega);exact absurd h (by omega);exact absurd h (by omega);exact absurd h.2 (by decide)⟩),E.ab [0,1,6,7,8,9,10,44],I⟩
   refine RN 3 E I λa E=>?_;refine bo E (b7 E rfl (s:=34)) (ae E (((a6 _ I.tail).rd (by omega)) k _ (kX (by omega)))) rfl λa E=>?_;refine BY 2 E I (λtR a E=>?_) λtR a E=>?_
   ·
    refine RN 4 E I λa E=>?_;exact⟨_,by first | (rw[ct];omega) | exact⟨λh=>(by cases h),λh=>absurd h (by omega)⟩ | exact⟨λ_=>by omega,λ_=>rfl⟩ | (cases fi;exact⟨λ_=>.inr (.inr (.inr ⟨by omega,rfl⟩)),λ_=>rfl⟩;exact⟨λh=>(by cases h),λh=>by rcases h with h | h | h | h;exact absurd h (by omega);exact absurd h (by omega);exact absurd h (by omega);exact absurd h.2 (by decide)⟩),E.ab [0,1,6,7,8,9,10,44],I⟩
   refine RN 4 E I λa E=>?_;exact⟨_,by first | (rw[ct];omega) | exact⟨λh=>(by cases h),λh=>absurd h (by omega)⟩ | exact⟨λ_=>by omega,λ_=>rfl⟩ | (cases fi;exact⟨λ_=>.inr (.inr (.inr ⟨by omega,rfl⟩)),λ_=>rfl⟩;exact⟨λh=>(by cases h),λh=>by rcases h with h | h | h | h;exact absurd h (by omega);exact absurd h (by omega);exact absurd h (by omega);exact absurd h.2 (by decide)⟩),E.ab [0,1,6,7,8,9,10,44],I⟩
  clear E;(try clear I);rintro a w ⟨z,hz,E,I⟩;refine IF 0 E I (λao a E=>?_) λao a E=>?_
  ·
   have jW:=hz.1 ao;refine RT 3 E I ?_;exact⟨[],none,0,1,rfl,sS.bad mZ hm bD hg (by rcases jW with h | h | h | h;exact .inl h;exact .inr (.inl h);exact .inr (.inr (.inl (by omega)));exact .inr (.inr (.inr (.inl ⟨EE h.2,h.1⟩)))) (.inl rfl),I.tail.bN _ _ _⟩
  have D2:¬ (er≠0∨x<1∨rest.length≤k∨((rest.getD k 0).toNat=0∧fi=false)):=λh=>absurd (hz.2 h) (by simp[ao]);refine IF 9 E I (λay a E=>?_) λay a E=>?_
  ·
   refine RT 3 E I ?_;exact⟨[],none,0,4,rfl,sS.bad mZ hm bD hg (.inr (.inr (.inr (.inr (by omega))))) (.inr rfl),I.tail.bN _ _ _⟩
  refine RN 5 E I λa E=>?_;refine SS E (ae E (((a6 _ I.tail).rd (by omega)) k _ (kX (by omega)))) λa E=>?_;refine RN 2 E I λa E=>?_;generalize hy:last ^^^ rest.getD k 0=y at E;refine RN 3 E I λa E=>?_;refine aO (λμ a w=>∃ (j c2:Nat) (ad2:Option Addr),(μ=x.toNat-j∧j≤x.toNat)∧Fr a 72 [(0,.slice (some ⟨bb,oo,none⟩) rest.length oz),(1,.int .i64 m),(6,.slice ad2 (dn++List.replicate j y).length c2),(7,.int .u8 (y.toNat:Int)),(8,.bool fi),(9,.int .i64 x),(10,.int .i64 k),(12,.int .i64 j)]∧U W w (Sl 5 1 ad2 (dn++List.replicate j y).length c2 (bc (dn++List.replicate j y))::L)) (x.toNat) (⟨0,c',av,⟨rfl,by omega⟩,by rw[List.replicate_zero,append_nil];exact E.ab [0,1,6,7,8,9,10,12],by rw[List.replicate_zero,append_nil];exact I⟩) ?_;clear E I;rintro μ a w ⟨j,c2,ad2,⟨rfl,hj⟩,E,I⟩;refine IF 5 E I (λbk a E=>?_) λbk a E=>?_
  ·
   refine RN 1 E I λa E=>?_;have ei:(dn++List.replicate j y).length=dn.length+j:=by simp
   refine RN 2 E I λa E=>?_;refine cr E rfl I underlying22 Ty.t5 rfl rfl rfl rfl (by decide) (by decide) λQ4 a w E I ho=>?_;clear ho;refine RN 0 E I λa E=>?_;refine cK E rfl I underlying22 Ty.t5 rfl rfl I.ai rfl (by simp[Value.oneCell']) (by decide) (by decide) (by omega) λae5 c66 a w E I=>?_;refine RN 1 E I λa E=>?_;rw[ui,show (dn++List.replicate j y)++[y]=dn++List.replicate (j+1) y from by rw[ds,← replicate_succ']]at I;rw[show (dn++List.replicate j y).length+1=(dn++List.replicate (j+1) y).length from by simp;omega]at E I;refine RN 3 E I λa E=>?_;exact⟨x.toNat-(j+1),by omega,j+1,_,_,⟨rfl,by omega⟩,E.ab [0,1,6,7,8,9,10,12],I.sub⟩
  obtain rfl:j=x.toNat:=by omega
  refine RN 0 E I λa E=>?_;have mX:(dn++List.replicate x.toNat y).length=dn.length+x.toNat:=by simp
  refine RN 5 E I λa E=>?_;rw[show rest.length-(k+1)=(rest.drop (k+1)).length from by simp]at E;refine RN 1 E I λa E=>?_;exact⟨(rest.drop (k+1)).length,by simp;omega,0,_,_,_,_,_,rest.drop (k+1),y,false,⟨rfl,by simp;omega,by simp;omega,by omega,λ_ e=>(by rw[e]at mX;simp at mX;omega),λw' hw=>(a6 w' hw).ue (by omega) jF,λp uj e=>(by
   have h2:=((mZ p uj e).get (by omega) bD hg).2.2.2.2.2;rw[hy]at h2;exact h2)⟩,E.ab [0,1,6,7,8],I⟩
 refine RT 4 E I ?_;have Au:rest=[]:=gW (by omega);exact⟨dn,_,_,0,rfl,⟨by omega,ED,λp uj e=>⟨by have h2:=mZ p uj e;rw[Au]at h2;exact h2.done.symm,rfl⟩⟩,I⟩
end
end
section
abbrev dJ (p:Pk)(ad:Option Addr)(c:Nat):List Value:=[.int .i64 p.kind,.int .i64 p.aW,.int .i64 p.to,.int .i64 p.id,.int .i64 p.first,.slice ad p.al.length c,.int .i64 p.c7,.int .i64 p.frame,.int .u32 p.sum]
def pF (m:Int)(ns:List Int):Prop:=∀ n∈ns,0≤n∧n≤m
def EF (ns:List Int):List Value:=ns.map λn=>.int .i64 n
theorem XL {ns:List Int}{i:Nat}(h:i<ns.length):(EF ns)[i]?=some (.int .i64 ns[i]):=by simp[EF,h]
def iE (p:Pk):Prop:=(0≤p.aW∧p.aW≤7)∧(0≤p.to∧p.to≤7)∧p.aW≠p.to∧(0≤p.id∧p.id≤1099511627776)
theorem EG {p:Pk}(h:iE p)(hk:p.kind=1):hL p↔(pF 1000 [p.first,p.c7,p.frame]∧p.al.length≤32):=by
 unfold iE at h;simp only[hL,pF,eG,forall_mem_cons,not_mem_nil,false_implies,implies_true,and_true];omega
theorem EH {p:Pk}(h:iE p)(hk:p.kind=2):hL p↔(pF 0 [p.first,p.c7,p.frame,(p.al.length:Int)]∧p.sum=0):=by
 unfold iE at h;simp only[hL,pF,eG,forall_mem_cons,not_mem_nil,false_implies,implies_true,and_true];omega
theorem Av {p:Pk}(h:hL p):iE p:=⟨h.1,h.2.1,h.2.2.1,h.2.2.2.1⟩
theorem x8 {p:Pk}(h:hL p):p.kind=1∨p.kind=2:=by
 rcases h.2.2.2.2 with h | h
 ·exact .inl h.1
 ·exact .inr h.1
section
variable {W w:World}{L:List SP}{n c:Nat}{ad:Option Addr}{p:Pk}
theorem EI {ns:List Int}{b:Nat}{M:Int}(I:U W w L)(hb:ns.length≤1000)(hp:∀ w',U W w' L→Rd w' b 0 (EF ns)) :
   Calls prog 342 #[.int .i64 M,.slice (some ⟨b,0,none⟩) ns.length ns.length] w λe w'=>∃ r:Bool,e=.returned (.bool r)∧(r=true↔pF M ns)∧U W w' L:=by
 refine EN func342 ntmps342 rfl rfl λa E=>?_;refine RN 7 E I λa E=>?_;refine aO (λμ a w=>∃ (i:Nat),(μ=ns.length-i∧i≤ns.length∧pF M (ns.take i))∧Fr a 21 [(0,.int .i64 M),(7,.slice (some ⟨b,0,none⟩) ns.length ns.length),(8,.int .i64 ns.length),(9,.int .i64 i)]∧U W w L) (ns.length) (⟨0,⟨rfl,by omega,λn h=>by simp at h⟩,E.ab [0,7,8,9],I⟩) ?_;clear E I;rintro μ a w ⟨i,⟨rfl,hi,cC⟩,E,I⟩;refine IF 3 E I (λaj a E=>?_) λaj a E=>?_
 ·
  have aH:i<ns.length:=by omega
  refine RN 3 E I λa E=>?_;refine SS E (ae E (by have:=hp _ I i _ (XL aH);rwa [Nat.zero_add]at this)) λa E=>?_;refine RN 1 E I λa E=>?_;refine cc (M:=λa w=>∃ z:Bool,(z=true↔¬ (0≤ns[i]∧ns[i]≤M))∧Fr a 21 [(0,.int .i64 M),(7,.slice (some ⟨b,0,none⟩) ns.length ns.length),(8,.int .i64 ns.length),(9,.int .i64 i),(19,.bool z)]∧U W w L) ?_ ?_
  ·
   refine BY 3 E I (λbA a E=>?_) λbA a E=>?_
   ·
    refine RN 4 E I λa E=>?_;exact⟨_,by first | (rw[ct];omega) | exact⟨λh=>(by cases h),λh=>absurd h (by omega)⟩ | exact⟨λ_=>by omega,λ_=>rfl⟩,E.ab [0,7,8,9,19],I⟩
   refine RN 4 E I λa E=>?_;exact⟨_,by first | (rw[ct];omega) | exact⟨λh=>(by cases h),λh=>absurd h (by omega)⟩ | exact⟨λ_=>by omega,λ_=>rfl⟩,E.ab [0,7,8,9,19],I⟩
  clear E;(try clear I);rintro a w ⟨z,hz,E,I⟩;refine IF 0 E I (λao a E=>?_) λao a E=>?_
  ·
   refine RT 2 E I ?_;exact⟨_,rfl,⟨λh=>(by cases h),λh=>absurd (h _ (getElem_mem aH)) (hz.1 ao)⟩,I⟩
  refine RN 2 E I λa E=>?_;exact⟨ns.length-(i+1),by omega,i+1,⟨rfl,by omega,λn hn=>by
   rw[jd aH,eP,mem_singleton]at hn;rcases hn with hn | rfl
   ·exact cC n hn
   ·exact Classical.byContradiction λh=>by have:=hz.2 h;rw[ao]at this;cases this⟩,E.ab [0,7,8,9],I⟩
 refine RT 2 E I ?_;rw[fX (by omega)]at cC;exact⟨_,rfl,⟨λ_=>cC,λ_=>rfl⟩,I⟩
theorem Kn {M a b:Int}:pF M [a,b]↔(0≤a∧a≤M)∧(0≤b∧b≤M):=by simp[pF]
theorem XM {M a b c:Int}:pF M [a,b,c]↔(0≤a∧a≤M)∧(0≤b∧b≤M)∧(0≤c∧c≤M):=by simp[pF]
theorem XN (I:U W w L):Calls prog 336 #[.agg (dJ p ad c).toArray] w λe w'=>∃ r:Bool,e=.returned (.bool r)∧(r=true↔hL p)∧U W w' L:=by
 have rl:=I;refine EN func336 ntmps336 rfl rfl λa E=>?_;refine BX 1 E I λb1 a w E I=>?_;refine RN 2 E I λa E=>?_;refine cc (M:=λa w=>∃ (z:Bool) (b1:Nat),(z=true↔¬ iE p)∧Fr a 63 [(1,pt b1),(26,.bool z)]∧U W w (aa b1 203 (dJ p ad c)::L)) ?_ ?_
 ·
  refine RN 4 E I λa E=>?_;refine cr E rfl I underlying53 Ty.t3 rfl rfl rfl rfl (by decide) (by decide) λdm a w E I ho=>?_;clear ho;refine bh 0 E I (EI (ns:=[p.aW,p.to]) I (by simp) (λw' hw=>hw.ai)) λr1 a w E ⟨e9,I⟩=>?_;refine BY 2 E I (λjE a E=>?_) λjE a E=>?_
  ·
   have hh:¬ iE p:=λh=>by
    have:=e9.2 (Kn.2 ⟨h.1,h.2.1⟩);rw[jE]at this;cases this
   refine RN 16 E I λa E=>?_;exact⟨_,_,⟨λ_=>hh,λ_=>rfl⟩,E.ab [1,26],I.sub⟩
  have hh:=Kn.1 (e9.1 jE);refine BY 7 E I (λkP a E=>?_) λkP a E=>?_
  ·
   refine RN 9 E I λa E=>?_;exact⟨_,_,by unfold iE;first | (rw[ct];omega) | exact⟨λh=>(by cases h),λh=>absurd h (by omega)⟩ | exact⟨λ_=>by omega,λ_=>rfl⟩,E.ab [1,26],I.sub⟩
  refine BY 5 E I (λpG a E=>?_) λpG a E=>?_
  ·
   refine RN 4 E I λa E=>?_;exact⟨_,_,by unfold iE;first | (rw[ct];omega) | exact⟨λh=>(by cases h),λh=>absurd h (by omega)⟩ | exact⟨λ_=>by omega,λ_=>rfl⟩,E.ab [1,26],I.sub⟩
  refine RN 4 E I λa E=>?_;exact⟨_,_,by unfold iE;first | (rw[ct];omega) | exact⟨λh=>(by cases h),λh=>absurd h (by omega)⟩ | exact⟨λ_=>by omega,λ_=>rfl⟩,E.ab [1,26],I.sub⟩
 clear E;(try clear I);rintro a w ⟨z,b1,hz,E,I⟩;refine IF 0 E I (λaj a E=>?_) λaj a E=>?_
 ·
  have hn:=hz.1 aj;refine RT 2 E I ?_;exact⟨_,rfl,⟨λh=>(by cases h),λh=>absurd (Av h) hn⟩,I.sub⟩
 have hh:iE p:=Classical.byContradiction λh=>by have:=hz.2 h;rw[aj]at this;cases this
 refine IF 7 E I (λao a E=>?_) λao a E=>?_
 ·
  have gZ:p.kind=1:=ao;refine RN 7 E I λa E=>?_;refine cr E rfl I underlying53 Ty.t3 rfl rfl rfl rfl (by decide) (by decide) λU6 a w E I ho=>?_;clear ho;refine bh 0 E I (EI (ns:=[p.first,p.c7,p.frame]) I (by simp) (λw' hw=>hw.ai)) λae6 a w E ⟨sT,I⟩=>?_;refine BY 1 E I (λfa a E=>?_) λfa a E=>?_
  ·
   refine RT 6 E I ?_;refine⟨_,rfl,?_,I.sub⟩;rw[EG hh gZ,ct];exact⟨λh=>⟨sT.1 fa,by omega⟩,λh=>by omega⟩
  refine RT 6 E I ?_;exact⟨_,rfl,⟨λh=>(by cases h),λh=>by have:=sT.2 ((EG hh gZ).1 h).1;rw[fa]at this;cases this⟩,I.sub⟩
 refine IF 3 E I (λay a E=>?_) λay a E=>?_
 ·
  have cd:p.kind=2:=ay;refine RN 10 E I λa E=>?_;refine cr E rfl I underlying53 Ty.t3 rfl rfl rfl rfl (by decide) (by decide) λXO a w E I ho=>?_;clear ho;refine bh 0 E I (EI (ns:=[p.first,p.c7,p.frame,(p.al.length:Int)]) I (by simp) (λw' hw=>hw.ai)) λae7 a w E ⟨vX,I⟩=>?_;refine BY 1 E I (λkQ a E=>?_) λkQ a E=>?_
  ·
   refine RT 5 E I ?_;refine⟨_,rfl,?_,I.sub⟩;rw[EH hh cd,ct];exact⟨λh=>⟨vX.1 kQ,by omega⟩,λh=>by omega⟩
  refine RT 5 E I ?_;exact⟨_,rfl,⟨λh=>(by cases h),λh=>by have:=vX.2 ((EH hh cd).1 h).1;rw[kQ]at this;cases this⟩,I.sub⟩
 refine RT 2 E I ?_;exact⟨_,rfl,⟨λh=>(by cases h),λh=>by rcases x8 h with h | h;exact absurd h ao;exact absurd h ay⟩,I.sub⟩
theorem EJ {x:Int}(I:U W w L):Calls prog 191 #[.int .i64 x] w λe w'=>∃ r:Bool,e=.returned (.bool r)∧(r=true↔eG x)∧U W w' L:=by
 refine EN func191 ntmps191 rfl rfl λa E=>?_;refine BY 6 E I (λbA a E=>?_) λbA a E=>?_
 ·
  refine RT 4 E I ?_;exact⟨_,rfl,by unfold eG;first | (rw[ct];omega) | exact⟨λh=>(by cases h),λh=>absurd h (by omega)⟩,I⟩
 refine RT 4 E I ?_;exact⟨_,rfl,by unfold eG;first | (rw[ct];omega) | exact⟨λh=>(by cases h),λh=>absurd h (by omega)⟩,I⟩
theorem XP (I:U W w L):Calls prog 156 #[.agg (dJ p ad c).toArray] w λe w'=>∃ r:Bool,e=.returned (.bool r)∧(r=true↔hL p)∧U W w' L:=by
 refine EN func156 ntmps156 rfl rfl λa E=>?_;refine BX 1 E I λb1 a w E I=>?_;refine RN 2 E I λa E=>?_;refine cc (M:=λa w=>∃ (z:Bool) (b1:Nat),(z=true↔¬ (iE p∧1≤p.kind∧p.kind≤2))∧Fr a 94 [(1,pt b1),(47,.bool z)]∧U W w (aa b1 203 (dJ p ad c)::L)) ?_ ?_
 ·
  refine BY 4 E I (λbX a E=>?_) λbX a E=>?_
  ·
   refine RN 41 E I λa E=>?_;exact⟨_,_,by unfold iE;first | (rw[ct];omega) | exact⟨λh=>(by cases h),λh=>absurd h (by omega)⟩ | exact⟨λ_=>by omega,λ_=>rfl⟩,E.ab [1,47],I.sub⟩
  refine BY 5 E I (λfa a E=>?_) λfa a E=>?_
  ·
   refine RN 36 E I λa E=>?_;exact⟨_,_,by unfold iE;first | (rw[ct];omega) | exact⟨λh=>(by cases h),λh=>absurd h (by omega)⟩ | exact⟨λ_=>by omega,λ_=>rfl⟩,E.ab [1,47],I.sub⟩
  refine BY 5 E I (λm6 a E=>?_) λm6 a E=>?_
  ·
   refine RN 31 E I λa E=>?_;exact⟨_,_,by unfold iE;first | (rw[ct];omega) | exact⟨λh=>(by cases h),λh=>absurd h (by omega)⟩ | exact⟨λ_=>by omega,λ_=>rfl⟩,E.ab [1,47],I.sub⟩
  refine BY 5 E I (λtR a E=>?_) λtR a E=>?_
  ·
   refine RN 26 E I λa E=>?_;exact⟨_,_,by unfold iE;first | (rw[ct];omega) | exact⟨λh=>(by cases h),λh=>absurd h (by omega)⟩ | exact⟨λ_=>by omega,λ_=>rfl⟩,E.ab [1,47],I.sub⟩
  refine BY 5 E I (λmv a E=>?_) λmv a E=>?_
  ·
   refine RN 21 E I λa E=>?_;exact⟨_,_,by unfold iE;first | (rw[ct];omega) | exact⟨λh=>(by cases h),λh=>absurd h (by omega)⟩ | exact⟨λ_=>by omega,λ_=>rfl⟩,E.ab [1,47],I.sub⟩
  refine BY 5 E I (λXQ a E=>?_) λXQ a E=>?_
  ·
   refine RN 16 E I λa E=>?_;exact⟨_,_,by unfold iE;first | (rw[ct];omega) | exact⟨λh=>(by cases h),λh=>absurd h (by omega)⟩ | exact⟨λ_=>by omega,λ_=>rfl⟩,E.ab [1,47],I.sub⟩
  refine BY 7 E I (λXR a E=>?_) λXR a E=>?_
  ·
   refine RN 9 E I λa E=>?_;exact⟨_,_,by unfold iE;first | (rw[ct];omega) | exact⟨λh=>(by cases h),λh=>absurd h (by omega)⟩ | exact⟨λ_=>by omega,λ_=>rfl⟩,E.ab [1,47],I.sub⟩
  refine BY 5 E I (λXS a E=>?_) λXS a E=>?_
  ·
   refine RN 4 E I λa E=>?_;exact⟨_,_,by unfold iE;first | (rw[ct];omega) | exact⟨λh=>(by cases h),λh=>absurd h (by omega)⟩ | exact⟨λ_=>by omega,λ_=>rfl⟩,E.ab [1,47],I.sub⟩
  refine RN 4 E I λa E=>?_;exact⟨_,_,by unfold iE;first | (rw[ct];omega) | exact⟨λh=>(by cases h),λh=>absurd h (by omega)⟩ | exact⟨λ_=>by omega,λ_=>rfl⟩,E.ab [1,47],I.sub⟩
 clear E;(try clear I);rintro a w ⟨z,b1,hz,E,I⟩;refine IF 0 E I (λaj a E=>?_) λaj a E=>?_
 ·
  have hn:=hz.1 aj;refine RT 2 E I ?_;exact⟨_,rfl,⟨λh=>(by cases h),λh=>absurd ⟨Av h,by have:=x8 h;omega⟩ hn⟩,I.sub⟩
 have hh:iE p∧1≤p.kind∧p.kind≤2:=Classical.byContradiction λh=>by have:=hz.2 h;rw[aj]at this;cases this
 refine IF 5 E I (λao a E=>?_) λao a E=>?_
 ·
  have cd:p.kind=2:=ao;have kf:=EH hh.1 cd;simp only[pF,forall_mem_cons,not_mem_nil,false_implies,implies_true,and_true]at kf;refine BY 5 E I (λbX a E=>?_) λbX a E=>?_
  ·
   refine BY 6 E I (λuh a E=>?_) λuh a E=>?_
   ·
    refine BY 5 E I (λkP a E=>?_) λkP a E=>?_
    ·
     refine BY 5 E I (λpG a E=>?_) λpG a E=>?_
     ·
      refine RT 5 E I ?_
      first | exact⟨_,rfl,by rw[kf];first | (rw[ct];omega) | exact⟨λh=>(by cases h),λh=>absurd h (by omega)⟩ | exact⟨λ_=>by omega,λ_=>rfl⟩,I.sub⟩ | exact⟨_,rfl,by rw[gO];first | (rw[ct];omega) | exact⟨λh=>(by cases h),λh=>absurd h (by omega)⟩ | exact⟨λ_=>by omega,λ_=>rfl⟩,I.sub⟩
     refine RT 5 E I ?_
     first | exact⟨_,rfl,by rw[kf];first | (rw[ct];omega) | exact⟨λh=>(by cases h),λh=>absurd h (by omega)⟩ | exact⟨λ_=>by omega,λ_=>rfl⟩,I.sub⟩ | exact⟨_,rfl,by rw[gO];first | (rw[ct];omega) | exact⟨λh=>(by cases h),λh=>absurd h (by omega)⟩ | exact⟨λ_=>by omega,λ_=>rfl⟩,I.sub⟩
    refine RT 10 E I ?_
    first | exact⟨_,rfl,by rw[kf];first | (rw[ct];omega) | exact⟨λh=>(by cases h),λh=>absurd h (by omega)⟩ | exact⟨λ_=>by omega,λ_=>rfl⟩,I.sub⟩ | exact⟨_,rfl,by rw[gO];first | (rw[ct];omega) | exact⟨λh=>(by cases h),λh=>absurd h (by omega)⟩ | exact⟨λ_=>by omega,λ_=>rfl⟩,I.sub⟩
   refine RT 15 E I ?_
   first | exact⟨_,rfl,by rw[kf];first | (rw[ct];omega) | exact⟨λh=>(by cases h),λh=>absurd h (by omega)⟩ | exact⟨λ_=>by omega,λ_=>rfl⟩,I.sub⟩ | exact⟨_,rfl,by rw[gO];first | (rw[ct];omega) | exact⟨λh=>(by cases h),λh=>absurd h (by omega)⟩ | exact⟨λ_=>by omega,λ_=>rfl⟩,I.sub⟩
  refine RT 21 E I ?_
  first | exact⟨_,rfl,by rw[kf];first | (rw[ct];omega) | exact⟨λh=>(by cases h),λh=>absurd h (by omega)⟩ | exact⟨λ_=>by omega,λ_=>rfl⟩,I.sub⟩ | exact⟨_,rfl,by rw[gO];first | (rw[ct];omega) | exact⟨λh=>(by cases h),λh=>absurd h (by omega)⟩ | exact⟨λ_=>by omega,λ_=>rfl⟩,I.sub⟩
 have gZ:p.kind=1:=by omega
 have gO:=EG hh.1 gZ;rw[XM]at gO;refine bh 3 E I (EJ I) λf1 a w E ⟨iZ,I⟩=>?_;refine BY 1 E I (λbX a E=>?_) λbX a E=>?_
 ·
  have k1:=iZ.1 bX;unfold eG at k1;refine bh 2 E I (EJ I) λf2 a w E ⟨jz,I⟩=>?_;refine BY 2 E I (λfa a E=>?_) λfa a E=>?_
  ·
   have k2:=jz.1 fa;unfold eG at k2;refine bh 2 E I (EJ I) λf3 a w E ⟨Ko,I⟩=>?_;refine BY 2 E I (λm6 a E=>?_) λm6 a E=>?_
   ·
    have k3:=Ko.1 m6;unfold eG at k3;refine RT 6 E I ?_
    first | exact⟨_,rfl,by rw[kf];first | (rw[ct];omega) | exact⟨λh=>(by cases h),λh=>absurd h (by omega)⟩ | exact⟨λ_=>by omega,λ_=>rfl⟩,I.sub⟩ | exact⟨_,rfl,by rw[gO];first | (rw[ct];omega) | exact⟨λh=>(by cases h),λh=>absurd h (by omega)⟩ | exact⟨λ_=>by omega,λ_=>rfl⟩,I.sub⟩
   have k3:¬ eG p.frame:=λh=>by rw[Ko.2 h]at m6;cases m6
   unfold eG at k3;refine RT 6 E I ?_
   first | exact⟨_,rfl,by rw[kf];first | (rw[ct];omega) | exact⟨λh=>(by cases h),λh=>absurd h (by omega)⟩ | exact⟨λ_=>by omega,λ_=>rfl⟩,I.sub⟩ | exact⟨_,rfl,by rw[gO];first | (rw[ct];omega) | exact⟨λh=>(by cases h),λh=>absurd h (by omega)⟩ | exact⟨λ_=>by omega,λ_=>rfl⟩,I.sub⟩
  have k2:¬ eG p.c7:=λh=>by rw[jz.2 h]at fa;cases fa
  unfold eG at k2;refine RT 11 E I ?_
  first | exact⟨_,rfl,by rw[kf];first | (rw[ct];omega) | exact⟨λh=>(by cases h),λh=>absurd h (by omega)⟩ | exact⟨λ_=>by omega,λ_=>rfl⟩,I.sub⟩ | exact⟨_,rfl,by rw[gO];first | (rw[ct];omega) | exact⟨λh=>(by cases h),λh=>absurd h (by omega)⟩ | exact⟨λ_=>by omega,λ_=>rfl⟩,I.sub⟩
 have k1:¬ eG p.first:=λh=>by rw[iZ.2 h]at bX;cases bX
 unfold eG at k1;refine RT 16 E I ?_
 first | exact⟨_,rfl,by rw[kf];first | (rw[ct];omega) | exact⟨λh=>(by cases h),λh=>absurd h (by omega)⟩ | exact⟨λ_=>by omega,λ_=>rfl⟩,I.sub⟩ | exact⟨_,rfl,by rw[gO];first | (rw[ct];omega) | exact⟨λh=>(by cases h),λh=>absurd h (by omega)⟩ | exact⟨λ_=>by omega,λ_=>rfl⟩,I.sub⟩
end
end
section
def rp (p:Pk):List Int:=[p.first,p.c7,p.frame]
def hO (p:Pk)(i:Nat):List UInt8:=lq p++(aP (zz p.id)++((rp p).take i).flatMap λn=>aP (zz n))
theorem XT {p:Pk}{i:Nat}(h:i<3):hO p (i+1)=hO p i++aP (zz ((rp p).getD i 0)):=by
 have hl:i<(rp p).length:=h;rw[hO,hO,jd hl,List.flatMap_append,ds,ds,bn,aE hl];simp
theorem Kp {p:Pk}(h:p.kind=1):hO p 3++(fc p.sum++(aP (zz (p.al.length:Int))++dv p.al 0))=ij p:=by
 simp[hO,ij,kW,m3,h,lT,rp]
theorem Kq {p:Pk}(h:p.kind≠1):hO p 0=ij p:=by simp[hO,ij,kW,m3,h]
theorem EK {p:Pk}(h:hL p){i:Nat}(hi:i≤3):(hO p i).length≤43:=by
 obtain⟨h1,h2,h3,h4,h5⟩:=h;have hq:∀ n:Int,0≤n→n≤1099511627776→(aP (zz n)).length≤10:=λn a b=>ri (by omega) (by omega);have hf:(0≤p.first∧p.first≤1000)∧(0≤p.c7∧p.c7≤1000)∧(0≤p.frame∧p.frame≤1000):=by unfold eG at h5;omega
 have a0:=hq p.id (by omega) (by omega);have de:=hq p.first (by omega) (by omega);have dG:=hq p.c7 (by omega) (by omega);have a3:=hq p.frame (by omega) (by omega);rcases (by omega:i=0∨i=1∨i=2∨i=3) with rfl | rfl | rfl | rfl <;> simp[hO,lq,rp] <;> omega
theorem XU {p:Pk}{i:Nat}(h:i<3):([Value.int .i64 p.first,.int .i64 p.c7,.int .i64 p.frame]:List Value)[i]?=some (.int .i64 ((rp p).getD i 0)):=by
 rcases (by omega:i=0∨i=1∨i=2) with rfl | rfl | rfl <;> rfl
theorem XV {p:Pk}(h:hL p)(i:Nat):0≤(rp p).getD i 0∧(rp p).getD i 0≤1000:=by
 have h5:=h.2.2.2.2;have hf:(0≤p.first∧p.first≤1000)∧(0≤p.c7∧p.c7≤1000)∧(0≤p.frame∧p.frame≤1000):=by unfold eG at h5;omega
 match i with
 | 0=>exact hf.1
 | 1=>exact hf.2.1
 | 2=>exact hf.2.2
 | _+3=>exact⟨Int.le_refl _,by show (0:Int)≤1000;omega⟩
theorem EL {p:Pk}(h:hL p):[[Value.int .u8 p.kind],[Value.int .u8 p.aW],[Value.int .u8 p.to]].flatten=bc (lq p):=by
 have hk:=x8 h;obtain⟨h1,h2,h3,h4,h5⟩:=h;simp[bc,lq,UInt8.toNat_ofNat'];omega
theorem Kr {p:Pk}(h:hL p):(ij p).length≤503:=by
 have:=Kd h;simp[ij,lq];omega
section
variable {W w:World}{L:List SP}{n c:Nat}{ad:Option Addr}{bs:List UInt8}{p:Pk}
theorem Kt (I:U W w L)(lU:p.sum<4294967296)(hp:∀ w',U W w' L→aX w' ad p.al.length p.al) :
   Calls prog 330 #[.agg (dJ p ad c).toArray] w λe w'=>∃ av c',e=.returned (.slice av (aR p).length c')∧U W w' (Sl 5 1 av (aR p).length c' (bc (aR p))::L):=by
 refine EN func330 ntmps330 rfl rfl λa E=>?_;refine BX 1 E I λb1 a w E I=>?_;refine bh 4 E I (XN (p:=p) (ad:=ad) (c:=c) I) λr1 a w E ⟨e9,I⟩=>?_;refine IF 1 E I (λaj a E=>?_) λaj a E=>?_
 ·
  have hn:¬ hL p:=λh=>by rw[e9.2 h]at aj;cases aj
  refine RT 2 E I ?_;have he:aR p=[]:=by rw[aR,ag hn]
  rw[he];exact⟨none,0,rfl,I.tail.bN _ _ _⟩
 have hm:hL p:=e9.1 aj;have hk:=x8 hm;have hh:=Av hm;unfold iE at hh;have he:aR p=ij p++fc (jk (ij p)):=by rw[aR,ak hm,pB]
 have n4:=Kr hm;refine SX 3 E I (by rw[wrap_u8];omega) λa E=>?_;refine SX 2 E I (by rw[wrap_u8];omega) λa E=>?_;refine SX 2 E I (by rw[wrap_u8];omega) λa E=>?_;refine RN 0 E I λa E=>?_;refine cr E rfl I underlying22 Ty.t5 rfl rfl rfl rfl (by decide) (by decide) λsM a w E I ho=>?_;clear ho;replace I:=I.D8 (l:=lq p) rfl rfl (EL hm);refine aY 2 E I (sE (bs:=lq p) (N:=p.id) I (by omega) (by omega) (by simp[lq])) λfm dC a w E I=>?_;refine RN 1 E I λa E=>?_;rw[show lq p++aP (zz p.id)=hO p 0 from by simp[hO]]at E I;refine cc (M:=λa w=>∃ (fm:Option Addr) (dC:Nat),Fr a 58 [(3,.slice fm (ij p).length dC)]∧U W w (Sl 5 1 fm (ij p).length dC (bc (ij p))::L)) ?_ ?_
 ·
  refine IF 4 E I (λao a E=>?_) λao a E=>?_
  ·
   have gZ:p.kind=1:=ao;have eB:p.al.length≤32:=by have:=hm.2.2.2.2;omega
   refine RN 8 E I λa E=>?_;refine SS E (CB E underlying429 Ty.t429 Ty.t3 rfl rfl) λa E=>?_;refine RN 1 E I λa E=>?_;refine aO (λμ a w=>∃ (i dC:Nat) (fm:Option Addr),(μ=3-i∧i≤3)∧Fr a 58 [(1,pt b1),(3,.slice fm (hO p i).length dC),(31,.agg #[.int .i64 p.first,.int .i64 p.c7,.int .i64 p.frame]),(32,.int .i64 i)]∧U W w (Sl 5 1 fm (hO p i).length dC (bc (hO p i))::aa b1 203 (dJ p ad c)::L)) (3) (⟨0,dC,fm,⟨rfl,by omega⟩,E.ab [1,3,31,32],I⟩) ?_;clear E I;rintro μ a w ⟨i,dC,fm,⟨rfl,hi⟩,E,I⟩;refine IF 3 E I (λay a E=>?_) λay a E=>?_
   ·
    refine RN 2 E I λa E=>?_;refine SS E (r5 E underlying429 underlying3 rfl Ty.t3 (by omega) (XU (p:=p) (by omega))) λa E=>?_;refine RN 1 E I λa E=>?_;have cC:=XV hm i;have o8:=EK hm (show i≤3 by omega);refine aY 2 E I (sE I (by omega) (by omega) (by omega)) λmh hG a w E I=>?_;refine RN 1 E I λa E=>?_;rw[← XT (by omega)]at E I;refine RN 2 E I λa E=>?_;exact⟨3-(i+1),by omega,i+1,_,_,⟨rfl,by omega⟩,E.ab [1,3,31,32],I.sub⟩
   obtain rfl:i=3:=by omega
   have o8:=EK hm (a7 3);have gF:=ri (n:=(p.al.length:Int)) (by omega) (by omega);have jj:=Kp gZ;generalize hO p 3=XW at E I o8 jj;refine aV 1 (λw0 w=>Rd w b1 0 (dJ p ad c)) [3,4,6,7] [0,1,5,3002,3006,3007,1003,1004,1008,9] E I λa w E I hH=>?_;have hC:Rd w b1 0 (dJ p ad c):=I.ai;refine RH 3 E I hH hC λa E=>?_;refine QH E (λw hc=>ae E (hc 8 _ rfl)) hC λa E=>?_;refine QH E (λw hc=>ae E (hc 5 _ rfl)) hC λa E=>?_;refine RH 1 E I hH hC λa E=>?_;refine bh 0 E I (J6 I) λec a w E I=>?_;replace hC:=hH.at w I.ai;refine RH 0 E I hH hC λa E=>?_;refine g2 E rfl I underlying22 Ty.t5 rfl rfl (by decide) (λh0=>(I.cu ec (fc p.sum) rfl rfl).get h0) (by rw[dt];rfl) (eo _) (by rw[mz];omega) λvW EC a w E I=>?_;replace hC:=hH.at w I.ai;rw[← fG,← aL]at I;rw[← aL]at E;refine RH 0 E I hH hC λa E=>?_;refine aY 0 E I (sE I (by omega) (by omega) (by rw[aL,mz];omega)) λsA oa a w E I=>?_;refine RN 1 E I λa E=>?_;have gl:=x5 p.al 0;generalize hu:XW++fc p.sum++aP (zz (p.al.length:Int))=vY at E I;have ae8:vY.length≤60:=by rw[← hu];simp[mz];omega
   refine aY 3 E I (XG (bs:=p.al) I (by omega) (λw' hw=>hp w' hw.sub)) λse qW a w E I=>?_;refine RN 0 E I λa E=>?_;refine g2 E rfl I underlying22 Ty.t5 rfl rfl (by decide) (λh0=>(I.cu se _ rfl rfl).get h0) (by rw[dt,Nat.mul_one]) (eo _) (by omega) λrq rr a w E I=>?_;refine RN 1 E I λa E=>?_;rw[← fG,show vY.length+(dv p.al 0).length=(vY++dv p.al 0).length from by rw[aL]]at I;rw[show vY.length+(dv p.al 0).length=(vY++dv p.al 0).length from by rw[aL]]at E;rw[show vY++dv p.al 0=ij p from by rw[← hu,← jj];simp]at E I;exact⟨_,_,E.ab [3],I.sub⟩
  rw[Kq (by omega)]at E I;refine RN 0 E I λa E=>?_;exact⟨_,_,E.ab [3],I.sub⟩
 clear E;(try clear I);rintro a w ⟨fm,dC,E,I⟩;refine CL 3 E I (J4 I (by omega) (λw' hw=>hw.cu fm _ rfl rfl)) λa w E I=>?_;refine bh 0 E I (J6 I) λAw a w E I=>?_;refine RN 0 E I λa E=>?_;refine g2 E rfl I underlying22 Ty.t5 rfl rfl (by decide) (λh0=>(I.cu Aw (fc (jk (ij p))) rfl rfl).get h0) (by rw[dt];rfl) (eo _) (by rw[mz];omega) λEM EO a w E I=>?_;refine RT 1 E I ?_;rw[he];rw[← fG,← aL]at I;rw[← aL];exact⟨_,_,rfl,I.sub⟩
theorem EP (I:U W w L)(lU:p.sum<4294967296)(hp:∀ w',U W w' L→aX w' ad p.al.length p.al) :
   Calls prog 114 #[.agg (dJ p ad c).toArray] w λe w'=>∃ av c',e=.returned (.slice av (aR p).length c')∧U W w' (Sl 5 1 av (aR p).length c' (bc (aR p))::L):=by
 refine EN func114 ntmps114 rfl rfl λa E=>?_;refine BX 1 E I λb1 a w E I=>?_;refine bh 4 E I (XP (p:=p) (ad:=ad) (c:=c) I) λr1 a w E ⟨e9,I⟩=>?_;refine IF 1 E I (λaj a E=>?_) λaj a E=>?_
 ·
  have hn:¬ hL p:=λh=>by rw[e9.2 h]at aj;cases aj
  refine RT 2 E I ?_;have he:aR p=[]:=by rw[aR,ag hn]
  rw[he];exact⟨none,0,rfl,I.tail.bN _ _ _⟩
 have hm:hL p:=e9.1 aj;have hk:=x8 hm;have hh:=Av hm;unfold iE at hh;have he:aR p=ij p++fc (jk (ij p)):=by rw[aR,ak hm,pB]
 have n4:=Kr hm;have b6:=ri (n:=p.id) (by omega) (by omega);refine RN 0 E I λa E=>?_;refine cc (M:=λa w=>∃ (a3:Option Addr) (dC:Nat),Fr a 57 [(1,pt b1),(3,.slice a3 (hO p 0).length dC)]∧U W w (Sl 5 1 a3 (hO p 0).length dC (bc (hO p 0))::aa b1 203 (dJ p ad c)::L)) ?_ ?_
 ·
  refine aV 0 (λw0 w=>Rd w b1 0 (dJ p ad c)) [4,5,7,8,9,11,12] [0,3,6,10,3001,2,3004,3005,3007,3008,3011,2009,1012,1013,14] E I λa w E I hH=>?_;have hC:Rd w b1 0 (dJ p ad c):=I.ai;refine RH 4 E I hH hC λa E=>?_;refine QH E (λw hc=>ae E (hc 0 _ rfl)) hC λa E=>?_;refine QP E (λw=>o3 E underlying3 underlying5 (by rw[wrap_u8];omega)) λa E=>?_;refine QH E (λw hc=>ae E (hc 1 _ rfl)) hC λa E=>?_;refine QH E (λw hc=>o3 E underlying3 underlying5 (by rw[wrap_u8];omega)) hC λa E=>?_;refine QH E (λw hc=>ae E (hc 2 _ rfl)) hC λa E=>?_;refine QH E (λw hc=>o3 E underlying3 underlying5 (by rw[wrap_u8];omega)) hC λa E=>?_;refine QH E (λw hc=>ae E (hc 3 _ rfl)) hC λa E=>?_;refine RH 0 E I hH hC λa E=>?_;refine DN [(9,[1012,1013,14]),(12,[1009,1013,14])] (by kernel_rfl) rfl ⟨⟨_,rfl,?_⟩,⟨_,rfl,?_⟩,trivial⟩
  ·
   refine RH 0 E I hH hC λa E=>?_;refine cr E rfl I underlying22 Ty.t5 rfl rfl rfl rfl (by decide) (by decide) λqq a w E I ho=>?_;clear ho;replace hC:=hH.at w I.ai;replace I:=I.D8 (l:=lq p) rfl rfl (EL hm);refine RH 0 E I hH hC λa E=>?_;refine aY 0 E I (sR (N:=p.id) I (by omega) (by omega)) λcY dP a w E I=>?_;replace hC:=hH.at w I.ai;refine RH 0 E I hH hC λa E=>?_;refine g2 E rfl I underlying22 Ty.t5 rfl rfl (by decide) (λh0=>(I.cu cY (aP (zz p.id)) rfl rfl).get h0) (by rw[dt,Nat.mul_one]) (eo _) (by omega) λxL DB a w E I=>?_;refine RN 1 E I λa E=>?_;rw[show 3+(aP (zz p.id)).length=(lq p++aP (zz p.id)).length from by rw[aL];rfl]at E I;rw[← fG]at I;rw[show lq p++aP (zz p.id)=hO p 0 from by simp[hO]]at E I
   skip
   exact⟨_,_,E.ab [1,3],I.sub⟩
  refine RH 0 E I hH hC λa E=>?_;refine aY 0 E I (sR (N:=p.id) I (by omega) (by omega)) λcY dP a w E I=>?_;replace hC:=hH.at w I.ai;refine RH 0 E I hH hC λa E=>?_;refine cr E rfl I underlying22 Ty.t5 rfl rfl rfl rfl (by decide) (by decide) λqq a w E I ho=>?_;clear ho;replace hC:=hH.at w I.ai;replace I:=I.D8 (l:=lq p) rfl rfl (EL hm);refine RH 0 E I hH hC λa E=>?_;refine g2 E rfl I underlying22 Ty.t5 rfl rfl (by decide) (λh0=>(I.cu cY (aP (zz p.id)) rfl rfl).get h0) (by rw[dt,Nat.mul_one]) (eo _) (by omega) λxL DB a w E I=>?_;refine RN 1 E I λa E=>?_;rw[show 3+(aP (zz p.id)).length=(lq p++aP (zz p.id)).length from by rw[aL];rfl]at E I;rw[← fG]at I;rw[show lq p++aP (zz p.id)=hO p 0 from by simp[hO]]at E I
  skip
  exact⟨_,_,E.ab [1,3],I.sub⟩
 clear E;(try clear I);rintro a w ⟨a3,dC,E,I⟩;refine cc (M:=λa w=>∃ (fm:Option Addr) (dC:Nat),Fr a 57 [(3,.slice fm (ij p).length dC)]∧U W w (Sl 5 1 fm (ij p).length dC (bc (ij p))::L)) ?_ ?_
 ·
  refine IF 4 E I (λao a E=>?_) λao a E=>?_
  ·
   have gZ:p.kind=1:=ao;have eB:p.al.length≤32:=by have:=hm.2.2.2.2;omega
   have oA:(0≤p.first∧p.first≤1000)∧(0≤p.c7∧p.c7≤1000)∧(0≤p.frame∧p.frame≤1000):=by have:=hm.2.2.2.2;unfold eG at this;omega
   have q1:=ri (n:=p.first) (by omega) (by omega);have q2:=ri (n:=p.c7) (by omega) (by omega);have Eo:=ri (n:=p.frame) (by omega) (by omega);have Ep:=ri (n:=(p.al.length:Int)) (by omega) (by omega);have o8:=EK hm (show 0≤3 by decide);have jj:hO p 0++aP (zz p.first)++aP (zz p.c7)++aP (zz p.frame)++fc p.sum++aP (zz (p.al.length:Int))++dv p.al 0=ij p:=by rw[← Kp gZ];simp[hO,rp]
   generalize hu0:hO p 0=x9 at E I o8 jj;refine aV 1 (λw0 w=>Rd w b1 0 (dJ p ad c)) [3,4,6] [0,1,5,3002,3006,1003,1004,1007,1008,9] E I λa w E I hH=>?_;have hC:Rd w b1 0 (dJ p ad c):=I.ai;refine RH 3 E I hH hC λa E=>?_;refine QH E (λw hc=>ae E (hc 4 _ rfl)) hC λa E=>?_;refine QH E (λw hc=>ae E (hc 6 _ rfl)) hC λa E=>?_;refine RH 0 E I hH hC λa E=>?_;refine aY 0 E I (sR I (by omega) (by omega)) λde dL a w E I=>?_;replace hC:=hH.at w I.ai;refine RH 0 E I hH hC λa E=>?_;refine g2 E rfl I underlying22 Ty.t5 rfl rfl (by decide) (λh0=>(I.cu de (aP (zz p.first)) rfl rfl).get h0) (by rw[dt,Nat.mul_one]) (eo _) (by omega) λae9 c28 a w E I=>?_;replace hC:=hH.at w I.ai;rw[← fG,← aL]at I;rw[← aL]at E;refine RH 0 E I hH hC λa E=>?_;refine aY 0 E I (sR I (by omega) (by omega)) λdG c2 a w E I=>?_;have kN:(x9++aP (zz p.first)).length≤53:=by rw[aL];omega
   refine RN 0 E I λa E=>?_;refine g2 E rfl I underlying22 Ty.t5 rfl rfl (by decide) (λh0=>(I.cu dG (aP (zz p.c7)) rfl rfl).get h0) (by rw[dt,Nat.mul_one]) (eo _) (by omega) λXX XY a w E I=>?_;rw[← fG,← aL]at I;rw[← aL]at E;refine RN 1 E I λa E=>?_;replace I:=I.sub (M:=Sl 5 1 XX (x9++aP (zz p.first)++aP (zz p.c7)).length XY (bc (x9++aP (zz p.first)++aP (zz p.c7)))::aa b1 203 (dJ p ad c)::L);have kq:(x9++aP (zz p.first)++aP (zz p.c7)).length≤63:=by rw[aL];omega
   generalize x9++aP (zz p.first)++aP (zz p.c7)=ya at E I kq jj;refine aV 1 (λw0 w=>Rd w b1 0 (dJ p ad c)) [3,4,6] [0,1,5,3002,3006,1003,1004,1007,1008,9] E I λa w E I hH=>?_;have hC:Rd w b1 0 (dJ p ad c):=I.ai;refine RH 3 E I hH hC λa E=>?_;refine QH E (λw hc=>ae E (hc 7 _ rfl)) hC λa E=>?_;refine QH E (λw hc=>ae E (hc 8 _ rfl)) hC λa E=>?_;refine RH 0 E I hH hC λa E=>?_;refine aY 0 E I (sR I (by omega) (by omega)) λde dL a w E I=>?_;replace hC:=hH.at w I.ai;refine RH 0 E I hH hC λa E=>?_;refine g2 E rfl I underlying22 Ty.t5 rfl rfl (by decide) (λh0=>(I.cu de (aP (zz p.frame)) rfl rfl).get h0) (by rw[dt,Nat.mul_one]) (eo _) (by omega) λXZ X0 a w E I=>?_;replace hC:=hH.at w I.ai;rw[← fG,← aL]at I;rw[← aL]at E;refine RH 0 E I hH hC λa E=>?_;refine bh 0 E I (Ee I) λdG a w E I=>?_;have kN:(ya++aP (zz p.frame)).length≤73:=by rw[aL];omega
   refine RN 0 E I λa E=>?_;refine g2 E rfl I underlying22 Ty.t5 rfl rfl (by decide) (λh0=>(I.cu dG (fc p.sum) rfl rfl).get h0) (by rw[dt];rfl) (eo _) (by rw[mz];omega) λx7 Ez a w E I=>?_;rw[← fG,← aL]at I;rw[← aL]at E;refine RN 1 E I λa E=>?_;replace I:=I.sub (M:=Sl 5 1 x7 (ya++aP (zz p.frame)++fc p.sum).length Ez (bc (ya++aP (zz p.frame)++fc p.sum))::aa b1 203 (dJ p ad c)::L);have kq:(ya++aP (zz p.frame)++fc p.sum).length≤77:=by rw[aL,mz];omega
   generalize ya++aP (zz p.frame)++fc p.sum=X1 at E I kq jj;refine aV 0 (λw0 w=>Rd w b1 0 (dJ p ad c)) [4,5,7] [0,1,6,3002,3,3007,1004,1005,1008,1009,10] E I λa w E I hH=>?_;have hC:Rd w b1 0 (dJ p ad c):=I.ai;have gl:=x5 p.al 0;refine RH 3 E I hH hC λa E=>?_;refine QH E (λw hc=>ae E (hc 5 _ rfl)) hC λa E=>?_;refine RH 1 E I hH hC λa E=>?_;refine QH E (λw hc=>ae E (hc 5 _ rfl)) hC λa E=>?_;refine RH 0 E I hH hC λa E=>?_;refine aY 0 E I (sR I (by omega) (by omega)) λde dL a w E I=>?_;replace hC:=hH.at w I.ai;refine RH 0 E I hH hC λa E=>?_;refine g2 E rfl I underlying22 Ty.t5 rfl rfl (by decide) (λh0=>(I.cu de (aP (zz (p.al.length:Int))) rfl rfl).get h0) (by rw[dt,Nat.mul_one]) (eo _) (by omega) λpH ru a w E I=>?_;replace hC:=hH.at w I.ai;rw[← fG,← aL]at I;rw[← aL]at E;refine RH 0 E I hH hC λa E=>?_;refine aY 0 E I (XH (bs:=p.al) I (by omega) (λw' hw=>hp w' hw.sub)) λdG c2 a w E I=>?_;have kN:(X1++aP (zz (p.al.length:Int))).length≤87:=by rw[aL];omega
   refine RN 0 E I λa E=>?_;refine g2 E rfl I underlying22 Ty.t5 rfl rfl (by decide) (λh0=>(I.cu dG (dv p.al 0) rfl rfl).get h0) (by rw[dt,Nat.mul_one]) (eo _) (by omega) λKu Kv a w E I=>?_;rw[← fG,← aL]at I;rw[← aL]at E;refine RN 1 E I λa E=>?_;rw[jj]at E I;exact⟨_,_,E.ab [3],I.sub⟩
  rw[Kq (by omega)]at E I;refine RN 0 E I λa E=>?_;exact⟨_,_,E.ab [3],I.sub⟩
 clear E;(try clear I);rintro a w ⟨fm,dC,E,I⟩;refine CL 3 E I (J5 I (by omega) (λw' hw=>hw.cu fm _ rfl rfl)) λa w E I=>?_;refine bh 0 E I (Ee I) λAw a w E I=>?_;refine RN 0 E I λa E=>?_;refine g2 E rfl I underlying22 Ty.t5 rfl rfl (by decide) (λh0=>(I.cu Aw (fc (jk (ij p))) rfl rfl).get h0) (by rw[dt];rfl) (eo _) (by rw[mz];omega) λafa c56 a w E I=>?_;refine RT 1 E I ?_;rw[he];rw[← fG,← aL]at I;rw[← aL];exact⟨_,_,rfl,I.sub⟩
end
end
section
def yb (x:Int):Prop := -9223372036854775808≤x∧x≤9223372036854775807
def mA (l:List UInt8):Nat:=l.foldl (λn b=>n*256+b.toNat) 0
theorem Kw:∀ (l:List UInt8) (a:Nat),l.foldl (λn b=>n*256+b.toNat) a<(a+1)*256 ^ l.length
 | [],a=>by simp
 | b::l,a=>by
  have h1:=Kw l (a*256+b.toNat);have h2:=lQ b;rw[foldl_cons,eO];refine zb h1 ?_;rw[Nat.pow_succ,Nat.mul_comm (256 ^ l.length) 256,← Nat.mul_assoc];exact Nat.mul_le_mul_right _ (by omega)
theorem Ky {x:Nat}(h:x<4294967296):mA (fc x)=x:=by
 have:=El h;simpa [mA,fc,Ek] using this
theorem Kz {l:List UInt8}{i:Nat}(h:i<l.length):mA (l.take (i+1))=mA (l.take i)*256+l[i].toNat:=by
 rw[mA,jd h,foldl_append];rfl
theorem Ax (l:List UInt8)(n:Nat)(h:l.length≤n):mA l<256 ^ n:=by
 have:=Kw l 0;rw[Nat.zero_add,Nat.one_mul]at this;exact zb this (Nat.pow_le_pow_right (by decide) h)
theorem X2 {n:Nat}(h:n<16777216)(b:UInt8):IntKind.u32.wrap (((BitVec.ofInt IntKind.u32.bits (IntKind.u32.wrap ((n:Int)*2 ^ 8)) ||| BitVec.ofInt IntKind.u32.bits (b.toNat:Int)).toNat:Nat):Int)=((n*256+b.toNat:Nat):Int):=by
 have hb:=lQ b;rw[show IntKind.u32.wrap ((n:Int)*2 ^ 8)=((n*256:Nat):Int) from by rw[wrap_u32];omega,uf,uf];show IntKind.u32.wrap (((BitVec.ofNat 32 (n*256) ||| BitVec.ofNat 32 b.toNat).toNat:Nat):Int)=_;rw[BitVec.toNat_or,BitVec.toNat_ofNat,BitVec.toNat_ofNat,Nat.mod_eq_of_lt (show n*256<2 ^ 32 by omega),Nat.mod_eq_of_lt (show b.toNat<2 ^ 32 by omega),wrap_u32];have h1:=Nat.two_pow_add_eq_or_of_lt (i:=8) (b:=b.toNat) hb n;rw[show n*256=2 ^ 8*n from by omega,← h1];omega
structure qs (W:World)(L:List SP)(ad:Option Addr)(c:Nat)(rest:List UInt8):Prop where
 len:rest.length≤65536
 cap:rest.length≤c
 rd:∀ w',U W w' L→aX w' ad rest.length rest
section
variable {W w:World}{L L':List SP}{n c m rb:Nat}{ad:Option Addr}{bs rest:List UInt8}{p:Pk}{bad:Bool}
theorem qs.cut {k:Nat}(h:qs W L ad c rest)(hk:k≤rest.length):qs W L (fl ad k c 1) (c-k) (rest.drop k) :=
 ⟨by rw[c3];have:=h.len;omega,by rw[c3];have:=h.cap;omega,λw' hw=>(h.rd w' hw).ue hk h.cap⟩
theorem yc (I:U W w (aa rb 427 [.slice ad rest.length c,.bool bad]::L'))(Ay:∀ w',U W w' L'→U W w' L)(hr:qs W L ad c rest) :
   Calls prog 331 #[pt rb] w λe w'=>∃ (x:Int) (av:Option Addr) (c':Nat) (nG:List UInt8) (fo:Bool),e=.returned (.int .i64 x)∧yb x∧qs W L av c' nG ∧
    (∀ (n:Int) (r:List UInt8),yb n→rest=aP (zz n)++r→bad=false→x=n∧nG=r∧fo=false)∧U W w' (aa rb 427 [.slice av nG.length c',.bool fo]::L'):=by
 have hlen:=hr.len;refine EN func331 ntmps331 rfl rfl λa E=>?_;refine jO 7 E I (Kh (bs:=rest) I (by omega) (λw' hw=>hr.rd w' (Ay _ hw.tail))) λx k er a w E ⟨hg,I⟩=>?_;refine RN 7 E I λa E=>?_;have pD:=hg.2.2.1;have nt:=hg.2.1;have dM:k≤rest.length:=by
  by_cases h0:er=0
  ·have:=pD h0;omega
  ·have:=(hg.2.2.2.1 h0).1;omega
 refine cc (M:=λa w=>∃ (z:Bool) (av:Option Addr) (c':Nat) (nG:List UInt8),(er=0→bad=false→z=false)∧qs W L av c' nG∧(z=false→nG=rest.drop k)∧Fr a 41 [(3,.int .i64 x)]∧U W w (aa rb 427 [.slice av nG.length c',.bool z]::L')) ?_ ?_
 ·
  refine cc (M:=λa w=>∃ z:Bool,(bad=true→z=true)∧(er=0→bad=false→z=false)∧Fr a 41 [(0,pt rb),(3,.int .i64 x),(4,.int .i64 k)]∧U W w (aa rb 427 [.slice ad rest.length c,.bool z]::L')) ?_ ?_
  ·
   refine BY 6 E I (λiR a E=>?_) λiR a E=>?_
   ·
    refine ST 5 E I (λa w E I=>?_);refine RN 0 E I λa E=>?_;exact⟨_,λ_=>rfl,λ_ h=>(by rw[h]at iR;cases iR),E.ab [0,3,4],I⟩
   refine ST 5 E I (λa w E I=>?_);refine RN 0 E I λa E=>?_;exact⟨_,λh=>(by rw[h]at iR;cases iR),λh _=>bq (by omega),E.ab [0,3,4],I⟩
  clear E;(try clear I);rintro a w ⟨z,cU,kB,E,I⟩;refine IF 6 E I (λaj a E=>?_) λaj a E=>?_
  ·
   have hz:z=false:=aj;refine RN 7 E I λa E=>?_;rw[show rest.length-k=(rest.drop k).length from by simp]at E;refine ST 2 E I (λa w E I=>?_);refine RN 0 E I λa E=>?_;exact⟨_,_,_,_,kB,hr.cut dM,λ_=>rfl,E.ab [3],I⟩
  refine RN 0 E I λa E=>?_;exact⟨_,_,_,_,kB,hr,λh=>(by rw[h]at aj;cases aj),E.ab [3],I⟩
 clear E;(try clear I);rintro a w ⟨z,av,c',nG,kB,X3,X4,E,I⟩;refine RT 3 E I ?_;refine⟨x,av,c',nG,z,rfl,hg.1,X3,λn r hn e hb=>?_,I⟩;obtain⟨rfl,rfl,rfl⟩:=hg.2.2.2.2 n r hn.1 hn.2 e;have hz:=kB rfl hb;refine⟨rfl,?_,hz⟩;rw[X4 hz,e,drop_left]
theorem X5 (I:U W w (aa rb 427 [.slice ad rest.length c,.bool bad]::L'))(Ay:∀ w',U W w' L'→U W w' L)(hr:qs W L ad c rest) :
   Calls prog 332 #[pt rb] w λe w'=>∃ (x:Nat) (av:Option Addr) (c':Nat) (nG:List UInt8) (fo:Bool),e=.returned (.int .u32 x)∧x<4294967296∧qs W L av c' nG ∧
    (∀ (n:Nat) (r:List UInt8),n<4294967296→rest=fc n++r→bad=false→x=n∧nG=r∧fo=false)∧U W w' (aa rb 427 [.slice av nG.length c',.bool fo]::L'):=by
 have hlen:=hr.len;have afb:=hr.cap;refine EN func332 ntmps332 rfl rfl λa E=>?_;refine RN 3 E I λa E=>?_;refine cc (M:=λa w=>∃ z:Bool,(z=true↔(bad=true∨rest.length<4))∧Fr a 50 [(0,pt rb)]∧U W w (aa rb 427 [.slice ad rest.length c,.bool z]::L')) ?_ ?_
 ·
  refine BY 6 E I (λiR a E=>?_) λiR a E=>?_
  ·
   refine ST 9 E I (λa w E I=>?_);refine RN 0 E I λa E=>?_;exact⟨_,⟨λ_=>.inl iR,λ_=>rfl⟩,E.ab [0],I⟩
  refine ST 9 E I (λa w E I=>?_);refine RN 0 E I λa E=>?_;exact⟨_,(by rw[ct,iR];simp;omega),E.ab [0],I⟩
 clear E;(try clear I);rintro a w ⟨z,hz,E,I⟩;refine IF 5 E I (λaj a E=>?_) λaj a E=>?_
 ·
  have X6:=hz.1 aj;refine RT 2 E I ?_;refine⟨0,ad,c,rest,true,rfl,by decide,hr,λn r hn e hb=>?_,by rw[aj]at I;exact I⟩;rcases X6 with h | h
  ·rw[hb]at h;cases h
  ·rw[e,aL,mz]at h;omega
 have KA:¬ (bad=true∨rest.length<4):=λh=>by rw[hz.2 h]at aj;cases aj
 have h4:4≤rest.length:=Nat.le_of_not_lt λh=>KA (.inr h);obtain⟨bb,oo,rfl,_⟩:=(hr.rd _ (Ay _ I.tail)).get (by omega);have eK:(rest.take 4).length=4:=by rw[ep];omega
 refine RN 9 E I λa E=>?_;rw[qV,Nat.sub_zero,Nat.sub_zero]at E;refine RN 2 E I λa E=>?_;refine aO (λμ a w=>∃ (i:Nat),(μ=4-i∧i≤4)∧Fr a 50 [(0,pt rb),(3,.int .u32 (mA (rest.take i))),(29,.slice (some ⟨bb,oo,none⟩) 4 c),(30,.int .i64 4),(31,.int .i64 i)]∧U W w (aa rb 427 [.slice (some ⟨bb,oo,none⟩) rest.length c,.bool z]::L')) (4) (⟨0,⟨rfl,by omega⟩,E.ab [0,3,29,30,31],I⟩) ?_;clear E I;rintro μ a w ⟨i,⟨rfl,hi⟩,E,I⟩;refine IF 3 E I (λao a E=>?_) λao a E=>?_
 ·
  have aH:i<rest.length:=by omega
  have nu:=Ax (rest.take i) 3 (by rw[ep];omega);rw[show (256:Nat) ^ 3=16777216 from by decide]at nu;have qp:=lQ rest[i];refine RN 3 E I λa E=>?_;refine SS E (ae E (((hr.rd _ (Ay _ I.tail)).rd (by omega)) i _ (dQ aH))) λa E=>?_;refine SX 4 E I (by rw[wrap_u32];omega) λa E=>?_;refine RN 1 E I λa E=>?_;rw[X2 nu,← Kz aH]at E;refine RN 3 E I λa E=>?_;exact⟨4-(i+1),by omega,i+1,⟨rfl,by omega⟩,E.ab [0,3,29,30,31],I⟩
 obtain rfl:i=4:=by omega
 refine RN 7 E I λa E=>?_;rw[show rest.length-4=(rest.drop 4).length from by simp]at E;refine ST 2 E I (λa w E I=>?_);refine RT 3 E I ?_;have nu:=Ax (rest.take 4) 4 (by rw[ep];omega);rw[show (256:Nat) ^ 4=4294967296 from by decide]at nu;refine⟨_,_,_,_,z,rfl,nu,hr.cut h4,λn r hn e hb=>?_,I⟩;have ht:rest.take 4=fc n:=by rw[e];rfl
 have hd:rest.drop 4=r:=by rw[e];rfl
 exact⟨by rw[ht,Ky hn],hd,aj⟩
theorem KB {a b:List UInt8}{ad2:Option Addr}{m n c2:Nat}(I:U W w L)(db:aX w ad m a)(lh:aX w ad2 n b) :
   Calls prog 313 #[.slice ad m c,.slice ad2 n c2] w λe w'=>e=.returned (.bool (a==b))∧U W w' L :=
 (Ih db lh).mono λe w' h=>⟨h.1,by rw[h.2];exact I⟩
theorem ER {bs:List UInt8}{q:Pk}(h:g3 bs q):(q.kind=((bs.getD 0 0).toNat:Int)∧q.aW=((bs.getD 1 0).toNat:Int)∧q.to=((bs.getD 2 0).toNat:Int))∧(bs.drop 3).take (bs.length-7)=kW q:=by
 have h1:=Ej h.2.2;obtain⟨f1,t1,vV,i1,k1⟩:=h.1;refine⟨?_,Ei h.2.2⟩;simp only[bn,h1.1,h1.2.1,h1.2.2,Option.getD_some,UInt8.toNat_ofNat'];omega
theorem sU (b:UInt8):IntKind.i64.wrap (b.toNat:Int)=(b.toNat:Int):=gi (by omega) (by have:=lQ b;omega)
theorem nH {bs:List UInt8}(h:¬ ∃ q,g3 bs q):eu bs=none:=Er λq hq=>h ⟨q,hq⟩
def X7 (bs:List UInt8)(p:Pk)(adP:Option Addr)(cP:Nat)(ok:Bool):Prop:=(ok=true∧eu bs=some p)∨(ok=false∧eu bs=none∧p=m2∧adP=none∧cP=0)
theorem X8 (I:U W w L)(hb:bs.length≤65536)(hc:bs.length≤c)(hp:∀ w',U W w' L→aX w' ad bs.length bs) :
   Calls prog 317 #[.slice ad bs.length c] w λe w'=>∃ (p:Pk) (adP:Option Addr) (cP:Nat) (ok:Bool),e=.returned (.tuple #[.agg (dJ p adP cP).toArray,.int .i64 (if ok=true then 0 else 1)])∧X7 bs p adP cP ok∧U W w' (Sl 5 1 adP p.al.length cP (bc p.al)::L):=by
 refine EN func317 ntmps317 rfl rfl λa E=>?_;refine AL 1 E I λb2 a w E I=>?_;refine IF 6 E I (λaj a E=>?_) λaj a E=>?_
 ·
  have bR:eu bs=none:=Er λq hq=>by
   have:=congrArg List.length hq.2.2;rw[x6]at this;omega
  refine SA 2 E I λa w E I=>?_;refine RT 1 E I ?_;exact⟨m2,none,0,false,rfl,.inr ⟨rfl,bR,rfl,rfl,rfl⟩,I.tail.bN _ _ _⟩
 obtain⟨bb,oo,rfl,_⟩:=(hp _ I.tail).get (by omega);have h7:7≤bs.length:=by omega
 refine aV 1 (λw0 w=>Rd w bb oo (bc bs)) [6,7,10,11,13] [0,1,4,5,8,9,3002,3,3006,3007,3010,3011,12,1013,1014] E I λa w E I hH=>?_;have hC:Rd w bb oo (bc bs):=(hp _ I.tail).rd (by omega);refine RH 6 E I hH hC λa E=>?_;refine QH E (λw hc=>ae E (hc 0 _ (kX (by omega)))) hC λa E=>?_;refine QP E (λw=>o3 E underlying5 underlying3 (sU _)) λa E=>?_;refine QH E (λw hc=>ae E (hc 1 _ (kX (by omega)))) hC λa E=>?_;refine QH E (λw hc=>o3 E underlying5 underlying3 (sU _)) hC λa E=>?_;refine QH E (λw hc=>ae E (hc 2 _ (kX (by omega)))) hC λa E=>?_;refine QH E (λw hc=>o3 E underlying5 underlying3 (sU _)) hC λa E=>?_;refine RH 1 E I hH hC λa E=>?_;refine eV E rfl I Ty.t203 rfl λb4 a w E I ho=>?_;clear ho;replace hC:=hH.at w ((hp _ I.tail.tail).rd (by omega));refine RH 0 E I hH hC λa E=>?_;refine SA 0 E I λa w E I=>?_;refine RN 5 E I λa E=>?_;rw[show (bs.length:Int)-4=((bs.length-4:Nat):Int) from by omega]at E;refine RN 1 E I λa E=>?_;obtain⟨R1,ES⟩:∃ R1,R1=(bs.drop 3).take (bs.length-7):=⟨_,rfl⟩;have kN:R1.length=bs.length-7:=by rw[ES,ep,c3];omega
 have e9:qs W L (fl (some ⟨bb,oo,none⟩) 3 c 1) (c-3) R1:=⟨by omega,by omega,λw' hw=>by
  rw[kN,ES];exact ((hp w' hw).ue (lo:=3) (by omega) hc).D9 (by rw[c3];omega)⟩
 have lP:∀ q,g3 bs q→(q.kind=((bs.getD 0 0).toNat:Int)∧q.aW=((bs.getD 1 0).toNat:Int)∧q.to=((bs.getD 2 0).toNat:Int))∧R1=kW q:=λq h=>by
  rw[ES];exact ER h
 rw[show bs.length-4-3=R1.length from by omega]at E;generalize fl (some ⟨bb,oo,none⟩) 3 c 1=lr at E e9;generalize c-3=dL at E e9;generalize R1=R1 at E e9 lP;refine BX 1 E I λjB a w E I=>?_;refine jP 3 E I (yc (L:=L) I (λ_ h=>h.tail.tail) e9) ?_;clear E I;rintro e w ⟨x1,ad2,c2,R2,z2,rfl,eH,eX,ie,I⟩;refine⟨_,rfl,λa E=>?_⟩;refine ST 1 E I (λa w E I=>?_);refine RN 0 E I λa E=>?_;replace ie:∀ q,g3 bs q→(q.kind=((bs.getD 0 0).toNat:Int)∧q.aW=((bs.getD 1 0).toNat:Int)∧q.to=((bs.getD 2 0).toNat:Int)∧q.id=x1)∧R2=m3 q∧z2=false:=λq h=>by
  obtain⟨h1,h2⟩:=lP q h;obtain⟨e1,e2,e3⟩:=ie q.id (m3 q) ⟨by have:=h.1.2.2.2.1;omega,by have:=h.1.2.2.2.1;omega⟩ (by rw[h2,kW]) rfl;exact⟨⟨h1.1,h1.2.1,h1.2.2,e1.symm⟩,e2,e3⟩
 refine cc (M:=λa w=>∃ (p:Pk) (adP:Option Addr) (cP:Nat) (av:Option Addr) (c':Nat) (R':List UInt8) (z:Bool),p.sum<4294967296∧(∀ q,g3 bs q→p=q∧z=false)∧Fr a 91 [(0,.slice (some ⟨bb,oo,none⟩) bs.length c),(2,pt b2),(4,pt b4),(5,pt jB)]∧U W w (aa b4 203 (dJ p adP cP)::Sl 5 1 adP p.al.length cP (bc p.al)::aa jB 427 [.slice av R'.length c',.bool z]::aa b2 203 (dJ m2 none 0)::L)) ?_ ?_
 ·
  refine IF 4 E I (λao a E=>?_) λao a E=>?_
  ·
   have m7:∀ q,g3 bs q→m3 q=aP (zz q.first)++(aP (zz q.c7)++(aP (zz q.frame)++lT q))∧(yb q.first∧yb q.c7∧yb q.frame)∧q.al.length≤32:=λq h=>by
    have hk:=(ie q h).1.1;rw[ao]at hk;rcases h.1.2.2.2.2 with k | k
    ·obtain⟨_,k1,k2,k3,k4⟩:=k;unfold eG at k1 k2 k3;exact⟨by rw[m3,ak hk],⟨⟨by omega,by omega⟩,⟨by omega,by omega⟩,⟨by omega,by omega⟩⟩,k4⟩
    ·omega
   refine jP 2 E I (yc (L:=L) (I.perm (List.Perm.swap _ _ _)) (λ_ h=>h.tail.tail) eX) ?_;clear E I;rintro e w ⟨x2,fm,dC,R3,z3,rfl,df,j1,xY,I⟩;refine⟨_,rfl,λa E=>?_⟩;replace xY:∀ q,g3 bs q→q.first=x2∧R3=aP (zz q.c7)++(aP (zz q.frame)++lT q)∧z3=false:=λq h=>by
    obtain⟨_,h2,h3⟩:=ie q h;obtain⟨e1,e2,e3⟩:=xY q.first _ (m7 q h).2.1.1 (by rw[h2,(m7 q h).1]) h3;exact⟨e1.symm,e2,e3⟩
   refine ST 1 E I (λa w E I=>?_);refine jP 2 E I (yc (L:=L) (I.perm (List.Perm.swap _ _ _)) (λ_ h=>h.tail.tail) j1) ?_;clear E I;rintro e w ⟨x3,mh,hG,X9,z4,rfl,ed,qo,Az,I⟩;refine⟨_,rfl,λa E=>?_⟩;replace Az:∀ q,g3 bs q→q.c7=x3∧X9=aP (zz q.frame)++lT q∧z4=false:=λq h=>by
    obtain⟨_,h2,h3⟩:=xY q h;obtain⟨e1,e2,e3⟩:=Az q.c7 _ (m7 q h).2.1.2.1 h2 h3;exact⟨e1.symm,e2,e3⟩
   refine ST 1 E I (λa w E I=>?_);refine jP 2 E I (yc (L:=L) (I.perm (List.Perm.swap _ _ _)) (λ_ h=>h.tail.tail) qo) ?_;clear E I;rintro e w ⟨KC,ec,dD,Ya,z5,rfl,uk,sT,AA,I⟩;refine⟨_,rfl,λa E=>?_⟩;replace AA:∀ q,g3 bs q→q.frame=KC∧Ya=fc q.sum++(aP (zz (q.al.length:Int))++dv q.al 0)∧z5=false:=λq h=>by
    obtain⟨_,h2,h3⟩:=Az q h;obtain⟨e1,e2,e3⟩:=AA q.frame _ (m7 q h).2.1.2.2 h2 h3;exact⟨e1.symm,by rw[e2,lT],e3⟩
   refine ST 1 E I (λa w E I=>?_);refine jP 2 E I (X5 (L:=L) (I.perm (List.Perm.swap _ _ _)) (λ_ h=>h.tail.tail) sT) ?_;clear E I;rintro e w ⟨KD,sA,oa,Yb,Yc,rfl,sV,yd,AB,I⟩;refine⟨_,rfl,λa E=>?_⟩;replace AB:∀ q,g3 bs q→q.sum=KD∧Yb=aP (zz (q.al.length:Int))++dv q.al 0∧Yc=false:=λq h=>by
    obtain⟨_,h2,h3⟩:=AA q h;obtain⟨e1,e2,e3⟩:=AB q.sum _ h.2.1 h2 h3;exact⟨e1.symm,e2,e3⟩
   refine ST 1 E I (λa w E I=>?_);refine jP 2 E I (yc (L:=L) (I.perm (List.Perm.swap _ _ _)) (λ_ h=>h.tail.tail) yd) ?_;clear E I;rintro e w ⟨Yd,se,qW,R7,KE,rfl,qt,vX,ye,I⟩;refine⟨_,rfl,λa E=>?_⟩;replace ye:∀ q,g3 bs q→(q.al.length:Int)=Yd∧R7=dv q.al 0∧KE=false:=λq h=>by
    obtain⟨_,h2,h3⟩:=AB q h;have eB:=(m7 q h).2.2;obtain⟨e1,e2,e3⟩:=ye q.al.length _ ⟨by omega,by omega⟩ h2 h3;exact⟨e1.symm,e2,e3⟩
   refine jP 6 E I (XI (m:=32) I vX.len vX.cap (by omega) (λw' hw=>vX.rd w' hw.tail.tail.tail)) ?_;clear E I;rintro e w ⟨out,aq,cO,er,rfl,nv,I⟩;refine⟨_,rfl,λa E=>?_⟩;refine BY 10 E I (λbA a E=>?_) λbA a E=>?_
   ·
    refine SA 8 E I λa w E I=>?_;refine RT 1 E I ?_;have bR:eu bs=none:=nH λ⟨q,h⟩=>by
     obtain⟨_,e2,_⟩:=ye q h;have:=(nv.2.2 q.al (m7 q h).2.2 e2).2;simp[this]at bA
    exact⟨m2,none,0,false,rfl,.inr ⟨rfl,bR,rfl,rfl,rfl⟩,I.sub.bN _ _ _⟩
   refine IF 5 E I (λay a E=>?_) λay a E=>?_
   ·
    refine SA 2 E I λa w E I=>?_;refine RT 1 E I ?_;have bR:eu bs=none:=nH λ⟨q,h⟩=>by
     obtain⟨e1,e2,_⟩:=ye q h;have:=(nv.2.2 q.al (m7 q h).2.2 e2).1;rw[this]at ay;omega
    exact⟨m2,none,0,false,rfl,.inr ⟨rfl,bR,rfl,rfl,rfl⟩,I.sub.bN _ _ _⟩
   refine ST 2 E I (λa w E I=>?_);refine RN 0 E I λa E=>?_;refine⟨⟨((bs.getD 0 0).toNat:Int),((bs.getD 1 0).toNat:Int),((bs.getD 2 0).toNat:Int),x1,x2,x3,KC,KD,out⟩,aq,cO,se,qW,R7,KE,by assumption,λq h=>?_,E.ab [0,2,4,5],I⟩;obtain⟨h1,h2,h3,h4⟩:=(ie q h).1;have h5:=(xY q h).1;have h6:=(Az q h).1;have h7:=(AA q h).1;have h8:=(AB q h).1;have h9:=ye q h;have eI:=(nv.2.2 q.al (m7 q h).2.2 h9.2.1).1;refine⟨?_,h9.2.2⟩;rw[← h1,← h2,← h3,← h4,← h5,← h6,← h7,← h8,eI]
  refine RN 0 E I λa E=>?_;refine⟨⟨((bs.getD 0 0).toNat:Int),((bs.getD 1 0).toNat:Int),((bs.getD 2 0).toNat:Int),x1,0,0,0,0,[]⟩,none,0,ad2,c2,R2,z2,by show 0<4294967296;decide,λq h=>?_,E.ab [0,2,4,5],(I.bN 5 1 none).perm (List.Perm.swap _ _ _)⟩;obtain⟨⟨h1,h2,h3,h4⟩,_,h5⟩:=ie q h;rw[← h1]at ao;rcases h.1.2.2.2.2 with k | k
  ·exact absurd k.1 ao
  ·obtain⟨sW,k1,k2,k3,k4,yf⟩:=k;have k4:=gW k4;refine⟨?_,h5⟩;rw[← h1,← h2,← h3,← h4];cases q;simp_all
 clear E;(try clear I);rintro a w ⟨p,adP,cP,Aw,rv,afc,afd,lU,ET,E,I⟩;refine aY 3 E I (Kt (p:=p) I lU (λw' hw=>hw.cu adP p.al rfl rfl)) λadE cE a w E I=>?_;refine BY 7 E I (λdz a E=>?_) λdz a E=>?_
 ·
  refine SA 12 E I λa w E I=>?_;refine RT 1 E I ?_;have bR:eu bs=none:=nH λ⟨q,h⟩=>by
   rw[(ET q h).2]at dz;cases dz
  exact⟨m2,none,0,false,rfl,.inr ⟨rfl,bR,rfl,rfl,rfl⟩,I.sub.bN _ _ _⟩
 refine BY 4 E I (λfa a E=>?_) λfa a E=>?_
 ·
  refine SA 8 E I λa w E I=>?_;refine RT 1 E I ?_;have bR:eu bs=none:=nH λ⟨q,h⟩=>by
   have hn:=(I.cu adE (aR p) rfl rfl).2.1 (by cases adE with
    | none=>rfl
    | some _=>cases fa)
   rw[(ET q h).1,aR,ak h.1,x6]at hn;omega
  exact⟨m2,none,0,false,rfl,.inr ⟨rfl,bR,rfl,rfl,rfl⟩,I.sub.bN _ _ _⟩
 refine CL 2 E I (KB I (I.cu adE (aR p) rfl rfl) (hp _ I.tail.tail.tail.tail.tail)) λa w E I=>?_;refine IF 2 E I (λbk a E=>?_) λbk a E=>?_
 ·
  refine SA 2 E I λa w E I=>?_;refine RT 1 E I ?_;have bR:eu bs=none:=nH λ⟨q,h⟩=>by
   have e:aR p=bs:=by rw[(ET q h).1,aR,ak h.1];exact h.2.2
   rw[e]at bk;simp at bk
  exact⟨m2,none,0,false,rfl,.inr ⟨rfl,bR,rfl,rfl,rfl⟩,I.sub.bN _ _ _⟩
 refine SA 2 E I λa w E I=>?_;refine RT 1 E I ?_;exact⟨p,adP,cP,true,rfl,.inl ⟨rfl,Ar ((Et (λe=>by rw[e]at h7;simp at h7) lU).2 (by simpa using bk))⟩,I.sub⟩
end
end
end Go.Proofs.YteoldcfapaiobaaGreat
