/- Numbers out of bytes: num.Get, quintainref1.Get; quintainref1.Put. -/
import Derived.Test.YteoldcfapaiobaaGreatG06Ref
namespace Go.Proofs.YteoldcfapaiobaaGreat
open Tryz
open List (drop_zero drop_left foldl_cons drop_eq_nil_of_le append_nil foldl_append not_mem_nil replicate_succ')
open Go.RowKit
set_option linter.unusedVariables false
set_option linter.unusedSimpArgs false
set_option maxRecDepth 10000
set_option synthInstance.maxSize 4000
set_option synthInstance.maxHeartbeats 400000
section
theorem Yz {x:Nat}(h:x<256):IntKind.u8.wrap ((BitVec.ofInt IntKind.u8.bits (x:Int) &&& BitVec.ofInt IntKind.u8.bits 127).toNat)=((x%128:Nat):Int):=by
 have:∀ y:Fin 256,IntKind.u8.wrap ((BitVec.ofInt IntKind.u8.bits ((y.val:Nat):Int) &&& BitVec.ofInt IntKind.u8.bits 127).toNat)=((y.val%128:Nat):Int):=by decide +kernel
 exact this ⟨x,h⟩
theorem Le (i:Nat):(2:Nat) ^ (7*i)=128 ^ i:=by rw[Nat.pow_mul]
theorem YA {u d i:Nat}(hu:u<128 ^ i):u ||| d*128 ^ i=u+d*128 ^ i:=by
 rw[← Le]at hu ⊢;rw[Nat.mul_comm,Nat.add_comm,Nat.two_pow_add_eq_or_of_lt hu,Nat.or_comm]
theorem Fo {i:Nat}(hi:i≤9):128 ^ i≤9223372036854775808∧(i≤8→128 ^ i≤72057594037927936):=by
 have h9:(128:Nat) ^ 9=9223372036854775808:=by decide
 have h8:(128:Nat) ^ 8=72057594037927936:=by decide
 refine⟨h9 ▸ Nat.pow_le_pow_right (by decide) hi,λh=>h8 ▸ Nat.pow_le_pow_right (by decide) h⟩
theorem Lf {i d:Nat}(hi:i≤9)(h:i=9→d≤1)(hd:d≤127):d*128 ^ i≤9223372036854775808∧(i≤8→d*128 ^ i+128 ^ i≤128 ^ (i+1)):=by
 obtain⟨h1,h2⟩:=Fo hi;have hm:d*128 ^ i≤127*128 ^ i:=oy _ hd;refine⟨?_,λh8=>by rw[yR];omega⟩;rcases gR i 9 with h9 | h9
 ·have:=h2 (by omega);omega
 ·have:i=9:=by omega
  have tp:=h this;have:d*128 ^ i≤1*128 ^ i:=oy _ tp;omega
theorem Lg {bs:List UInt8}{i:Nat}(h:i<bs.length)(u:Nat):nu (bs.drop i) i u=if i=9∧1<bs[i].toNat then none
   else if 127<bs[i].toNat then nu (bs.drop (i+1)) (i+1) (u+bs[i].toNat%128*128 ^ i)
   else if 0<i∧bs[i].toNat=0 then none
   else some (u+bs[i].toNat*128 ^ i,i+1):=by
 rw[kH h,nu]
theorem YB {x:Nat}(h:x<18446744073709551616):IntKind.u64.wrap (((BitVec.ofInt IntKind.u64.bits (x:Int) &&& BitVec.ofInt IntKind.u64.bits 1).toNat:Nat):Int)=((x%2:Nat):Int):=by
 have h1:=Ya (y:=1) h (by decide);rw[Nat.and_one_is_mod]at h1;exact h1
theorem YC {x:Int}(h1:-9223372036854775808≤x)(h2:x≤9223372036854775807):IntKind.i64.wrap (((BitVec.ofInt IntKind.i64.bits (if IntKind.i64.signed then -1 else IntKind.i64.max) ^^^ BitVec.ofInt IntKind.i64.bits x).toNat:Nat):Int) = -x-1:=by
 have e:BitVec.ofInt IntKind.i64.bits (if IntKind.i64.signed then -1 else IntKind.i64.max)=BitVec.allOnes 64:=by
  show BitVec.ofInt 64 (-1)=_;decide
 rw[e];show IntKind.i64.wrap (((BitVec.allOnes 64 ^^^ BitVec.ofInt 64 x).toNat:Nat):Int)=_;rw[BitVec.allOnes_xor,BitVec.toNat_not,BitVec.toNat_ofInt];simp only[IntKind.wrap,IntKind.signed,IntKind.bits];simp;omega
section
variable {W w:World}{L:List SP}{c:Nat}{ad:Option Addr}{bs:List UInt8}
theorem Lh (I:U W w L)(hb:bs.length≤1099511627776)(hp:∀ w',U W w' L→aX w' ad bs.length bs) :
   Calls prog 339 #[.slice ad bs.length c] w λe w'=>∃ (x:Int) (k:Nat) (er:Int),e=.returned (.tuple #[.int .i64 x,.int .i64 k,.int .i64 er])∧mv bs x k er∧U W w' L:=by
 refine EN func339 ntmps339 rfl rfl λa E=>?_;refine RN 11 E I λa E=>?_;refine aN (λμ a w=>∃ (i u:Nat),(μ=bs.length-i∧i≤bs.length∧i≤9∧u<128 ^ i∧nu (bs.drop i) i u=tC bs)∧Fr a 50 [(5,.int .u64 u),(9,.slice ad bs.length c),(10,.int .i64 bs.length),(11,.int .i64 i)]∧U W w L) (bs.length) (⟨0,0,⟨rfl,by omega,by omega,by decide,rfl⟩,E.ab [5,9,10,11],I⟩) ?_;clear E I;rintro μ a w ⟨i,u,⟨rfl,hi,r4,hu,hg⟩,E,I⟩;refine IF 3 E I (λaj a E=>?_) λaj a E=>?_
 ·
  obtain⟨bb,oo,rfl,hr⟩:=(hp _ I).get (by omega);have aI:i<bs.length:=by omega
  have qY:=lk bs[i];rw[Lg aI]at hg;obtain⟨gH,im⟩:=Fo r4;refine RN 4 E I λa E=>?_;refine SS E (ae E (hr i _ (dU aI))) λa E=>?_;refine RN 3 E I λa E=>?_;refine cc (M:=λa w=>∃ z:Bool,(z=true↔(i=9∧1<bs[i].toNat))∧Fr a 50 [(5,.int .u64 u),(6,.int .i64 i),(7,.int .u8 (bs[i].toNat:Int)),(9,.slice (some ⟨bb,oo,none⟩) bs.length c),(10,.int .i64 bs.length),(11,.int .i64 i),(21,.bool z)]∧U W w L) ?_ ?_
  ·
   refine BY 3 E I (λbA a E=>?_) λbA a E=>?_
   ·
    refine RN 3 E I λa E=>?_;exact⟨_,by rw[cr];omega,E.ab [5,6,7,9,10,11,21],I⟩
   refine RN 3 E I λa E=>?_;exact⟨_,by simp;omega,E.ab [5,6,7,9,10,11,21],I⟩
  clear E;(try clear I);rintro a w ⟨z,hz,E,I⟩;refine IF 0 E I (λao a E=>?_) λao a E=>?_
  ·
   rw[ak (hz.1 ao)]at hg;refine RT 4 E I ?_;exact⟨_,_,_,rfl,mv.bad hg.symm (by omega),I⟩
  have kR:¬ (i=9∧1<bs[i].toNat):=λh=>absurd (hz.2 h) (by simp[ao]);rw[ag kR]at hg;obtain⟨tp,kM⟩:=Lf (d:=bs[i].toNat%128) r4 (by omega) (by omega);refine RN 4 E I λa E=>?_;rw[Yz qY]at E;refine SX 0 E I (by rw[wrap_u64];omega) λa E=>?_;refine RN 2 E I λa E=>?_;rw[show (7:Int)*(i:Int)=((7*i:Nat):Int) from by omega]at E;refine SS E (I8 E (jn:=7*i) (by show 7*i≤64;omega)) λa E=>?_;rw[show ((bs[i].toNat%128:Nat):Int)*2 ^ (7*i)=((bs[i].toNat%128*128 ^ i:Nat):Int) from by rw[Int.natCast_mul,← Le];simp,show IntKind.u64.wrap ((bs[i].toNat%128*128 ^ i:Nat):Int)=((bs[i].toNat%128*128 ^ i:Nat):Int) from by rw[wrap_u64];omega]at E;refine RN 1 E I λa E=>?_;rw[X9 (by omega) (by omega),YA hu]at E;refine IF 5 E I (λay a E=>?_) λay a E=>?_
  ·
   rw[ak (by omega)]at hg;refine RN 2 E I λa E=>?_;exact⟨bs.length-(i+1),by omega,i+1,_,⟨rfl,by omega,by omega,by have:=kM (by omega);omega,hg⟩,E.ab [5,9,10,11],I⟩
  rw[ag (by omega)]at hg;rw[kY (show bs[i].toNat<128 from by omega)]at E tp kM;refine RN 1 E I λa E=>?_;refine cc (M:=λa w=>∃ z:Bool,(z=true↔(0<i∧bs[i].toNat=0))∧Fr a 50 [(5,.int .u64 ((u+bs[i].toNat*128 ^ i:Nat):Int)),(6,.int .i64 i),(37,.bool z)]∧U W w L) ?_ ?_
  ·
   refine BY 3 E I (λbA a E=>?_) λbA a E=>?_
   ·
    refine RN 3 E I λa E=>?_;exact⟨_,by rw[cr];omega,E.ab [5,6,37],I⟩
   refine RN 3 E I λa E=>?_;exact⟨_,by simp;omega,E.ab [5,6,37],I⟩
  clear E;(try clear I);rintro a w ⟨z,hz,E,I⟩;refine IF 0 E I (λbk a E=>?_) λbk a E=>?_
  ·
   rw[ak (hz.1 bk)]at hg;refine RT 4 E I ?_;exact⟨_,_,_,rfl,mv.bad hg.symm (by omega),I⟩
  rw[ag (λh=>absurd (hz.2 h) (by simp[bk]))]at hg;generalize u+bs[i].toNat*128 ^ i=v at E hg;have hv:=(Fc hg.symm).1;refine RN 3 E I λa E=>?_;rw[show ((v:Nat):Int).fdiv (2 ^ 1)=((v/2:Nat):Int) from lf _ 2]at E;refine SS E (gr E underlying319 underlying2) λa E=>?_;rw[show IntKind.i64.wrap ((v/2:Nat):Int)=((v/2:Nat):Int) from fR (by omega) (by omega)]at E;refine RN 1 E I λa E=>?_;refine cc (M:=λa w=>Fr a 50 [(6,.int .i64 i),(8,.int .i64 (nv v))]∧U W w L) ?_ ?_
  ·
   refine RN 3 E I λa E=>?_;rw[YB hv]at E;refine IF 1 E I (λbN a E=>?_) λbN a E=>?_
   ·
    refine RN 2 E I λa E=>?_;rw[YC (by omega) (by omega)]at E;refine RN 1 E I λa E=>?_;rw[show -((v/2:Nat):Int)-1=nv v from by rw[nv,ak (by omega)]]at E;exact⟨E.ab [6,8],I⟩
   refine RN 0 E I λa E=>?_;rw[show ((v/2:Nat):Int)=nv v from by rw[nv,ag (by omega)]]at E;exact⟨E.ab [6,8],I⟩
  clear E;(try clear I);rintro a w ⟨E,I⟩;refine RT 7 E I ?_;exact⟨_,_,_,rfl,mv.K7 hg.symm,I⟩
 rw[drop_eq_nil_of_le (by omega),nu]at hg;refine RT 4 E I ?_;exact⟨_,_,_,rfl,mv.bad hg.symm (by omega),I⟩
theorem Fp (I:U W w L)(hb:bs.length≤1099511627776)(hp:∀ w',U W w' L→aX w' ad bs.length bs) :
   Calls prog 215 #[.slice ad bs.length c] w λe w'=>∃ (x:Int) (k:Nat) (er:Int),e=.returned (.tuple #[.int .i64 x,.int .i64 k,.int .i64 er])∧mv bs x k er∧U W w' L:=by
 refine EN func215 ntmps215 rfl rfl λa E=>?_;refine RN 11 E I λa E=>?_;refine aN (λμ a w=>∃ (i u:Nat),(μ=bs.length-i∧i≤bs.length∧i≤9∧u<128 ^ i∧nu (bs.drop i) i u=tC bs)∧Fr a 64 [(0,.slice ad bs.length c),(5,.int .u64 u),(6,.int .u64 ((128 ^ i:Nat):Int)),(7,.int .i64 i)]∧U W w L) (bs.length) (⟨0,0,⟨rfl,by omega,by omega,by decide,rfl⟩,E.ab [0,5,6,7],I⟩) ?_;clear E I;rintro μ a w ⟨i,u,⟨rfl,hi,r4,hu,hg⟩,E,I⟩;refine IF 6 E I (λaj a E=>?_) λaj a E=>?_
 ·
  obtain⟨bb,oo,rfl,hr⟩:=(hp _ I).get (by omega);have aI:i<bs.length:=by omega
  have qY:=lk bs[i];rw[Lg aI]at hg;obtain⟨gH,im⟩:=Fo r4;refine RN 2 E I λa E=>?_;refine cc (M:=λa w=>∃ z:Bool,(z=true↔(i=9∧1<bs[i].toNat)∨(0<i∧bs[i].toNat=0))∧Fr a 64 [(0,.slice (some ⟨bb,oo,none⟩) bs.length c),(5,.int .u64 u),(6,.int .u64 ((128 ^ i:Nat):Int)),(7,.int .i64 i),(34,.bool z)]∧U W w L) ?_ ?_
  ·
   refine BY 3 E I (λbA a E=>?_) λbA a E=>?_
   ·
    refine RN 3 E I λa E=>?_;refine bw E (cw E rfl (s:=17)) (ae E (hr i _ (dU aI))) rfl λa E=>?_;refine BY 3 E I (λr5 a E=>?_) λr5 a E=>?_
    ·
     refine RN 10 E I λa E=>?_;refine⟨_,?_,E.ab [0,5,6,7,34],I⟩
     (try simp only[cr]);(try simp only[Bool.false_eq_true,true_iff,false_iff]);omega
    refine BY 3 E I (λiq a E=>?_) λiq a E=>?_
    ·
     refine RN 3 E I λa E=>?_;refine bw E (cw E rfl (s:=27)) (ae E (hr i _ (dU aI))) rfl λa E=>?_;refine RN 3 E I λa E=>?_;refine⟨_,?_,E.ab [0,5,6,7,34],I⟩
     (try simp only[cr]);(try simp only[Bool.false_eq_true,true_iff,false_iff]);omega
    refine RN 7 E I λa E=>?_;refine⟨_,?_,E.ab [0,5,6,7,34],I⟩
    (try simp only[cr]);(try simp only[Bool.false_eq_true,true_iff,false_iff]);omega
   refine BY 10 E I (λiq a E=>?_) λiq a E=>?_
   ·
    refine RN 3 E I λa E=>?_;refine bw E (cw E rfl (s:=27)) (ae E (hr i _ (dU aI))) rfl λa E=>?_;refine RN 3 E I λa E=>?_;refine⟨_,?_,E.ab [0,5,6,7,34],I⟩
    (try simp only[cr]);(try simp only[Bool.false_eq_true,true_iff,false_iff]);omega
   refine RN 7 E I λa E=>?_;refine⟨_,?_,E.ab [0,5,6,7,34],I⟩
   (try simp only[cr]);(try simp only[Bool.false_eq_true,true_iff,false_iff]);omega
  clear E;(try clear I);rintro a w ⟨z,hz,E,I⟩;refine IF 0 E I (λao a E=>?_) λao a E=>?_
  ·
   have cV:=hz.1 ao;have Az:tC bs=none:=by
    rw[← hg];by_cases h9:i=9∧1<bs[i].toNat
    ·rw[ak h9]
    ·rw[ag h9,ag (by omega),ak (by omega)]
   refine RT 4 E I ?_;exact⟨_,_,_,rfl,mv.bad Az (by omega),I⟩
  have kR:¬ ((i=9∧1<bs[i].toNat)∨(0<i∧bs[i].toNat=0)):=λh=>absurd (hz.2 h) (by simp[ao]);have hr:=(hp _ I).rd (by omega);obtain⟨tp,kM⟩:=Lf (d:=bs[i].toNat%128) r4 (by omega) (by omega);refine RN 5 E I λa E=>?_;refine SS E (ae E (hr i _ (dU aI))) λa E=>?_;refine SX 0 E I (by decide) λa E=>?_;rw[show ((bs[i].toNat:Nat):Int).tmod 128=((bs[i].toNat%128:Nat):Int) from oG _ 128]at E;refine SX 0 E I (by rw[wrap_u64];omega) λa E=>?_;refine RN 2 E I λa E=>?_;rw[show ((bs[i].toNat%128:Nat):Int)*((128 ^ i:Nat):Int)=((bs[i].toNat%128*128 ^ i:Nat):Int) from (Int.natCast_mul ..).symm,show IntKind.u64.wrap ((bs[i].toNat%128*128 ^ i:Nat):Int)=((bs[i].toNat%128*128 ^ i:Nat):Int) from by rw[wrap_u64];omega]at E;refine RN 1 E I λa E=>?_;rw[show IntKind.u64.wrap ((u:Int)+((bs[i].toNat%128*128 ^ i:Nat):Int))=((u+bs[i].toNat%128*128 ^ i:Nat):Int) from by rw[wrap_u64];omega]at E;refine RN 9 E I λa E=>?_;refine SS E (ae E (hr i _ (dU aI))) λa E=>?_;refine IF 1 E I (λay a E=>?_) λay a E=>?_
  ·
   rw[ag (by omega),ag (by omega),ag (by omega)]at hg;rw[kY (show bs[i].toNat<128 from by omega)]at E tp kM;generalize u+bs[i].toNat*128 ^ i=v at E hg;have hv:=(Fc hg.symm).1;refine RN 2 E I λa E=>?_;refine SS E (wi E (by decide) (by rw[show ((v:Nat):Int).tdiv 2=((v/2:Nat):Int) from rA _ 2,wrap_u64];omega)) λa E=>?_;rw[show ((v:Nat):Int).tdiv 2=((v/2:Nat):Int) from rA _ 2]at E;refine RN 0 E I λa E=>?_;refine SS E (gr E underlying319 underlying2) λa E=>?_;rw[show IntKind.i64.wrap ((v/2:Nat):Int)=((v/2:Nat):Int) from fR (by omega) (by omega)]at E;refine RN 1 E I λa E=>?_;refine cc (M:=λa w=>Fr a 64 [(7,.int .i64 i),(8,.int .i64 (nv v))]∧U W w L) ?_ ?_
   ·
    refine SX 2 E I (by decide) λa E=>?_;rw[show ((v:Nat):Int).tmod 2=((v%2:Nat):Int) from oG _ 2]at E;refine IF 1 E I (λbk a E=>?_) λbk a E=>?_
    ·
     refine RN 2 E I λa E=>?_;rw[show IntKind.i64.wrap (0-((v/2:Nat):Int)) = -((v/2:Nat):Int) from by rw[fR (by omega) (by omega)];omega]at E;refine RN 2 E I λa E=>?_;rw[show -((v/2:Nat):Int)-1=nv v from by rw[nv,ak (by omega)]]at E;exact⟨E.ab [7,8],I⟩
    refine RN 0 E I λa E=>?_;rw[show ((v/2:Nat):Int)=nv v from by rw[nv,ag (by omega)]]at E;exact⟨E.ab [7,8],I⟩
   clear E;(try clear I);rintro a w ⟨E,I⟩;refine RT 7 E I ?_;exact⟨_,_,_,rfl,mv.K7 hg.symm,I⟩
  rw[ag (by omega),ak (by omega)]at hg;have Li:i≤8:=by omega
  rw[show IntKind.u64.wrap (((128 ^ i:Nat):Int)*128)=((128 ^ (i+1):Nat):Int) from by rw[wrap_u64,yR];have:=im Li;omega]at E;refine RN 3 E I λa E=>?_;exact⟨bs.length-(i+1),by omega,i+1,_,⟨rfl,by omega,by omega,by have:=kM (by omega);omega,hg⟩,E.ab [0,5,6,7],I⟩
 rw[drop_eq_nil_of_le (by omega),nu]at hg;refine RT 4 E I ?_;exact⟨_,_,_,rfl,mv.bad hg.symm (by omega),I⟩
theorem tE {N:Int}(I:U W w L)(h1:-9223372036854775808≤N)(h2:N≤9223372036854775807) :
   Calls prog 157 #[.int .i64 N] w λe w'=>∃ av c',e=.returned (.slice av (aQ (zz N)).length c')∧U W w' (Sl 5 1 av (aQ (zz N)).length c' (bc (aQ (zz N)))::L):=by
 refine EN func157 ntmps157 rfl rfl λa E=>?_;refine RN 4 E I λa E=>?_;refine SS E (gr E underlying2 underlying319) λa E=>?_;refine RN 1 E I λa E=>?_;rw[wrap_u64,wrap_u64]at E;refine RN 1 E I λa E=>?_;obtain⟨U0,Ew⟩:∃ U0:Nat,(N%18446744073709551616*2)%18446744073709551616=(U0:Int):=⟨((N%18446744073709551616*2)%18446744073709551616).toNat,by omega⟩;rw[Ew]at E;have Ey:U0<18446744073709551616:=by omega
 refine cc (M:=λa w=>Fr a 28 [(3,.int .u64 ((zz N:Nat):Int))]∧U W w L) ?_ ?_
 ·
  refine IF 3 E I (λaj a E=>?_) λaj a E=>?_
  ·
   refine RN 2 E I λa E=>?_;rw[Kq Ey]at E;refine RN 1 E I λa E=>?_;rw[show 18446744073709551615-U0=zz N from by rw[zz,ak aj];omega]at E;exact⟨E.ab [3],I⟩
  refine RN 0 E I λa E=>?_;rw[show U0=zz N from by rw[zz,ag (by omega)];omega]at E;exact⟨E.ab [3],I⟩
 clear E;(try clear I);rintro a w ⟨E,I⟩;refine RN 3 E I λa E=>?_;refine aN (λμ a w=>∃ (eh c':Nat) (av:Option Addr) (dn:List UInt8),(μ=eh∧dn++aQ eh=aQ (zz N)∧eh≤zz N)∧Fr a 28 [(3,.int .u64 (eh:Int)),(4,.slice av dn.length c')]∧U W w (Sl 5 1 av dn.length c' (bc dn)::L)) (zz N) (⟨zz N,0,none,[],⟨rfl,rfl,by omega⟩,E.ab [3,4],I.bM 5 1 none⟩) ?_;clear E I;rintro μ a w ⟨eh,c',av,dn,⟨yz,db,WI⟩,E,I⟩;refine RN 2 E I λa E=>?_;have cV:zz N<18446744073709551616:=by rw[zz];split <;> omega
 have gH:=qS 9 (zz N) (by simp;omega);have mT:dn.length≤10:=by
  have:=dd List.length db;rw[aJ]at this;omega
 clear gH;refine IF 2 E I (λao a E=>?_) λao a E=>?_
 ·
  refine SX 3 E I (by decide) λa E=>?_;rw[show ((eh:Nat):Int).tmod 128=((eh%128:Nat):Int) from oG _ 128]at E;refine RN 1 E I λa E=>?_;rw[show IntKind.u64.wrap (((eh%128:Nat):Int)+128)=((eh%128+128:Nat):Int) from by rw[wrap_u64];omega]at E;refine SX 0 E I (by rw[wrap_u8];omega) λa E=>?_;refine RN 0 E I λa E=>?_;refine cp E rfl I underlying22 Ty.t5 rfl rfl rfl rfl (by decide) (by decide) λnn a w E I ho=>?_;clear ho;refine RN 0 E I λa E=>?_;refine cQ E rfl I underlying22 Ty.t5 rfl rfl I.ai rfl (by simp[Value.oneCell']) (by decide) (by decide) (by omega) λyA Ez a w E I=>?_;have aS:bc dn++[[Value.int .u8 ((eh%128+128:Nat):Int)]].flatten=bc (dn++[UInt8.ofNat (eh%128+128)]):=by
   simp[bc,UInt8.toNat_ofNat'];omega
  rw[aS]at I;refine RN 2 E I λa E=>?_;refine SS E (wi E (by decide) (by rw[show ((eh:Nat):Int).tdiv 128=((eh/128:Nat):Int) from rA _ 128,wrap_u64];omega)) λa E=>?_;rw[show ((eh:Nat):Int).tdiv 128=((eh/128:Nat):Int) from rA _ 128]at E;refine RN 1 E I λa E=>?_;exact⟨eh/128,by omega,eh/128,_,yA,dn++[UInt8.ofNat (eh%128+128)],⟨rfl,by rw[← db,wN (u:=eh) (by omega),dx];rfl,by omega⟩,by rw[aJ];exact E.ab [3,4],by rw[aJ];exact I.sub⟩
 refine SX 3 E I (by rw[wrap_u8];omega) λa E=>?_;refine RN 0 E I λa E=>?_;refine cp E rfl I underlying22 Ty.t5 rfl rfl rfl rfl (by decide) (by decide) λKr a w E I ho=>?_;clear ho;refine RN 0 E I λa E=>?_;refine cQ E rfl I underlying22 Ty.t5 rfl rfl I.ai rfl (by simp[Value.oneCell']) (by decide) (by decide) (by omega) λEA EB a w E I=>?_;have aS:bc dn++[[Value.int .u8 ((eh:Nat):Int)]].flatten=bc (dn++[UInt8.ofNat eh]):=by
  simp[bc,UInt8.toNat_ofNat'];omega
 rw[aS,← qR (by omega),db]at I;refine RT 1 E I ?_;have hl:dn.length+1=(aQ (zz N)).length:=by rw[← db,qR (by omega),aJ];rfl
 rw[hl]at I ⊢;exact⟨_,_,rfl,I.sub⟩
end
end
section
theorem r7 {n:Int}(h1:-9223372036854775808≤n)(h2:n≤9223372036854775807):(aQ (zz n)).length≤10:=qS 9 _ (by
 have:=Fb h1 h2;have fg:(128:Nat) ^ (9+1)=1180591620717411303424:=by decide
 omega)
theorem u6 {l:List UInt8}{x:UInt8}:bc l++[[Value.int .u8 (x.toNat:Int)]].flatten=bc (l++[x]):=by simp[bc]
structure nz (bs:List UInt8)(i e:Nat):Prop where
 lt:i<e
 le:e≤bs.length
 same:∀ (j:Nat) (h:j<bs.length),i≤j→j<e→bs[j]=bs[i]'(by omega)
theorem nz.one {bs:List UInt8}{i:Nat}(h:i<bs.length):nz bs i (i+1):=⟨by omega,by omega,λj hj h1 h2=>by
 have:j=i:=by omega
 subst this;rfl⟩
theorem nz.more {bs:List UInt8}{i e:Nat}(h:nz bs i e)(he:e<bs.length)(hb:bs[e]'he=bs[i]'(by have:=h.lt;omega)):nz bs i (e+1):=⟨by have:=h.lt;omega,by omega,λj hj h1 h2=>by
 by_cases YD:j=e
 ·subst YD;exact hb
 ·exact h.same j hj h1 (by omega)⟩
theorem nz.runs {bs:List UInt8}{i e:Nat}(h:nz bs i e)(hi:i<bs.length)(hn:∀ he:e<bs.length,bs[e]≠bs[i])(last:UInt8) :
   dA (bs.drop i) last=aQ (zz ((e-i:Nat):Int))++(bs[i] ^^^ last)::dA (bs.drop e) bs[i]:=by
 have h1:=h.lt;have h2:=h.le;have hr:runN bs[i] (bs.drop (i+1))=e-i-1:=by
  refine Ym (λj hj=>?_) ?_
  ·rw[qw,aD (by omega),h.same (i+1+j) (by omega) (by omega) (by omega)]
  ·rw[qw,show i+1+(e-i-1)=e from by omega];rcases gR e bs.length with he | he
   ·rw[aD he];exact λhx=>hn he (p4 hx)
   ·rw[jt he];simp
 rw[kH hi,tD,hr,kA,show i+1+(e-i-1)=e from by omega,show e-i-1+1=e-i from by omega]
theorem ln {bs:List UInt8}{i:Nat}(h:i<bs.length):(bc bs)[i]?=some (.int .u8 ((bs.getD i 0).toNat:Int)):=by rw[dU h,bm,aD h];rfl
theorem mY.get {p dn rest:List UInt8}{last:UInt8}{x:Int}{k:Nat}{er:Int}(h:mY p dn last rest)(hp:p.length≤1000000)(h0:rest≠[])(hg:mv rest x k er) :
   er=0∧1≤x∧k<rest.length∧(dn≠[]→(rest.getD k 0).toNat≠0)∧(dn.length:Int)+x≤p.length∧mY p (dn++List.replicate x.toNat (last ^^^ rest.getD k 0)) (last ^^^ rest.getD k 0) (rest.drop (k+1)):=by
 obtain⟨m,y,r,e1,e2,e3,ju⟩:=h.next h0;obtain⟨rfl,rfl,rfl⟩:=hg.2.2.2.2 ((m+1:Nat):Int) _ (by omega) (by omega) e1;have hk:rest.getD (aQ (zz ((m+1:Nat):Int))).length 0=y ^^^ last:=by rw[e1,bm,pD (a7 _)];simp
 refine⟨rfl,by omega,by rw[e1];simp,by rw[hk];exact e3,by omega,?_⟩;rw[hk,Bm,show ((m+1:Nat):Int).toNat=m+1 from by omega];have hd:rest.drop ((aQ (zz ((m+1:Nat):Int))).length+1)=r:=by
  rw[e1,← kA,drop_left];rfl
 rw[hd];exact ju
def tF (bs:List UInt8)(m:Nat)(out:List UInt8)(er:Int):Prop:=(er=0∨er=1∨er=4)∧out.length≤m∧∀ p:List UInt8,p.length≤m→bs=dA p 0→out=p∧er=0
theorem Lj (bs:List UInt8)(i k:Nat):(bs.drop i).getD k 0=bs.getD (i+k) 0:=by simp[bm,qw]
theorem tF.bad {bs dn rest:List UInt8}{last:UInt8}{m k:Nat}{x er Fq:Int}(lT:∀ p:List UInt8,p.length≤m→bs=dA p 0→mY p dn last rest)(hm:m≤1000000)(h0:rest≠[])(hg:mv rest x k er)
   (kb:er≠0∨x<1∨rest.length≤k∨(dn≠[]∧(rest.getD k 0).toNat=0)∨(m:Int)<dn.length+x) (he:Fq=1∨Fq=4):tF bs m [] Fq:=by
 refine⟨by omega,by simp,λp hp e=>?_⟩;exfalso;obtain⟨g1,hS,l9,ma,o3,_⟩:=(lT p hp e).get (by omega) h0 hg;rcases kb with h | h | h | h | h
 ·exact h g1
 ·omega
 ·omega
 ·exact ma h.1 h.2
 ·omega
section
variable {W w:World}{L:List SP}{n c m:Nat}{ad:Option Addr}{bs:List UInt8}
theorem YE (I:U W w L)(hb:bs.length≤65536)(hp:∀ w',U W w' L→aX w' ad bs.length bs) :
   Calls prog 338 #[.slice ad bs.length c] w λe w'=>∃ av c',e=.returned (.slice av (dA bs 0).length c')∧U W w' (Sl 5 1 av (dA bs 0).length c' (bc (dA bs 0))::L):=by
 have gv:=yT bs 0;refine EN func338 ntmps338 rfl rfl λa E=>?_;refine RN 9 E I λa E=>?_;refine aN (λμ a w=>∃ (i c':Nat) (av:Option Addr) (dn:List UInt8) (last:UInt8),(μ=bs.length-i∧i≤bs.length∧dn++dA (bs.drop i) last=dA bs 0)∧Fr a 48 [(0,.slice ad bs.length c),(3,.slice av dn.length c'),(4,.int .u8 (last.toNat:Int)),(5,.int .i64 i)]∧U W w (Sl 5 1 av dn.length c' (bc dn)::L)) (bs.length) (⟨0,0,none,[],0,⟨rfl,by omega,rfl⟩,E.ab [0,3,4,5],I.bM 5 1 none⟩) ?_;clear E I;rintro μ a w ⟨i,c',av,dn,last,⟨rfl,hi,db⟩,E,I⟩;refine IF 6 E I (λaj a E=>?_) λaj a E=>?_
 ·
  obtain⟨bb,oo,rfl,_⟩:=(hp _ I.tail).get (by omega);have aI:i<bs.length:=by omega
  have mT:dn.length≤11*bs.length:=by
   have:=dd List.length db;rw[aJ]at this;omega
  refine RN 4 E I λa E=>?_;refine aN (λμ a w=>∃ (k:Nat),(μ=bs.length-k∧i≤k∧k≤bs.length∧(k=i∨nz bs i k))∧Fr a 48 [(0,.slice (some ⟨bb,oo,none⟩) bs.length c),(3,.slice av dn.length c'),(4,.int .u8 (last.toNat:Int)),(5,.int .i64 i),(6,.int .i64 k)]∧U W w (Sl 5 1 av dn.length c' (bc dn)::L)) (bs.length-i) (⟨i,⟨rfl,by omega,by omega,.inl rfl⟩,E.ab [0,3,4,5,6],I⟩) ?_;clear E I;rintro μ a w ⟨k,⟨rfl,pW,hk,kS⟩,E,I⟩;refine RN 1 E I λa E=>?_;refine cc (M:=λa w=>∃ z:Bool,(z=true→nz bs i (k+1))∧(z=false→nz bs i k∧∀ he:k<bs.length,bs[k]≠bs[i])∧Fr a 48 [(0,.slice (some ⟨bb,oo,none⟩) bs.length c),(3,.slice av dn.length c'),(4,.int .u8 (last.toNat:Int)),(5,.int .i64 i),(6,.int .i64 k),(26,.bool z)]∧U W w (Sl 5 1 av dn.length c' (bc dn)::L)) ?_ ?_
  ·
   refine bR 0 [12] [0,1,2,3,4,5,6,7,9,10,11,3008,1012,13,14] E I λa w E I hH hC=>?_;have hr:=(hp _ I.tail).rd (by omega);refine RH 5 E I hH hC λa E=>?_;refine E.by (s:=16) (λdE E=>?_) (λdE E=>?_)
   ·
    refine RH 6 E I hH hC λa E=>?_;refine QH E (λw hc=>ae E ((hc.rd hr) k _ (dU (i:=k) (bs:=bs) (show k<bs.length by omega)))) hC λa E=>?_;refine RH 0 E I hH hC λa E=>?_;refine bw E (cw E rfl (s:=16)) (ae E ((hC.rd hr) i _ (dU aI))) rfl λa E=>?_;refine RH 2 E I hH hC λa E=>?_;have dI:k<bs.length:=by omega
    refine⟨_,λh=>?_,λh=>?_,E.ab [0,3,4,5,6,26],I⟩
    ·have he:bs[k]=bs[i]:=UInt8.toNat_inj.1 (by have:=qE h;omega);rcases kS with rfl | kS
     ·exact nz.one aI
     ·exact kS.more dI he
    ·have he:bs[k]≠bs[i]:=λe=>of_decide_eq_false h (by rw[e]);rcases kS with rfl | kS
     ·exact absurd rfl he
     ·exact⟨kS,λ_=>he⟩
   refine RH 10 E I hH hC λa E=>?_;refine⟨_,λh=>(by cases h),λh=>?_,E.ab [0,3,4,5,6,26],I⟩;rcases kS with rfl | kS
   ·omega
   ·exact⟨kS,λ_=>absurd (show k<bs.length by assumption) (by omega)⟩
  clear E;(try clear I);rintro a w ⟨z,cV,kR,E,I⟩;refine IF 0 E I (λao a E=>?_) λao a E=>?_
  ·
   have p7:=cV ao;refine RN 3 E I λa E=>?_;exact⟨bs.length-(k+1),by have:=p7.le;omega,k+1,⟨rfl,by omega,p7.le,.inr p7⟩,E.ab [0,3,4,5,6],I⟩
  obtain⟨p7,bD⟩:=kR ao;rw[p7.runs aI bD last]at db;have dI:=p7.lt;have yw:=p7.le;refine aV 1 (λw0 w=>Rd w bb oo (bc bs)) [4] [0,1,2,3,5,6,7,9,3008,10,2004,1011,1012,13] E I λa w E I hH=>?_;have hC:=(hp _ I.tail).rd (by omega);have eo:=r7 (n:=((k-i:Nat):Int)) (by omega) (by omega);refine RH 4 E I hH hC λa E=>?_;rw[show ((k:Nat):Int)-((i:Nat):Int)=((k-i:Nat):Int) from by omega]at E;refine RH 4 E I hH hC λa E=>?_;refine QH E (λw hc=>ae E (hc i _ (dU aI))) hC λa E=>?_;refine RH 1 E I hH hC λa E=>?_;refine DN [(4,[1011,1012,13]),(11,[1004,1012,13])] (by kernel_rfl) rfl ⟨⟨_,rfl,?_⟩,⟨_,rfl,?_⟩,trivial⟩
  ·
   refine RH 0 E I hH hC λa E=>?_;refine aZ 0 E I (tr (N:=((k-i:Nat):Int)) (I.pick (Sl 5 1 av dn.length c' (bc dn))) (by omega) (by omega) (by omega)) λc1 dT a w E I=>?_;replace hC:=hH.at w ((hp _ I.sub).rd (by omega));refine RH 0 E I hH hC λa E=>?_;refine cp E rfl I underlying22 Ty.t5 rfl rfl rfl rfl (by decide) (by decide) λJi a w E I ho=>?_;clear ho;refine RN 0 E I λa E=>?_;refine cQ E rfl I underlying22 Ty.t5 rfl rfl I.ai rfl (by simp[Value.oneCell']) (by decide) (by decide) (by rw[aJ];omega) λyU Fs a w E I=>?_;refine RN 1 E I λa E=>?_;rw[u6]at I;have nA:(dn++aQ (zz ((k-i:Nat):Int))++[bs[i] ^^^ last])++dA (bs.drop k) bs[i]=dA bs 0:=by rw[← db];simp
   rw[show (dn++aQ (zz ((k-i:Nat):Int))).length+1=(dn++aQ (zz ((k-i:Nat):Int))++[bs[i] ^^^ last]).length from by simp only[aJ,jF]]at E I;generalize dn++aQ (zz ((k-i:Nat):Int))++[bs[i] ^^^ last]=r8 at E I nA;refine RN 4 E I λa E=>?_;refine SS E (ae E (((hp _ I.sub).rd (by omega)) i _ (dU aI))) λa E=>?_;refine RN 3 E I λa E=>?_;exact⟨bs.length-k,by omega,k,_,yU,r8,bs[i],⟨rfl,by omega,nA⟩,E.ab [0,3,4,5],I.sub⟩
  refine RH 0 E I hH hC λa E=>?_;refine cp E rfl I underlying22 Ty.t5 rfl rfl rfl rfl (by decide) (by decide) λJi a w E I ho=>?_;clear ho;refine aZ 0 E I (tr (N:=((k-i:Nat):Int)) (I.pick (Sl 5 1 av dn.length c' (bc dn))) (by omega) (by omega) (by omega)) λc1 dT a w E I=>?_;replace hC:=hH.at w ((hp _ I.sub).rd (by omega));refine RH 0 E I hH hC λa E=>?_;refine cQ E rfl I underlying22 Ty.t5 rfl rfl I.ai rfl (by simp[Value.oneCell']) (by decide) (by decide) (by rw[aJ];omega) λyU Fs a w E I=>?_;refine RN 1 E I λa E=>?_;rw[u6]at I;have nA:(dn++aQ (zz ((k-i:Nat):Int))++[bs[i] ^^^ last])++dA (bs.drop k) bs[i]=dA bs 0:=by rw[← db];simp
  rw[show (dn++aQ (zz ((k-i:Nat):Int))).length+1=(dn++aQ (zz ((k-i:Nat):Int))++[bs[i] ^^^ last]).length from by simp only[aJ,jF]]at E I;generalize dn++aQ (zz ((k-i:Nat):Int))++[bs[i] ^^^ last]=r8 at E I nA;refine RN 4 E I λa E=>?_;refine SS E (ae E (((hp _ I.sub).rd (by omega)) i _ (dU aI))) λa E=>?_;refine RN 3 E I λa E=>?_;exact⟨bs.length-k,by omega,k,_,yU,r8,bs[i],⟨rfl,by omega,nA⟩,E.ab [0,3,4,5],I.sub⟩
 rw[drop_eq_nil_of_le (by omega),w1,append_nil]at db;refine RT 3 E I ?_;exact⟨_,_,by rw[← db],by rw[← db];exact I⟩
theorem YF (I:U W w L)(hb:bs.length≤65536)(hp:∀ w',U W w' L→aX w' ad bs.length bs) :
   Calls prog 159 #[.slice ad bs.length c] w λe w'=>∃ av c',e=.returned (.slice av (dA bs 0).length c')∧U W w' (Sl 5 1 av (dA bs 0).length c' (bc (dA bs 0))::L):=by
 have gv:=yT bs 0;refine EN func159 ntmps159 rfl rfl λa E=>?_;refine RN 9 E I λa E=>?_;refine aN (λμ a w=>∃ (i c':Nat) (av:Option Addr) (dn:List UInt8) (last:UInt8),(μ=bs.length-i∧i≤bs.length∧dn++dA (bs.drop i) last=dA bs 0)∧Fr a 52 [(0,.slice ad bs.length c),(3,.slice av dn.length c'),(4,.int .u8 (last.toNat:Int)),(5,.int .i64 i)]∧U W w (Sl 5 1 av dn.length c' (bc dn)::L)) (bs.length) (⟨0,0,none,[],0,⟨rfl,by omega,rfl⟩,E.ab [0,3,4,5],I.bM 5 1 none⟩) ?_;clear E I;rintro μ a w ⟨i,c',av,dn,last,⟨rfl,hi,db⟩,E,I⟩;refine IF 6 E I (λaj a E=>?_) λaj a E=>?_
 ·
  obtain⟨bb,oo,rfl,_⟩:=(hp _ I.tail).get (by omega);have aI:i<bs.length:=by omega
  have mT:dn.length≤11*bs.length:=by
   have:=dd List.length db;rw[aJ]at this;omega
  refine RN 3 E I λa E=>?_;refine aN (λμ a w=>∃ (k:Nat),(μ=bs.length-k∧k≤bs.length∧nz bs i k)∧Fr a 52 [(0,.slice (some ⟨bb,oo,none⟩) bs.length c),(3,.slice av dn.length c'),(4,.int .u8 (last.toNat:Int)),(5,.int .i64 i),(6,.int .i64 ((k-i:Nat):Int))]∧U W w (Sl 5 1 av dn.length c' (bc dn)::L)) (bs.length-(i+1)) (⟨i+1,⟨rfl,by omega,nz.one aI⟩,by rw[show i+1-i=1 from by omega];exact E.ab [0,3,4,5,6],I⟩) ?_;clear E I;rintro μ a w ⟨k,⟨rfl,hk,kS⟩,E,I⟩;refine RN 1 E I λa E=>?_;refine cc (M:=λa w=>∃ z:Bool,(z=true→nz bs i (k+1))∧(z=false→∀ he:k<bs.length,bs[k]≠bs[i])∧Fr a 52 [(0,.slice (some ⟨bb,oo,none⟩) bs.length c),(3,.slice av dn.length c'),(4,.int .u8 (last.toNat:Int)),(5,.int .i64 i),(6,.int .i64 ((k-i:Nat):Int)),(29,.bool z)]∧U W w (Sl 5 1 av dn.length c' (bc dn)::L)) ?_ ?_
  ·
   refine RN 0 E I λa E=>?_;have pW:=kS.lt;refine bR 0 [16] [0,1,2,3,4,5,6,7,8,9,10,11,13,14,15,3012,1016,17,18] E I λa w E I hH hC=>?_;have hr:=(hp _ I.tail).rd (by omega);refine RH 3 E I hH hC λa E=>?_;rw[show ((i:Nat):Int)+((k-i:Nat):Int)=(k:Int) from by omega]at E;refine RH 4 E I hH hC λa E=>?_;refine E.by (s:=17) (λkc E=>?_) (λkc E=>?_)
   ·
    refine RH 4 E I hH hC λa E=>?_;rw[show ((i:Nat):Int)+((k-i:Nat):Int)=(k:Int) from by omega]at E;refine RH 4 E I hH hC λa E=>?_;refine QH E (λw hc=>ae E ((hc.rd hr) k _ (dU (i:=k) (bs:=bs) (show k<bs.length by omega)))) hC λa E=>?_;refine RH 0 E I hH hC λa E=>?_;refine bw E (cw E rfl (s:=17)) (ae E ((hC.rd hr) i _ (dU aI))) rfl λa E=>?_;refine RH 2 E I hH hC λa E=>?_;have dI:k<bs.length:=by omega
    refine⟨_,λh=>?_,λh=>?_,E.ab [0,3,4,5,6,29],I⟩
    ·have he:bs[k]=bs[i]:=UInt8.toNat_inj.1 (by have:=qE h;omega);exact kS.more dI he
    ·have he:bs[k]≠bs[i]:=λe=>of_decide_eq_false h (by rw[e]);exact λ_=>he
   refine RH 12 E I hH hC λa E=>?_;refine⟨_,λh=>(by cases h),λh=>?_,E.ab [0,3,4,5,6,29],I⟩;exact λ_=>absurd (show k<bs.length by assumption) (by omega)
  clear E;(try clear I);rintro a w ⟨z,cV,kR,E,I⟩;refine IF 0 E I (λao a E=>?_) λao a E=>?_
  ·
   have p7:=cV ao;refine RN 1 E I λa E=>?_;have pW:=kS.lt;have b0:((k-i:Nat):Int)≤65536:=by omega
   refine RN 1 E I λa E=>?_;rw[show ((k-i:Nat):Int)+1=((k+1-i:Nat):Int) from by omega]at E;refine RN 1 E I λa E=>?_;exact⟨bs.length-(k+1),by have:=p7.le;omega,k+1,⟨rfl,p7.le,p7⟩,E.ab [0,3,4,5,6],I⟩
  have bD:=kR ao;rw[kS.runs aI bD last]at db;have dI:=kS.lt;have yw:=kS.le;refine aV 1 (λw0 w=>Rd w bb oo (bc bs)) [2,3] [0,1,4,5,6,8,3007,9,2002,2003,1010,1011,12] E I λa w E I hH=>?_;have hC:=(hp _ I.tail).rd (by omega);have eo:=r7 (n:=((k-i:Nat):Int)) (by omega) (by omega);refine RH 6 E I hH hC λa E=>?_;refine QH E (λw hc=>ae E (hc i _ (dU aI))) hC λa E=>?_;refine RH 1 E I hH hC λa E=>?_;refine DN [(2,[2003,1010,1011,12]),(10,[1002,1003,1011,12])] (by kernel_rfl) rfl ⟨⟨_,rfl,?_⟩,⟨_,rfl,?_⟩,trivial⟩
  ·
   refine RH 0 E I hH hC λa E=>?_;refine aZ 0 E I (tE (N:=((k-i:Nat):Int)) I (by omega) (by omega)) λc1 dT a w E I=>?_;replace hC:=hH.at w ((hp _ I.sub).rd (by omega));refine RH 0 E I hH hC λa E=>?_;refine DN [(3,[1010,1011,12]),(10,[1003,1011,12])] (by kernel_rfl) rfl ⟨⟨_,rfl,?_⟩,⟨_,rfl,?_⟩,trivial⟩
   ·
    obtain⟨bp,op,rfl,fj⟩:=(I.cu c1 (aQ (zz ((k-i:Nat):Int))) rfl rfl).get (rV _);refine RH 0 E I hH hC λa E=>?_;refine cQ E rfl I underlying22 Ty.t5 rfl rfl fj (by rw[dy,fW]) (ez _) (rV _) (by decide) (by omega) λFt Fu a w E I=>?_;replace hC:=hH.at w ((hp _ I.sub).rd (by omega));refine RH 0 E I hH hC λa E=>?_;refine cp E rfl I underlying22 Ty.t5 rfl rfl rfl rfl (by decide) (by decide) λLl a w E I ho=>?_;clear ho;refine RN 0 E I λa E=>?_;refine cQ E rfl I underlying22 Ty.t5 rfl rfl I.ai rfl (by simp[Value.oneCell']) (by decide) (by decide) (by omega) λw6 Fv a w E I=>?_;refine RN 1 E I λa E=>?_;rw[← fM,u6]at I;have nA:(dn++aQ (zz ((k-i:Nat):Int))++[bs[i] ^^^ last])++dA (bs.drop k) bs[i]=dA bs 0:=by rw[← db];simp
    rw[show dn.length+(aQ (zz ((k-i:Nat):Int))).length+1=(dn++aQ (zz ((k-i:Nat):Int))++[bs[i] ^^^ last]).length from by simp only[aJ,jF]]at E I;generalize dn++aQ (zz ((k-i:Nat):Int))++[bs[i] ^^^ last]=r8 at E I nA;refine RN 4 E I λa E=>?_;refine SS E (ae E (((hp _ I.sub).rd (by omega)) i _ (dU aI))) λa E=>?_;refine RN 4 E I λa E=>?_;rw[show ((i:Nat):Int)+((k-i:Nat):Int)=(k:Int) from by omega]at E;refine RN 1 E I λa E=>?_;exact⟨bs.length-k,by omega,k,_,w6,r8,bs[i],⟨rfl,by omega,nA⟩,E.ab [0,3,4,5],I.sub⟩
   refine RH 0 E I hH hC λa E=>?_;refine cp E rfl I underlying22 Ty.t5 rfl rfl rfl rfl (by decide) (by decide) λLl a w E I ho=>?_;clear ho;obtain⟨bp,op,rfl,fj⟩:=(I.cu c1 (aQ (zz ((k-i:Nat):Int))) rfl rfl).get (rV _);refine RN 0 E I λa E=>?_;refine cQ E rfl I underlying22 Ty.t5 rfl rfl fj (by rw[dy,fW]) (ez _) (rV _) (by decide) (by omega) λFt Fu a w E I=>?_;replace hC:=hH.at w ((hp _ I.sub).rd (by omega));refine RH 0 E I hH hC λa E=>?_;refine cQ E rfl I underlying22 Ty.t5 rfl rfl I.ai rfl (by simp[Value.oneCell']) (by decide) (by decide) (by omega) λw6 Fv a w E I=>?_;refine RN 1 E I λa E=>?_;rw[← fM,u6]at I;have nA:(dn++aQ (zz ((k-i:Nat):Int))++[bs[i] ^^^ last])++dA (bs.drop k) bs[i]=dA bs 0:=by rw[← db];simp
   rw[show dn.length+(aQ (zz ((k-i:Nat):Int))).length+1=(dn++aQ (zz ((k-i:Nat):Int))++[bs[i] ^^^ last]).length from by simp only[aJ,jF]]at E I;generalize dn++aQ (zz ((k-i:Nat):Int))++[bs[i] ^^^ last]=r8 at E I nA;refine RN 4 E I λa E=>?_;refine SS E (ae E (((hp _ I.sub).rd (by omega)) i _ (dU aI))) λa E=>?_;refine RN 4 E I λa E=>?_;rw[show ((i:Nat):Int)+((k-i:Nat):Int)=(k:Int) from by omega]at E;refine RN 1 E I λa E=>?_;exact⟨bs.length-k,by omega,k,_,w6,r8,bs[i],⟨rfl,by omega,nA⟩,E.ab [0,3,4,5],I.sub⟩
  refine RH 0 E I hH hC λa E=>?_;refine cp E rfl I underlying22 Ty.t5 rfl rfl rfl rfl (by decide) (by decide) λLl a w E I ho=>?_;clear ho;refine aZ 0 E I (tE (N:=((k-i:Nat):Int)) I (by omega) (by omega)) λc1 dT a w E I=>?_;replace hC:=hH.at w ((hp _ I.sub).rd (by omega));obtain⟨bp,op,rfl,fj⟩:=(I.cu c1 (aQ (zz ((k-i:Nat):Int))) rfl rfl).get (rV _);refine RH 0 E I hH hC λa E=>?_;refine cQ E rfl I underlying22 Ty.t5 rfl rfl fj (by rw[dy,fW]) (ez _) (rV _) (by decide) (by omega) λFt Fu a w E I=>?_;replace hC:=hH.at w ((hp _ I.sub).rd (by omega));refine RH 0 E I hH hC λa E=>?_;refine cQ E rfl I underlying22 Ty.t5 rfl rfl I.ai rfl (by simp[Value.oneCell']) (by decide) (by decide) (by omega) λw6 Fv a w E I=>?_;refine RN 1 E I λa E=>?_;rw[← fM,u6]at I;have nA:(dn++aQ (zz ((k-i:Nat):Int))++[bs[i] ^^^ last])++dA (bs.drop k) bs[i]=dA bs 0:=by rw[← db];simp
  rw[show dn.length+(aQ (zz ((k-i:Nat):Int))).length+1=(dn++aQ (zz ((k-i:Nat):Int))++[bs[i] ^^^ last]).length from by simp only[aJ,jF]]at E I;generalize dn++aQ (zz ((k-i:Nat):Int))++[bs[i] ^^^ last]=r8 at E I nA;refine RN 4 E I λa E=>?_;refine SS E (ae E (((hp _ I.sub).rd (by omega)) i _ (dU aI))) λa E=>?_;refine RN 4 E I λa E=>?_;rw[show ((i:Nat):Int)+((k-i:Nat):Int)=(k:Int) from by omega]at E;refine RN 1 E I λa E=>?_;exact⟨bs.length-k,by omega,k,_,w6,r8,bs[i],⟨rfl,by omega,nA⟩,E.ab [0,3,4,5],I.sub⟩
 rw[drop_eq_nil_of_le (by omega),w1,append_nil]at db;refine RT 3 E I ?_;exact⟨_,_,by rw[← db],by rw[← db];exact I⟩
theorem YG (I:U W w L)(hb:bs.length≤65536)(hc:bs.length≤c)(hm:m≤1000000)(hp:∀ w',U W w' L→aX w' ad bs.length bs) :
   Calls prog 333 #[.slice ad bs.length c,.int .i64 m] w λe w'=>∃ (out:List UInt8) (av:Option Addr) (c':Nat) (er:Int),e=.returned (.tuple #[.slice av out.length c',.int .i64 er])∧tF bs m out er∧U W w' (Sl 5 1 av out.length c' (bc out)::L):=by
 refine EN func333 ntmps333 rfl rfl λa E=>?_;refine RN 10 E I λa E=>?_;refine aN (λμ a w=>∃ (i c':Nat) (av:Option Addr) (dn:List UInt8) (last:UInt8),(μ=bs.length-i∧i≤bs.length∧dn.length≤m∧(0<i→dn≠[])∧∀ p:List UInt8,p.length≤m→bs=dA p 0→mY p dn last (bs.drop i))∧Fr a 79 [(0,.slice ad bs.length c),(1,.int .i64 m),(6,.slice av dn.length c'),(7,.int .u8 (last.toNat:Int)),(8,.int .i64 i)]∧U W w (Sl 5 1 av dn.length c' (bc dn)::L)) (bs.length) (⟨0,0,none,[],0,⟨rfl,by omega,by simp,by omega,λp _ e=>by rw[drop_zero,e];exact mY.start p⟩,E.ab [0,1,6,7,8],I.bM 5 1 none⟩) ?_;clear E I;rintro μ a w ⟨i,c',av,dn,last,⟨rfl,hi,Fw,Fx,lT⟩,E,I⟩;refine IF 6 E I (λaj a E=>?_) λaj a E=>?_
 ·
  obtain⟨bb,oo,rfl,_⟩:=(hp _ I.tail).get (by omega);have aI:i<bs.length:=by omega
  have bD:bs.drop i≠[]:=λe=>by have:=dd List.length e;simp at this;omega
  refine RN 4 E I λa E=>?_;rw[show bs.length-i=(bs.drop i).length from by simp]at E;refine j3 0 E I (Lh (bs:=bs.drop i) I (by simp;omega) (λw' hw=>(hp w' hw.tail).u3 hi hc)) λx k er a w E ⟨hg,I⟩=>?_;refine RN 8 E I λa E=>?_;refine cc (M:=λa w=>∃ z:Bool,(z=true↔(er≠0∨x<1∨bs.length≤i+k∨((bs.getD (i+k) 0).toNat=0∧0<i)))∧Fr a 79 [(0,.slice (some ⟨bb,oo,none⟩) bs.length c),(1,.int .i64 m),(6,.slice av dn.length c'),(7,.int .u8 (last.toNat:Int)),(8,.int .i64 i),(9,.int .i64 x),(10,.int .i64 k),(50,.bool z)]∧U W w (Sl 5 1 av dn.length c' (bc dn)::L)) ?_ ?_
  ·
   have mT:(bs.drop i).length=bs.length-i:=by simp
   have p8:=hg.2.2.1;have nR:=hg.2.1;have o0:=hg.1;have dI:k≤bs.length:=by
    by_cases h0:er=0
    ·have:=p8 h0;omega
    ·have:=(hg.2.2.2.1 h0).1;omega
   refine BY 3 E I (λbA a E=>?_) λbA a E=>?_
   ·
    refine RN 24 E I λa E=>?_;exact⟨_,by first | (rw[cr];omega) | exact⟨λh=>(by cases h),λh=>absurd h (by omega)⟩ | exact⟨λ_=>by omega,λ_=>rfl⟩,E.ab [0,1,6,7,8,9,10,50],I⟩
   refine BY 4 E I (λkc a E=>?_) λkc a E=>?_
   ·
    refine RN 20 E I λa E=>?_;exact⟨_,by first | (rw[cr];omega) | exact⟨λh=>(by cases h),λh=>absurd h (by omega)⟩ | exact⟨λ_=>by omega,λ_=>rfl⟩,E.ab [0,1,6,7,8,9,10,50],I⟩
   refine BY 8 E I (λk9 a E=>?_) λk9 a E=>?_
   ·
    refine RN 12 E I λa E=>?_;exact⟨_,by first | (rw[cr];omega) | exact⟨λh=>(by cases h),λh=>absurd h (by omega)⟩ | exact⟨λ_=>by omega,λ_=>rfl⟩,E.ab [0,1,6,7,8,9,10,50],I⟩
   refine RN 4 E I λa E=>?_;rw[show ((i:Nat):Int)+((k:Nat):Int)=((i+k:Nat):Int) from by omega]at E;refine RN 1 E I λa E=>?_;refine bw E (cw E rfl (s:=38)) (ae E (((hp _ I.tail).rd (by omega)) (i+k) _ (ln (by omega)))) rfl λa E=>?_;refine BY 2 E I (λp9 a E=>?_) λp9 a E=>?_
   ·
    refine RN 4 E I λa E=>?_;exact⟨_,by first | (rw[cr];omega) | exact⟨λh=>(by cases h),λh=>absurd h (by omega)⟩ | exact⟨λ_=>by omega,λ_=>rfl⟩,E.ab [0,1,6,7,8,9,10,50],I⟩
   refine RN 4 E I λa E=>?_;exact⟨_,by first | (rw[cr];omega) | exact⟨λh=>(by cases h),λh=>absurd h (by omega)⟩ | exact⟨λ_=>by omega,λ_=>rfl⟩,E.ab [0,1,6,7,8,9,10,50],I⟩
  clear E;(try clear I);rintro a w ⟨z,hz,E,I⟩;refine IF 0 E I (λao a E=>?_) λao a E=>?_
  ·
   have kb:=hz.1 ao;refine RT 3 E I ?_;exact⟨[],none,0,1,rfl,tF.bad lT hm bD hg (by rw[Lj,c7];rcases kb with h | h | h | h;exact .inl h;exact .inr (.inl h);exact .inr (.inr (.inl (by omega)));exact .inr (.inr (.inr (.inl ⟨Fx h.2,h.1⟩)))) (.inl rfl),I.tail.bM _ _ _⟩
  have EY:¬ (er≠0∨x<1∨bs.length≤i+k∨((bs.getD (i+k) 0).toNat=0∧0<i)):=λh=>absurd (hz.2 h) (by simp[ao]);refine IF 9 E I (λay a E=>?_) λay a E=>?_
  ·
   refine RT 3 E I ?_;exact⟨[],none,0,4,rfl,tF.bad lT hm bD hg (.inr (.inr (.inr (.inr (by omega))))) (.inr rfl),I.tail.bM _ _ _⟩
  refine RN 6 E I λa E=>?_;rw[show ((i:Nat):Int)+((k:Nat):Int)=((i+k:Nat):Int) from by omega]at E;refine RN 1 E I λa E=>?_;refine SS E (ae E (((hp _ I.tail).rd (by omega)) (i+k) _ (ln (by omega)))) λa E=>?_;refine RN 2 E I λa E=>?_;generalize hy:last ^^^ bs.getD (i+k) 0=y at E;refine RN 4 E I λa E=>?_;refine aN (λμ a w=>∃ (j c2:Nat) (ad2:Option Addr),(μ=x.toNat-j∧j≤x.toNat)∧Fr a 79 [(0,.slice (some ⟨bb,oo,none⟩) bs.length c),(1,.int .i64 m),(6,.slice ad2 (dn++List.replicate j y).length c2),(7,.int .u8 (y.toNat:Int)),(8,.int .i64 i),(10,.int .i64 k),(66,.int .i64 x),(67,.int .i64 j)]∧U W w (Sl 5 1 ad2 (dn++List.replicate j y).length c2 (bc (dn++List.replicate j y))::L)) (x.toNat) (⟨0,c',av,⟨rfl,by omega⟩,by rw[List.replicate_zero,append_nil];exact E.ab [0,1,6,7,8,10,66,67],by rw[List.replicate_zero,append_nil];exact I⟩) ?_;clear E I;rintro μ a w ⟨j,c2,ad2,⟨rfl,hj⟩,E,I⟩;refine IF 3 E I (λbk a E=>?_) λbk a E=>?_
  ·
   refine RN 1 E I λa E=>?_;have dQ:(dn++List.replicate j y).length=dn.length+j:=by simp
   refine RN 2 E I λa E=>?_;refine cp E rfl I underlying22 Ty.t5 rfl rfl rfl rfl (by decide) (by decide) λYH a w E I ho=>?_;clear ho;refine RN 0 E I λa E=>?_;refine cQ E rfl I underlying22 Ty.t5 rfl rfl I.ai rfl (by simp[Value.oneCell']) (by decide) (by decide) (by omega) λLm Lo a w E I=>?_;refine RN 1 E I λa E=>?_;rw[u6,show (dn++List.replicate j y)++[y]=dn++List.replicate (j+1) y from by rw[dx,← replicate_succ']]at I;rw[show (dn++List.replicate j y).length+1=(dn++List.replicate (j+1) y).length from by simp;omega]at E I;refine RN 2 E I λa E=>?_;exact⟨x.toNat-(j+1),by omega,j+1,_,_,⟨rfl,by omega⟩,E.ab [0,1,6,7,8,10,66,67],I.sub⟩
  obtain rfl:j=x.toNat:=by omega
  refine RN 0 E I λa E=>?_;have n1:(dn++List.replicate x.toNat y).length=dn.length+x.toNat:=by simp
  refine RN 4 E I λa E=>?_;rw[show ((i:Nat):Int)+(((k:Nat):Int)+1)=((i+k+1:Nat):Int) from by omega]at E;refine RN 1 E I λa E=>?_;exact⟨bs.length-(i+k+1),by omega,i+k+1,_,_,_,y,⟨rfl,by omega,by omega,λ_ e=>(by rw[e]at n1;simp at n1;omega),λp u7 e=>(by
   have h2:=((lT p u7 e).get (by omega) bD hg).2.2.2.2.2;rw[Lj,hy,kA]at h2;exact h2)⟩,E.ab [0,1,6,7,8],I⟩
 refine RT 4 E I ?_;exact⟨dn,_,_,0,rfl,⟨by omega,Fw,λp u7 e=>⟨by have h2:=lT p u7 e;rw[drop_eq_nil_of_le (by omega)]at h2;exact h2.done.symm,rfl⟩⟩,I⟩
theorem YI (I:U W w L)(hb:bs.length≤65536)(hc:bs.length≤c)(hm:m≤1000000)(hp:∀ w',U W w' L→aX w' ad bs.length bs) :
   Calls prog 216 #[.slice ad bs.length c,.int .i64 m] w λe w'=>∃ (out:List UInt8) (av:Option Addr) (c':Nat) (er:Int),e=.returned (.tuple #[.slice av out.length c',.int .i64 er])∧tF bs m out er∧U W w' (Sl 5 1 av out.length c' (bc out)::L):=by
 refine EN func216 ntmps216 rfl rfl λa E=>?_;refine RN 10 E I λa E=>?_;refine aN (λμ a w=>∃ (i c' o4:Nat) (av r9:Option Addr) (dn rest:List UInt8) (last:UInt8) (fi:Bool),(μ=rest.length∧rest.length≤bs.length∧rest.length≤o4∧dn.length≤m∧(fi=false→dn≠[])∧(∀ w',U W w' L→aX w' r9 rest.length rest)∧∀ p:List UInt8,p.length≤m→bs=dA p 0→mY p dn last rest)∧Fr a 72 [(0,.slice r9 rest.length o4),(1,.int .i64 m),(6,.slice av dn.length c'),(7,.int .u8 (last.toNat:Int)),(8,.bool fi)]∧U W w (Sl 5 1 av dn.length c' (bc dn)::L)) (bs.length) (⟨0,0,c,none,ad,[],bs,0,true,⟨rfl,by omega,hc,by simp,(by simp),hp,λp _ e=>by rw[e];exact mY.start p⟩,E.ab [0,1,6,7,8],I.bM 5 1 none⟩) ?_;clear E I;rintro μ a w ⟨i,c',o4,av,r9,dn,rest,last,fi,⟨rfl,Bq,jV,Fw,Fx,a6,lT⟩,E,I⟩;refine IF 5 E I (λaj a E=>?_) λaj a E=>?_
 ·
  obtain⟨bb,oo,rfl,_⟩:=(a6 _ I.tail).get (by omega);have bD:rest≠[]:=λe=>by rw[e]at aj;simp at aj
  refine j3 3 E I (Fp (bs:=rest) I (by omega) (λw' hw=>a6 w' hw.tail)) λx k er a w E ⟨hg,I⟩=>?_;refine RN 8 E I λa E=>?_;refine cc (M:=λa w=>∃ z:Bool,(z=true↔(er≠0∨x<1∨rest.length≤k∨((rest.getD k 0).toNat=0∧fi=false)))∧Fr a 72 [(0,.slice (some ⟨bb,oo,none⟩) rest.length o4),(1,.int .i64 m),(6,.slice av dn.length c'),(7,.int .u8 (last.toNat:Int)),(8,.bool fi),(9,.int .i64 x),(10,.int .i64 k),(44,.bool z)]∧U W w (Sl 5 1 av dn.length c' (bc dn)::L)) ?_ ?_
  ·
   have p8:=hg.2.2.1;have nR:=hg.2.1;have o0:=hg.1;have dI:k≤rest.length:=by
    by_cases h0:er=0
    ·have:=p8 h0;omega
    ·have:=(hg.2.2.2.1 h0).1;omega
   refine BY 3 E I (λbA a E=>?_) λbA a E=>?_
   ·
    refine RN 20 E I λa E=>?_;exact⟨_,by first | (rw[cr];omega) | exact⟨λh=>(by cases h),λh=>absurd h (by omega)⟩ | exact⟨λ_=>by omega,λ_=>rfl⟩ | (cases fi;exact⟨λ_=>.inr (.inr (.inr ⟨by omega,rfl⟩)),λ_=>rfl⟩;exact⟨λh=>(by cases h),λh=>by rcases h with h | h | h | h;exact absurd h (by omega);exact absurd h (by omega);exact absurd h (by omega);exact absurd h.2 (by decide)⟩),E.ab [0,1,6,7,8,9,10,44],I⟩
   refine BY 4 E I (λkc a E=>?_) λkc a E=>?_
   ·
    refine RN 16 E I λa E=>?_;exact⟨_,by first | (rw[cr];omega) | exact⟨λh=>(by cases h),λh=>absurd h (by omega)⟩ | exact⟨λ_=>by omega,λ_=>rfl⟩ | (cases fi;exact⟨λ_=>.inr (.inr (.inr ⟨by omega,rfl⟩)),λ_=>rfl⟩;exact⟨λh=>(by cases h),λh=>by rcases h with h | h | h | h;exact absurd h (by omega);exact absurd h (by omega);exact absurd h (by omega);exact absurd h.2 (by decide)⟩),E.ab [0,1,6,7,8,9,10,44],I⟩
   refine BY 6 E I (λiq a E=>?_) λiq a E=>?_
   ·
    refine RN 10 E I λa E=>?_;exact⟨_,by first | (rw[cr];omega) | exact⟨λh=>(by cases h),λh=>absurd h (by omega)⟩ | exact⟨λ_=>by omega,λ_=>rfl⟩ | (cases fi;exact⟨λ_=>.inr (.inr (.inr ⟨by omega,rfl⟩)),λ_=>rfl⟩;exact⟨λh=>(by cases h),λh=>by rcases h with h | h | h | h;exact absurd h (by omega);exact absurd h (by omega);exact absurd h (by omega);exact absurd h.2 (by decide)⟩),E.ab [0,1,6,7,8,9,10,44],I⟩
   refine RN 3 E I λa E=>?_;refine bw E (cw E rfl (s:=34)) (ae E (((a6 _ I.tail).rd (by omega)) k _ (ln (by omega)))) rfl λa E=>?_;refine BY 2 E I (λuQ a E=>?_) λuQ a E=>?_
   ·
    refine RN 4 E I λa E=>?_;exact⟨_,by first | (rw[cr];omega) | exact⟨λh=>(by cases h),λh=>absurd h (by omega)⟩ | exact⟨λ_=>by omega,λ_=>rfl⟩ | (cases fi;exact⟨λ_=>.inr (.inr (.inr ⟨by omega,rfl⟩)),λ_=>rfl⟩;exact⟨λh=>(by cases h),λh=>by rcases h with h | h | h | h;exact absurd h (by omega);exact absurd h (by omega);exact absurd h (by omega);exact absurd h.2 (by decide)⟩),E.ab [0,1,6,7,8,9,10,44],I⟩
   refine RN 4 E I λa E=>?_;exact⟨_,by first | (rw[cr];omega) | exact⟨λh=>(by cases h),λh=>absurd h (by omega)⟩ | exact⟨λ_=>by omega,λ_=>rfl⟩ | (cases fi;exact⟨λ_=>.inr (.inr (.inr ⟨by omega,rfl⟩)),λ_=>rfl⟩;exact⟨λh=>(by cases h),λh=>by rcases h with h | h | h | h;exact absurd h (by omega);exact absurd h (by omega);exact absurd h (by omega);exact absurd h.2 (by decide)⟩),E.ab [0,1,6,7,8,9,10,44],I⟩
  clear E;(try clear I);rintro a w ⟨z,hz,E,I⟩;refine IF 0 E I (λao a E=>?_) λao a E=>?_
  ·
   have kb:=hz.1 ao;refine RT 3 E I ?_;exact⟨[],none,0,1,rfl,tF.bad lT hm bD hg (by rcases kb with h | h | h | h;exact .inl h;exact .inr (.inl h);exact .inr (.inr (.inl (by omega)));exact .inr (.inr (.inr (.inl ⟨Fx h.2,h.1⟩)))) (.inl rfl),I.tail.bM _ _ _⟩
  have EY:¬ (er≠0∨x<1∨rest.length≤k∨((rest.getD k 0).toNat=0∧fi=false)):=λh=>absurd (hz.2 h) (by simp[ao]);refine IF 9 E I (λay a E=>?_) λay a E=>?_
  ·
   refine RT 3 E I ?_;exact⟨[],none,0,4,rfl,tF.bad lT hm bD hg (.inr (.inr (.inr (.inr (by omega))))) (.inr rfl),I.tail.bM _ _ _⟩
  refine RN 5 E I λa E=>?_;refine SS E (ae E (((a6 _ I.tail).rd (by omega)) k _ (ln (by omega)))) λa E=>?_;refine RN 2 E I λa E=>?_;generalize hy:last ^^^ rest.getD k 0=y at E;refine RN 3 E I λa E=>?_;refine aN (λμ a w=>∃ (j c2:Nat) (ad2:Option Addr),(μ=x.toNat-j∧j≤x.toNat)∧Fr a 72 [(0,.slice (some ⟨bb,oo,none⟩) rest.length o4),(1,.int .i64 m),(6,.slice ad2 (dn++List.replicate j y).length c2),(7,.int .u8 (y.toNat:Int)),(8,.bool fi),(9,.int .i64 x),(10,.int .i64 k),(12,.int .i64 j)]∧U W w (Sl 5 1 ad2 (dn++List.replicate j y).length c2 (bc (dn++List.replicate j y))::L)) (x.toNat) (⟨0,c',av,⟨rfl,by omega⟩,by rw[List.replicate_zero,append_nil];exact E.ab [0,1,6,7,8,9,10,12],by rw[List.replicate_zero,append_nil];exact I⟩) ?_;clear E I;rintro μ a w ⟨j,c2,ad2,⟨rfl,hj⟩,E,I⟩;refine IF 5 E I (λbk a E=>?_) λbk a E=>?_
  ·
   refine RN 1 E I λa E=>?_;have dQ:(dn++List.replicate j y).length=dn.length+j:=by simp
   refine RN 2 E I λa E=>?_;refine cp E rfl I underlying22 Ty.t5 rfl rfl rfl rfl (by decide) (by decide) λSc a w E I ho=>?_;clear ho;refine RN 0 E I λa E=>?_;refine cQ E rfl I underlying22 Ty.t5 rfl rfl I.ai rfl (by simp[Value.oneCell']) (by decide) (by decide) (by omega) λafY c66 a w E I=>?_;refine RN 1 E I λa E=>?_;rw[u6,show (dn++List.replicate j y)++[y]=dn++List.replicate (j+1) y from by rw[dx,← replicate_succ']]at I;rw[show (dn++List.replicate j y).length+1=(dn++List.replicate (j+1) y).length from by simp;omega]at E I;refine RN 3 E I λa E=>?_;exact⟨x.toNat-(j+1),by omega,j+1,_,_,⟨rfl,by omega⟩,E.ab [0,1,6,7,8,9,10,12],I.sub⟩
  obtain rfl:j=x.toNat:=by omega
  refine RN 0 E I λa E=>?_;have n1:(dn++List.replicate x.toNat y).length=dn.length+x.toNat:=by simp
  refine RN 5 E I λa E=>?_;rw[show rest.length-(k+1)=(rest.drop (k+1)).length from by simp]at E;refine RN 1 E I λa E=>?_;exact⟨(rest.drop (k+1)).length,by simp;omega,0,_,_,_,_,_,rest.drop (k+1),y,false,⟨rfl,by simp;omega,by simp;omega,by omega,λ_ e=>(by rw[e]at n1;simp at n1;omega),λw' hw=>(a6 w' hw).u3 (by omega) jV,λp u7 e=>(by
   have h2:=((lT p u7 e).get (by omega) bD hg).2.2.2.2.2;rw[hy]at h2;exact h2)⟩,E.ab [0,1,6,7,8],I⟩
 refine RT 4 E I ?_;have YJ:rest=[]:=gG (by omega);exact⟨dn,_,_,0,rfl,⟨by omega,Fw,λp u7 e=>⟨by have h2:=lT p u7 e;rw[YJ]at h2;exact h2.done.symm,rfl⟩⟩,I⟩
end
end
section
abbrev dO (p:Pk)(ad:Option Addr)(c:Nat):List Value:=[.int .i64 p.kind,.int .i64 p.aW,.int .i64 p.to,.int .i64 p.id,.int .i64 p.first,.slice ad p.al.length c,.int .i64 p.dc,.int .i64 p.frame,.int .u32 p.sum]
def qa (m:Int)(ns:List Int):Prop:=∀ n∈ns,0≤n∧n≤m
def Fy (ns:List Int):List Value:=ns.map λn=>.int .i64 n
theorem YK {ns:List Int}{i:Nat}(h:i<ns.length):(Fy ns)[i]?=some (.int .i64 ns[i]):=by simp[Fy,h]
def iQ (p:Pk):Prop:=(0≤p.aW∧p.aW≤7)∧(0≤p.to∧p.to≤7)∧p.aW≠p.to∧(0≤p.id∧p.id≤1099511627776)
theorem Fz {p:Pk}(h:iQ p)(hk:p.kind=1):ia p↔(qa 1000 [p.first,p.dc,p.frame]∧p.al.length≤32):=by
 unfold iQ at h;simp only[ia,qa,eM,wQ,not_mem_nil,false_implies,implies_true,and_true];omega
theorem FA {p:Pk}(h:iQ p)(hk:p.kind=2):ia p↔(qa 0 [p.first,p.dc,p.frame,(p.al.length:Int)]∧p.sum=0):=by
 unfold iQ at h;simp only[ia,qa,eM,wQ,not_mem_nil,false_implies,implies_true,and_true];omega
theorem Bs {p:Pk}(h:ia p):iQ p:=⟨h.1,h.2.1,h.2.2.1,h.2.2.2.1⟩
theorem yV {p:Pk}(h:ia p):p.kind=1∨p.kind=2:=by
 rcases h.2.2.2.2 with h | h
 ·exact .inl h.1
 ·exact .inr h.1
section
variable {W w:World}{L:List SP}{n c:Nat}{ad:Option Addr}{p:Pk}
theorem FB {ns:List Int}{b:Nat}{M:Int}(I:U W w L)(hb:ns.length≤1000)(hp:∀ w',U W w' L→Rd w' b 0 (Fy ns)) :
   Calls prog 342 #[.int .i64 M,.slice (some ⟨b,0,none⟩) ns.length ns.length] w λe w'=>∃ r:Bool,e=.returned (.bool r)∧(r=true↔qa M ns)∧U W w' L:=by
 refine EN func342 ntmps342 rfl rfl λa E=>?_;refine RN 7 E I λa E=>?_;refine aN (λμ a w=>∃ (i:Nat),(μ=ns.length-i∧i≤ns.length∧qa M (ns.take i))∧Fr a 21 [(0,.int .i64 M),(7,.slice (some ⟨b,0,none⟩) ns.length ns.length),(8,.int .i64 ns.length),(9,.int .i64 i)]∧U W w L) (ns.length) (⟨0,⟨rfl,by omega,λn h=>by simp at h⟩,E.ab [0,7,8,9],I⟩) ?_;clear E I;rintro μ a w ⟨i,⟨rfl,hi,cD⟩,E,I⟩;refine IF 3 E I (λaj a E=>?_) λaj a E=>?_
 ·
  have aI:i<ns.length:=by omega
  refine RN 3 E I λa E=>?_;refine SS E (ae E (by have:=hp _ I i _ (YK aI);rwa [eG]at this)) λa E=>?_;refine RN 1 E I λa E=>?_;refine cc (M:=λa w=>∃ z:Bool,(z=true↔¬ (0≤ns[i]∧ns[i]≤M))∧Fr a 21 [(0,.int .i64 M),(7,.slice (some ⟨b,0,none⟩) ns.length ns.length),(8,.int .i64 ns.length),(9,.int .i64 i),(19,.bool z)]∧U W w L) ?_ ?_
  ·
   refine BY 3 E I (λbA a E=>?_) λbA a E=>?_
   ·
    refine RN 4 E I λa E=>?_;exact⟨_,by first | (rw[cr];omega) | exact⟨λh=>(by cases h),λh=>absurd h (by omega)⟩ | exact⟨λ_=>by omega,λ_=>rfl⟩,E.ab [0,7,8,9,19],I⟩
   refine RN 4 E I λa E=>?_;exact⟨_,by first | (rw[cr];omega) | exact⟨λh=>(by cases h),λh=>absurd h (by omega)⟩ | exact⟨λ_=>by omega,λ_=>rfl⟩,E.ab [0,7,8,9,19],I⟩
  clear E;(try clear I);rintro a w ⟨z,hz,E,I⟩;refine IF 0 E I (λao a E=>?_) λao a E=>?_
  ·
   refine RT 2 E I ?_;exact⟨_,rfl,⟨λh=>(by cases h),λh=>absurd (h _ (jd aI)) (hz.1 ao)⟩,I⟩
  refine RN 2 E I λa E=>?_;exact⟨ns.length-(i+1),by omega,i+1,⟨rfl,by omega,λn hn=>by
   rw[jx aI,eT,iK]at hn;rcases hn with hn | rfl
   ·exact cD n hn
   ·exact Classical.byContradiction λh=>by have:=hz.2 h;rw[ao]at this;cases this⟩,E.ab [0,7,8,9],I⟩
 refine RT 2 E I ?_;rw[gi (by omega)]at cD;exact⟨_,rfl,⟨λ_=>cD,λ_=>rfl⟩,I⟩
theorem Lp {M a b:Int}:qa M [a,b]↔(0≤a∧a≤M)∧(0≤b∧b≤M):=by simp[qa]
theorem YL {M a b c:Int}:qa M [a,b,c]↔(0≤a∧a≤M)∧(0≤b∧b≤M)∧(0≤c∧c≤M):=by simp[qa]
theorem YM (I:U W w L):Calls prog 336 #[.agg (dO p ad c).toArray] w λe w'=>∃ r:Bool,e=.returned (.bool r)∧(r=true↔ia p)∧U W w' L:=by
 have jG:=I;refine EN func336 ntmps336 rfl rfl λa E=>?_;refine BX 1 E I λb1 a w E I=>?_;refine RN 2 E I λa E=>?_;refine cc (M:=λa w=>∃ (z:Bool) (b1:Nat),(z=true↔¬ iQ p)∧Fr a 63 [(1,pt b1),(26,.bool z)]∧U W w (aa b1 203 (dO p ad c)::L)) ?_ ?_
 ·
  refine RN 4 E I λa E=>?_;refine cp E rfl I underlying53 Ty.t3 rfl rfl rfl rfl (by decide) (by decide) λdt a w E I ho=>?_;clear ho;refine bh 0 E I (FB (ns:=[p.aW,p.to]) I (by simp) (λw' hw=>hw.ai)) λr1 a w E ⟨ff,I⟩=>?_;refine BY 2 E I (λjU a E=>?_) λjU a E=>?_
  ·
   have hh:¬ iQ p:=λh=>by
    have:=ff.2 (Lp.2 ⟨h.1,h.2.1⟩);rw[jU]at this;cases this
   refine RN 16 E I λa E=>?_;exact⟨_,_,⟨λ_=>hh,λ_=>rfl⟩,E.ab [1,26],I.sub⟩
  have hh:=Lp.1 (ff.1 jU);refine BY 7 E I (λk9 a E=>?_) λk9 a E=>?_
  ·
   refine RN 9 E I λa E=>?_;exact⟨_,_,by unfold iQ;first | (rw[cr];omega) | exact⟨λh=>(by cases h),λh=>absurd h (by omega)⟩ | exact⟨λ_=>by omega,λ_=>rfl⟩,E.ab [1,26],I.sub⟩
  refine BY 5 E I (λqc a E=>?_) λqc a E=>?_
  ·
   refine RN 4 E I λa E=>?_;exact⟨_,_,by unfold iQ;first | (rw[cr];omega) | exact⟨λh=>(by cases h),λh=>absurd h (by omega)⟩ | exact⟨λ_=>by omega,λ_=>rfl⟩,E.ab [1,26],I.sub⟩
  refine RN 4 E I λa E=>?_;exact⟨_,_,by unfold iQ;first | (rw[cr];omega) | exact⟨λh=>(by cases h),λh=>absurd h (by omega)⟩ | exact⟨λ_=>by omega,λ_=>rfl⟩,E.ab [1,26],I.sub⟩
 clear E;(try clear I);rintro a w ⟨z,b1,hz,E,I⟩;refine IF 0 E I (λaj a E=>?_) λaj a E=>?_
 ·
  have hn:=hz.1 aj;refine RT 2 E I ?_;exact⟨_,rfl,⟨λh=>(by cases h),λh=>absurd (Bs h) hn⟩,I.sub⟩
 have hh:iQ p:=Classical.byContradiction λh=>by have:=hz.2 h;rw[aj]at this;cases this
 refine IF 7 E I (λao a E=>?_) λao a E=>?_
 ·
  have g7:p.kind=1:=ao;refine RN 7 E I λa E=>?_;refine cp E rfl I underlying53 Ty.t3 rfl rfl rfl rfl (by decide) (by decide) λV3 a w E I ho=>?_;clear ho;refine bh 0 E I (FB (ns:=[p.first,p.dc,p.frame]) I (by simp) (λw' hw=>hw.ai)) λafZ a w E ⟨tG,I⟩=>?_;refine BY 1 E I (λfh a E=>?_) λfh a E=>?_
  ·
   refine RT 6 E I ?_;refine⟨_,rfl,?_,I.sub⟩;rw[Fz hh g7,cr];exact⟨λh=>⟨tG.1 fh,by omega⟩,λh=>by omega⟩
  refine RT 6 E I ?_;exact⟨_,rfl,⟨λh=>(by cases h),λh=>by have:=tG.2 ((Fz hh g7).1 h).1;rw[fh]at this;cases this⟩,I.sub⟩
 refine IF 3 E I (λay a E=>?_) λay a E=>?_
 ·
  have b0:p.kind=2:=ay;refine RN 10 E I λa E=>?_;refine cp E rfl I underlying53 Ty.t3 rfl rfl rfl rfl (by decide) (by decide) λYN a w E I ho=>?_;clear ho;refine bh 0 E I (FB (ns:=[p.first,p.dc,p.frame,(p.al.length:Int)]) I (by simp) (λw' hw=>hw.ai)) λaf0 a w E ⟨w7,I⟩=>?_;refine BY 1 E I (λla a E=>?_) λla a E=>?_
  ·
   refine RT 5 E I ?_;refine⟨_,rfl,?_,I.sub⟩;rw[FA hh b0,cr];exact⟨λh=>⟨w7.1 la,by omega⟩,λh=>by omega⟩
  refine RT 5 E I ?_;exact⟨_,rfl,⟨λh=>(by cases h),λh=>by have:=w7.2 ((FA hh b0).1 h).1;rw[la]at this;cases this⟩,I.sub⟩
 refine RT 2 E I ?_;exact⟨_,rfl,⟨λh=>(by cases h),λh=>by rcases yV h with h | h;exact absurd h ao;exact absurd h ay⟩,I.sub⟩
theorem FC {x:Int}(I:U W w L):Calls prog 191 #[.int .i64 x] w λe w'=>∃ r:Bool,e=.returned (.bool r)∧(r=true↔eM x)∧U W w' L:=by
 refine EN func191 ntmps191 rfl rfl λa E=>?_;refine BY 6 E I (λbA a E=>?_) λbA a E=>?_
 ·
  refine RT 4 E I ?_;exact⟨_,rfl,by unfold eM;first | (rw[cr];omega) | exact⟨λh=>(by cases h),λh=>absurd h (by omega)⟩,I⟩
 refine RT 4 E I ?_;exact⟨_,rfl,by unfold eM;first | (rw[cr];omega) | exact⟨λh=>(by cases h),λh=>absurd h (by omega)⟩,I⟩
theorem YO (I:U W w L):Calls prog 156 #[.agg (dO p ad c).toArray] w λe w'=>∃ r:Bool,e=.returned (.bool r)∧(r=true↔ia p)∧U W w' L:=by
 refine EN func156 ntmps156 rfl rfl λa E=>?_;refine BX 1 E I λb1 a w E I=>?_;refine RN 2 E I λa E=>?_;refine cc (M:=λa w=>∃ (z:Bool) (b1:Nat),(z=true↔¬ (iQ p∧1≤p.kind∧p.kind≤2))∧Fr a 94 [(1,pt b1),(47,.bool z)]∧U W w (aa b1 203 (dO p ad c)::L)) ?_ ?_
 ·
  refine BY 4 E I (λbX a E=>?_) λbX a E=>?_
  ·
   refine RN 41 E I λa E=>?_;exact⟨_,_,by unfold iQ;first | (rw[cr];omega) | exact⟨λh=>(by cases h),λh=>absurd h (by omega)⟩ | exact⟨λ_=>by omega,λ_=>rfl⟩,E.ab [1,47],I.sub⟩
  refine BY 5 E I (λfh a E=>?_) λfh a E=>?_
  ·
   refine RN 36 E I λa E=>?_;exact⟨_,_,by unfold iQ;first | (rw[cr];omega) | exact⟨λh=>(by cases h),λh=>absurd h (by omega)⟩ | exact⟨λ_=>by omega,λ_=>rfl⟩,E.ab [1,47],I.sub⟩
  refine BY 5 E I (λnB a E=>?_) λnB a E=>?_
  ·
   refine RN 31 E I λa E=>?_;exact⟨_,_,by unfold iQ;first | (rw[cr];omega) | exact⟨λh=>(by cases h),λh=>absurd h (by omega)⟩ | exact⟨λ_=>by omega,λ_=>rfl⟩,E.ab [1,47],I.sub⟩
  refine BY 5 E I (λuQ a E=>?_) λuQ a E=>?_
  ·
   refine RN 26 E I λa E=>?_;exact⟨_,_,by unfold iQ;first | (rw[cr];omega) | exact⟨λh=>(by cases h),λh=>absurd h (by omega)⟩ | exact⟨λ_=>by omega,λ_=>rfl⟩,E.ab [1,47],I.sub⟩
  refine BY 5 E I (λmV a E=>?_) λmV a E=>?_
  ·
   refine RN 21 E I λa E=>?_;exact⟨_,_,by unfold iQ;first | (rw[cr];omega) | exact⟨λh=>(by cases h),λh=>absurd h (by omega)⟩ | exact⟨λ_=>by omega,λ_=>rfl⟩,E.ab [1,47],I.sub⟩
  refine BY 5 E I (λYP a E=>?_) λYP a E=>?_
  ·
   refine RN 16 E I λa E=>?_;exact⟨_,_,by unfold iQ;first | (rw[cr];omega) | exact⟨λh=>(by cases h),λh=>absurd h (by omega)⟩ | exact⟨λ_=>by omega,λ_=>rfl⟩,E.ab [1,47],I.sub⟩
  refine BY 7 E I (λYQ a E=>?_) λYQ a E=>?_
  ·
   refine RN 9 E I λa E=>?_;exact⟨_,_,by unfold iQ;first | (rw[cr];omega) | exact⟨λh=>(by cases h),λh=>absurd h (by omega)⟩ | exact⟨λ_=>by omega,λ_=>rfl⟩,E.ab [1,47],I.sub⟩
  refine BY 5 E I (λYR a E=>?_) λYR a E=>?_
  ·
   refine RN 4 E I λa E=>?_;exact⟨_,_,by unfold iQ;first | (rw[cr];omega) | exact⟨λh=>(by cases h),λh=>absurd h (by omega)⟩ | exact⟨λ_=>by omega,λ_=>rfl⟩,E.ab [1,47],I.sub⟩
  refine RN 4 E I λa E=>?_;exact⟨_,_,by unfold iQ;first | (rw[cr];omega) | exact⟨λh=>(by cases h),λh=>absurd h (by omega)⟩ | exact⟨λ_=>by omega,λ_=>rfl⟩,E.ab [1,47],I.sub⟩
 clear E;(try clear I);rintro a w ⟨z,b1,hz,E,I⟩;refine IF 0 E I (λaj a E=>?_) λaj a E=>?_
 ·
  have hn:=hz.1 aj;refine RT 2 E I ?_;exact⟨_,rfl,⟨λh=>(by cases h),λh=>absurd ⟨Bs h,by have:=yV h;omega⟩ hn⟩,I.sub⟩
 have hh:iQ p∧1≤p.kind∧p.kind≤2:=Classical.byContradiction λh=>by have:=hz.2 h;rw[aj]at this;cases this
 refine IF 5 E I (λao a E=>?_) λao a E=>?_
 ·
  have b0:p.kind=2:=ao;have kC:=FA hh.1 b0;simp only[qa,wQ,not_mem_nil,false_implies,implies_true,and_true]at kC;refine BY 5 E I (λbX a E=>?_) λbX a E=>?_
  ·
   refine BY 6 E I (λr5 a E=>?_) λr5 a E=>?_
   ·
    refine BY 5 E I (λk9 a E=>?_) λk9 a E=>?_
    ·
     refine BY 5 E I (λqc a E=>?_) λqc a E=>?_
     ·
      refine RT 5 E I ?_
      first | exact⟨_,rfl,by rw[kC];first | (rw[cr];omega) | exact⟨λh=>(by cases h),λh=>absurd h (by omega)⟩ | exact⟨λ_=>by omega,λ_=>rfl⟩,I.sub⟩ | exact⟨_,rfl,by rw[gT];first | (rw[cr];omega) | exact⟨λh=>(by cases h),λh=>absurd h (by omega)⟩ | exact⟨λ_=>by omega,λ_=>rfl⟩,I.sub⟩
     refine RT 5 E I ?_
     first | exact⟨_,rfl,by rw[kC];first | (rw[cr];omega) | exact⟨λh=>(by cases h),λh=>absurd h (by omega)⟩ | exact⟨λ_=>by omega,λ_=>rfl⟩,I.sub⟩ | exact⟨_,rfl,by rw[gT];first | (rw[cr];omega) | exact⟨λh=>(by cases h),λh=>absurd h (by omega)⟩ | exact⟨λ_=>by omega,λ_=>rfl⟩,I.sub⟩
    refine RT 10 E I ?_
    first | exact⟨_,rfl,by rw[kC];first | (rw[cr];omega) | exact⟨λh=>(by cases h),λh=>absurd h (by omega)⟩ | exact⟨λ_=>by omega,λ_=>rfl⟩,I.sub⟩ | exact⟨_,rfl,by rw[gT];first | (rw[cr];omega) | exact⟨λh=>(by cases h),λh=>absurd h (by omega)⟩ | exact⟨λ_=>by omega,λ_=>rfl⟩,I.sub⟩
   refine RT 15 E I ?_
   first | exact⟨_,rfl,by rw[kC];first | (rw[cr];omega) | exact⟨λh=>(by cases h),λh=>absurd h (by omega)⟩ | exact⟨λ_=>by omega,λ_=>rfl⟩,I.sub⟩ | exact⟨_,rfl,by rw[gT];first | (rw[cr];omega) | exact⟨λh=>(by cases h),λh=>absurd h (by omega)⟩ | exact⟨λ_=>by omega,λ_=>rfl⟩,I.sub⟩
  refine RT 21 E I ?_
  first | exact⟨_,rfl,by rw[kC];first | (rw[cr];omega) | exact⟨λh=>(by cases h),λh=>absurd h (by omega)⟩ | exact⟨λ_=>by omega,λ_=>rfl⟩,I.sub⟩ | exact⟨_,rfl,by rw[gT];first | (rw[cr];omega) | exact⟨λh=>(by cases h),λh=>absurd h (by omega)⟩ | exact⟨λ_=>by omega,λ_=>rfl⟩,I.sub⟩
 have g7:p.kind=1:=by omega
 have gT:=Fz hh.1 g7;rw[YL]at gT;refine bh 3 E I (FC I) λf1 a w E ⟨jv,I⟩=>?_;refine BY 1 E I (λbX a E=>?_) λbX a E=>?_
 ·
  have k1:=jv.1 bX;unfold eM at k1;refine bh 2 E I (FC I) λf2 a w E ⟨jN,I⟩=>?_;refine BY 2 E I (λfh a E=>?_) λfh a E=>?_
  ·
   have k2:=jN.1 fh;unfold eM at k2;refine bh 2 E I (FC I) λf3 a w E ⟨Lq,I⟩=>?_;refine BY 2 E I (λnB a E=>?_) λnB a E=>?_
   ·
    have k3:=Lq.1 nB;unfold eM at k3;refine RT 6 E I ?_
    first | exact⟨_,rfl,by rw[kC];first | (rw[cr];omega) | exact⟨λh=>(by cases h),λh=>absurd h (by omega)⟩ | exact⟨λ_=>by omega,λ_=>rfl⟩,I.sub⟩ | exact⟨_,rfl,by rw[gT];first | (rw[cr];omega) | exact⟨λh=>(by cases h),λh=>absurd h (by omega)⟩ | exact⟨λ_=>by omega,λ_=>rfl⟩,I.sub⟩
   have k3:¬ eM p.frame:=λh=>by rw[Lq.2 h]at nB;cases nB
   unfold eM at k3;refine RT 6 E I ?_
   first | exact⟨_,rfl,by rw[kC];first | (rw[cr];omega) | exact⟨λh=>(by cases h),λh=>absurd h (by omega)⟩ | exact⟨λ_=>by omega,λ_=>rfl⟩,I.sub⟩ | exact⟨_,rfl,by rw[gT];first | (rw[cr];omega) | exact⟨λh=>(by cases h),λh=>absurd h (by omega)⟩ | exact⟨λ_=>by omega,λ_=>rfl⟩,I.sub⟩
  have k2:¬ eM p.dc:=λh=>by rw[jN.2 h]at fh;cases fh
  unfold eM at k2;refine RT 11 E I ?_
  first | exact⟨_,rfl,by rw[kC];first | (rw[cr];omega) | exact⟨λh=>(by cases h),λh=>absurd h (by omega)⟩ | exact⟨λ_=>by omega,λ_=>rfl⟩,I.sub⟩ | exact⟨_,rfl,by rw[gT];first | (rw[cr];omega) | exact⟨λh=>(by cases h),λh=>absurd h (by omega)⟩ | exact⟨λ_=>by omega,λ_=>rfl⟩,I.sub⟩
 have k1:¬ eM p.first:=λh=>by rw[jv.2 h]at bX;cases bX
 unfold eM at k1;refine RT 16 E I ?_
 first | exact⟨_,rfl,by rw[kC];first | (rw[cr];omega) | exact⟨λh=>(by cases h),λh=>absurd h (by omega)⟩ | exact⟨λ_=>by omega,λ_=>rfl⟩,I.sub⟩ | exact⟨_,rfl,by rw[gT];first | (rw[cr];omega) | exact⟨λh=>(by cases h),λh=>absurd h (by omega)⟩ | exact⟨λ_=>by omega,λ_=>rfl⟩,I.sub⟩
end
end
section
def sa (p:Pk):List Int:=[p.first,p.dc,p.frame]
def ic (p:Pk)(i:Nat):List UInt8:=lV p++(aQ (zz p.id)++((sa p).take i).flatMap λn=>aQ (zz n))
theorem YS {p:Pk}{i:Nat}(h:i<3):ic p (i+1)=ic p i++aQ (zz ((sa p).getD i 0)):=by
 have hl:i<(sa p).length:=h;rw[ic,ic,jx hl,List.flatMap_append,dx,dx,bm,aD hl];simp
theorem Lr {p:Pk}(h:p.kind=1):ic p 3++(eL p.sum++(aQ (zz (p.al.length:Int))++dA p.al 0))=eU p:=by
 simp[ic,eU,ll,ny,h,mw,sa]
theorem Ls {p:Pk}(h:p.kind≠1):ic p 0=eU p:=by simp[ic,eU,ll,ny,h]
theorem FD {p:Pk}(h:ia p){i:Nat}(hi:i≤3):(ic p i).length≤43:=by
 obtain⟨h1,h2,h3,h4,h5⟩:=h;have hq:∀ n:Int,0≤n→n≤1099511627776→(aQ (zz n)).length≤10:=λn a b=>r7 (by omega) (by omega);have hf:(0≤p.first∧p.first≤1000)∧(0≤p.dc∧p.dc≤1000)∧(0≤p.frame∧p.frame≤1000):=by unfold eM at h5;omega
 have a0:=hq p.id (by omega) (by omega);have c0:=hq p.first (by omega) (by omega);have cU:=hq p.dc (by omega) (by omega);have a3:=hq p.frame (by omega) (by omega);rcases (by omega:i=0∨i=1∨i=2∨i=3) with rfl | rfl | rfl | rfl <;> simp[ic,lV,sa] <;> omega
theorem YT {p:Pk}{i:Nat}(h:i<3):([Value.int .i64 p.first,.int .i64 p.dc,.int .i64 p.frame]:List Value)[i]?=some (.int .i64 ((sa p).getD i 0)):=by
 rcases (by omega:i=0∨i=1∨i=2) with rfl | rfl | rfl <;> rfl
theorem YU {p:Pk}(h:ia p)(i:Nat):0≤(sa p).getD i 0∧(sa p).getD i 0≤1000:=by
 have h5:=h.2.2.2.2;have hf:(0≤p.first∧p.first≤1000)∧(0≤p.dc∧p.dc≤1000)∧(0≤p.frame∧p.frame≤1000):=by unfold eM at h5;omega
 match i with
 | 0=>exact hf.1
 | 1=>exact hf.2.1
 | 2=>exact hf.2.2
 | _+3=>exact⟨Int.le_refl _,by show (0:Int)≤1000;omega⟩
theorem FE {p:Pk}(h:ia p):[[Value.int .u8 p.kind],[Value.int .u8 p.aW],[Value.int .u8 p.to]].flatten=bc (lV p):=by
 have hk:=yV h;obtain⟨h1,h2,h3,h4,h5⟩:=h;simp[bc,lV,UInt8.toNat_ofNat'];omega
theorem Lt {p:Pk}(h:ia p):(eU p).length≤503:=by
 have:=Ld h;simp[eU,lV];omega
section
variable {W w:World}{L:List SP}{n c:Nat}{ad:Option Addr}{bs:List UInt8}{p:Pk}
theorem Lu (I:U W w L)(mx:p.sum<4294967296)(hp:∀ w',U W w' L→aX w' ad p.al.length p.al) :
   Calls prog 330 #[.agg (dO p ad c).toArray] w λe w'=>∃ av c',e=.returned (.slice av (aT p).length c')∧U W w' (Sl 5 1 av (aT p).length c' (bc (aT p))::L):=by
 refine EN func330 ntmps330 rfl rfl λa E=>?_;refine BX 1 E I λb1 a w E I=>?_;refine bh 4 E I (YM (p:=p) (ad:=ad) (c:=c) I) λr1 a w E ⟨ff,I⟩=>?_;refine IF 1 E I (λaj a E=>?_) λaj a E=>?_
 ·
  have hn:¬ ia p:=λh=>by rw[ff.2 h]at aj;cases aj
  refine RT 2 E I ?_;have he:aT p=[]:=by rw[aT,ag hn]
  rw[he];exact⟨none,0,rfl,I.tail.bM _ _ _⟩
 have hm:ia p:=ff.1 aj;have hk:=yV hm;have hh:=Bs hm;unfold iQ at hh;have he:aT p=eU p++eL (gL (eU p)):=by rw[aT,ak hm,ib]
 have oN:=Lt hm;refine SX 3 E I (by rw[wrap_u8];omega) λa E=>?_;refine SX 2 E I (by rw[wrap_u8];omega) λa E=>?_;refine SX 2 E I (by rw[wrap_u8];omega) λa E=>?_;refine RN 0 E I λa E=>?_;refine cp E rfl I underlying22 Ty.t5 rfl rfl rfl rfl (by decide) (by decide) λtA a w E I ho=>?_;clear ho;replace I:=I.E4 (l:=lV p) rfl rfl (FE hm);refine aZ 2 E I (tr (bs:=lV p) (N:=p.id) I (by omega) (by omega) (by simp[lV])) λfu dJ a w E I=>?_;refine RN 1 E I λa E=>?_;rw[show lV p++aQ (zz p.id)=ic p 0 from by simp[ic]]at E I;refine cc (M:=λa w=>∃ (fu:Option Addr) (dJ:Nat),Fr a 58 [(3,.slice fu (eU p).length dJ)]∧U W w (Sl 5 1 fu (eU p).length dJ (bc (eU p))::L)) ?_ ?_
 ·
  refine IF 4 E I (λao a E=>?_) λao a E=>?_
  ·
   have g7:p.kind=1:=ao;have eo:p.al.length≤32:=by have:=hm.2.2.2.2;omega
   refine RN 8 E I λa E=>?_;refine SS E (Dz E underlying429 Ty.t429 Ty.t3 rfl rfl) λa E=>?_;refine RN 1 E I λa E=>?_;refine aN (λμ a w=>∃ (i dJ:Nat) (fu:Option Addr),(μ=3-i∧i≤3)∧Fr a 58 [(1,pt b1),(3,.slice fu (ic p i).length dJ),(31,.agg #[.int .i64 p.first,.int .i64 p.dc,.int .i64 p.frame]),(32,.int .i64 i)]∧U W w (Sl 5 1 fu (ic p i).length dJ (bc (ic p i))::aa b1 203 (dO p ad c)::L)) (3) (⟨0,dJ,fu,⟨rfl,by omega⟩,E.ab [1,3,31,32],I⟩) ?_;clear E I;rintro μ a w ⟨i,dJ,fu,⟨rfl,hi⟩,E,I⟩;refine IF 3 E I (λay a E=>?_) λay a E=>?_
   ·
    refine RN 2 E I λa E=>?_;refine SS E (sX E underlying429 underlying3 rfl Ty.t3 (by omega) (YT (p:=p) (by omega))) λa E=>?_;refine RN 1 E I λa E=>?_;have cD:=YU hm i;have pM:=FD hm (show i≤3 by omega);refine aZ 2 E I (tr I (by omega) (by omega) (by omega)) λmO hX a w E I=>?_;refine RN 1 E I λa E=>?_;rw[← YS (by omega)]at E I;refine RN 2 E I λa E=>?_;exact⟨3-(i+1),by omega,i+1,_,_,⟨rfl,by omega⟩,E.ab [1,3,31,32],I.sub⟩
   obtain rfl:i=3:=by omega
   have pM:=FD hm (a7 3);have ha:=r7 (n:=(p.al.length:Int)) (by omega) (by omega);have jD:=Lr g7;generalize ic p 3=YV at E I pM jD;refine aV 1 (λw0 w=>Rd w b1 0 (dO p ad c)) [3,4,6,7] [0,1,5,3002,3006,3007,1003,1004,1008,9] E I λa w E I hH=>?_;have hC:Rd w b1 0 (dO p ad c):=I.ai;refine RH 3 E I hH hC λa E=>?_;refine QH E (λw hc=>ae E (hc 8 _ rfl)) hC λa E=>?_;refine QH E (λw hc=>ae E (hc 5 _ rfl)) hC λa E=>?_;refine RH 1 E I hH hC λa E=>?_;refine bh 0 E I (K5 I) λei a w E I=>?_;replace hC:=hH.at w I.ai;refine RH 0 E I hH hC λa E=>?_;refine g8 E rfl I underlying22 Ty.t5 rfl rfl (by decide) (λh0=>(I.cu ei (eL p.sum) rfl rfl).get h0) (by rw[dy];rfl) (ez _) (by rw[lW];omega) λw6 Fv a w E I=>?_;replace hC:=hH.at w I.ai;rw[← fM,← aJ]at I;rw[← aJ]at E;refine RH 0 E I hH hC λa E=>?_;refine aZ 0 E I (tr I (by omega) (by omega) (by rw[aJ,lW];omega)) λtl oO a w E I=>?_;refine RN 1 E I λa E=>?_;have gv:=yT p.al 0;generalize hu:YV++eL p.sum++aQ (zz (p.al.length:Int))=w8 at E I;have af1:w8.length≤60:=by rw[← hu];simp[lW];omega
   refine aZ 3 E I (YE (bs:=p.al) I (by omega) (λw' hw=>hp w' hw.sub)) λs7 rJ a w E I=>?_;refine RN 0 E I λa E=>?_;refine g8 E rfl I underlying22 Ty.t5 rfl rfl (by decide) (λh0=>(I.cu s7 _ rfl rfl).get h0) (by rw[dy,fW]) (ez _) (by omega) λsb sd a w E I=>?_;refine RN 1 E I λa E=>?_;rw[← fM,show w8.length+(dA p.al 0).length=(w8++dA p.al 0).length from by rw[aJ]]at I;rw[show w8.length+(dA p.al 0).length=(w8++dA p.al 0).length from by rw[aJ]]at E;rw[show w8++dA p.al 0=eU p from by rw[← hu,← jD];simp]at E I;exact⟨_,_,E.ab [3],I.sub⟩
  rw[Ls (by omega)]at E I;refine RN 0 E I λa E=>?_;exact⟨_,_,E.ab [3],I.sub⟩
 clear E;(try clear I);rintro a w ⟨fu,dJ,E,I⟩;refine CL 3 E I (K3 I (by omega) (λw' hw=>hw.cu fu _ rfl rfl)) λa w E I=>?_;refine bh 0 E I (K5 I) λBt a w E I=>?_;refine RN 0 E I λa E=>?_;refine g8 E rfl I underlying22 Ty.t5 rfl rfl (by decide) (λh0=>(I.cu Bt (eL (gL (eU p))) rfl rfl).get h0) (by rw[dy];rfl) (ez _) (by rw[lW];omega) λFF FG a w E I=>?_;refine RT 1 E I ?_;rw[he];rw[← fM,← aJ]at I;rw[← aJ];exact⟨_,_,rfl,I.sub⟩
theorem FH (I:U W w L)(mx:p.sum<4294967296)(hp:∀ w',U W w' L→aX w' ad p.al.length p.al) :
   Calls prog 114 #[.agg (dO p ad c).toArray] w λe w'=>∃ av c',e=.returned (.slice av (aT p).length c')∧U W w' (Sl 5 1 av (aT p).length c' (bc (aT p))::L):=by
 refine EN func114 ntmps114 rfl rfl λa E=>?_;refine BX 1 E I λb1 a w E I=>?_;refine bh 4 E I (YO (p:=p) (ad:=ad) (c:=c) I) λr1 a w E ⟨ff,I⟩=>?_;refine IF 1 E I (λaj a E=>?_) λaj a E=>?_
 ·
  have hn:¬ ia p:=λh=>by rw[ff.2 h]at aj;cases aj
  refine RT 2 E I ?_;have he:aT p=[]:=by rw[aT,ag hn]
  rw[he];exact⟨none,0,rfl,I.tail.bM _ _ _⟩
 have hm:ia p:=ff.1 aj;have hk:=yV hm;have hh:=Bs hm;unfold iQ at hh;have he:aT p=eU p++eL (gL (eU p)):=by rw[aT,ak hm,ib]
 have oN:=Lt hm;have b6:=r7 (n:=p.id) (by omega) (by omega);refine RN 0 E I λa E=>?_;refine cc (M:=λa w=>∃ (a3:Option Addr) (dJ:Nat),Fr a 57 [(1,pt b1),(3,.slice a3 (ic p 0).length dJ)]∧U W w (Sl 5 1 a3 (ic p 0).length dJ (bc (ic p 0))::aa b1 203 (dO p ad c)::L)) ?_ ?_
 ·
  refine aV 0 (λw0 w=>Rd w b1 0 (dO p ad c)) [4,5,7,8,9,11,12] [0,3,6,10,3001,2,3004,3005,3007,3008,3011,2009,1012,1013,14] E I λa w E I hH=>?_;have hC:Rd w b1 0 (dO p ad c):=I.ai;refine RH 4 E I hH hC λa E=>?_;refine QH E (λw hc=>ae E (hc 0 _ rfl)) hC λa E=>?_;refine QP E (λw=>pH E underlying3 underlying5 (by rw[wrap_u8];omega)) λa E=>?_;refine QH E (λw hc=>ae E (hc 1 _ rfl)) hC λa E=>?_;refine QH E (λw hc=>pH E underlying3 underlying5 (by rw[wrap_u8];omega)) hC λa E=>?_;refine QH E (λw hc=>ae E (hc 2 _ rfl)) hC λa E=>?_;refine QH E (λw hc=>pH E underlying3 underlying5 (by rw[wrap_u8];omega)) hC λa E=>?_;refine QH E (λw hc=>ae E (hc 3 _ rfl)) hC λa E=>?_;refine RH 0 E I hH hC λa E=>?_;refine DN [(9,[1012,1013,14]),(12,[1009,1013,14])] (by kernel_rfl) rfl ⟨⟨_,rfl,?_⟩,⟨_,rfl,?_⟩,trivial⟩
  ·
   refine RH 0 E I hH hC λa E=>?_;refine cp E rfl I underlying22 Ty.t5 rfl rfl rfl rfl (by decide) (by decide) λqZ a w E I ho=>?_;clear ho;replace hC:=hH.at w I.ai;replace I:=I.E4 (l:=lV p) rfl rfl (FE hm);refine RH 0 E I hH hC λa E=>?_;refine aZ 0 E I (tE (N:=p.id) I (by omega) (by omega)) λc1 dT a w E I=>?_;replace hC:=hH.at w I.ai;refine RH 0 E I hH hC λa E=>?_;refine g8 E rfl I underlying22 Ty.t5 rfl rfl (by decide) (λh0=>(I.cu c1 (aQ (zz p.id)) rfl rfl).get h0) (by rw[dy,fW]) (ez _) (by omega) λyA Ez a w E I=>?_;refine RN 1 E I λa E=>?_;rw[show 3+(aQ (zz p.id)).length=(lV p++aQ (zz p.id)).length from by rw[aJ];rfl]at E I;rw[← fM]at I;rw[show lV p++aQ (zz p.id)=ic p 0 from by simp[ic]]at E I
   skip
   exact⟨_,_,E.ab [1,3],I.sub⟩
  refine RH 0 E I hH hC λa E=>?_;refine aZ 0 E I (tE (N:=p.id) I (by omega) (by omega)) λc1 dT a w E I=>?_;replace hC:=hH.at w I.ai;refine RH 0 E I hH hC λa E=>?_;refine cp E rfl I underlying22 Ty.t5 rfl rfl rfl rfl (by decide) (by decide) λqZ a w E I ho=>?_;clear ho;replace hC:=hH.at w I.ai;replace I:=I.E4 (l:=lV p) rfl rfl (FE hm);refine RH 0 E I hH hC λa E=>?_;refine g8 E rfl I underlying22 Ty.t5 rfl rfl (by decide) (λh0=>(I.cu c1 (aQ (zz p.id)) rfl rfl).get h0) (by rw[dy,fW]) (ez _) (by omega) λyA Ez a w E I=>?_;refine RN 1 E I λa E=>?_;rw[show 3+(aQ (zz p.id)).length=(lV p++aQ (zz p.id)).length from by rw[aJ];rfl]at E I;rw[← fM]at I;rw[show lV p++aQ (zz p.id)=ic p 0 from by simp[ic]]at E I
  skip
  exact⟨_,_,E.ab [1,3],I.sub⟩
 clear E;(try clear I);rintro a w ⟨a3,dJ,E,I⟩;refine cc (M:=λa w=>∃ (fu:Option Addr) (dJ:Nat),Fr a 57 [(3,.slice fu (eU p).length dJ)]∧U W w (Sl 5 1 fu (eU p).length dJ (bc (eU p))::L)) ?_ ?_
 ·
  refine IF 4 E I (λao a E=>?_) λao a E=>?_
  ·
   have g7:p.kind=1:=ao;have eo:p.al.length≤32:=by have:=hm.2.2.2.2;omega
   have o5:(0≤p.first∧p.first≤1000)∧(0≤p.dc∧p.dc≤1000)∧(0≤p.frame∧p.frame≤1000):=by have:=hm.2.2.2.2;unfold eM at this;omega
   have q1:=r7 (n:=p.first) (by omega) (by omega);have q2:=r7 (n:=p.dc) (by omega) (by omega);have Bn:=r7 (n:=p.frame) (by omega) (by omega);have Fk:=r7 (n:=(p.al.length:Int)) (by omega) (by omega);have pM:=FD hm (show 0≤3 by decide);have jD:ic p 0++aQ (zz p.first)++aQ (zz p.dc)++aQ (zz p.frame)++eL p.sum++aQ (zz (p.al.length:Int))++dA p.al 0=eU p:=by rw[← Lr g7];simp[ic,sa]
   generalize hu0:ic p 0=yW at E I pM jD;refine aV 1 (λw0 w=>Rd w b1 0 (dO p ad c)) [3,4,6] [0,1,5,3002,3006,1003,1004,1007,1008,9] E I λa w E I hH=>?_;have hC:Rd w b1 0 (dO p ad c):=I.ai;refine RH 3 E I hH hC λa E=>?_;refine QH E (λw hc=>ae E (hc 4 _ rfl)) hC λa E=>?_;refine QH E (λw hc=>ae E (hc 6 _ rfl)) hC λa E=>?_;refine RH 0 E I hH hC λa E=>?_;refine aZ 0 E I (tE I (by omega) (by omega)) λc0 et a w E I=>?_;replace hC:=hH.at w I.ai;refine RH 0 E I hH hC λa E=>?_;refine g8 E rfl I underlying22 Ty.t5 rfl rfl (by decide) (λh0=>(I.cu c0 (aQ (zz p.first)) rfl rfl).get h0) (by rw[dy,fW]) (ez _) (by omega) λaf2 c28 a w E I=>?_;replace hC:=hH.at w I.ai;rw[← fM,← aJ]at I;rw[← aJ]at E;refine RH 0 E I hH hC λa E=>?_;refine aZ 0 E I (tE I (by omega) (by omega)) λcU c2 a w E I=>?_;have jA:(yW++aQ (zz p.first)).length≤53:=by rw[aJ];omega
   refine RN 0 E I λa E=>?_;refine g8 E rfl I underlying22 Ty.t5 rfl rfl (by decide) (λh0=>(I.cu cU (aQ (zz p.dc)) rfl rfl).get h0) (by rw[dy,fW]) (ez _) (by omega) λYW YX a w E I=>?_;rw[← fM,← aJ]at I;rw[← aJ]at E;refine RN 1 E I λa E=>?_;replace I:=I.sub (M:=Sl 5 1 YW (yW++aQ (zz p.first)++aQ (zz p.dc)).length YX (bc (yW++aQ (zz p.first)++aQ (zz p.dc)))::aa b1 203 (dO p ad c)::L);have j8:(yW++aQ (zz p.first)++aQ (zz p.dc)).length≤63:=by rw[aJ];omega
   generalize yW++aQ (zz p.first)++aQ (zz p.dc)=yX at E I j8 jD;refine aV 1 (λw0 w=>Rd w b1 0 (dO p ad c)) [3,4,6] [0,1,5,3002,3006,1003,1004,1007,1008,9] E I λa w E I hH=>?_;have hC:Rd w b1 0 (dO p ad c):=I.ai;refine RH 3 E I hH hC λa E=>?_;refine QH E (λw hc=>ae E (hc 7 _ rfl)) hC λa E=>?_;refine QH E (λw hc=>ae E (hc 8 _ rfl)) hC λa E=>?_;refine RH 0 E I hH hC λa E=>?_;refine aZ 0 E I (tE I (by omega) (by omega)) λc0 et a w E I=>?_;replace hC:=hH.at w I.ai;refine RH 0 E I hH hC λa E=>?_;refine g8 E rfl I underlying22 Ty.t5 rfl rfl (by decide) (λh0=>(I.cu c0 (aQ (zz p.frame)) rfl rfl).get h0) (by rw[dy,fW]) (ez _) (by omega) λYY YZ a w E I=>?_;replace hC:=hH.at w I.ai;rw[← fM,← aJ]at I;rw[← aJ]at E;refine RH 0 E I hH hC λa E=>?_;refine bh 0 E I (E9 I) λcU a w E I=>?_;have jA:(yX++aQ (zz p.frame)).length≤73:=by rw[aJ];omega
   refine RN 0 E I λa E=>?_;refine g8 E rfl I underlying22 Ty.t5 rfl rfl (by decide) (λh0=>(I.cu cU (eL p.sum) rfl rfl).get h0) (by rw[dy];rfl) (ez _) (by rw[lW];omega) λyU Fs a w E I=>?_;rw[← fM,← aJ]at I;rw[← aJ]at E;refine RN 1 E I λa E=>?_;replace I:=I.sub (M:=Sl 5 1 yU (yX++aQ (zz p.frame)++eL p.sum).length Fs (bc (yX++aQ (zz p.frame)++eL p.sum))::aa b1 203 (dO p ad c)::L);have j8:(yX++aQ (zz p.frame)++eL p.sum).length≤77:=by rw[aJ,lW];omega
   generalize yX++aQ (zz p.frame)++eL p.sum=Y0 at E I j8 jD;refine aV 0 (λw0 w=>Rd w b1 0 (dO p ad c)) [4,5,7] [0,1,6,3002,3,3007,1004,1005,1008,1009,10] E I λa w E I hH=>?_;have hC:Rd w b1 0 (dO p ad c):=I.ai;have gv:=yT p.al 0;refine RH 3 E I hH hC λa E=>?_;refine QH E (λw hc=>ae E (hc 5 _ rfl)) hC λa E=>?_;refine RH 1 E I hH hC λa E=>?_;refine QH E (λw hc=>ae E (hc 5 _ rfl)) hC λa E=>?_;refine RH 0 E I hH hC λa E=>?_;refine aZ 0 E I (tE I (by omega) (by omega)) λc0 et a w E I=>?_;replace hC:=hH.at w I.ai;refine RH 0 E I hH hC λa E=>?_;refine g8 E rfl I underlying22 Ty.t5 rfl rfl (by decide) (λh0=>(I.cu c0 (aQ (zz (p.al.length:Int))) rfl rfl).get h0) (by rw[dy,fW]) (ez _) (by omega) λqd se a w E I=>?_;replace hC:=hH.at w I.ai;rw[← fM,← aJ]at I;rw[← aJ]at E;refine RH 0 E I hH hC λa E=>?_;refine aZ 0 E I (YF (bs:=p.al) I (by omega) (λw' hw=>hp w' hw.sub)) λcU c2 a w E I=>?_;have jA:(Y0++aQ (zz (p.al.length:Int))).length≤87:=by rw[aJ];omega
   refine RN 0 E I λa E=>?_;refine g8 E rfl I underlying22 Ty.t5 rfl rfl (by decide) (λh0=>(I.cu cU (dA p.al 0) rfl rfl).get h0) (by rw[dy,fW]) (ez _) (by omega) λLw Ly a w E I=>?_;rw[← fM,← aJ]at I;rw[← aJ]at E;refine RN 1 E I λa E=>?_;rw[jD]at E I;exact⟨_,_,E.ab [3],I.sub⟩
  rw[Ls (by omega)]at E I;refine RN 0 E I λa E=>?_;exact⟨_,_,E.ab [3],I.sub⟩
 clear E;(try clear I);rintro a w ⟨fu,dJ,E,I⟩;refine CL 3 E I (K4 I (by omega) (λw' hw=>hw.cu fu _ rfl rfl)) λa w E I=>?_;refine bh 0 E I (E9 I) λBt a w E I=>?_;refine RN 0 E I λa E=>?_;refine g8 E rfl I underlying22 Ty.t5 rfl rfl (by decide) (λh0=>(I.cu Bt (eL (gL (eU p))) rfl rfl).get h0) (by rw[dy];rfl) (ez _) (by rw[lW];omega) λaf3 c56 a w E I=>?_;refine RT 1 E I ?_;rw[he];rw[← fM,← aJ]at I;rw[← aJ];exact⟨_,_,rfl,I.sub⟩
end
end
section
def yY (x:Int):Prop := -9223372036854775808≤x∧x≤9223372036854775807
def mZ (l:List UInt8):Nat:=l.foldl (λn b=>n*256+b.toNat) 0
theorem Lz:∀ (l:List UInt8) (a:Nat),l.foldl (λn b=>n*256+b.toNat) a<(a+1)*256 ^ l.length
 | [],a=>by simp
 | b::l,a=>by
  have h1:=Lz l (a*256+b.toNat);have h2:=lk b;rw[foldl_cons,eH];refine Ab h1 ?_;rw[Nat.pow_succ,Nat.mul_comm (256 ^ l.length) 256,← Nat.mul_assoc];exact oy _ (by omega)
theorem LA {x:Nat}(h:x<4294967296):mZ (eL x)=x:=by
 have:=Fh h;simpa [mZ,eL,Fg] using this
theorem LB {l:List UInt8}{i:Nat}(h:i<l.length):mZ (l.take (i+1))=mZ (l.take i)*256+l[i].toNat:=by
 rw[mZ,jx h,foldl_append];rfl
theorem Bu (l:List UInt8)(n:Nat)(h:l.length≤n):mZ l<256 ^ n:=by
 have:=Lz l 0;rw[eG,Nat.one_mul]at this;exact Ab this (Nat.pow_le_pow_right (by decide) h)
theorem Y1 {n:Nat}(h:n<16777216)(b:UInt8):IntKind.u32.wrap (((BitVec.ofInt IntKind.u32.bits (IntKind.u32.wrap ((n:Int)*2 ^ 8)) ||| BitVec.ofInt IntKind.u32.bits (b.toNat:Int)).toNat:Nat):Int)=((n*256+b.toNat:Nat):Int):=by
 have hb:=lk b;rw[show IntKind.u32.wrap ((n:Int)*2 ^ 8)=((n*256:Nat):Int) from by rw[wrap_u32];omega,u4,u4];show IntKind.u32.wrap (((BitVec.ofNat 32 (n*256) ||| BitVec.ofNat 32 b.toNat).toNat:Nat):Int)=_;rw[BitVec.toNat_or,BitVec.toNat_ofNat,BitVec.toNat_ofNat,kY (show n*256<2 ^ 32 by omega),kY (show b.toNat<2 ^ 32 by omega),wrap_u32];have h1:=Nat.two_pow_add_eq_or_of_lt (i:=8) (b:=b.toNat) hb n;rw[show n*256=2 ^ 8*n from by omega,← h1];omega
structure q0 (W:World)(L:List SP)(ad:Option Addr)(c:Nat)(rest:List UInt8):Prop where
 len:rest.length≤65536
 cap:rest.length≤c
 rd:∀ w',U W w' L→aX w' ad rest.length rest
section
variable {W w:World}{L L':List SP}{n c m rb:Nat}{ad:Option Addr}{bs rest:List UInt8}{p:Pk}{bad:Bool}
theorem q0.cut {k:Nat}(h:q0 W L ad c rest)(hk:k≤rest.length):q0 W L (ft ad k c 1) (c-k) (rest.drop k) :=
 ⟨by rw[c7];have:=h.len;omega,by rw[c7];have:=h.cap;omega,λw' hw=>(h.rd w' hw).u3 hk h.cap⟩
theorem yZ (I:U W w (aa rb 427 [.slice ad rest.length c,.bool bad]::L'))(Bv:∀ w',U W w' L'→U W w' L)(hr:q0 W L ad c rest) :
   Calls prog 331 #[pt rb] w λe w'=>∃ (x:Int) (av:Option Addr) (c':Nat) (n3:List UInt8) (fv:Bool),e=.returned (.int .i64 x)∧yY x∧q0 W L av c' n3 ∧
    (∀ (n:Int) (r:List UInt8),yY n→rest=aQ (zz n)++r→bad=false→x=n∧n3=r∧fv=false)∧U W w' (aa rb 427 [.slice av n3.length c',.bool fv]::L'):=by
 have hlen:=hr.len;refine EN func331 ntmps331 rfl rfl λa E=>?_;refine j3 7 E I (Lh (bs:=rest) I (by omega) (λw' hw=>hr.rd w' (Bv _ hw.tail))) λx k er a w E ⟨hg,I⟩=>?_;refine RN 7 E I λa E=>?_;have p8:=hg.2.2.1;have nR:=hg.2.1;have dI:k≤rest.length:=by
  by_cases h0:er=0
  ·have:=p8 h0;omega
  ·have:=(hg.2.2.2.1 h0).1;omega
 refine cc (M:=λa w=>∃ (z:Bool) (av:Option Addr) (c':Nat) (n3:List UInt8),(er=0→bad=false→z=false)∧q0 W L av c' n3∧(z=false→n3=rest.drop k)∧Fr a 41 [(3,.int .i64 x)]∧U W w (aa rb 427 [.slice av n3.length c',.bool z]::L')) ?_ ?_
 ·
  refine cc (M:=λa w=>∃ z:Bool,(bad=true→z=true)∧(er=0→bad=false→z=false)∧Fr a 41 [(0,pt rb),(3,.int .i64 x),(4,.int .i64 k)]∧U W w (aa rb 427 [.slice ad rest.length c,.bool z]::L')) ?_ ?_
  ·
   refine BY 6 E I (λjj a E=>?_) λjj a E=>?_
   ·
    refine ST 5 E I (λa w E I=>?_);refine RN 0 E I λa E=>?_;exact⟨_,λ_=>rfl,λ_ h=>(by rw[h]at jj;cases jj),E.ab [0,3,4],I⟩
   refine ST 5 E I (λa w E I=>?_);refine RN 0 E I λa E=>?_;exact⟨_,λh=>(by rw[h]at jj;cases jj),λh _=>bo (by omega),E.ab [0,3,4],I⟩
  clear E;(try clear I);rintro a w ⟨z,cV,kR,E,I⟩;refine IF 6 E I (λaj a E=>?_) λaj a E=>?_
  ·
   have hz:z=false:=aj;refine RN 7 E I λa E=>?_;rw[show rest.length-k=(rest.drop k).length from by simp]at E;refine ST 2 E I (λa w E I=>?_);refine RN 0 E I λa E=>?_;exact⟨_,_,_,_,kR,hr.cut dI,λ_=>rfl,E.ab [3],I⟩
  refine RN 0 E I λa E=>?_;exact⟨_,_,_,_,kR,hr,λh=>(by rw[h]at aj;cases aj),E.ab [3],I⟩
 clear E;(try clear I);rintro a w ⟨z,av,c',n3,kR,Y2,Y3,E,I⟩;refine RT 3 E I ?_;refine⟨x,av,c',n3,z,rfl,hg.1,Y2,λn r hn e hb=>?_,I⟩;obtain⟨rfl,rfl,rfl⟩:=hg.2.2.2.2 n r hn.1 hn.2 e;have hz:=kR rfl hb;refine⟨rfl,?_,hz⟩;rw[Y3 hz,e,drop_left]
theorem Y4 (I:U W w (aa rb 427 [.slice ad rest.length c,.bool bad]::L'))(Bv:∀ w',U W w' L'→U W w' L)(hr:q0 W L ad c rest) :
   Calls prog 332 #[pt rb] w λe w'=>∃ (x:Nat) (av:Option Addr) (c':Nat) (n3:List UInt8) (fv:Bool),e=.returned (.int .u32 x)∧x<4294967296∧q0 W L av c' n3 ∧
    (∀ (n:Nat) (r:List UInt8),n<4294967296→rest=eL n++r→bad=false→x=n∧n3=r∧fv=false)∧U W w' (aa rb 427 [.slice av n3.length c',.bool fv]::L'):=by
 have hlen:=hr.len;have af4:=hr.cap;refine EN func332 ntmps332 rfl rfl λa E=>?_;refine RN 3 E I λa E=>?_;refine cc (M:=λa w=>∃ z:Bool,(z=true↔(bad=true∨rest.length<4))∧Fr a 50 [(0,pt rb)]∧U W w (aa rb 427 [.slice ad rest.length c,.bool z]::L')) ?_ ?_
 ·
  refine BY 6 E I (λjj a E=>?_) λjj a E=>?_
  ·
   refine ST 9 E I (λa w E I=>?_);refine RN 0 E I λa E=>?_;exact⟨_,⟨λ_=>.inl jj,λ_=>rfl⟩,E.ab [0],I⟩
  refine ST 9 E I (λa w E I=>?_);refine RN 0 E I λa E=>?_;exact⟨_,(by rw[cr,jj];simp;omega),E.ab [0],I⟩
 clear E;(try clear I);rintro a w ⟨z,hz,E,I⟩;refine IF 5 E I (λaj a E=>?_) λaj a E=>?_
 ·
  have Y5:=hz.1 aj;refine RT 2 E I ?_;refine⟨0,ad,c,rest,true,rfl,by decide,hr,λn r hn e hb=>?_,by rw[aj]at I;exact I⟩;rcases Y5 with h | h
  ·rw[hb]at h;cases h
  ·rw[e,aJ,lW]at h;omega
 have LC:¬ (bad=true∨rest.length<4):=λh=>by rw[hz.2 h]at aj;cases aj
 have h4:4≤rest.length:=Nat.le_of_not_lt λh=>LC (.inr h);obtain⟨bb,oo,rfl,_⟩:=(hr.rd _ (Bv _ I.tail)).get (by omega);have eP:(rest.take 4).length=4:=by rw[eA];omega
 refine RN 9 E I λa E=>?_;rw[rH,Nat.sub_zero,Nat.sub_zero]at E;refine RN 2 E I λa E=>?_;refine aN (λμ a w=>∃ (i:Nat),(μ=4-i∧i≤4)∧Fr a 50 [(0,pt rb),(3,.int .u32 (mZ (rest.take i))),(29,.slice (some ⟨bb,oo,none⟩) 4 c),(30,.int .i64 4),(31,.int .i64 i)]∧U W w (aa rb 427 [.slice (some ⟨bb,oo,none⟩) rest.length c,.bool z]::L')) (4) (⟨0,⟨rfl,by omega⟩,E.ab [0,3,29,30,31],I⟩) ?_;clear E I;rintro μ a w ⟨i,⟨rfl,hi⟩,E,I⟩;refine IF 3 E I (λao a E=>?_) λao a E=>?_
 ·
  have aI:i<rest.length:=by omega
  have nS:=Bu (rest.take i) 3 (by rw[eA];omega);rw[show (256:Nat) ^ 3=16777216 from by decide]at nS;have qY:=lk rest[i];refine RN 3 E I λa E=>?_;refine SS E (ae E (((hr.rd _ (Bv _ I.tail)).rd (by omega)) i _ (dU aI))) λa E=>?_;refine SX 4 E I (by rw[wrap_u32];omega) λa E=>?_;refine RN 1 E I λa E=>?_;rw[Y1 nS,← LB aI]at E;refine RN 3 E I λa E=>?_;exact⟨4-(i+1),by omega,i+1,⟨rfl,by omega⟩,E.ab [0,3,29,30,31],I⟩
 obtain rfl:i=4:=by omega
 refine RN 7 E I λa E=>?_;rw[show rest.length-4=(rest.drop 4).length from by simp]at E;refine ST 2 E I (λa w E I=>?_);refine RT 3 E I ?_;have nS:=Bu (rest.take 4) 4 (by rw[eA];omega);rw[show (256:Nat) ^ 4=4294967296 from by decide]at nS;refine⟨_,_,_,_,z,rfl,nS,hr.cut h4,λn r hn e hb=>?_,I⟩;have ht:rest.take 4=eL n:=by rw[e];rfl
 have hd:rest.drop 4=r:=by rw[e];rfl
 exact⟨by rw[ht,LA hn],hd,aj⟩
theorem LD {a b:List UInt8}{ad2:Option Addr}{m n c2:Nat}(I:U W w L)(dh:aX w ad m a)(lK:aX w ad2 n b) :
   Calls prog 313 #[.slice ad m c,.slice ad2 n c2] w λe w'=>e=.returned (.bool (a==b))∧U W w' L :=
 (Jj dh lK).mono λe w' h=>⟨h.1,by rw[h.2];exact I⟩
theorem FI {bs:List UInt8}{q:Pk}(h:g9 bs q):(q.kind=((bs.getD 0 0).toNat:Int)∧q.aW=((bs.getD 1 0).toNat:Int)∧q.to=((bs.getD 2 0).toNat:Int))∧(bs.drop 3).take (bs.length-7)=ll q:=by
 have h1:=Ff h.2.2;obtain⟨f1,t1,w5,i1,k1⟩:=h.1;refine⟨?_,Fe h.2.2⟩;simp only[bm,h1.1,h1.2.1,h1.2.2,Option.getD_some,UInt8.toNat_ofNat'];omega
theorem tH (b:UInt8):IntKind.i64.wrap (b.toNat:Int)=(b.toNat:Int):=fR (by omega) (by have:=lk b;omega)
theorem n4 {bs:List UInt8}(h:¬ ∃ q,g9 bs q):dN bs=none:=Bp λq hq=>h ⟨q,hq⟩
def Y6 (bs:List UInt8)(p:Pk)(adP:Option Addr)(cP:Nat)(ok:Bool):Prop:=(ok=true∧dN bs=some p)∨(ok=false∧dN bs=none∧p=nx∧adP=none∧cP=0)
theorem Y7 (I:U W w L)(hb:bs.length≤65536)(hc:bs.length≤c)(hp:∀ w',U W w' L→aX w' ad bs.length bs) :
   Calls prog 317 #[.slice ad bs.length c] w λe w'=>∃ (p:Pk) (adP:Option Addr) (cP:Nat) (ok:Bool),e=.returned (.tuple #[.agg (dO p adP cP).toArray,.int .i64 (if ok=true then 0 else 1)])∧Y6 bs p adP cP ok∧U W w' (Sl 5 1 adP p.al.length cP (bc p.al)::L):=by
 refine EN func317 ntmps317 rfl rfl λa E=>?_;refine AL 1 E I λb2 a w E I=>?_;refine IF 6 E I (λaj a E=>?_) λaj a E=>?_
 ·
  have bQ:dN bs=none:=Bp λq hq=>by
   have:=dd List.length hq.2.2;rw[w3]at this;omega
  refine SA 2 E I λa w E I=>?_;refine RT 1 E I ?_;exact⟨nx,none,0,false,rfl,.inr ⟨rfl,bQ,rfl,rfl,rfl⟩,I.tail.bM _ _ _⟩
 obtain⟨bb,oo,rfl,_⟩:=(hp _ I.tail).get (by omega);have h7:7≤bs.length:=by omega
 refine aV 1 (λw0 w=>Rd w bb oo (bc bs)) [6,7,10,11,13] [0,1,4,5,8,9,3002,3,3006,3007,3010,3011,12,1013,1014] E I λa w E I hH=>?_;have hC:Rd w bb oo (bc bs):=(hp _ I.tail).rd (by omega);refine RH 6 E I hH hC λa E=>?_;refine QH E (λw hc=>ae E (hc 0 _ (ln (by omega)))) hC λa E=>?_;refine QP E (λw=>pH E underlying5 underlying3 (tH _)) λa E=>?_;refine QH E (λw hc=>ae E (hc 1 _ (ln (by omega)))) hC λa E=>?_;refine QH E (λw hc=>pH E underlying5 underlying3 (tH _)) hC λa E=>?_;refine QH E (λw hc=>ae E (hc 2 _ (ln (by omega)))) hC λa E=>?_;refine QH E (λw hc=>pH E underlying5 underlying3 (tH _)) hC λa E=>?_;refine RH 1 E I hH hC λa E=>?_;refine eZ E rfl I Ty.t203 rfl λb4 a w E I ho=>?_;clear ho;replace hC:=hH.at w ((hp _ I.tail.tail).rd (by omega));refine RH 0 E I hH hC λa E=>?_;refine SA 0 E I λa w E I=>?_;refine RN 5 E I λa E=>?_;rw[show (bs.length:Int)-4=((bs.length-4:Nat):Int) from by omega]at E;refine RN 1 E I λa E=>?_;obtain⟨R1,FJ⟩:∃ R1,R1=(bs.drop 3).take (bs.length-7):=⟨_,rfl⟩;have jA:R1.length=bs.length-7:=by rw[FJ,eA,c7];omega
 have ff:q0 W L (ft (some ⟨bb,oo,none⟩) 3 c 1) (c-3) R1:=⟨by omega,by omega,λw' hw=>by
  rw[jA,FJ];exact ((hp w' hw).u3 (lo:=3) (by omega) hc).E5 (by rw[c7];omega)⟩
 have mn:∀ q,g9 bs q→(q.kind=((bs.getD 0 0).toNat:Int)∧q.aW=((bs.getD 1 0).toNat:Int)∧q.to=((bs.getD 2 0).toNat:Int))∧R1=ll q:=λq h=>by
  rw[FJ];exact FI h
 rw[show bs.length-4-3=R1.length from by omega]at E;generalize ft (some ⟨bb,oo,none⟩) 3 c 1=lX at E ff;generalize c-3=et at E ff;generalize R1=R1 at E ff mn;refine BX 1 E I λjQ a w E I=>?_;refine j4 3 E I (yZ (L:=L) I (λ_ h=>h.tail.tail) ff) ?_;clear E I;rintro e w ⟨x1,ad2,c2,R2,z2,rfl,dX,e4,iy,I⟩;refine⟨_,rfl,λa E=>?_⟩;refine ST 1 E I (λa w E I=>?_);refine RN 0 E I λa E=>?_;replace iy:∀ q,g9 bs q→(q.kind=((bs.getD 0 0).toNat:Int)∧q.aW=((bs.getD 1 0).toNat:Int)∧q.to=((bs.getD 2 0).toNat:Int)∧q.id=x1)∧R2=ny q∧z2=false:=λq h=>by
  obtain⟨h1,h2⟩:=mn q h;obtain⟨e1,e2,e3⟩:=iy q.id (ny q) ⟨by have:=h.1.2.2.2.1;omega,by have:=h.1.2.2.2.1;omega⟩ (by rw[h2,ll]) rfl;exact⟨⟨h1.1,h1.2.1,h1.2.2,e1.symm⟩,e2,e3⟩
 refine cc (M:=λa w=>∃ (p:Pk) (adP:Option Addr) (cP:Nat) (av:Option Addr) (c':Nat) (R':List UInt8) (z:Bool),p.sum<4294967296∧(∀ q,g9 bs q→p=q∧z=false)∧Fr a 91 [(0,.slice (some ⟨bb,oo,none⟩) bs.length c),(2,pt b2),(4,pt b4),(5,pt jQ)]∧U W w (aa b4 203 (dO p adP cP)::Sl 5 1 adP p.al.length cP (bc p.al)::aa jQ 427 [.slice av R'.length c',.bool z]::aa b2 203 (dO nx none 0)::L)) ?_ ?_
 ·
  refine IF 4 E I (λao a E=>?_) λao a E=>?_
  ·
   have nC:∀ q,g9 bs q→ny q=aQ (zz q.first)++(aQ (zz q.dc)++(aQ (zz q.frame)++mw q))∧(yY q.first∧yY q.dc∧yY q.frame)∧q.al.length≤32:=λq h=>by
    have hk:=(iy q h).1.1;rw[ao]at hk;rcases h.1.2.2.2.2 with k | k
    ·obtain⟨_,k1,k2,k3,lp⟩:=k;unfold eM at k1 k2 k3;exact⟨by rw[ny,ak hk],⟨⟨by omega,by omega⟩,⟨by omega,by omega⟩,⟨by omega,by omega⟩⟩,lp⟩
    ·omega
   refine j4 2 E I (yZ (L:=L) (I.perm (cZ _ _ _)) (λ_ h=>h.tail.tail) e4) ?_;clear E I;rintro e w ⟨x2,fu,dJ,R3,z3,rfl,c6,kh,yP,I⟩;refine⟨_,rfl,λa E=>?_⟩;replace yP:∀ q,g9 bs q→q.first=x2∧R3=aQ (zz q.dc)++(aQ (zz q.frame)++mw q)∧z3=false:=λq h=>by
    obtain⟨_,h2,h3⟩:=iy q h;obtain⟨e1,e2,e3⟩:=yP q.first _ (nC q h).2.1.1 (by rw[h2,(nC q h).1]) h3;exact⟨e1.symm,e2,e3⟩
   refine ST 1 E I (λa w E I=>?_);refine j4 2 E I (yZ (L:=L) (I.perm (cZ _ _ _)) (λ_ h=>h.tail.tail) kh) ?_;clear E I;rintro e w ⟨x3,mO,hX,Y8,z4,rfl,ek,qX,Bw,I⟩;refine⟨_,rfl,λa E=>?_⟩;replace Bw:∀ q,g9 bs q→q.dc=x3∧Y8=aQ (zz q.frame)++mw q∧z4=false:=λq h=>by
    obtain⟨_,h2,h3⟩:=yP q h;obtain⟨e1,e2,e3⟩:=Bw q.dc _ (nC q h).2.1.2.1 h2 h3;exact⟨e1.symm,e2,e3⟩
   refine ST 1 E I (λa w E I=>?_);refine j4 2 E I (yZ (L:=L) (I.perm (cZ _ _ _)) (λ_ h=>h.tail.tail) qX) ?_;clear E I;rintro e w ⟨LF,ei,dF,Y9,z5,rfl,u9,tG,By,I⟩;refine⟨_,rfl,λa E=>?_⟩;replace By:∀ q,g9 bs q→q.frame=LF∧Y9=eL q.sum++(aQ (zz (q.al.length:Int))++dA q.al 0)∧z5=false:=λq h=>by
    obtain⟨_,h2,h3⟩:=Bw q h;obtain⟨e1,e2,e3⟩:=By q.frame _ (nC q h).2.1.2.2 h2 h3;exact⟨e1.symm,by rw[e2,mw],e3⟩
   refine ST 1 E I (λa w E I=>?_);refine j4 2 E I (Y4 (L:=L) (I.perm (cZ _ _ _)) (λ_ h=>h.tail.tail) tG) ?_;clear E I;rintro e w ⟨LG,tl,oO,Za,Zb,rfl,tI,y0,Bz,I⟩;refine⟨_,rfl,λa E=>?_⟩;replace Bz:∀ q,g9 bs q→q.sum=LG∧Za=aQ (zz (q.al.length:Int))++dA q.al 0∧Zb=false:=λq h=>by
    obtain⟨_,h2,h3⟩:=By q h;obtain⟨e1,e2,e3⟩:=Bz q.sum _ h.2.1 h2 h3;exact⟨e1.symm,e2,e3⟩
   refine ST 1 E I (λa w E I=>?_);refine j4 2 E I (yZ (L:=L) (I.perm (cZ _ _ _)) (λ_ h=>h.tail.tail) y0) ?_;clear E I;rintro e w ⟨Zc,s7,rJ,R7,LH,rfl,q3,w7,y1,I⟩;refine⟨_,rfl,λa E=>?_⟩;replace y1:∀ q,g9 bs q→(q.al.length:Int)=Zc∧R7=dA q.al 0∧LH=false:=λq h=>by
    obtain⟨_,h2,h3⟩:=Bz q h;have eo:=(nC q h).2.2;obtain⟨e1,e2,e3⟩:=y1 q.al.length _ ⟨by omega,by omega⟩ h2 h3;exact⟨e1.symm,e2,e3⟩
   refine j4 6 E I (YG (m:=32) I w7.len w7.cap (by omega) (λw' hw=>w7.rd w' hw.tail.tail.tail)) ?_;clear E I;rintro e w ⟨out,aq,cO,er,rfl,nT,I⟩;refine⟨_,rfl,λa E=>?_⟩;refine BY 10 E I (λbA a E=>?_) λbA a E=>?_
   ·
    refine SA 8 E I λa w E I=>?_;refine RT 1 E I ?_;have bQ:dN bs=none:=n4 λ⟨q,h⟩=>by
     obtain⟨_,e2,_⟩:=y1 q h;have:=(nT.2.2 q.al (nC q h).2.2 e2).2;simp[this]at bA
    exact⟨nx,none,0,false,rfl,.inr ⟨rfl,bQ,rfl,rfl,rfl⟩,I.sub.bM _ _ _⟩
   refine IF 5 E I (λay a E=>?_) λay a E=>?_
   ·
    refine SA 2 E I λa w E I=>?_;refine RT 1 E I ?_;have bQ:dN bs=none:=n4 λ⟨q,h⟩=>by
     obtain⟨e1,e2,_⟩:=y1 q h;have:=(nT.2.2 q.al (nC q h).2.2 e2).1;rw[this]at ay;omega
    exact⟨nx,none,0,false,rfl,.inr ⟨rfl,bQ,rfl,rfl,rfl⟩,I.sub.bM _ _ _⟩
   refine ST 2 E I (λa w E I=>?_);refine RN 0 E I λa E=>?_;refine⟨⟨((bs.getD 0 0).toNat:Int),((bs.getD 1 0).toNat:Int),((bs.getD 2 0).toNat:Int),x1,x2,x3,LF,LG,out⟩,aq,cO,s7,rJ,R7,LH,by assumption,λq h=>?_,E.ab [0,2,4,5],I⟩;obtain⟨h1,h2,h3,h4⟩:=(iy q h).1;have h5:=(yP q h).1;have h6:=(Bw q h).1;have h7:=(By q h).1;have h8:=(Bz q h).1;have h9:=y1 q h;have fg:=(nT.2.2 q.al (nC q h).2.2 h9.2.1).1;refine⟨?_,h9.2.2⟩;rw[← h1,← h2,← h3,← h4,← h5,← h6,← h7,← h8,fg]
  refine RN 0 E I λa E=>?_;refine⟨⟨((bs.getD 0 0).toNat:Int),((bs.getD 1 0).toNat:Int),((bs.getD 2 0).toNat:Int),x1,0,0,0,0,[]⟩,none,0,ad2,c2,R2,z2,by show 0<4294967296;decide,λq h=>?_,E.ab [0,2,4,5],(I.bM 5 1 none).perm (cZ _ _ _)⟩;obtain⟨⟨h1,h2,h3,h4⟩,_,h5⟩:=iy q h;rw[← h1]at ao;rcases h.1.2.2.2.2 with k | k
  ·exact absurd k.1 ao
  ·obtain⟨tJ,k1,k2,k3,lp,y2⟩:=k;have lp:=gG lp;refine⟨?_,h5⟩;rw[← h1,← h2,← h3,← h4];cases q;simp_all
 clear E;(try clear I);rintro a w ⟨p,adP,cP,Bt,sf,af5,af6,mx,FK,E,I⟩;refine aZ 3 E I (Lu (p:=p) I mx (λw' hw=>hw.cu adP p.al rfl rfl)) λadE cE a w E I=>?_;refine BY 7 E I (λdE a E=>?_) λdE a E=>?_
 ·
  refine SA 12 E I λa w E I=>?_;refine RT 1 E I ?_;have bQ:dN bs=none:=n4 λ⟨q,h⟩=>by
   rw[(FK q h).2]at dE;cases dE
  exact⟨nx,none,0,false,rfl,.inr ⟨rfl,bQ,rfl,rfl,rfl⟩,I.sub.bM _ _ _⟩
 refine BY 4 E I (λfh a E=>?_) λfh a E=>?_
 ·
  refine SA 8 E I λa w E I=>?_;refine RT 1 E I ?_;have bQ:dN bs=none:=n4 λ⟨q,h⟩=>by
   have hn:=(I.cu adE (aT p) rfl rfl).2.1 (by cases adE with
    | none=>rfl
    | some _=>cases fh)
   rw[(FK q h).1,aT,ak h.1,w3]at hn;omega
  exact⟨nx,none,0,false,rfl,.inr ⟨rfl,bQ,rfl,rfl,rfl⟩,I.sub.bM _ _ _⟩
 refine CL 2 E I (LD I (I.cu adE (aT p) rfl rfl) (hp _ I.tail.tail.tail.tail.tail)) λa w E I=>?_;refine IF 2 E I (λbk a E=>?_) λbk a E=>?_
 ·
  refine SA 2 E I λa w E I=>?_;refine RT 1 E I ?_;have bQ:dN bs=none:=n4 λ⟨q,h⟩=>by
   have e:aT p=bs:=by rw[(FK q h).1,aT,ak h.1];exact h.2.2
   rw[e]at bk;simp at bk
  exact⟨nx,none,0,false,rfl,.inr ⟨rfl,bQ,rfl,rfl,rfl⟩,I.sub.bM _ _ _⟩
 refine SA 2 E I λa w E I=>?_;refine RT 1 E I ?_;exact⟨p,adP,cP,true,rfl,.inl ⟨rfl,Bo ((Fm (λe=>by rw[e]at h7;simp at h7) mx).2 (by simpa using bk))⟩,I.sub⟩
end
end
end Go.Proofs.YteoldcfapaiobaaGreat
