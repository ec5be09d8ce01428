/- Numbers out of bytes: num.Get, quintainref1.Get; quintainref1.Put. -/
import Derived.Test.YteoldcfapaiobaaGreatF06Ref
namespace Go.Proofs.YteoldcfapaiobaaGreat
open Tryz
open List (drop_zero drop_left foldl_cons drop_eq_nil_of_le append_nil foldl_append not_mem_nil replicate_succ')
open Go.RowKit
set_option linter.unusedVariables false
set_option linter.unusedSimpArgs false
set_option maxRecDepth 10000
set_option synthInstance.maxSize 4000
set_option synthInstance.maxHeartbeats 400000
section
theorem Yw {x:Nat}(h:x<256):IntKind.u8.wrap ((BitVec.ofInt IntKind.u8.bits (x:Int) &&& BitVec.ofInt IntKind.u8.bits 127).toNat)=((x%128:Nat):Int):=by
 have:∀ y:Fin 256,IntKind.u8.wrap ((BitVec.ofInt IntKind.u8.bits ((y.val:Nat):Int) &&& BitVec.ofInt IntKind.u8.bits 127).toNat)=((y.val%128:Nat):Int):=by decide +kernel
 exact this ⟨x,h⟩
theorem K4 (i:Nat):(2:Nat) ^ (7*i)=128 ^ i:=by rw[Nat.pow_mul]
theorem Yx {u d i:Nat}(hu:u<128 ^ i):u ||| d*128 ^ i=u+d*128 ^ i:=by
 rw[← K4]at hu ⊢;rw[Nat.mul_comm,Nat.add_comm,Nat.two_pow_add_eq_or_of_lt hu,Nat.or_comm]
theorem Fk {i:Nat}(hi:i≤9):128 ^ i≤9223372036854775808∧(i≤8→128 ^ i≤72057594037927936):=by
 have h9:(128:Nat) ^ 9=9223372036854775808:=by decide
 have h8:(128:Nat) ^ 8=72057594037927936:=by decide
 refine⟨h9 ▸ Nat.pow_le_pow_right (by decide) hi,λh=>h8 ▸ Nat.pow_le_pow_right (by decide) h⟩
theorem K5 {i d:Nat}(hi:i≤9)(h:i=9→d≤1)(hd:d≤127):d*128 ^ i≤9223372036854775808∧(i≤8→d*128 ^ i+128 ^ i≤128 ^ (i+1)):=by
 obtain⟨h1,h2⟩:=Fk hi;have hm:d*128 ^ i≤127*128 ^ i:=ox _ hd;refine⟨?_,λh8=>by rw[yM];omega⟩;rcases gQ i 9 with h9 | h9
 ·have:=h2 (by omega);omega
 ·have:i=9:=by omega
  have ti:=h this;have:d*128 ^ i≤1*128 ^ i:=ox _ ti;omega
theorem K6 {bs:List UInt8}{i:Nat}(h:i<bs.length)(u:Nat):nu (bs.drop i) i u=if i=9∧1<bs[i].toNat then none
   else if 127<bs[i].toNat then nu (bs.drop (i+1)) (i+1) (u+bs[i].toNat%128*128 ^ i)
   else if 0<i∧bs[i].toNat=0 then none
   else some (u+bs[i].toNat*128 ^ i,i+1):=by
 rw[kF h,nu]
theorem Yy {x:Nat}(h:x<18446744073709551616):IntKind.u64.wrap (((BitVec.ofInt IntKind.u64.bits (x:Int) &&& BitVec.ofInt IntKind.u64.bits 1).toNat:Nat):Int)=((x%2:Nat):Int):=by
 have h1:=X8 (y:=1) h (by decide);rw[Nat.and_one_is_mod]at h1;exact h1
theorem Yz {x:Int}(h1:-9223372036854775808≤x)(h2:x≤9223372036854775807):IntKind.i64.wrap (((BitVec.ofInt IntKind.i64.bits (if IntKind.i64.signed then -1 else IntKind.i64.max) ^^^ BitVec.ofInt IntKind.i64.bits x).toNat:Nat):Int) = -x-1:=by
 have e:BitVec.ofInt IntKind.i64.bits (if IntKind.i64.signed then -1 else IntKind.i64.max)=BitVec.allOnes 64:=by
  show BitVec.ofInt 64 (-1)=_;decide
 rw[e];show IntKind.i64.wrap (((BitVec.allOnes 64 ^^^ BitVec.ofInt 64 x).toNat:Nat):Int)=_;rw[BitVec.allOnes_xor,BitVec.toNat_not,BitVec.toNat_ofInt];simp only[IntKind.wrap,IntKind.signed,IntKind.bits];simp;omega
section
variable {W w:World}{L:List SP}{c:Nat}{ad:Option Addr}{bs:List UInt8}
theorem K7 (I:U W w L)(hb:bs.length≤1099511627776)(hp:∀ w',U W w' L→aW w' ad bs.length bs) :
   Calls prog 339 #[.slice ad bs.length c] w λe w'=>∃ (x:Int) (k:Nat) (er:Int),e=.returned (.tuple #[.int .i64 x,.int .i64 k,.int .i64 er])∧mj bs x k er∧U W w' L:=by
 refine EN func339 ntmps339 rfl rfl λa E=>?_;refine RN 11 E I λa E=>?_;refine aQ (λμ a w=>∃ (i u:Nat),(μ=bs.length-i∧i≤bs.length∧i≤9∧u<128 ^ i∧nu (bs.drop i) i u=tw bs)∧Fr a 50 [(5,.int .u64 u),(9,.slice ad bs.length c),(10,.int .i64 bs.length),(11,.int .i64 i)]∧U W w L) (bs.length) (⟨0,0,⟨rfl,by omega,by omega,by decide,rfl⟩,E.ab [5,9,10,11],I⟩) ?_;clear E I;rintro μ a w ⟨i,u,⟨rfl,hi,rX,hu,hg⟩,E,I⟩;refine IF 3 E I (λaj a E=>?_) λaj a E=>?_
 ·
  obtain⟨bb,oo,rfl,hr⟩:=(hp _ I).get (by omega);have aF:i<bs.length:=by omega
  have qV:=lk bs[i];rw[K6 aF]at hg;obtain⟨gE,ik⟩:=Fk rX;refine RN 4 E I λa E=>?_;refine SS E (ae E (hr i _ (dT aF))) λa E=>?_;refine RN 3 E I λa E=>?_;refine cd (M:=λa w=>∃ z:Bool,(z=true↔(i=9∧1<bs[i].toNat))∧Fr a 50 [(5,.int .u64 u),(6,.int .i64 i),(7,.int .u8 (bs[i].toNat:Int)),(9,.slice (some ⟨bb,oo,none⟩) bs.length c),(10,.int .i64 bs.length),(11,.int .i64 i),(21,.bool z)]∧U W w L) ?_ ?_
  ·
   refine BY 3 E I (λbA a E=>?_) λbA a E=>?_
   ·
    refine RN 3 E I λa E=>?_;exact⟨_,by rw[ct];omega,E.ab [5,6,7,9,10,11,21],I⟩
   refine RN 3 E I λa E=>?_;exact⟨_,by simp;omega,E.ab [5,6,7,9,10,11,21],I⟩
  clear E;(try clear I);rintro a w ⟨z,hz,E,I⟩;refine IF 0 E I (λao a E=>?_) λao a E=>?_
  ·
   rw[ak (hz.1 ao)]at hg;refine RT 4 E I ?_;exact⟨_,_,_,rfl,mj.bad hg.symm (by omega),I⟩
  have kQ:¬ (i=9∧1<bs[i].toNat):=λh=>absurd (hz.2 h) (by simp[ao]);rw[ag kQ]at hg;obtain⟨ti,kL⟩:=K5 (d:=bs[i].toNat%128) rX (by omega) (by omega);refine RN 4 E I λa E=>?_;rw[Yw qV]at E;refine SX 0 E I (by rw[wrap_u64];omega) λa E=>?_;refine RN 2 E I λa E=>?_;rw[show (7:Int)*(i:Int)=((7*i:Nat):Int) from by omega]at E;refine SS E (IX E (jn:=7*i) (by show 7*i≤64;omega)) λa E=>?_;rw[show ((bs[i].toNat%128:Nat):Int)*2 ^ (7*i)=((bs[i].toNat%128*128 ^ i:Nat):Int) from by rw[Int.natCast_mul,← K4];simp,show IntKind.u64.wrap ((bs[i].toNat%128*128 ^ i:Nat):Int)=((bs[i].toNat%128*128 ^ i:Nat):Int) from by rw[wrap_u64];omega]at E;refine RN 1 E I λa E=>?_;rw[X7 (by omega) (by omega),Yx hu]at E;refine IF 5 E I (λay a E=>?_) λay a E=>?_
  ·
   rw[ak (by omega)]at hg;refine RN 2 E I λa E=>?_;exact⟨bs.length-(i+1),by omega,i+1,_,⟨rfl,by omega,by omega,by have:=kL (by omega);omega,hg⟩,E.ab [5,9,10,11],I⟩
  rw[ag (by omega)]at hg;rw[kY (show bs[i].toNat<128 from by omega)]at E ti kL;refine RN 1 E I λa E=>?_;refine cd (M:=λa w=>∃ z:Bool,(z=true↔(0<i∧bs[i].toNat=0))∧Fr a 50 [(5,.int .u64 ((u+bs[i].toNat*128 ^ i:Nat):Int)),(6,.int .i64 i),(37,.bool z)]∧U W w L) ?_ ?_
  ·
   refine BY 3 E I (λbA a E=>?_) λbA a E=>?_
   ·
    refine RN 3 E I λa E=>?_;exact⟨_,by rw[ct];omega,E.ab [5,6,37],I⟩
   refine RN 3 E I λa E=>?_;exact⟨_,by simp;omega,E.ab [5,6,37],I⟩
  clear E;(try clear I);rintro a w ⟨z,hz,E,I⟩;refine IF 0 E I (λbd a E=>?_) λbd a E=>?_
  ·
   rw[ak (hz.1 bd)]at hg;refine RT 4 E I ?_;exact⟨_,_,_,rfl,mj.bad hg.symm (by omega),I⟩
  rw[ag (λh=>absurd (hz.2 h) (by simp[bd]))]at hg;generalize u+bs[i].toNat*128 ^ i=v at E hg;have hv:=(E8 hg.symm).1;refine RN 3 E I λa E=>?_;rw[show ((v:Nat):Int).fdiv (2 ^ 1)=((v/2:Nat):Int) from lf _ 2]at E;refine SS E (gn E underlying319 underlying2) λa E=>?_;rw[show IntKind.i64.wrap ((v/2:Nat):Int)=((v/2:Nat):Int) from fH (by omega) (by omega)]at E;refine RN 1 E I λa E=>?_;refine cd (M:=λa w=>Fr a 50 [(6,.int .i64 i),(8,.int .i64 (nv v))]∧U W w L) ?_ ?_
  ·
   refine RN 3 E I λa E=>?_;rw[Yy hv]at E;refine IF 1 E I (λbF a E=>?_) λbF a E=>?_
   ·
    refine RN 2 E I λa E=>?_;rw[Yz (by omega) (by omega)]at E;refine RN 1 E I λa E=>?_;rw[show -((v/2:Nat):Int)-1=nv v from by rw[nv,ak (by omega)]]at E;exact⟨E.ab [6,8],I⟩
   refine RN 0 E I λa E=>?_;rw[show ((v/2:Nat):Int)=nv v from by rw[nv,ag (by omega)]]at E;exact⟨E.ab [6,8],I⟩
  clear E;(try clear I);rintro a w ⟨E,I⟩;refine RT 7 E I ?_;exact⟨_,_,_,rfl,mj.KX hg.symm,I⟩
 rw[drop_eq_nil_of_le (by omega),nu]at hg;refine RT 4 E I ?_;exact⟨_,_,_,rfl,mj.bad hg.symm (by omega),I⟩
theorem Fl (I:U W w L)(hb:bs.length≤1099511627776)(hp:∀ w',U W w' L→aW w' ad bs.length bs) :
   Calls prog 215 #[.slice ad bs.length c] w λe w'=>∃ (x:Int) (k:Nat) (er:Int),e=.returned (.tuple #[.int .i64 x,.int .i64 k,.int .i64 er])∧mj bs x k er∧U W w' L:=by
 refine EN func215 ntmps215 rfl rfl λa E=>?_;refine RN 11 E I λa E=>?_;refine aQ (λμ a w=>∃ (i u:Nat),(μ=bs.length-i∧i≤bs.length∧i≤9∧u<128 ^ i∧nu (bs.drop i) i u=tw bs)∧Fr a 64 [(0,.slice ad bs.length c),(5,.int .u64 u),(6,.int .u64 ((128 ^ i:Nat):Int)),(7,.int .i64 i)]∧U W w L) (bs.length) (⟨0,0,⟨rfl,by omega,by omega,by decide,rfl⟩,E.ab [0,5,6,7],I⟩) ?_;clear E I;rintro μ a w ⟨i,u,⟨rfl,hi,rX,hu,hg⟩,E,I⟩;refine IF 6 E I (λaj a E=>?_) λaj a E=>?_
 ·
  obtain⟨bb,oo,rfl,hr⟩:=(hp _ I).get (by omega);have aF:i<bs.length:=by omega
  have qV:=lk bs[i];rw[K6 aF]at hg;obtain⟨gE,ik⟩:=Fk rX;refine RN 2 E I λa E=>?_;refine cd (M:=λa w=>∃ z:Bool,(z=true↔(i=9∧1<bs[i].toNat)∨(0<i∧bs[i].toNat=0))∧Fr a 64 [(0,.slice (some ⟨bb,oo,none⟩) bs.length c),(5,.int .u64 u),(6,.int .u64 ((128 ^ i:Nat):Int)),(7,.int .i64 i),(34,.bool z)]∧U W w L) ?_ ?_
  ·
   refine BY 3 E I (λbA a E=>?_) λbA a E=>?_
   ·
    refine RN 3 E I λa E=>?_;refine bm E (bQ E rfl (s:=17)) (ae E (hr i _ (dT aF))) rfl λa E=>?_;refine BY 3 E I (λu1 a E=>?_) λu1 a E=>?_
    ·
     refine RN 10 E I λa E=>?_;refine⟨_,?_,E.ab [0,5,6,7,34],I⟩
     (try simp only[ct]);(try simp only[Bool.false_eq_true,true_iff,false_iff]);omega
    refine BY 3 E I (λil a E=>?_) λil a E=>?_
    ·
     refine RN 3 E I λa E=>?_;refine bm E (bQ E rfl (s:=27)) (ae E (hr i _ (dT aF))) rfl λa E=>?_;refine RN 3 E I λa E=>?_;refine⟨_,?_,E.ab [0,5,6,7,34],I⟩
     (try simp only[ct]);(try simp only[Bool.false_eq_true,true_iff,false_iff]);omega
    refine RN 7 E I λa E=>?_;refine⟨_,?_,E.ab [0,5,6,7,34],I⟩
    (try simp only[ct]);(try simp only[Bool.false_eq_true,true_iff,false_iff]);omega
   refine BY 10 E I (λil a E=>?_) λil a E=>?_
   ·
    refine RN 3 E I λa E=>?_;refine bm E (bQ E rfl (s:=27)) (ae E (hr i _ (dT aF))) rfl λa E=>?_;refine RN 3 E I λa E=>?_;refine⟨_,?_,E.ab [0,5,6,7,34],I⟩
    (try simp only[ct]);(try simp only[Bool.false_eq_true,true_iff,false_iff]);omega
   refine RN 7 E I λa E=>?_;refine⟨_,?_,E.ab [0,5,6,7,34],I⟩
   (try simp only[ct]);(try simp only[Bool.false_eq_true,true_iff,false_iff]);omega
  clear E;(try clear I);rintro a w ⟨z,hz,E,I⟩;refine IF 0 E I (λao a E=>?_) λao a E=>?_
  ·
   have cV:=hz.1 ao;have Av:tw bs=none:=by
    rw[← hg];by_cases h9:i=9∧1<bs[i].toNat
    ·rw[ak h9]
    ·rw[ag h9,ag (by omega),ak (by omega)]
   refine RT 4 E I ?_;exact⟨_,_,_,rfl,mj.bad Av (by omega),I⟩
  have kQ:¬ ((i=9∧1<bs[i].toNat)∨(0<i∧bs[i].toNat=0)):=λh=>absurd (hz.2 h) (by simp[ao]);have hr:=(hp _ I).rd (by omega);obtain⟨ti,kL⟩:=K5 (d:=bs[i].toNat%128) rX (by omega) (by omega);refine RN 5 E I λa E=>?_;refine SS E (ae E (hr i _ (dT aF))) λa E=>?_;refine SX 0 E I (by decide) λa E=>?_;rw[show ((bs[i].toNat:Nat):Int).tmod 128=((bs[i].toNat%128:Nat):Int) from oD _ 128]at E;refine SX 0 E I (by rw[wrap_u64];omega) λa E=>?_;refine RN 2 E I λa E=>?_;rw[show ((bs[i].toNat%128:Nat):Int)*((128 ^ i:Nat):Int)=((bs[i].toNat%128*128 ^ i:Nat):Int) from (Int.natCast_mul ..).symm,show IntKind.u64.wrap ((bs[i].toNat%128*128 ^ i:Nat):Int)=((bs[i].toNat%128*128 ^ i:Nat):Int) from by rw[wrap_u64];omega]at E;refine RN 1 E I λa E=>?_;rw[show IntKind.u64.wrap ((u:Int)+((bs[i].toNat%128*128 ^ i:Nat):Int))=((u+bs[i].toNat%128*128 ^ i:Nat):Int) from by rw[wrap_u64];omega]at E;refine RN 9 E I λa E=>?_;refine SS E (ae E (hr i _ (dT aF))) λa E=>?_;refine IF 1 E I (λay a E=>?_) λay a E=>?_
  ·
   rw[ag (by omega),ag (by omega),ag (by omega)]at hg;rw[kY (show bs[i].toNat<128 from by omega)]at E ti kL;generalize u+bs[i].toNat*128 ^ i=v at E hg;have hv:=(E8 hg.symm).1;refine RN 2 E I λa E=>?_;refine SS E (vZ E (by decide) (by rw[show ((v:Nat):Int).tdiv 2=((v/2:Nat):Int) from ry _ 2,wrap_u64];omega)) λa E=>?_;rw[show ((v:Nat):Int).tdiv 2=((v/2:Nat):Int) from ry _ 2]at E;refine RN 0 E I λa E=>?_;refine SS E (gn E underlying319 underlying2) λa E=>?_;rw[show IntKind.i64.wrap ((v/2:Nat):Int)=((v/2:Nat):Int) from fH (by omega) (by omega)]at E;refine RN 1 E I λa E=>?_;refine cd (M:=λa w=>Fr a 64 [(7,.int .i64 i),(8,.int .i64 (nv v))]∧U W w L) ?_ ?_
   ·
    refine SX 2 E I (by decide) λa E=>?_;rw[show ((v:Nat):Int).tmod 2=((v%2:Nat):Int) from oD _ 2]at E;refine IF 1 E I (λbd a E=>?_) λbd a E=>?_
    ·
     refine RN 2 E I λa E=>?_;rw[show IntKind.i64.wrap (0-((v/2:Nat):Int)) = -((v/2:Nat):Int) from by rw[fH (by omega) (by omega)];omega]at E;refine RN 2 E I λa E=>?_;rw[show -((v/2:Nat):Int)-1=nv v from by rw[nv,ak (by omega)]]at E;exact⟨E.ab [7,8],I⟩
    refine RN 0 E I λa E=>?_;rw[show ((v/2:Nat):Int)=nv v from by rw[nv,ag (by omega)]]at E;exact⟨E.ab [7,8],I⟩
   clear E;(try clear I);rintro a w ⟨E,I⟩;refine RT 7 E I ?_;exact⟨_,_,_,rfl,mj.KX hg.symm,I⟩
  rw[ag (by omega),ak (by omega)]at hg;have K8:i≤8:=by omega
  rw[show IntKind.u64.wrap (((128 ^ i:Nat):Int)*128)=((128 ^ (i+1):Nat):Int) from by rw[wrap_u64,yM];have:=ik K8;omega]at E;refine RN 3 E I λa E=>?_;exact⟨bs.length-(i+1),by omega,i+1,_,⟨rfl,by omega,by omega,by have:=kL (by omega);omega,hg⟩,E.ab [0,5,6,7],I⟩
 rw[drop_eq_nil_of_le (by omega),nu]at hg;refine RT 4 E I ?_;exact⟨_,_,_,rfl,mj.bad hg.symm (by omega),I⟩
theorem tz {N:Int}(I:U W w L)(h1:-9223372036854775808≤N)(h2:N≤9223372036854775807) :
   Calls prog 157 #[.int .i64 N] w λe w'=>∃ av c',e=.returned (.slice av (aO (zz N)).length c')∧U W w' (Sl 5 1 av (aO (zz N)).length c' (bc (aO (zz N)))::L):=by
 refine EN func157 ntmps157 rfl rfl λa E=>?_;refine RN 4 E I λa E=>?_;refine SS E (gn E underlying2 underlying319) λa E=>?_;refine RN 1 E I λa E=>?_;rw[wrap_u64,wrap_u64]at E;refine RN 1 E I λa E=>?_;obtain⟨U0,Er⟩:∃ U0:Nat,(N%18446744073709551616*2)%18446744073709551616=(U0:Int):=⟨((N%18446744073709551616*2)%18446744073709551616).toNat,by omega⟩;rw[Er]at E;have Es:U0<18446744073709551616:=by omega
 refine cd (M:=λa w=>Fr a 28 [(3,.int .u64 ((zz N:Nat):Int))]∧U W w L) ?_ ?_
 ·
  refine IF 3 E I (λaj a E=>?_) λaj a E=>?_
  ·
   refine RN 2 E I λa E=>?_;rw[Kg Es]at E;refine RN 1 E I λa E=>?_;rw[show 18446744073709551615-U0=zz N from by rw[zz,ak aj];omega]at E;exact⟨E.ab [3],I⟩
  refine RN 0 E I λa E=>?_;rw[show U0=zz N from by rw[zz,ag (by omega)];omega]at E;exact⟨E.ab [3],I⟩
 clear E;(try clear I);rintro a w ⟨E,I⟩;refine RN 3 E I λa E=>?_;refine aQ (λμ a w=>∃ (ef c':Nat) (av:Option Addr) (dn:List UInt8),(μ=ef∧dn++aO ef=aO (zz N)∧ef≤zz N)∧Fr a 28 [(3,.int .u64 (ef:Int)),(4,.slice av dn.length c')]∧U W w (Sl 5 1 av dn.length c' (bc dn)::L)) (zz N) (⟨zz N,0,none,[],⟨rfl,rfl,by omega⟩,E.ab [3,4],I.bN 5 1 none⟩) ?_;clear E I;rintro μ a w ⟨ef,c',av,dn,⟨yu,c9,WG⟩,E,I⟩;refine RN 2 E I λa E=>?_;have cV:zz N<18446744073709551616:=by rw[zz];split <;> omega
 have gE:=qO 9 (zz N) (by simp;omega);have mN:dn.length≤10:=by
  have:=di List.length c9;rw[aI]at this;omega
 clear gE;refine IF 2 E I (λao a E=>?_) λao a E=>?_
 ·
  refine SX 3 E I (by decide) λa E=>?_;rw[show ((ef:Nat):Int).tmod 128=((ef%128:Nat):Int) from oD _ 128]at E;refine RN 1 E I λa E=>?_;rw[show IntKind.u64.wrap (((ef%128:Nat):Int)+128)=((ef%128+128:Nat):Int) from by rw[wrap_u64];omega]at E;refine SX 0 E I (by rw[wrap_u8];omega) λa E=>?_;refine RN 0 E I λa E=>?_;refine cr E rfl I underlying22 Ty.t5 rfl rfl rfl rfl (by decide) (by decide) λnh a w E I ho=>?_;clear ho;refine RN 0 E I λa E=>?_;refine cQ E rfl I underlying22 Ty.t5 rfl rfl I.ai rfl (by simp[Value.oneCell']) (by decide) (by decide) (by omega) λyv Et a w E I=>?_;have aR:bc dn++[[Value.int .u8 ((ef%128+128:Nat):Int)]].flatten=bc (dn++[UInt8.ofNat (ef%128+128)]):=by
   simp[bc,UInt8.toNat_ofNat'];omega
  rw[aR]at I;refine RN 2 E I λa E=>?_;refine SS E (vZ E (by decide) (by rw[show ((ef:Nat):Int).tdiv 128=((ef/128:Nat):Int) from ry _ 128,wrap_u64];omega)) λa E=>?_;rw[show ((ef:Nat):Int).tdiv 128=((ef/128:Nat):Int) from ry _ 128]at E;refine RN 1 E I λa E=>?_;exact⟨ef/128,by omega,ef/128,_,yv,dn++[UInt8.ofNat (ef%128+128)],⟨rfl,by rw[← c9,wH (u:=ef) (by omega),dx];rfl,by omega⟩,by rw[aI];exact E.ab [3,4],by rw[aI];exact I.sub⟩
 refine SX 3 E I (by rw[wrap_u8];omega) λa E=>?_;refine RN 0 E I λa E=>?_;refine cr E rfl I underlying22 Ty.t5 rfl rfl rfl rfl (by decide) (by decide) λKh a w E I ho=>?_;clear ho;refine RN 0 E I λa E=>?_;refine cQ E rfl I underlying22 Ty.t5 rfl rfl I.ai rfl (by simp[Value.oneCell']) (by decide) (by decide) (by omega) λEu Ew a w E I=>?_;have aR:bc dn++[[Value.int .u8 ((ef:Nat):Int)]].flatten=bc (dn++[UInt8.ofNat ef]):=by
  simp[bc,UInt8.toNat_ofNat'];omega
 rw[aR,← qN (by omega),c9]at I;refine RT 1 E I ?_;have hl:dn.length+1=(aO (zz N)).length:=by rw[← c9,qN (by omega),aI];rfl
 rw[hl]at I ⊢;exact⟨_,_,rfl,I.sub⟩
end
end
section
theorem rZ {n:Int}(h1:-9223372036854775808≤n)(h2:n≤9223372036854775807):(aO (zz n)).length≤10:=qO 9 _ (by
 have:=E7 h1 h2;have fh:(128:Nat) ^ (9+1)=1180591620717411303424:=by decide
 omega)
theorem u2 {l:List UInt8}{x:UInt8}:bc l++[[Value.int .u8 (x.toNat:Int)]].flatten=bc (l++[x]):=by simp[bc]
structure nz (bs:List UInt8)(i e:Nat):Prop where
 lt:i<e
 le:e≤bs.length
 same:∀ (j:Nat) (h:j<bs.length),i≤j→j<e→bs[j]=bs[i]'(by omega)
theorem nz.one {bs:List UInt8}{i:Nat}(h:i<bs.length):nz bs i (i+1):=⟨by omega,by omega,λj hj h1 h2=>by
 have:j=i:=by omega
 subst this;rfl⟩
theorem nz.more {bs:List UInt8}{i e:Nat}(h:nz bs i e)(he:e<bs.length)(hb:bs[e]'he=bs[i]'(by have:=h.lt;omega)):nz bs i (e+1):=⟨by have:=h.lt;omega,by omega,λj hj h1 h2=>by
 by_cases YA:j=e
 ·subst YA;exact hb
 ·exact h.same j hj h1 (by omega)⟩
theorem nz.runs {bs:List UInt8}{i e:Nat}(h:nz bs i e)(hi:i<bs.length)(hn:∀ he:e<bs.length,bs[e]≠bs[i])(last:UInt8) :
   dA (bs.drop i) last=aO (zz ((e-i:Nat):Int))++(bs[i] ^^^ last)::dA (bs.drop e) bs[i]:=by
 have h1:=h.lt;have h2:=h.le;have hr:runN bs[i] (bs.drop (i+1))=e-i-1:=by
  refine Yk (λj hj=>?_) ?_
  ·rw[qs,aD (by omega),h.same (i+1+j) (by omega) (by omega) (by omega)]
  ·rw[qs,show i+1+(e-i-1)=e from by omega];rcases gQ e bs.length with he | he
   ·rw[aD he];exact λhx=>hn he (p0 hx)
   ·rw[js he];simp
 rw[kF hi,tx,hr,ky,show i+1+(e-i-1)=e from by omega,show e-i-1+1=e-i from by omega]
theorem ln {bs:List UInt8}{i:Nat}(h:i<bs.length):(bc bs)[i]?=some (.int .u8 ((bs.getD i 0).toNat:Int)):=by rw[dT h,bl,aD h];rfl
theorem mT.get {p dn rest:List UInt8}{last:UInt8}{x:Int}{k:Nat}{er:Int}(h:mT p dn last rest)(hp:p.length≤1000000)(h0:rest≠[])(hg:mj rest x k er) :
   er=0∧1≤x∧k<rest.length∧(dn≠[]→(rest.getD k 0).toNat≠0)∧(dn.length:Int)+x≤p.length∧mT p (dn++List.replicate x.toNat (last ^^^ rest.getD k 0)) (last ^^^ rest.getD k 0) (rest.drop (k+1)):=by
 obtain⟨m,y,r,e1,e2,e3,jt⟩:=h.next h0;obtain⟨rfl,rfl,rfl⟩:=hg.2.2.2.2 ((m+1:Nat):Int) _ (by omega) (by omega) e1;have hk:rest.getD (aO (zz ((m+1:Nat):Int))).length 0=y ^^^ last:=by rw[e1,bl,pA (bf _)];simp
 refine⟨rfl,by omega,by rw[e1];simp,by rw[hk];exact e3,by omega,?_⟩;rw[hk,Bi,show ((m+1:Nat):Int).toNat=m+1 from by omega];have hd:rest.drop ((aO (zz ((m+1:Nat):Int))).length+1)=r:=by
  rw[e1,← ky,drop_left];rfl
 rw[hd];exact jt
def tA (bs:List UInt8)(m:Nat)(out:List UInt8)(er:Int):Prop:=(er=0∨er=1∨er=4)∧out.length≤m∧∀ p:List UInt8,p.length≤m→bs=dA p 0→out=p∧er=0
theorem K9 (bs:List UInt8)(i k:Nat):(bs.drop i).getD k 0=bs.getD (i+k) 0:=by simp[bl,qs]
theorem tA.bad {bs dn rest:List UInt8}{last:UInt8}{m k:Nat}{x er Fm:Int}(nr:∀ p:List UInt8,p.length≤m→bs=dA p 0→mT p dn last rest)(hm:m≤1000000)(h0:rest≠[])(hg:mj rest x k er)
   (ka:er≠0∨x<1∨rest.length≤k∨(dn≠[]∧(rest.getD k 0).toNat=0)∨(m:Int)<dn.length+x) (he:Fm=1∨Fm=4):tA bs m [] Fm:=by
 refine⟨by omega,by simp,λp hp e=>?_⟩;exfalso;obtain⟨g1,iJ,m8,m9,o0,_⟩:=(nr p hp e).get (by omega) h0 hg;rcases ka with h | h | h | h | h
 ·exact h g1
 ·omega
 ·omega
 ·exact m9 h.1 h.2
 ·omega
section
variable {W w:World}{L:List SP}{n c m:Nat}{ad:Option Addr}{bs:List UInt8}
theorem YB (I:U W w L)(hb:bs.length≤65536)(hp:∀ w',U W w' L→aW w' ad bs.length bs) :
   Calls prog 338 #[.slice ad bs.length c] w λe w'=>∃ av c',e=.returned (.slice av (dA bs 0).length c')∧U W w' (Sl 5 1 av (dA bs 0).length c' (bc (dA bs 0))::L):=by
 have gq:=yO bs 0;refine EN func338 ntmps338 rfl rfl λa E=>?_;refine RN 9 E I λa E=>?_;refine aQ (λμ a w=>∃ (i c':Nat) (av:Option Addr) (dn:List UInt8) (last:UInt8),(μ=bs.length-i∧i≤bs.length∧dn++dA (bs.drop i) last=dA bs 0)∧Fr a 48 [(0,.slice ad bs.length c),(3,.slice av dn.length c'),(4,.int .u8 (last.toNat:Int)),(5,.int .i64 i)]∧U W w (Sl 5 1 av dn.length c' (bc dn)::L)) (bs.length) (⟨0,0,none,[],0,⟨rfl,by omega,rfl⟩,E.ab [0,3,4,5],I.bN 5 1 none⟩) ?_;clear E I;rintro μ a w ⟨i,c',av,dn,last,⟨rfl,hi,c9⟩,E,I⟩;refine IF 6 E I (λaj a E=>?_) λaj a E=>?_
 ·
  obtain⟨bb,oo,rfl,_⟩:=(hp _ I.tail).get (by omega);have aF:i<bs.length:=by omega
  have mN:dn.length≤11*bs.length:=by
   have:=di List.length c9;rw[aI]at this;omega
  refine RN 4 E I λa E=>?_;refine aQ (λμ a w=>∃ (k:Nat),(μ=bs.length-k∧i≤k∧k≤bs.length∧(k=i∨nz bs i k))∧Fr a 48 [(0,.slice (some ⟨bb,oo,none⟩) bs.length c),(3,.slice av dn.length c'),(4,.int .u8 (last.toNat:Int)),(5,.int .i64 i),(6,.int .i64 k)]∧U W w (Sl 5 1 av dn.length c' (bc dn)::L)) (bs.length-i) (⟨i,⟨rfl,by omega,by omega,.inl rfl⟩,E.ab [0,3,4,5,6],I⟩) ?_;clear E I;rintro μ a w ⟨k,⟨rfl,pT,hk,kR⟩,E,I⟩;refine RN 1 E I λa E=>?_;refine cd (M:=λa w=>∃ z:Bool,(z=true→nz bs i (k+1))∧(z=false→nz bs i k∧∀ he:k<bs.length,bs[k]≠bs[i])∧Fr a 48 [(0,.slice (some ⟨bb,oo,none⟩) bs.length c),(3,.slice av dn.length c'),(4,.int .u8 (last.toNat:Int)),(5,.int .i64 i),(6,.int .i64 k),(26,.bool z)]∧U W w (Sl 5 1 av dn.length c' (bc dn)::L)) ?_ ?_
  ·
   refine bS 0 [12] [0,1,2,3,4,5,6,7,9,10,11,3008,1012,13,14] E I λa w E I hH hC=>?_;have hr:=(hp _ I.tail).rd (by omega);refine RH 5 E I hH hC λa E=>?_;refine E.by (s:=16) (λdE E=>?_) (λdE E=>?_)
   ·
    refine RH 6 E I hH hC λa E=>?_;refine QH E (λw hc=>ae E ((hc.rd hr) k _ (dT (i:=k) (bs:=bs) (show k<bs.length by omega)))) hC λa E=>?_;refine RH 0 E I hH hC λa E=>?_;refine bm E (bQ E rfl (s:=16)) (ae E ((hC.rd hr) i _ (dT aF))) rfl λa E=>?_;refine RH 2 E I hH hC λa E=>?_;have dH:k<bs.length:=by omega
    refine⟨_,λh=>?_,λh=>?_,E.ab [0,3,4,5,6,26],I⟩
    ·have he:bs[k]=bs[i]:=UInt8.toNat_inj.1 (by have:=qB h;omega);rcases kR with rfl | kR
     ·exact nz.one aF
     ·exact kR.more dH he
    ·have he:bs[k]≠bs[i]:=λe=>of_decide_eq_false h (by rw[e]);rcases kR with rfl | kR
     ·exact absurd rfl he
     ·exact⟨kR,λ_=>he⟩
   refine RH 10 E I hH hC λa E=>?_;refine⟨_,λh=>(by cases h),λh=>?_,E.ab [0,3,4,5,6,26],I⟩;rcases kR with rfl | kR
   ·omega
   ·exact⟨kR,λ_=>absurd (show k<bs.length by assumption) (by omega)⟩
  clear E;(try clear I);rintro a w ⟨z,cV,kQ,E,I⟩;refine IF 0 E I (λao a E=>?_) λao a E=>?_
  ·
   have p4:=cV ao;refine RN 3 E I λa E=>?_;exact⟨bs.length-(k+1),by have:=p4.le;omega,k+1,⟨rfl,by omega,p4.le,.inr p4⟩,E.ab [0,3,4,5,6],I⟩
  obtain⟨p4,bD⟩:=kQ ao;rw[p4.runs aF bD last]at c9;have dH:=p4.lt;have yq:=p4.le;refine aX 1 (λw0 w=>Rd w bb oo (bc bs)) [4] [0,1,2,3,5,6,7,9,3008,10,2004,1011,1012,13] E I λa w E I hH=>?_;have hC:=(hp _ I.tail).rd (by omega);have eF:=rZ (n:=((k-i:Nat):Int)) (by omega) (by omega);refine RH 4 E I hH hC λa E=>?_;rw[show ((k:Nat):Int)-((i:Nat):Int)=((k-i:Nat):Int) from by omega]at E;refine RH 4 E I hH hC λa E=>?_;refine QH E (λw hc=>ae E (hc i _ (dT aF))) hC λa E=>?_;refine RH 1 E I hH hC λa E=>?_;refine DN [(4,[1011,1012,13]),(11,[1004,1012,13])] (by kernel_rfl) rfl ⟨⟨_,rfl,?_⟩,⟨_,rfl,?_⟩,trivial⟩
  ·
   refine RH 0 E I hH hC λa E=>?_;refine aY 0 E I (tj (N:=((k-i:Nat):Int)) (I.pick (Sl 5 1 av dn.length c' (bc dn))) (by omega) (by omega) (by omega)) λc0 dS a w E I=>?_;replace hC:=hH.at w ((hp _ I.sub).rd (by omega));refine RH 0 E I hH hC λa E=>?_;refine cr E rfl I underlying22 Ty.t5 rfl rfl rfl rfl (by decide) (by decide) λI8 a w E I ho=>?_;clear ho;refine RN 0 E I λa E=>?_;refine cQ E rfl I underlying22 Ty.t5 rfl rfl I.ai rfl (by simp[Value.oneCell']) (by decide) (by decide) (by rw[aI];omega) λyP Fo a w E I=>?_;refine RN 1 E I λa E=>?_;rw[u2]at I;have nA:(dn++aO (zz ((k-i:Nat):Int))++[bs[i] ^^^ last])++dA (bs.drop k) bs[i]=dA bs 0:=by rw[← c9];simp
   rw[show (dn++aO (zz ((k-i:Nat):Int))).length+1=(dn++aO (zz ((k-i:Nat):Int))++[bs[i] ^^^ last]).length from by simp only[aI,jD]]at E I;generalize dn++aO (zz ((k-i:Nat):Int))++[bs[i] ^^^ last]=r0 at E I nA;refine RN 4 E I λa E=>?_;refine SS E (ae E (((hp _ I.sub).rd (by omega)) i _ (dT aF))) λa E=>?_;refine RN 3 E I λa E=>?_;exact⟨bs.length-k,by omega,k,_,yP,r0,bs[i],⟨rfl,by omega,nA⟩,E.ab [0,3,4,5],I.sub⟩
  refine RH 0 E I hH hC λa E=>?_;refine cr E rfl I underlying22 Ty.t5 rfl rfl rfl rfl (by decide) (by decide) λI8 a w E I ho=>?_;clear ho;refine aY 0 E I (tj (N:=((k-i:Nat):Int)) (I.pick (Sl 5 1 av dn.length c' (bc dn))) (by omega) (by omega) (by omega)) λc0 dS a w E I=>?_;replace hC:=hH.at w ((hp _ I.sub).rd (by omega));refine RH 0 E I hH hC λa E=>?_;refine cQ E rfl I underlying22 Ty.t5 rfl rfl I.ai rfl (by simp[Value.oneCell']) (by decide) (by decide) (by rw[aI];omega) λyP Fo a w E I=>?_;refine RN 1 E I λa E=>?_;rw[u2]at I;have nA:(dn++aO (zz ((k-i:Nat):Int))++[bs[i] ^^^ last])++dA (bs.drop k) bs[i]=dA bs 0:=by rw[← c9];simp
  rw[show (dn++aO (zz ((k-i:Nat):Int))).length+1=(dn++aO (zz ((k-i:Nat):Int))++[bs[i] ^^^ last]).length from by simp only[aI,jD]]at E I;generalize dn++aO (zz ((k-i:Nat):Int))++[bs[i] ^^^ last]=r0 at E I nA;refine RN 4 E I λa E=>?_;refine SS E (ae E (((hp _ I.sub).rd (by omega)) i _ (dT aF))) λa E=>?_;refine RN 3 E I λa E=>?_;exact⟨bs.length-k,by omega,k,_,yP,r0,bs[i],⟨rfl,by omega,nA⟩,E.ab [0,3,4,5],I.sub⟩
 rw[drop_eq_nil_of_le (by omega),wU,append_nil]at c9;refine RT 3 E I ?_;exact⟨_,_,by rw[← c9],by rw[← c9];exact I⟩
theorem YC (I:U W w L)(hb:bs.length≤65536)(hp:∀ w',U W w' L→aW w' ad bs.length bs) :
   Calls prog 159 #[.slice ad bs.length c] w λe w'=>∃ av c',e=.returned (.slice av (dA bs 0).length c')∧U W w' (Sl 5 1 av (dA bs 0).length c' (bc (dA bs 0))::L):=by
 have gq:=yO bs 0;refine EN func159 ntmps159 rfl rfl λa E=>?_;refine RN 9 E I λa E=>?_;refine aQ (λμ a w=>∃ (i c':Nat) (av:Option Addr) (dn:List UInt8) (last:UInt8),(μ=bs.length-i∧i≤bs.length∧dn++dA (bs.drop i) last=dA bs 0)∧Fr a 52 [(0,.slice ad bs.length c),(3,.slice av dn.length c'),(4,.int .u8 (last.toNat:Int)),(5,.int .i64 i)]∧U W w (Sl 5 1 av dn.length c' (bc dn)::L)) (bs.length) (⟨0,0,none,[],0,⟨rfl,by omega,rfl⟩,E.ab [0,3,4,5],I.bN 5 1 none⟩) ?_;clear E I;rintro μ a w ⟨i,c',av,dn,last,⟨rfl,hi,c9⟩,E,I⟩;refine IF 6 E I (λaj a E=>?_) λaj a E=>?_
 ·
  obtain⟨bb,oo,rfl,_⟩:=(hp _ I.tail).get (by omega);have aF:i<bs.length:=by omega
  have mN:dn.length≤11*bs.length:=by
   have:=di List.length c9;rw[aI]at this;omega
  refine RN 3 E I λa E=>?_;refine aQ (λμ a w=>∃ (k:Nat),(μ=bs.length-k∧k≤bs.length∧nz bs i k)∧Fr a 52 [(0,.slice (some ⟨bb,oo,none⟩) bs.length c),(3,.slice av dn.length c'),(4,.int .u8 (last.toNat:Int)),(5,.int .i64 i),(6,.int .i64 ((k-i:Nat):Int))]∧U W w (Sl 5 1 av dn.length c' (bc dn)::L)) (bs.length-(i+1)) (⟨i+1,⟨rfl,by omega,nz.one aF⟩,by rw[show i+1-i=1 from by omega];exact E.ab [0,3,4,5,6],I⟩) ?_;clear E I;rintro μ a w ⟨k,⟨rfl,hk,kR⟩,E,I⟩;refine RN 1 E I λa E=>?_;refine cd (M:=λa w=>∃ z:Bool,(z=true→nz bs i (k+1))∧(z=false→∀ he:k<bs.length,bs[k]≠bs[i])∧Fr a 52 [(0,.slice (some ⟨bb,oo,none⟩) bs.length c),(3,.slice av dn.length c'),(4,.int .u8 (last.toNat:Int)),(5,.int .i64 i),(6,.int .i64 ((k-i:Nat):Int)),(29,.bool z)]∧U W w (Sl 5 1 av dn.length c' (bc dn)::L)) ?_ ?_
  ·
   refine RN 0 E I λa E=>?_;have pT:=kR.lt;refine bS 0 [16] [0,1,2,3,4,5,6,7,8,9,10,11,13,14,15,3012,1016,17,18] E I λa w E I hH hC=>?_;have hr:=(hp _ I.tail).rd (by omega);refine RH 3 E I hH hC λa E=>?_;rw[show ((i:Nat):Int)+((k-i:Nat):Int)=(k:Int) from by omega]at E;refine RH 4 E I hH hC λa E=>?_;refine E.by (s:=17) (λkb E=>?_) (λkb E=>?_)
   ·
    refine RH 4 E I hH hC λa E=>?_;rw[show ((i:Nat):Int)+((k-i:Nat):Int)=(k:Int) from by omega]at E;refine RH 4 E I hH hC λa E=>?_;refine QH E (λw hc=>ae E ((hc.rd hr) k _ (dT (i:=k) (bs:=bs) (show k<bs.length by omega)))) hC λa E=>?_;refine RH 0 E I hH hC λa E=>?_;refine bm E (bQ E rfl (s:=17)) (ae E ((hC.rd hr) i _ (dT aF))) rfl λa E=>?_;refine RH 2 E I hH hC λa E=>?_;have dH:k<bs.length:=by omega
    refine⟨_,λh=>?_,λh=>?_,E.ab [0,3,4,5,6,29],I⟩
    ·have he:bs[k]=bs[i]:=UInt8.toNat_inj.1 (by have:=qB h;omega);exact kR.more dH he
    ·have he:bs[k]≠bs[i]:=λe=>of_decide_eq_false h (by rw[e]);exact λ_=>he
   refine RH 12 E I hH hC λa E=>?_;refine⟨_,λh=>(by cases h),λh=>?_,E.ab [0,3,4,5,6,29],I⟩;exact λ_=>absurd (show k<bs.length by assumption) (by omega)
  clear E;(try clear I);rintro a w ⟨z,cV,kQ,E,I⟩;refine IF 0 E I (λao a E=>?_) λao a E=>?_
  ·
   have p4:=cV ao;refine RN 1 E I λa E=>?_;have pT:=kR.lt;have b9:((k-i:Nat):Int)≤65536:=by omega
   refine RN 1 E I λa E=>?_;rw[show ((k-i:Nat):Int)+1=((k+1-i:Nat):Int) from by omega]at E;refine RN 1 E I λa E=>?_;exact⟨bs.length-(k+1),by have:=p4.le;omega,k+1,⟨rfl,p4.le,p4⟩,E.ab [0,3,4,5,6],I⟩
  have bD:=kQ ao;rw[kR.runs aF bD last]at c9;have dH:=kR.lt;have yq:=kR.le;refine aX 1 (λw0 w=>Rd w bb oo (bc bs)) [2,3] [0,1,4,5,6,8,3007,9,2002,2003,1010,1011,12] E I λa w E I hH=>?_;have hC:=(hp _ I.tail).rd (by omega);have eF:=rZ (n:=((k-i:Nat):Int)) (by omega) (by omega);refine RH 6 E I hH hC λa E=>?_;refine QH E (λw hc=>ae E (hc i _ (dT aF))) hC λa E=>?_;refine RH 1 E I hH hC λa E=>?_;refine DN [(2,[2003,1010,1011,12]),(10,[1002,1003,1011,12])] (by kernel_rfl) rfl ⟨⟨_,rfl,?_⟩,⟨_,rfl,?_⟩,trivial⟩
  ·
   refine RH 0 E I hH hC λa E=>?_;refine aY 0 E I (tz (N:=((k-i:Nat):Int)) I (by omega) (by omega)) λc0 dS a w E I=>?_;replace hC:=hH.at w ((hp _ I.sub).rd (by omega));refine RH 0 E I hH hC λa E=>?_;refine DN [(3,[1010,1011,12]),(10,[1003,1011,12])] (by kernel_rfl) rfl ⟨⟨_,rfl,?_⟩,⟨_,rfl,?_⟩,trivial⟩
   ·
    obtain⟨bp,op,rfl,fk⟩:=(I.cv c0 (aO (zz ((k-i:Nat):Int))) rfl rfl).get (rS _);refine RH 0 E I hH hC λa E=>?_;refine cQ E rfl I underlying22 Ty.t5 rfl rfl fk (by rw[dy,fU]) (ep _) (rS _) (by decide) (by omega) λFp Fq a w E I=>?_;replace hC:=hH.at w ((hp _ I.sub).rd (by omega));refine RH 0 E I hH hC λa E=>?_;refine cr E rfl I underlying22 Ty.t5 rfl rfl rfl rfl (by decide) (by decide) λLa a w E I ho=>?_;clear ho;refine RN 0 E I λa E=>?_;refine cQ E rfl I underlying22 Ty.t5 rfl rfl I.ai rfl (by simp[Value.oneCell']) (by decide) (by decide) (by omega) λwY Fs a w E I=>?_;refine RN 1 E I λa E=>?_;rw[← fM,u2]at I;have nA:(dn++aO (zz ((k-i:Nat):Int))++[bs[i] ^^^ last])++dA (bs.drop k) bs[i]=dA bs 0:=by rw[← c9];simp
    rw[show dn.length+(aO (zz ((k-i:Nat):Int))).length+1=(dn++aO (zz ((k-i:Nat):Int))++[bs[i] ^^^ last]).length from by simp only[aI,jD]]at E I;generalize dn++aO (zz ((k-i:Nat):Int))++[bs[i] ^^^ last]=r0 at E I nA;refine RN 4 E I λa E=>?_;refine SS E (ae E (((hp _ I.sub).rd (by omega)) i _ (dT aF))) λa E=>?_;refine RN 4 E I λa E=>?_;rw[show ((i:Nat):Int)+((k-i:Nat):Int)=(k:Int) from by omega]at E;refine RN 1 E I λa E=>?_;exact⟨bs.length-k,by omega,k,_,wY,r0,bs[i],⟨rfl,by omega,nA⟩,E.ab [0,3,4,5],I.sub⟩
   refine RH 0 E I hH hC λa E=>?_;refine cr E rfl I underlying22 Ty.t5 rfl rfl rfl rfl (by decide) (by decide) λLa a w E I ho=>?_;clear ho;obtain⟨bp,op,rfl,fk⟩:=(I.cv c0 (aO (zz ((k-i:Nat):Int))) rfl rfl).get (rS _);refine RN 0 E I λa E=>?_;refine cQ E rfl I underlying22 Ty.t5 rfl rfl fk (by rw[dy,fU]) (ep _) (rS _) (by decide) (by omega) λFp Fq a w E I=>?_;replace hC:=hH.at w ((hp _ I.sub).rd (by omega));refine RH 0 E I hH hC λa E=>?_;refine cQ E rfl I underlying22 Ty.t5 rfl rfl I.ai rfl (by simp[Value.oneCell']) (by decide) (by decide) (by omega) λwY Fs a w E I=>?_;refine RN 1 E I λa E=>?_;rw[← fM,u2]at I;have nA:(dn++aO (zz ((k-i:Nat):Int))++[bs[i] ^^^ last])++dA (bs.drop k) bs[i]=dA bs 0:=by rw[← c9];simp
   rw[show dn.length+(aO (zz ((k-i:Nat):Int))).length+1=(dn++aO (zz ((k-i:Nat):Int))++[bs[i] ^^^ last]).length from by simp only[aI,jD]]at E I;generalize dn++aO (zz ((k-i:Nat):Int))++[bs[i] ^^^ last]=r0 at E I nA;refine RN 4 E I λa E=>?_;refine SS E (ae E (((hp _ I.sub).rd (by omega)) i _ (dT aF))) λa E=>?_;refine RN 4 E I λa E=>?_;rw[show ((i:Nat):Int)+((k-i:Nat):Int)=(k:Int) from by omega]at E;refine RN 1 E I λa E=>?_;exact⟨bs.length-k,by omega,k,_,wY,r0,bs[i],⟨rfl,by omega,nA⟩,E.ab [0,3,4,5],I.sub⟩
  refine RH 0 E I hH hC λa E=>?_;refine cr E rfl I underlying22 Ty.t5 rfl rfl rfl rfl (by decide) (by decide) λLa a w E I ho=>?_;clear ho;refine aY 0 E I (tz (N:=((k-i:Nat):Int)) I (by omega) (by omega)) λc0 dS a w E I=>?_;replace hC:=hH.at w ((hp _ I.sub).rd (by omega));obtain⟨bp,op,rfl,fk⟩:=(I.cv c0 (aO (zz ((k-i:Nat):Int))) rfl rfl).get (rS _);refine RH 0 E I hH hC λa E=>?_;refine cQ E rfl I underlying22 Ty.t5 rfl rfl fk (by rw[dy,fU]) (ep _) (rS _) (by decide) (by omega) λFp Fq a w E I=>?_;replace hC:=hH.at w ((hp _ I.sub).rd (by omega));refine RH 0 E I hH hC λa E=>?_;refine cQ E rfl I underlying22 Ty.t5 rfl rfl I.ai rfl (by simp[Value.oneCell']) (by decide) (by decide) (by omega) λwY Fs a w E I=>?_;refine RN 1 E I λa E=>?_;rw[← fM,u2]at I;have nA:(dn++aO (zz ((k-i:Nat):Int))++[bs[i] ^^^ last])++dA (bs.drop k) bs[i]=dA bs 0:=by rw[← c9];simp
  rw[show dn.length+(aO (zz ((k-i:Nat):Int))).length+1=(dn++aO (zz ((k-i:Nat):Int))++[bs[i] ^^^ last]).length from by simp only[aI,jD]]at E I;generalize dn++aO (zz ((k-i:Nat):Int))++[bs[i] ^^^ last]=r0 at E I nA;refine RN 4 E I λa E=>?_;refine SS E (ae E (((hp _ I.sub).rd (by omega)) i _ (dT aF))) λa E=>?_;refine RN 4 E I λa E=>?_;rw[show ((i:Nat):Int)+((k-i:Nat):Int)=(k:Int) from by omega]at E;refine RN 1 E I λa E=>?_;exact⟨bs.length-k,by omega,k,_,wY,r0,bs[i],⟨rfl,by omega,nA⟩,E.ab [0,3,4,5],I.sub⟩
 rw[drop_eq_nil_of_le (by omega),wU,append_nil]at c9;refine RT 3 E I ?_;exact⟨_,_,by rw[← c9],by rw[← c9];exact I⟩
theorem YD (I:U W w L)(hb:bs.length≤65536)(hc:bs.length≤c)(hm:m≤1000000)(hp:∀ w',U W w' L→aW w' ad bs.length bs) :
   Calls prog 333 #[.slice ad bs.length c,.int .i64 m] w λe w'=>∃ (out:List UInt8) (av:Option Addr) (c':Nat) (er:Int),e=.returned (.tuple #[.slice av out.length c',.int .i64 er])∧tA bs m out er∧U W w' (Sl 5 1 av out.length c' (bc out)::L):=by
 refine EN func333 ntmps333 rfl rfl λa E=>?_;refine RN 10 E I λa E=>?_;refine aQ (λμ a w=>∃ (i c':Nat) (av:Option Addr) (dn:List UInt8) (last:UInt8),(μ=bs.length-i∧i≤bs.length∧dn.length≤m∧(0<i→dn≠[])∧∀ p:List UInt8,p.length≤m→bs=dA p 0→mT p dn last (bs.drop i))∧Fr a 79 [(0,.slice ad bs.length c),(1,.int .i64 m),(6,.slice av dn.length c'),(7,.int .u8 (last.toNat:Int)),(8,.int .i64 i)]∧U W w (Sl 5 1 av dn.length c' (bc dn)::L)) (bs.length) (⟨0,0,none,[],0,⟨rfl,by omega,by simp,by omega,λp _ e=>by rw[drop_zero,e];exact mT.start p⟩,E.ab [0,1,6,7,8],I.bN 5 1 none⟩) ?_;clear E I;rintro μ a w ⟨i,c',av,dn,last,⟨rfl,hi,Ft,Fu,nr⟩,E,I⟩;refine IF 6 E I (λaj a E=>?_) λaj a E=>?_
 ·
  obtain⟨bb,oo,rfl,_⟩:=(hp _ I.tail).get (by omega);have aF:i<bs.length:=by omega
  have bD:bs.drop i≠[]:=λe=>by have:=di List.length e;simp at this;omega
  refine RN 4 E I λa E=>?_;rw[show bs.length-i=(bs.drop i).length from by simp]at E;refine j2 0 E I (K7 (bs:=bs.drop i) I (by simp;omega) (λw' hw=>(hp w' hw.tail).uY hi hc)) λx k er a w E ⟨hg,I⟩=>?_;refine RN 8 E I λa E=>?_;refine cd (M:=λa w=>∃ z:Bool,(z=true↔(er≠0∨x<1∨bs.length≤i+k∨((bs.getD (i+k) 0).toNat=0∧0<i)))∧Fr a 79 [(0,.slice (some ⟨bb,oo,none⟩) bs.length c),(1,.int .i64 m),(6,.slice av dn.length c'),(7,.int .u8 (last.toNat:Int)),(8,.int .i64 i),(9,.int .i64 x),(10,.int .i64 k),(50,.bool z)]∧U W w (Sl 5 1 av dn.length c' (bc dn)::L)) ?_ ?_
  ·
   have mN:(bs.drop i).length=bs.length-i:=by simp
   have p5:=hg.2.2.1;have nS:=hg.2.1;have oY:=hg.1;have dH:k≤bs.length:=by
    by_cases h0:er=0
    ·have:=p5 h0;omega
    ·have:=(hg.2.2.2.1 h0).1;omega
   refine BY 3 E I (λbA a E=>?_) λbA a E=>?_
   ·
    refine RN 24 E I λa E=>?_;exact⟨_,by first | (rw[ct];omega) | exact⟨λh=>(by cases h),λh=>absurd h (by omega)⟩ | exact⟨λ_=>by omega,λ_=>rfl⟩,E.ab [0,1,6,7,8,9,10,50],I⟩
   refine BY 4 E I (λkb a E=>?_) λkb a E=>?_
   ·
    refine RN 20 E I λa E=>?_;exact⟨_,by first | (rw[ct];omega) | exact⟨λh=>(by cases h),λh=>absurd h (by omega)⟩ | exact⟨λ_=>by omega,λ_=>rfl⟩,E.ab [0,1,6,7,8,9,10,50],I⟩
   refine BY 8 E I (λk9 a E=>?_) λk9 a E=>?_
   ·
    refine RN 12 E I λa E=>?_;exact⟨_,by first | (rw[ct];omega) | exact⟨λh=>(by cases h),λh=>absurd h (by omega)⟩ | exact⟨λ_=>by omega,λ_=>rfl⟩,E.ab [0,1,6,7,8,9,10,50],I⟩
   refine RN 4 E I λa E=>?_;rw[show ((i:Nat):Int)+((k:Nat):Int)=((i+k:Nat):Int) from by omega]at E;refine RN 1 E I λa E=>?_;refine bm E (bQ E rfl (s:=38)) (ae E (((hp _ I.tail).rd (by omega)) (i+k) _ (ln (by omega)))) rfl λa E=>?_;refine BY 2 E I (λp6 a E=>?_) λp6 a E=>?_
   ·
    refine RN 4 E I λa E=>?_;exact⟨_,by first | (rw[ct];omega) | exact⟨λh=>(by cases h),λh=>absurd h (by omega)⟩ | exact⟨λ_=>by omega,λ_=>rfl⟩,E.ab [0,1,6,7,8,9,10,50],I⟩
   refine RN 4 E I λa E=>?_;exact⟨_,by first | (rw[ct];omega) | exact⟨λh=>(by cases h),λh=>absurd h (by omega)⟩ | exact⟨λ_=>by omega,λ_=>rfl⟩,E.ab [0,1,6,7,8,9,10,50],I⟩
  clear E;(try clear I);rintro a w ⟨z,hz,E,I⟩;refine IF 0 E I (λao a E=>?_) λao a E=>?_
  ·
   have ka:=hz.1 ao;refine RT 3 E I ?_;exact⟨[],none,0,1,rfl,tA.bad nr hm bD hg (by rw[K9,c5];rcases ka with h | h | h | h;exact .inl h;exact .inr (.inl h);exact .inr (.inr (.inl (by omega)));exact .inr (.inr (.inr (.inl ⟨Fu h.2,h.1⟩)))) (.inl rfl),I.tail.bN _ _ _⟩
  have EU:¬ (er≠0∨x<1∨bs.length≤i+k∨((bs.getD (i+k) 0).toNat=0∧0<i)):=λh=>absurd (hz.2 h) (by simp[ao]);refine IF 9 E I (λay a E=>?_) λay a E=>?_
  ·
   refine RT 3 E I ?_;exact⟨[],none,0,4,rfl,tA.bad nr hm bD hg (.inr (.inr (.inr (.inr (by omega))))) (.inr rfl),I.tail.bN _ _ _⟩
  refine RN 6 E I λa E=>?_;rw[show ((i:Nat):Int)+((k:Nat):Int)=((i+k:Nat):Int) from by omega]at E;refine RN 1 E I λa E=>?_;refine SS E (ae E (((hp _ I.tail).rd (by omega)) (i+k) _ (ln (by omega)))) λa E=>?_;refine RN 2 E I λa E=>?_;generalize hy:last ^^^ bs.getD (i+k) 0=y at E;refine RN 4 E I λa E=>?_;refine aQ (λμ a w=>∃ (j c2:Nat) (ad2:Option Addr),(μ=x.toNat-j∧j≤x.toNat)∧Fr a 79 [(0,.slice (some ⟨bb,oo,none⟩) bs.length c),(1,.int .i64 m),(6,.slice ad2 (dn++List.replicate j y).length c2),(7,.int .u8 (y.toNat:Int)),(8,.int .i64 i),(10,.int .i64 k),(66,.int .i64 x),(67,.int .i64 j)]∧U W w (Sl 5 1 ad2 (dn++List.replicate j y).length c2 (bc (dn++List.replicate j y))::L)) (x.toNat) (⟨0,c',av,⟨rfl,by omega⟩,by rw[List.replicate_zero,append_nil];exact E.ab [0,1,6,7,8,10,66,67],by rw[List.replicate_zero,append_nil];exact I⟩) ?_;clear E I;rintro μ a w ⟨j,c2,ad2,⟨rfl,hj⟩,E,I⟩;refine IF 3 E I (λbd a E=>?_) λbd a E=>?_
  ·
   refine RN 1 E I λa E=>?_;have eT:(dn++List.replicate j y).length=dn.length+j:=by simp
   refine RN 2 E I λa E=>?_;refine cr E rfl I underlying22 Ty.t5 rfl rfl rfl rfl (by decide) (by decide) λYE a w E I ho=>?_;clear ho;refine RN 0 E I λa E=>?_;refine cQ E rfl I underlying22 Ty.t5 rfl rfl I.ai rfl (by simp[Value.oneCell']) (by decide) (by decide) (by omega) λLb Lc a w E I=>?_;refine RN 1 E I λa E=>?_;rw[u2,show (dn++List.replicate j y)++[y]=dn++List.replicate (j+1) y from by rw[dx,← replicate_succ']]at I;rw[show (dn++List.replicate j y).length+1=(dn++List.replicate (j+1) y).length from by simp;omega]at E I;refine RN 2 E I λa E=>?_;exact⟨x.toNat-(j+1),by omega,j+1,_,_,⟨rfl,by omega⟩,E.ab [0,1,6,7,8,10,66,67],I.sub⟩
  obtain rfl:j=x.toNat:=by omega
  refine RN 0 E I λa E=>?_;have np:(dn++List.replicate x.toNat y).length=dn.length+x.toNat:=by simp
  refine RN 4 E I λa E=>?_;rw[show ((i:Nat):Int)+(((k:Nat):Int)+1)=((i+k+1:Nat):Int) from by omega]at E;refine RN 1 E I λa E=>?_;exact⟨bs.length-(i+k+1),by omega,i+k+1,_,_,_,y,⟨rfl,by omega,by omega,λ_ e=>(by rw[e]at np;simp at np;omega),λp u3 e=>(by
   have h2:=((nr p u3 e).get (by omega) bD hg).2.2.2.2.2;rw[K9,hy,ky]at h2;exact h2)⟩,E.ab [0,1,6,7,8],I⟩
 refine RT 4 E I ?_;exact⟨dn,_,_,0,rfl,⟨by omega,Ft,λp u3 e=>⟨by have h2:=nr p u3 e;rw[drop_eq_nil_of_le (by omega)]at h2;exact h2.done.symm,rfl⟩⟩,I⟩
theorem YF (I:U W w L)(hb:bs.length≤65536)(hc:bs.length≤c)(hm:m≤1000000)(hp:∀ w',U W w' L→aW w' ad bs.length bs) :
   Calls prog 216 #[.slice ad bs.length c,.int .i64 m] w λe w'=>∃ (out:List UInt8) (av:Option Addr) (c':Nat) (er:Int),e=.returned (.tuple #[.slice av out.length c',.int .i64 er])∧tA bs m out er∧U W w' (Sl 5 1 av out.length c' (bc out)::L):=by
 refine EN func216 ntmps216 rfl rfl λa E=>?_;refine RN 10 E I λa E=>?_;refine aQ (λμ a w=>∃ (i c' o2:Nat) (av r4:Option Addr) (dn rest:List UInt8) (last:UInt8) (fi:Bool),(μ=rest.length∧rest.length≤bs.length∧rest.length≤o2∧dn.length≤m∧(fi=false→dn≠[])∧(∀ w',U W w' L→aW w' r4 rest.length rest)∧∀ p:List UInt8,p.length≤m→bs=dA p 0→mT p dn last rest)∧Fr a 72 [(0,.slice r4 rest.length o2),(1,.int .i64 m),(6,.slice av dn.length c'),(7,.int .u8 (last.toNat:Int)),(8,.bool fi)]∧U W w (Sl 5 1 av dn.length c' (bc dn)::L)) (bs.length) (⟨0,0,c,none,ad,[],bs,0,true,⟨rfl,by omega,hc,by simp,(by simp),hp,λp _ e=>by rw[e];exact mT.start p⟩,E.ab [0,1,6,7,8],I.bN 5 1 none⟩) ?_;clear E I;rintro μ a w ⟨i,c',o2,av,r4,dn,rest,last,fi,⟨rfl,Bl,jT,Ft,Fu,a6,nr⟩,E,I⟩;refine IF 5 E I (λaj a E=>?_) λaj a E=>?_
 ·
  obtain⟨bb,oo,rfl,_⟩:=(a6 _ I.tail).get (by omega);have bD:rest≠[]:=λe=>by rw[e]at aj;simp at aj
  refine j2 3 E I (Fl (bs:=rest) I (by omega) (λw' hw=>a6 w' hw.tail)) λx k er a w E ⟨hg,I⟩=>?_;refine RN 8 E I λa E=>?_;refine cd (M:=λa w=>∃ z:Bool,(z=true↔(er≠0∨x<1∨rest.length≤k∨((rest.getD k 0).toNat=0∧fi=false)))∧Fr a 72 [(0,.slice (some ⟨bb,oo,none⟩) rest.length o2),(1,.int .i64 m),(6,.slice av dn.length c'),(7,.int .u8 (last.toNat:Int)),(8,.bool fi),(9,.int .i64 x),(10,.int .i64 k),(44,.bool z)]∧U W w (Sl 5 1 av dn.length c' (bc dn)::L)) ?_ ?_
  ·
   have p5:=hg.2.2.1;have nS:=hg.2.1;have oY:=hg.1;have dH:k≤rest.length:=by
    by_cases h0:er=0
    ·have:=p5 h0;omega
    ·have:=(hg.2.2.2.1 h0).1;omega
   refine BY 3 E I (λbA a E=>?_) λbA a E=>?_
   ·
    refine RN 20 E I λa E=>?_;exact⟨_,by first | (rw[ct];omega) | exact⟨λh=>(by cases h),λh=>absurd h (by omega)⟩ | exact⟨λ_=>by omega,λ_=>rfl⟩ | (cases fi;exact⟨λ_=>.inr (.inr (.inr ⟨by omega,rfl⟩)),λ_=>rfl⟩;exact⟨λh=>(by cases h),λh=>by rcases h with h | h | h | h;exact absurd h (by omega);exact absurd h (by omega);exact absurd h (by omega);exact absurd h.2 (by decide)⟩),E.ab [0,1,6,7,8,9,10,44],I⟩
   refine BY 4 E I (λkb a E=>?_) λkb a E=>?_
   ·
    refine RN 16 E I λa E=>?_;exact⟨_,by first | (rw[ct];omega) | exact⟨λh=>(by cases h),λh=>absurd h (by omega)⟩ | exact⟨λ_=>by omega,λ_=>rfl⟩ | (cases fi;exact⟨λ_=>.inr (.inr (.inr ⟨by omega,rfl⟩)),λ_=>rfl⟩;exact⟨λh=>(by cases h),λh=>by rcases h with h | h | h | h;exact absurd h (by omega);exact absurd h (by omega);exact absurd h (by omega);exact absurd h.2 (by decide)⟩),E.ab [0,1,6,7,8,9,10,44],I⟩
   refine BY 6 E I (λil a E=>?_) λil a E=>?_
   ·
    refine RN 10 E I λa E=>?_;exact⟨_,by first | (rw[ct];omega) | exact⟨λh=>(by cases h),λh=>absurd h (by omega)⟩ | exact⟨λ_=>by omega,λ_=>rfl⟩ | (cases fi;exact⟨λ_=>.inr (.inr (.inr ⟨by omega,rfl⟩)),λ_=>rfl⟩;exact⟨λh=>(by cases h),λh=>by rcases h with h | h | h | h;exact absurd h (by omega);exact absurd h (by omega);exact absurd h (by omega);exact absurd h.2 (by decide)⟩),E.ab [0,1,6,7,8,9,10,44],I⟩
   refine RN 3 E I λa E=>?_;refine bm E (bQ E rfl (s:=34)) (ae E (((a6 _ I.tail).rd (by omega)) k _ (ln (by omega)))) rfl λa E=>?_;refine BY 2 E I (λuL a E=>?_) λuL a E=>?_
   ·
    refine RN 4 E I λa E=>?_;exact⟨_,by first | (rw[ct];omega) | exact⟨λh=>(by cases h),λh=>absurd h (by omega)⟩ | exact⟨λ_=>by omega,λ_=>rfl⟩ | (cases fi;exact⟨λ_=>.inr (.inr (.inr ⟨by omega,rfl⟩)),λ_=>rfl⟩;exact⟨λh=>(by cases h),λh=>by rcases h with h | h | h | h;exact absurd h (by omega);exact absurd h (by omega);exact absurd h (by omega);exact absurd h.2 (by decide)⟩),E.ab [0,1,6,7,8,9,10,44],I⟩
   refine RN 4 E I λa E=>?_;exact⟨_,by first | (rw[ct];omega) | exact⟨λh=>(by cases h),λh=>absurd h (by omega)⟩ | exact⟨λ_=>by omega,λ_=>rfl⟩ | (cases fi;exact⟨λ_=>.inr (.inr (.inr ⟨by omega,rfl⟩)),λ_=>rfl⟩;exact⟨λh=>(by cases h),λh=>by rcases h with h | h | h | h;exact absurd h (by omega);exact absurd h (by omega);exact absurd h (by omega);exact absurd h.2 (by decide)⟩),E.ab [0,1,6,7,8,9,10,44],I⟩
  clear E;(try clear I);rintro a w ⟨z,hz,E,I⟩;refine IF 0 E I (λao a E=>?_) λao a E=>?_
  ·
   have ka:=hz.1 ao;refine RT 3 E I ?_;exact⟨[],none,0,1,rfl,tA.bad nr hm bD hg (by rcases ka with h | h | h | h;exact .inl h;exact .inr (.inl h);exact .inr (.inr (.inl (by omega)));exact .inr (.inr (.inr (.inl ⟨Fu h.2,h.1⟩)))) (.inl rfl),I.tail.bN _ _ _⟩
  have EU:¬ (er≠0∨x<1∨rest.length≤k∨((rest.getD k 0).toNat=0∧fi=false)):=λh=>absurd (hz.2 h) (by simp[ao]);refine IF 9 E I (λay a E=>?_) λay a E=>?_
  ·
   refine RT 3 E I ?_;exact⟨[],none,0,4,rfl,tA.bad nr hm bD hg (.inr (.inr (.inr (.inr (by omega))))) (.inr rfl),I.tail.bN _ _ _⟩
  refine RN 5 E I λa E=>?_;refine SS E (ae E (((a6 _ I.tail).rd (by omega)) k _ (ln (by omega)))) λa E=>?_;refine RN 2 E I λa E=>?_;generalize hy:last ^^^ rest.getD k 0=y at E;refine RN 3 E I λa E=>?_;refine aQ (λμ a w=>∃ (j c2:Nat) (ad2:Option Addr),(μ=x.toNat-j∧j≤x.toNat)∧Fr a 72 [(0,.slice (some ⟨bb,oo,none⟩) rest.length o2),(1,.int .i64 m),(6,.slice ad2 (dn++List.replicate j y).length c2),(7,.int .u8 (y.toNat:Int)),(8,.bool fi),(9,.int .i64 x),(10,.int .i64 k),(12,.int .i64 j)]∧U W w (Sl 5 1 ad2 (dn++List.replicate j y).length c2 (bc (dn++List.replicate j y))::L)) (x.toNat) (⟨0,c',av,⟨rfl,by omega⟩,by rw[List.replicate_zero,append_nil];exact E.ab [0,1,6,7,8,9,10,12],by rw[List.replicate_zero,append_nil];exact I⟩) ?_;clear E I;rintro μ a w ⟨j,c2,ad2,⟨rfl,hj⟩,E,I⟩;refine IF 5 E I (λbd a E=>?_) λbd a E=>?_
  ·
   refine RN 1 E I λa E=>?_;have eT:(dn++List.replicate j y).length=dn.length+j:=by simp
   refine RN 2 E I λa E=>?_;refine cr E rfl I underlying22 Ty.t5 rfl rfl rfl rfl (by decide) (by decide) λSa a w E I ho=>?_;clear ho;refine RN 0 E I λa E=>?_;refine cQ E rfl I underlying22 Ty.t5 rfl rfl I.ai rfl (by simp[Value.oneCell']) (by decide) (by decide) (by omega) λafV c66 a w E I=>?_;refine RN 1 E I λa E=>?_;rw[u2,show (dn++List.replicate j y)++[y]=dn++List.replicate (j+1) y from by rw[dx,← replicate_succ']]at I;rw[show (dn++List.replicate j y).length+1=(dn++List.replicate (j+1) y).length from by simp;omega]at E I;refine RN 3 E I λa E=>?_;exact⟨x.toNat-(j+1),by omega,j+1,_,_,⟨rfl,by omega⟩,E.ab [0,1,6,7,8,9,10,12],I.sub⟩
  obtain rfl:j=x.toNat:=by omega
  refine RN 0 E I λa E=>?_;have np:(dn++List.replicate x.toNat y).length=dn.length+x.toNat:=by simp
  refine RN 5 E I λa E=>?_;rw[show rest.length-(k+1)=(rest.drop (k+1)).length from by simp]at E;refine RN 1 E I λa E=>?_;exact⟨(rest.drop (k+1)).length,by simp;omega,0,_,_,_,_,_,rest.drop (k+1),y,false,⟨rfl,by simp;omega,by simp;omega,by omega,λ_ e=>(by rw[e]at np;simp at np;omega),λw' hw=>(a6 w' hw).uY (by omega) jT,λp u3 e=>(by
   have h2:=((nr p u3 e).get (by omega) bD hg).2.2.2.2.2;rw[hy]at h2;exact h2)⟩,E.ab [0,1,6,7,8],I⟩
 refine RT 4 E I ?_;have YG:rest=[]:=g4 (by omega);exact⟨dn,_,_,0,rfl,⟨by omega,Ft,λp u3 e=>⟨by have h2:=nr p u3 e;rw[YG]at h2;exact h2.done.symm,rfl⟩⟩,I⟩
end
end
section
abbrev dN (p:Pk)(ad:Option Addr)(c:Nat):List Value:=[.int .i64 p.kind,.int .i64 p.aV,.int .i64 p.to,.int .i64 p.id,.int .i64 p.first,.slice ad p.al.length c,.int .i64 p.da,.int .i64 p.frame,.int .u32 p.sum]
def p7 (m:Int)(ns:List Int):Prop:=∀ n∈ns,0≤n∧n≤m
def Fv (ns:List Int):List Value:=ns.map λn=>.int .i64 n
theorem YH {ns:List Int}{i:Nat}(h:i<ns.length):(Fv ns)[i]?=some (.int .i64 ns[i]):=by simp[Fv,h]
def iO (p:Pk):Prop:=(0≤p.aV∧p.aV≤7)∧(0≤p.to∧p.to≤7)∧p.aV≠p.to∧(0≤p.id∧p.id≤1099511627776)
theorem Fw {p:Pk}(h:iO p)(hk:p.kind=1):hY p↔(p7 1000 [p.first,p.da,p.frame]∧p.al.length≤32):=by
 unfold iO at h;simp only[hY,p7,eK,wK,not_mem_nil,false_implies,implies_true,and_true];omega
theorem Fx {p:Pk}(h:iO p)(hk:p.kind=2):hY p↔(p7 0 [p.first,p.da,p.frame,(p.al.length:Int)]∧p.sum=0):=by
 unfold iO at h;simp only[hY,p7,eK,wK,not_mem_nil,false_implies,implies_true,and_true];omega
theorem Bm {p:Pk}(h:hY p):iO p:=⟨h.1,h.2.1,h.2.2.1,h.2.2.2.1⟩
theorem yQ {p:Pk}(h:hY p):p.kind=1∨p.kind=2:=by
 rcases h.2.2.2.2 with h | h
 ·exact .inl h.1
 ·exact .inr h.1
section
variable {W w:World}{L:List SP}{n c:Nat}{ad:Option Addr}{p:Pk}
theorem Fy {ns:List Int}{b:Nat}{M:Int}(I:U W w L)(hb:ns.length≤1000)(hp:∀ w',U W w' L→Rd w' b 0 (Fv ns)) :
   Calls prog 342 #[.int .i64 M,.slice (some ⟨b,0,none⟩) ns.length ns.length] w λe w'=>∃ r:Bool,e=.returned (.bool r)∧(r=true↔p7 M ns)∧U W w' L:=by
 refine EN func342 ntmps342 rfl rfl λa E=>?_;refine RN 7 E I λa E=>?_;refine aQ (λμ a w=>∃ (i:Nat),(μ=ns.length-i∧i≤ns.length∧p7 M (ns.take i))∧Fr a 21 [(0,.int .i64 M),(7,.slice (some ⟨b,0,none⟩) ns.length ns.length),(8,.int .i64 ns.length),(9,.int .i64 i)]∧U W w L) (ns.length) (⟨0,⟨rfl,by omega,λn h=>by simp at h⟩,E.ab [0,7,8,9],I⟩) ?_;clear E I;rintro μ a w ⟨i,⟨rfl,hi,cC⟩,E,I⟩;refine IF 3 E I (λaj a E=>?_) λaj a E=>?_
 ·
  have aF:i<ns.length:=by omega
  refine RN 3 E I λa E=>?_;refine SS E (ae E (by have:=hp _ I i _ (YH aF);rwa [eE]at this)) λa E=>?_;refine RN 1 E I λa E=>?_;refine cd (M:=λa w=>∃ z:Bool,(z=true↔¬ (0≤ns[i]∧ns[i]≤M))∧Fr a 21 [(0,.int .i64 M),(7,.slice (some ⟨b,0,none⟩) ns.length ns.length),(8,.int .i64 ns.length),(9,.int .i64 i),(19,.bool z)]∧U W w L) ?_ ?_
  ·
   refine BY 3 E I (λbA a E=>?_) λbA a E=>?_
   ·
    refine RN 4 E I λa E=>?_;exact⟨_,by first | (rw[ct];omega) | exact⟨λh=>(by cases h),λh=>absurd h (by omega)⟩ | exact⟨λ_=>by omega,λ_=>rfl⟩,E.ab [0,7,8,9,19],I⟩
   refine RN 4 E I λa E=>?_;exact⟨_,by first | (rw[ct];omega) | exact⟨λh=>(by cases h),λh=>absurd h (by omega)⟩ | exact⟨λ_=>by omega,λ_=>rfl⟩,E.ab [0,7,8,9,19],I⟩
  clear E;(try clear I);rintro a w ⟨z,hz,E,I⟩;refine IF 0 E I (λao a E=>?_) λao a E=>?_
  ·
   refine RT 2 E I ?_;exact⟨_,rfl,⟨λh=>(by cases h),λh=>absurd (h _ (iZ aF)) (hz.1 ao)⟩,I⟩
  refine RN 2 E I λa E=>?_;exact⟨ns.length-(i+1),by omega,i+1,⟨rfl,by omega,λn hn=>by
   rw[jw aF,eS,iH]at hn;rcases hn with hn | rfl
   ·exact cC n hn
   ·exact Classical.byContradiction λh=>by have:=hz.2 h;rw[ao]at this;cases this⟩,E.ab [0,7,8,9],I⟩
 refine RT 2 E I ?_;rw[gg (by omega)]at cC;exact⟨_,rfl,⟨λ_=>cC,λ_=>rfl⟩,I⟩
theorem Ld {M a b:Int}:p7 M [a,b]↔(0≤a∧a≤M)∧(0≤b∧b≤M):=by simp[p7]
theorem YI {M a b c:Int}:p7 M [a,b,c]↔(0≤a∧a≤M)∧(0≤b∧b≤M)∧(0≤c∧c≤M):=by simp[p7]
theorem YJ (I:U W w L):Calls prog 336 #[.agg (dN p ad c).toArray] w λe w'=>∃ r:Bool,e=.returned (.bool r)∧(r=true↔hY p)∧U W w' L:=by
 have kS:=I;refine EN func336 ntmps336 rfl rfl λa E=>?_;refine BX 1 E I λb1 a w E I=>?_;refine RN 2 E I λa E=>?_;refine cd (M:=λa w=>∃ (z:Bool) (b1:Nat),(z=true↔¬ iO p)∧Fr a 63 [(1,pt b1),(26,.bool z)]∧U W w (aa b1 203 (dN p ad c)::L)) ?_ ?_
 ·
  refine RN 4 E I λa E=>?_;refine cr E rfl I underlying53 Ty.t3 rfl rfl rfl rfl (by decide) (by decide) λdt a w E I ho=>?_;clear ho;refine bj 0 E I (Fy (ns:=[p.aV,p.to]) I (by simp) (λw' hw=>hw.ai)) λr1 a w E ⟨fg,I⟩=>?_;refine BY 2 E I (λjS a E=>?_) λjS a E=>?_
  ·
   have hh:¬ iO p:=λh=>by
    have:=fg.2 (Ld.2 ⟨h.1,h.2.1⟩);rw[jS]at this;cases this
   refine RN 16 E I λa E=>?_;exact⟨_,_,⟨λ_=>hh,λ_=>rfl⟩,E.ab [1,26],I.sub⟩
  have hh:=Ld.1 (fg.1 jS);refine BY 7 E I (λk9 a E=>?_) λk9 a E=>?_
  ·
   refine RN 9 E I λa E=>?_;exact⟨_,_,by unfold iO;first | (rw[ct];omega) | exact⟨λh=>(by cases h),λh=>absurd h (by omega)⟩ | exact⟨λ_=>by omega,λ_=>rfl⟩,E.ab [1,26],I.sub⟩
  refine BY 5 E I (λp8 a E=>?_) λp8 a E=>?_
  ·
   refine RN 4 E I λa E=>?_;exact⟨_,_,by unfold iO;first | (rw[ct];omega) | exact⟨λh=>(by cases h),λh=>absurd h (by omega)⟩ | exact⟨λ_=>by omega,λ_=>rfl⟩,E.ab [1,26],I.sub⟩
  refine RN 4 E I λa E=>?_;exact⟨_,_,by unfold iO;first | (rw[ct];omega) | exact⟨λh=>(by cases h),λh=>absurd h (by omega)⟩ | exact⟨λ_=>by omega,λ_=>rfl⟩,E.ab [1,26],I.sub⟩
 clear E;(try clear I);rintro a w ⟨z,b1,hz,E,I⟩;refine IF 0 E I (λaj a E=>?_) λaj a E=>?_
 ·
  have hn:=hz.1 aj;refine RT 2 E I ?_;exact⟨_,rfl,⟨λh=>(by cases h),λh=>absurd (Bm h) hn⟩,I.sub⟩
 have hh:iO p:=Classical.byContradiction λh=>by have:=hz.2 h;rw[aj]at this;cases this
 refine IF 7 E I (λao a E=>?_) λao a E=>?_
 ·
  have g8:p.kind=1:=ao;refine RN 7 E I λa E=>?_;refine cr E rfl I underlying53 Ty.t3 rfl rfl rfl rfl (by decide) (by decide) λV1 a w E I ho=>?_;clear ho;refine bj 0 E I (Fy (ns:=[p.first,p.da,p.frame]) I (by simp) (λw' hw=>hw.ai)) λafW a w E ⟨tB,I⟩=>?_;refine BY 1 E I (λfj a E=>?_) λfj a E=>?_
  ·
   refine RT 6 E I ?_;refine⟨_,rfl,?_,I.sub⟩;rw[Fw hh g8,ct];exact⟨λh=>⟨tB.1 fj,by omega⟩,λh=>by omega⟩
  refine RT 6 E I ?_;exact⟨_,rfl,⟨λh=>(by cases h),λh=>by have:=tB.2 ((Fw hh g8).1 h).1;rw[fj]at this;cases this⟩,I.sub⟩
 refine IF 3 E I (λay a E=>?_) λay a E=>?_
 ·
  have b9:p.kind=2:=ay;refine RN 10 E I λa E=>?_;refine cr E rfl I underlying53 Ty.t3 rfl rfl rfl rfl (by decide) (by decide) λYK a w E I ho=>?_;clear ho;refine bj 0 E I (Fy (ns:=[p.first,p.da,p.frame,(p.al.length:Int)]) I (by simp) (λw' hw=>hw.ai)) λafX a w E ⟨wZ,I⟩=>?_;refine BY 1 E I (λla a E=>?_) λla a E=>?_
  ·
   refine RT 5 E I ?_;refine⟨_,rfl,?_,I.sub⟩;rw[Fx hh b9,ct];exact⟨λh=>⟨wZ.1 la,by omega⟩,λh=>by omega⟩
  refine RT 5 E I ?_;exact⟨_,rfl,⟨λh=>(by cases h),λh=>by have:=wZ.2 ((Fx hh b9).1 h).1;rw[la]at this;cases this⟩,I.sub⟩
 refine RT 2 E I ?_;exact⟨_,rfl,⟨λh=>(by cases h),λh=>by rcases yQ h with h | h;exact absurd h ao;exact absurd h ay⟩,I.sub⟩
theorem Fz {x:Int}(I:U W w L):Calls prog 191 #[.int .i64 x] w λe w'=>∃ r:Bool,e=.returned (.bool r)∧(r=true↔eK x)∧U W w' L:=by
 refine EN func191 ntmps191 rfl rfl λa E=>?_;refine BY 6 E I (λbA a E=>?_) λbA a E=>?_
 ·
  refine RT 4 E I ?_;exact⟨_,rfl,by unfold eK;first | (rw[ct];omega) | exact⟨λh=>(by cases h),λh=>absurd h (by omega)⟩,I⟩
 refine RT 4 E I ?_;exact⟨_,rfl,by unfold eK;first | (rw[ct];omega) | exact⟨λh=>(by cases h),λh=>absurd h (by omega)⟩,I⟩
theorem YL (I:U W w L):Calls prog 156 #[.agg (dN p ad c).toArray] w λe w'=>∃ r:Bool,e=.returned (.bool r)∧(r=true↔hY p)∧U W w' L:=by
 refine EN func156 ntmps156 rfl rfl λa E=>?_;refine BX 1 E I λb1 a w E I=>?_;refine RN 2 E I λa E=>?_;refine cd (M:=λa w=>∃ (z:Bool) (b1:Nat),(z=true↔¬ (iO p∧1≤p.kind∧p.kind≤2))∧Fr a 94 [(1,pt b1),(47,.bool z)]∧U W w (aa b1 203 (dN p ad c)::L)) ?_ ?_
 ·
  refine BY 4 E I (λbX a E=>?_) λbX a E=>?_
  ·
   refine RN 41 E I λa E=>?_;exact⟨_,_,by unfold iO;first | (rw[ct];omega) | exact⟨λh=>(by cases h),λh=>absurd h (by omega)⟩ | exact⟨λ_=>by omega,λ_=>rfl⟩,E.ab [1,47],I.sub⟩
  refine BY 5 E I (λfj a E=>?_) λfj a E=>?_
  ·
   refine RN 36 E I λa E=>?_;exact⟨_,_,by unfold iO;first | (rw[ct];omega) | exact⟨λh=>(by cases h),λh=>absurd h (by omega)⟩ | exact⟨λ_=>by omega,λ_=>rfl⟩,E.ab [1,47],I.sub⟩
  refine BY 5 E I (λnB a E=>?_) λnB a E=>?_
  ·
   refine RN 31 E I λa E=>?_;exact⟨_,_,by unfold iO;first | (rw[ct];omega) | exact⟨λh=>(by cases h),λh=>absurd h (by omega)⟩ | exact⟨λ_=>by omega,λ_=>rfl⟩,E.ab [1,47],I.sub⟩
  refine BY 5 E I (λuL a E=>?_) λuL a E=>?_
  ·
   refine RN 26 E I λa E=>?_;exact⟨_,_,by unfold iO;first | (rw[ct];omega) | exact⟨λh=>(by cases h),λh=>absurd h (by omega)⟩ | exact⟨λ_=>by omega,λ_=>rfl⟩,E.ab [1,47],I.sub⟩
  refine BY 5 E I (λmQ a E=>?_) λmQ a E=>?_
  ·
   refine RN 21 E I λa E=>?_;exact⟨_,_,by unfold iO;first | (rw[ct];omega) | exact⟨λh=>(by cases h),λh=>absurd h (by omega)⟩ | exact⟨λ_=>by omega,λ_=>rfl⟩,E.ab [1,47],I.sub⟩
  refine BY 5 E I (λYM a E=>?_) λYM a E=>?_
  ·
   refine RN 16 E I λa E=>?_;exact⟨_,_,by unfold iO;first | (rw[ct];omega) | exact⟨λh=>(by cases h),λh=>absurd h (by omega)⟩ | exact⟨λ_=>by omega,λ_=>rfl⟩,E.ab [1,47],I.sub⟩
  refine BY 7 E I (λYN a E=>?_) λYN a E=>?_
  ·
   refine RN 9 E I λa E=>?_;exact⟨_,_,by unfold iO;first | (rw[ct];omega) | exact⟨λh=>(by cases h),λh=>absurd h (by omega)⟩ | exact⟨λ_=>by omega,λ_=>rfl⟩,E.ab [1,47],I.sub⟩
  refine BY 5 E I (λYO a E=>?_) λYO a E=>?_
  ·
   refine RN 4 E I λa E=>?_;exact⟨_,_,by unfold iO;first | (rw[ct];omega) | exact⟨λh=>(by cases h),λh=>absurd h (by omega)⟩ | exact⟨λ_=>by omega,λ_=>rfl⟩,E.ab [1,47],I.sub⟩
  refine RN 4 E I λa E=>?_;exact⟨_,_,by unfold iO;first | (rw[ct];omega) | exact⟨λh=>(by cases h),λh=>absurd h (by omega)⟩ | exact⟨λ_=>by omega,λ_=>rfl⟩,E.ab [1,47],I.sub⟩
 clear E;(try clear I);rintro a w ⟨z,b1,hz,E,I⟩;refine IF 0 E I (λaj a E=>?_) λaj a E=>?_
 ·
  have hn:=hz.1 aj;refine RT 2 E I ?_;exact⟨_,rfl,⟨λh=>(by cases h),λh=>absurd ⟨Bm h,by have:=yQ h;omega⟩ hn⟩,I.sub⟩
 have hh:iO p∧1≤p.kind∧p.kind≤2:=Classical.byContradiction λh=>by have:=hz.2 h;rw[aj]at this;cases this
 refine IF 5 E I (λao a E=>?_) λao a E=>?_
 ·
  have b9:p.kind=2:=ao;have kA:=Fx hh.1 b9;simp only[p7,wK,not_mem_nil,false_implies,implies_true,and_true]at kA;refine BY 5 E I (λbX a E=>?_) λbX a E=>?_
  ·
   refine BY 6 E I (λu1 a E=>?_) λu1 a E=>?_
   ·
    refine BY 5 E I (λk9 a E=>?_) λk9 a E=>?_
    ·
     refine BY 5 E I (λp8 a E=>?_) λp8 a E=>?_
     ·
      refine RT 5 E I ?_
      first | exact⟨_,rfl,by rw[kA];first | (rw[ct];omega) | exact⟨λh=>(by cases h),λh=>absurd h (by omega)⟩ | exact⟨λ_=>by omega,λ_=>rfl⟩,I.sub⟩ | exact⟨_,rfl,by rw[gS];first | (rw[ct];omega) | exact⟨λh=>(by cases h),λh=>absurd h (by omega)⟩ | exact⟨λ_=>by omega,λ_=>rfl⟩,I.sub⟩
     refine RT 5 E I ?_
     first | exact⟨_,rfl,by rw[kA];first | (rw[ct];omega) | exact⟨λh=>(by cases h),λh=>absurd h (by omega)⟩ | exact⟨λ_=>by omega,λ_=>rfl⟩,I.sub⟩ | exact⟨_,rfl,by rw[gS];first | (rw[ct];omega) | exact⟨λh=>(by cases h),λh=>absurd h (by omega)⟩ | exact⟨λ_=>by omega,λ_=>rfl⟩,I.sub⟩
    refine RT 10 E I ?_
    first | exact⟨_,rfl,by rw[kA];first | (rw[ct];omega) | exact⟨λh=>(by cases h),λh=>absurd h (by omega)⟩ | exact⟨λ_=>by omega,λ_=>rfl⟩,I.sub⟩ | exact⟨_,rfl,by rw[gS];first | (rw[ct];omega) | exact⟨λh=>(by cases h),λh=>absurd h (by omega)⟩ | exact⟨λ_=>by omega,λ_=>rfl⟩,I.sub⟩
   refine RT 15 E I ?_
   first | exact⟨_,rfl,by rw[kA];first | (rw[ct];omega) | exact⟨λh=>(by cases h),λh=>absurd h (by omega)⟩ | exact⟨λ_=>by omega,λ_=>rfl⟩,I.sub⟩ | exact⟨_,rfl,by rw[gS];first | (rw[ct];omega) | exact⟨λh=>(by cases h),λh=>absurd h (by omega)⟩ | exact⟨λ_=>by omega,λ_=>rfl⟩,I.sub⟩
  refine RT 21 E I ?_
  first | exact⟨_,rfl,by rw[kA];first | (rw[ct];omega) | exact⟨λh=>(by cases h),λh=>absurd h (by omega)⟩ | exact⟨λ_=>by omega,λ_=>rfl⟩,I.sub⟩ | exact⟨_,rfl,by rw[gS];first | (rw[ct];omega) | exact⟨λh=>(by cases h),λh=>absurd h (by omega)⟩ | exact⟨λ_=>by omega,λ_=>rfl⟩,I.sub⟩
 have g8:p.kind=1:=by omega
 have gS:=Fw hh.1 g8;rw[YI]at gS;refine bj 3 E I (Fz I) λf1 a w E ⟨ju,I⟩=>?_;refine BY 1 E I (λbX a E=>?_) λbX a E=>?_
 ·
  have k1:=ju.1 bX;unfold eK at k1;refine bj 2 E I (Fz I) λf2 a w E ⟨jM,I⟩=>?_;refine BY 2 E I (λfj a E=>?_) λfj a E=>?_
  ·
   have k2:=jM.1 fj;unfold eK at k2;refine bj 2 E I (Fz I) λf3 a w E ⟨Le,I⟩=>?_;refine BY 2 E I (λnB a E=>?_) λnB a E=>?_
   ·
    have k3:=Le.1 nB;unfold eK at k3;refine RT 6 E I ?_
    first | exact⟨_,rfl,by rw[kA];first | (rw[ct];omega) | exact⟨λh=>(by cases h),λh=>absurd h (by omega)⟩ | exact⟨λ_=>by omega,λ_=>rfl⟩,I.sub⟩ | exact⟨_,rfl,by rw[gS];first | (rw[ct];omega) | exact⟨λh=>(by cases h),λh=>absurd h (by omega)⟩ | exact⟨λ_=>by omega,λ_=>rfl⟩,I.sub⟩
   have k3:¬ eK p.frame:=λh=>by rw[Le.2 h]at nB;cases nB
   unfold eK at k3;refine RT 6 E I ?_
   first | exact⟨_,rfl,by rw[kA];first | (rw[ct];omega) | exact⟨λh=>(by cases h),λh=>absurd h (by omega)⟩ | exact⟨λ_=>by omega,λ_=>rfl⟩,I.sub⟩ | exact⟨_,rfl,by rw[gS];first | (rw[ct];omega) | exact⟨λh=>(by cases h),λh=>absurd h (by omega)⟩ | exact⟨λ_=>by omega,λ_=>rfl⟩,I.sub⟩
  have k2:¬ eK p.da:=λh=>by rw[jM.2 h]at fj;cases fj
  unfold eK at k2;refine RT 11 E I ?_
  first | exact⟨_,rfl,by rw[kA];first | (rw[ct];omega) | exact⟨λh=>(by cases h),λh=>absurd h (by omega)⟩ | exact⟨λ_=>by omega,λ_=>rfl⟩,I.sub⟩ | exact⟨_,rfl,by rw[gS];first | (rw[ct];omega) | exact⟨λh=>(by cases h),λh=>absurd h (by omega)⟩ | exact⟨λ_=>by omega,λ_=>rfl⟩,I.sub⟩
 have k1:¬ eK p.first:=λh=>by rw[ju.2 h]at bX;cases bX
 unfold eK at k1;refine RT 16 E I ?_
 first | exact⟨_,rfl,by rw[kA];first | (rw[ct];omega) | exact⟨λh=>(by cases h),λh=>absurd h (by omega)⟩ | exact⟨λ_=>by omega,λ_=>rfl⟩,I.sub⟩ | exact⟨_,rfl,by rw[gS];first | (rw[ct];omega) | exact⟨λh=>(by cases h),λh=>absurd h (by omega)⟩ | exact⟨λ_=>by omega,λ_=>rfl⟩,I.sub⟩
end
end
section
def r5 (p:Pk):List Int:=[p.first,p.da,p.frame]
def ia (p:Pk)(i:Nat):List UInt8:=lR p++(aO (zz p.id)++((r5 p).take i).flatMap λn=>aO (zz n))
theorem YP {p:Pk}{i:Nat}(h:i<3):ia p (i+1)=ia p i++aO (zz ((r5 p).getD i 0)):=by
 have hl:i<(r5 p).length:=h;rw[ia,ia,jw hl,List.flatMap_append,dx,dx,bl,aD hl];simp
theorem Lf {p:Pk}(h:p.kind=1):ia p 3++(eJ p.sum++(aO (zz (p.al.length:Int))++dA p.al 0))=eV p:=by
 simp[ia,eV,ll,ny,h,ml,r5]
theorem Lg {p:Pk}(h:p.kind≠1):ia p 0=eV p:=by simp[ia,eV,ll,ny,h]
theorem FA {p:Pk}(h:hY p){i:Nat}(hi:i≤3):(ia p i).length≤43:=by
 obtain⟨h1,h2,h3,h4,h5⟩:=h;have hq:∀ n:Int,0≤n→n≤1099511627776→(aO (zz n)).length≤10:=λn a b=>rZ (by omega) (by omega);have hf:(0≤p.first∧p.first≤1000)∧(0≤p.da∧p.da≤1000)∧(0≤p.frame∧p.frame≤1000):=by unfold eK at h5;omega
 have a0:=hq p.id (by omega) (by omega);have cH:=hq p.first (by omega) (by omega);have dq:=hq p.da (by omega) (by omega);have a3:=hq p.frame (by omega) (by omega);rcases (by omega:i=0∨i=1∨i=2∨i=3) with rfl | rfl | rfl | rfl <;> simp[ia,lR,r5] <;> omega
theorem YQ {p:Pk}{i:Nat}(h:i<3):([Value.int .i64 p.first,.int .i64 p.da,.int .i64 p.frame]:List Value)[i]?=some (.int .i64 ((r5 p).getD i 0)):=by
 rcases (by omega:i=0∨i=1∨i=2) with rfl | rfl | rfl <;> rfl
theorem YR {p:Pk}(h:hY p)(i:Nat):0≤(r5 p).getD i 0∧(r5 p).getD i 0≤1000:=by
 have h5:=h.2.2.2.2;have hf:(0≤p.first∧p.first≤1000)∧(0≤p.da∧p.da≤1000)∧(0≤p.frame∧p.frame≤1000):=by unfold eK at h5;omega
 match i with
 | 0=>exact hf.1
 | 1=>exact hf.2.1
 | 2=>exact hf.2.2
 | _+3=>exact⟨Int.le_refl _,by show (0:Int)≤1000;omega⟩
theorem FB {p:Pk}(h:hY p):[[Value.int .u8 p.kind],[Value.int .u8 p.aV],[Value.int .u8 p.to]].flatten=bc (lR p):=by
 have hk:=yQ h;obtain⟨h1,h2,h3,h4,h5⟩:=h;simp[bc,lR,UInt8.toNat_ofNat'];omega
theorem Lh {p:Pk}(h:hY p):(eV p).length≤503:=by
 have:=K3 h;simp[eV,lR];omega
section
variable {W w:World}{L:List SP}{n c:Nat}{ad:Option Addr}{bs:List UInt8}{p:Pk}
theorem Li (I:U W w L)(mm:p.sum<4294967296)(hp:∀ w',U W w' L→aW w' ad p.al.length p.al) :
   Calls prog 330 #[.agg (dN p ad c).toArray] w λe w'=>∃ av c',e=.returned (.slice av (aS p).length c')∧U W w' (Sl 5 1 av (aS p).length c' (bc (aS p))::L):=by
 refine EN func330 ntmps330 rfl rfl λa E=>?_;refine BX 1 E I λb1 a w E I=>?_;refine bj 4 E I (YJ (p:=p) (ad:=ad) (c:=c) I) λr1 a w E ⟨fg,I⟩=>?_;refine IF 1 E I (λaj a E=>?_) λaj a E=>?_
 ·
  have hn:¬ hY p:=λh=>by rw[fg.2 h]at aj;cases aj
  refine RT 2 E I ?_;have he:aS p=[]:=by rw[aS,ag hn]
  rw[he];exact⟨none,0,rfl,I.tail.bN _ _ _⟩
 have hm:hY p:=fg.1 aj;have hk:=yQ hm;have hh:=Bm hm;unfold iO at hh;have he:aS p=eV p++eJ (gJ (eV p)):=by rw[aS,ak hm,hZ]
 have oM:=Lh hm;refine SX 3 E I (by rw[wrap_u8];omega) λa E=>?_;refine SX 2 E I (by rw[wrap_u8];omega) λa E=>?_;refine SX 2 E I (by rw[wrap_u8];omega) λa E=>?_;refine RN 0 E I λa E=>?_;refine cr E rfl I underlying22 Ty.t5 rfl rfl rfl rfl (by decide) (by decide) λtu a w E I ho=>?_;clear ho;replace I:=I.E0 (l:=lR p) rfl rfl (FB hm);refine aY 2 E I (tj (bs:=lR p) (N:=p.id) I (by omega) (by omega) (by simp[lR])) λfu dI a w E I=>?_;refine RN 1 E I λa E=>?_;rw[show lR p++aO (zz p.id)=ia p 0 from by simp[ia]]at E I;refine cd (M:=λa w=>∃ (fu:Option Addr) (dI:Nat),Fr a 58 [(3,.slice fu (eV p).length dI)]∧U W w (Sl 5 1 fu (eV p).length dI (bc (eV p))::L)) ?_ ?_
 ·
  refine IF 4 E I (λao a E=>?_) λao a E=>?_
  ·
   have g8:p.kind=1:=ao;have eF:p.al.length≤32:=by have:=hm.2.2.2.2;omega
   refine RN 8 E I λa E=>?_;refine SS E (Dv E underlying429 Ty.t429 Ty.t3 rfl rfl) λa E=>?_;refine RN 1 E I λa E=>?_;refine aQ (λμ a w=>∃ (i dI:Nat) (fu:Option Addr),(μ=3-i∧i≤3)∧Fr a 58 [(1,pt b1),(3,.slice fu (ia p i).length dI),(31,.agg #[.int .i64 p.first,.int .i64 p.da,.int .i64 p.frame]),(32,.int .i64 i)]∧U W w (Sl 5 1 fu (ia p i).length dI (bc (ia p i))::aa b1 203 (dN p ad c)::L)) (3) (⟨0,dI,fu,⟨rfl,by omega⟩,E.ab [1,3,31,32],I⟩) ?_;clear E I;rintro μ a w ⟨i,dI,fu,⟨rfl,hi⟩,E,I⟩;refine IF 3 E I (λay a E=>?_) λay a E=>?_
   ·
    refine RN 2 E I λa E=>?_;refine SS E (sR E underlying429 underlying3 rfl Ty.t3 (by omega) (YQ (p:=p) (by omega))) λa E=>?_;refine RN 1 E I λa E=>?_;have cC:=YR hm i;have pJ:=FA hm (show i≤3 by omega);refine aY 2 E I (tj I (by omega) (by omega) (by omega)) λmI hV a w E I=>?_;refine RN 1 E I λa E=>?_;rw[← YP (by omega)]at E I;refine RN 2 E I λa E=>?_;exact⟨3-(i+1),by omega,i+1,_,_,⟨rfl,by omega⟩,E.ab [1,3,31,32],I.sub⟩
   obtain rfl:i=3:=by omega
   have pJ:=FA hm (bf 3);have hs:=rZ (n:=(p.al.length:Int)) (by omega) (by omega);have jB:=Lf g8;generalize ia p 3=YS at E I pJ jB;refine aX 1 (λw0 w=>Rd w b1 0 (dN p ad c)) [3,4,6,7] [0,1,5,3002,3006,3007,1003,1004,1008,9] E I λa w E I hH=>?_;have hC:Rd w b1 0 (dN p ad c):=I.ai;refine RH 3 E I hH hC λa E=>?_;refine QH E (λw hc=>ae E (hc 8 _ rfl)) hC λa E=>?_;refine QH E (λw hc=>ae E (hc 5 _ rfl)) hC λa E=>?_;refine RH 1 E I hH hC λa E=>?_;refine bj 0 E I (KV I) λeg a w E I=>?_;replace hC:=hH.at w I.ai;refine RH 0 E I hH hC λa E=>?_;refine g9 E rfl I underlying22 Ty.t5 rfl rfl (by decide) (λh0=>(I.cv eg (eJ p.sum) rfl rfl).get h0) (by rw[dy];rfl) (ep _) (by rw[lS];omega) λwY Fs a w E I=>?_;replace hC:=hH.at w I.ai;rw[← fM,← aI]at I;rw[← aI]at E;refine RH 0 E I hH hC λa E=>?_;refine aY 0 E I (tj I (by omega) (by omega) (by rw[aI,lS];omega)) λtf oN a w E I=>?_;refine RN 1 E I λa E=>?_;have gq:=yO p.al 0;generalize hu:YS++eJ p.sum++aO (zz (p.al.length:Int))=w1 at E I;have afY:w1.length≤60:=by rw[← hu];simp[lS];omega
   refine aY 3 E I (YB (bs:=p.al) I (by omega) (λw' hw=>hp w' hw.sub)) λsZ rH a w E I=>?_;refine RN 0 E I λa E=>?_;refine g9 E rfl I underlying22 Ty.t5 rfl rfl (by decide) (λh0=>(I.cv sZ _ rfl rfl).get h0) (by rw[dy,fU]) (ep _) (by omega) λr7 r8 a w E I=>?_;refine RN 1 E I λa E=>?_;rw[← fM,show w1.length+(dA p.al 0).length=(w1++dA p.al 0).length from by rw[aI]]at I;rw[show w1.length+(dA p.al 0).length=(w1++dA p.al 0).length from by rw[aI]]at E;rw[show w1++dA p.al 0=eV p from by rw[← hu,← jB];simp]at E I;exact⟨_,_,E.ab [3],I.sub⟩
  rw[Lg (by omega)]at E I;refine RN 0 E I λa E=>?_;exact⟨_,_,E.ab [3],I.sub⟩
 clear E;(try clear I);rintro a w ⟨fu,dI,E,I⟩;refine CL 3 E I (KT I (by omega) (λw' hw=>hw.cv fu _ rfl rfl)) λa w E I=>?_;refine bj 0 E I (KV I) λBn a w E I=>?_;refine RN 0 E I λa E=>?_;refine g9 E rfl I underlying22 Ty.t5 rfl rfl (by decide) (λh0=>(I.cv Bn (eJ (gJ (eV p))) rfl rfl).get h0) (by rw[dy];rfl) (ep _) (by rw[lS];omega) λFC FD a w E I=>?_;refine RT 1 E I ?_;rw[he];rw[← fM,← aI]at I;rw[← aI];exact⟨_,_,rfl,I.sub⟩
theorem FE (I:U W w L)(mm:p.sum<4294967296)(hp:∀ w',U W w' L→aW w' ad p.al.length p.al) :
   Calls prog 114 #[.agg (dN p ad c).toArray] w λe w'=>∃ av c',e=.returned (.slice av (aS p).length c')∧U W w' (Sl 5 1 av (aS p).length c' (bc (aS p))::L):=by
 refine EN func114 ntmps114 rfl rfl λa E=>?_;refine BX 1 E I λb1 a w E I=>?_;refine bj 4 E I (YL (p:=p) (ad:=ad) (c:=c) I) λr1 a w E ⟨fg,I⟩=>?_;refine IF 1 E I (λaj a E=>?_) λaj a E=>?_
 ·
  have hn:¬ hY p:=λh=>by rw[fg.2 h]at aj;cases aj
  refine RT 2 E I ?_;have he:aS p=[]:=by rw[aS,ag hn]
  rw[he];exact⟨none,0,rfl,I.tail.bN _ _ _⟩
 have hm:hY p:=fg.1 aj;have hk:=yQ hm;have hh:=Bm hm;unfold iO at hh;have he:aS p=eV p++eJ (gJ (eV p)):=by rw[aS,ak hm,hZ]
 have oM:=Lh hm;have b6:=rZ (n:=p.id) (by omega) (by omega);refine RN 0 E I λa E=>?_;refine cd (M:=λa w=>∃ (a3:Option Addr) (dI:Nat),Fr a 57 [(1,pt b1),(3,.slice a3 (ia p 0).length dI)]∧U W w (Sl 5 1 a3 (ia p 0).length dI (bc (ia p 0))::aa b1 203 (dN p ad c)::L)) ?_ ?_
 ·
  refine aX 0 (λw0 w=>Rd w b1 0 (dN p ad c)) [4,5,7,8,9,11,12] [0,3,6,10,3001,2,3004,3005,3007,3008,3011,2009,1012,1013,14] E I λa w E I hH=>?_;have hC:Rd w b1 0 (dN p ad c):=I.ai;refine RH 4 E I hH hC λa E=>?_;refine QH E (λw hc=>ae E (hc 0 _ rfl)) hC λa E=>?_;refine QP E (λw=>pE E underlying3 underlying5 (by rw[wrap_u8];omega)) λa E=>?_;refine QH E (λw hc=>ae E (hc 1 _ rfl)) hC λa E=>?_;refine QH E (λw hc=>pE E underlying3 underlying5 (by rw[wrap_u8];omega)) hC λa E=>?_;refine QH E (λw hc=>ae E (hc 2 _ rfl)) hC λa E=>?_;refine QH E (λw hc=>pE E underlying3 underlying5 (by rw[wrap_u8];omega)) hC λa E=>?_;refine QH E (λw hc=>ae E (hc 3 _ rfl)) hC λa E=>?_;refine RH 0 E I hH hC λa E=>?_;refine DN [(9,[1012,1013,14]),(12,[1009,1013,14])] (by kernel_rfl) rfl ⟨⟨_,rfl,?_⟩,⟨_,rfl,?_⟩,trivial⟩
  ·
   refine RH 0 E I hH hC λa E=>?_;refine cr E rfl I underlying22 Ty.t5 rfl rfl rfl rfl (by decide) (by decide) λqW a w E I ho=>?_;clear ho;replace hC:=hH.at w I.ai;replace I:=I.E0 (l:=lR p) rfl rfl (FB hm);refine RH 0 E I hH hC λa E=>?_;refine aY 0 E I (tz (N:=p.id) I (by omega) (by omega)) λc0 dS a w E I=>?_;replace hC:=hH.at w I.ai;refine RH 0 E I hH hC λa E=>?_;refine g9 E rfl I underlying22 Ty.t5 rfl rfl (by decide) (λh0=>(I.cv c0 (aO (zz p.id)) rfl rfl).get h0) (by rw[dy,fU]) (ep _) (by omega) λyv Et a w E I=>?_;refine RN 1 E I λa E=>?_;rw[show 3+(aO (zz p.id)).length=(lR p++aO (zz p.id)).length from by rw[aI];rfl]at E I;rw[← fM]at I;rw[show lR p++aO (zz p.id)=ia p 0 from by simp[ia]]at E I
   skip
   exact⟨_,_,E.ab [1,3],I.sub⟩
  refine RH 0 E I hH hC λa E=>?_;refine aY 0 E I (tz (N:=p.id) I (by omega) (by omega)) λc0 dS a w E I=>?_;replace hC:=hH.at w I.ai;refine RH 0 E I hH hC λa E=>?_;refine cr E rfl I underlying22 Ty.t5 rfl rfl rfl rfl (by decide) (by decide) λqW a w E I ho=>?_;clear ho;replace hC:=hH.at w I.ai;replace I:=I.E0 (l:=lR p) rfl rfl (FB hm);refine RH 0 E I hH hC λa E=>?_;refine g9 E rfl I underlying22 Ty.t5 rfl rfl (by decide) (λh0=>(I.cv c0 (aO (zz p.id)) rfl rfl).get h0) (by rw[dy,fU]) (ep _) (by omega) λyv Et a w E I=>?_;refine RN 1 E I λa E=>?_;rw[show 3+(aO (zz p.id)).length=(lR p++aO (zz p.id)).length from by rw[aI];rfl]at E I;rw[← fM]at I;rw[show lR p++aO (zz p.id)=ia p 0 from by simp[ia]]at E I
  skip
  exact⟨_,_,E.ab [1,3],I.sub⟩
 clear E;(try clear I);rintro a w ⟨a3,dI,E,I⟩;refine cd (M:=λa w=>∃ (fu:Option Addr) (dI:Nat),Fr a 57 [(3,.slice fu (eV p).length dI)]∧U W w (Sl 5 1 fu (eV p).length dI (bc (eV p))::L)) ?_ ?_
 ·
  refine IF 4 E I (λao a E=>?_) λao a E=>?_
  ·
   have g8:p.kind=1:=ao;have eF:p.al.length≤32:=by have:=hm.2.2.2.2;omega
   have o3:(0≤p.first∧p.first≤1000)∧(0≤p.da∧p.da≤1000)∧(0≤p.frame∧p.frame≤1000):=by have:=hm.2.2.2.2;unfold eK at this;omega
   have q1:=rZ (n:=p.first) (by omega) (by omega);have q2:=rZ (n:=p.da) (by omega) (by omega);have Fg:=rZ (n:=p.frame) (by omega) (by omega);have Fh:=rZ (n:=(p.al.length:Int)) (by omega) (by omega);have pJ:=FA hm (show 0≤3 by decide);have jB:ia p 0++aO (zz p.first)++aO (zz p.da)++aO (zz p.frame)++eJ p.sum++aO (zz (p.al.length:Int))++dA p.al 0=eV p:=by rw[← Lf g8];simp[ia,r5]
   generalize hu0:ia p 0=yR at E I pJ jB;refine aX 1 (λw0 w=>Rd w b1 0 (dN p ad c)) [3,4,6] [0,1,5,3002,3006,1003,1004,1007,1008,9] E I λa w E I hH=>?_;have hC:Rd w b1 0 (dN p ad c):=I.ai;refine RH 3 E I hH hC λa E=>?_;refine QH E (λw hc=>ae E (hc 4 _ rfl)) hC λa E=>?_;refine QH E (λw hc=>ae E (hc 6 _ rfl)) hC λa E=>?_;refine RH 0 E I hH hC λa E=>?_;refine aY 0 E I (tz I (by omega) (by omega)) λcH eu a w E I=>?_;replace hC:=hH.at w I.ai;refine RH 0 E I hH hC λa E=>?_;refine g9 E rfl I underlying22 Ty.t5 rfl rfl (by decide) (λh0=>(I.cv cH (aO (zz p.first)) rfl rfl).get h0) (by rw[dy,fU]) (ep _) (by omega) λafZ c28 a w E I=>?_;replace hC:=hH.at w I.ai;rw[← fM,← aI]at I;rw[← aI]at E;refine RH 0 E I hH hC λa E=>?_;refine aY 0 E I (tz I (by omega) (by omega)) λdq c2 a w E I=>?_;have jf:(yR++aO (zz p.first)).length≤53:=by rw[aI];omega
   refine RN 0 E I λa E=>?_;refine g9 E rfl I underlying22 Ty.t5 rfl rfl (by decide) (λh0=>(I.cv dq (aO (zz p.da)) rfl rfl).get h0) (by rw[dy,fU]) (ep _) (by omega) λYT YU a w E I=>?_;rw[← fM,← aI]at I;rw[← aI]at E;refine RN 1 E I λa E=>?_;replace I:=I.sub (M:=Sl 5 1 YT (yR++aO (zz p.first)++aO (zz p.da)).length YU (bc (yR++aO (zz p.first)++aO (zz p.da)))::aa b1 203 (dN p ad c)::L);have j7:(yR++aO (zz p.first)++aO (zz p.da)).length≤63:=by rw[aI];omega
   generalize yR++aO (zz p.first)++aO (zz p.da)=yS at E I j7 jB;refine aX 1 (λw0 w=>Rd w b1 0 (dN p ad c)) [3,4,6] [0,1,5,3002,3006,1003,1004,1007,1008,9] E I λa w E I hH=>?_;have hC:Rd w b1 0 (dN p ad c):=I.ai;refine RH 3 E I hH hC λa E=>?_;refine QH E (λw hc=>ae E (hc 7 _ rfl)) hC λa E=>?_;refine QH E (λw hc=>ae E (hc 8 _ rfl)) hC λa E=>?_;refine RH 0 E I hH hC λa E=>?_;refine aY 0 E I (tz I (by omega) (by omega)) λcH eu a w E I=>?_;replace hC:=hH.at w I.ai;refine RH 0 E I hH hC λa E=>?_;refine g9 E rfl I underlying22 Ty.t5 rfl rfl (by decide) (λh0=>(I.cv cH (aO (zz p.frame)) rfl rfl).get h0) (by rw[dy,fU]) (ep _) (by omega) λYV YW a w E I=>?_;replace hC:=hH.at w I.ai;rw[← fM,← aI]at I;rw[← aI]at E;refine RH 0 E I hH hC λa E=>?_;refine bj 0 E I (E5 I) λdq a w E I=>?_;have jf:(yS++aO (zz p.frame)).length≤73:=by rw[aI];omega
   refine RN 0 E I λa E=>?_;refine g9 E rfl I underlying22 Ty.t5 rfl rfl (by decide) (λh0=>(I.cv dq (eJ p.sum) rfl rfl).get h0) (by rw[dy];rfl) (ep _) (by rw[lS];omega) λyP Fo a w E I=>?_;rw[← fM,← aI]at I;rw[← aI]at E;refine RN 1 E I λa E=>?_;replace I:=I.sub (M:=Sl 5 1 yP (yS++aO (zz p.frame)++eJ p.sum).length Fo (bc (yS++aO (zz p.frame)++eJ p.sum))::aa b1 203 (dN p ad c)::L);have j7:(yS++aO (zz p.frame)++eJ p.sum).length≤77:=by rw[aI,lS];omega
   generalize yS++aO (zz p.frame)++eJ p.sum=Lj at E I j7 jB;refine aX 0 (λw0 w=>Rd w b1 0 (dN p ad c)) [4,5,7] [0,1,6,3002,3,3007,1004,1005,1008,1009,10] E I λa w E I hH=>?_;have hC:Rd w b1 0 (dN p ad c):=I.ai;have gq:=yO p.al 0;refine RH 3 E I hH hC λa E=>?_;refine QH E (λw hc=>ae E (hc 5 _ rfl)) hC λa E=>?_;refine RH 1 E I hH hC λa E=>?_;refine QH E (λw hc=>ae E (hc 5 _ rfl)) hC λa E=>?_;refine RH 0 E I hH hC λa E=>?_;refine aY 0 E I (tz I (by omega) (by omega)) λcH eu a w E I=>?_;replace hC:=hH.at w I.ai;refine RH 0 E I hH hC λa E=>?_;refine g9 E rfl I underlying22 Ty.t5 rfl rfl (by decide) (λh0=>(I.cv cH (aO (zz (p.al.length:Int))) rfl rfl).get h0) (by rw[dy,fU]) (ep _) (by omega) λp9 r9 a w E I=>?_;replace hC:=hH.at w I.ai;rw[← fM,← aI]at I;rw[← aI]at E;refine RH 0 E I hH hC λa E=>?_;refine aY 0 E I (YC (bs:=p.al) I (by omega) (λw' hw=>hp w' hw.sub)) λdq c2 a w E I=>?_;have jf:(Lj++aO (zz (p.al.length:Int))).length≤87:=by rw[aI];omega
   refine RN 0 E I λa E=>?_;refine g9 E rfl I underlying22 Ty.t5 rfl rfl (by decide) (λh0=>(I.cv dq (dA p.al 0) rfl rfl).get h0) (by rw[dy,fU]) (ep _) (by omega) λLl Lm a w E I=>?_;rw[← fM,← aI]at I;rw[← aI]at E;refine RN 1 E I λa E=>?_;rw[jB]at E I;exact⟨_,_,E.ab [3],I.sub⟩
  rw[Lg (by omega)]at E I;refine RN 0 E I λa E=>?_;exact⟨_,_,E.ab [3],I.sub⟩
 clear E;(try clear I);rintro a w ⟨fu,dI,E,I⟩;refine CL 3 E I (KU I (by omega) (λw' hw=>hw.cv fu _ rfl rfl)) λa w E I=>?_;refine bj 0 E I (E5 I) λBn a w E I=>?_;refine RN 0 E I λa E=>?_;refine g9 E rfl I underlying22 Ty.t5 rfl rfl (by decide) (λh0=>(I.cv Bn (eJ (gJ (eV p))) rfl rfl).get h0) (by rw[dy];rfl) (ep _) (by rw[lS];omega) λaf0 c56 a w E I=>?_;refine RT 1 E I ?_;rw[he];rw[← fM,← aI]at I;rw[← aI];exact⟨_,_,rfl,I.sub⟩
end
end
section
def yT (x:Int):Prop := -9223372036854775808≤x∧x≤9223372036854775807
def mU (l:List UInt8):Nat:=l.foldl (λn b=>n*256+b.toNat) 0
theorem Lo:∀ (l:List UInt8) (a:Nat),l.foldl (λn b=>n*256+b.toNat) a<(a+1)*256 ^ l.length
 | [],a=>by simp
 | b::l,a=>by
  have h1:=Lo l (a*256+b.toNat);have h2:=lk b;rw[foldl_cons,eR];refine z6 h1 ?_;rw[Nat.pow_succ,Nat.mul_comm (256 ^ l.length) 256,← Nat.mul_assoc];exact ox _ (by omega)
theorem Lp {x:Nat}(h:x<4294967296):mU (eJ x)=x:=by
 have:=Fc h;simpa [mU,eJ,Fb] using this
theorem Lq {l:List UInt8}{i:Nat}(h:i<l.length):mU (l.take (i+1))=mU (l.take i)*256+l[i].toNat:=by
 rw[mU,jw h,foldl_append];rfl
theorem Bo (l:List UInt8)(n:Nat)(h:l.length≤n):mU l<256 ^ n:=by
 have:=Lo l 0;rw[eE,Nat.one_mul]at this;exact z6 this (Nat.pow_le_pow_right (by decide) h)
theorem YX {n:Nat}(h:n<16777216)(b:UInt8):IntKind.u32.wrap (((BitVec.ofInt IntKind.u32.bits (IntKind.u32.wrap ((n:Int)*2 ^ 8)) ||| BitVec.ofInt IntKind.u32.bits (b.toNat:Int)).toNat:Nat):Int)=((n*256+b.toNat:Nat):Int):=by
 have hb:=lk b;rw[show IntKind.u32.wrap ((n:Int)*2 ^ 8)=((n*256:Nat):Int) from by rw[wrap_u32];omega,uZ,uZ];show IntKind.u32.wrap (((BitVec.ofNat 32 (n*256) ||| BitVec.ofNat 32 b.toNat).toNat:Nat):Int)=_;rw[BitVec.toNat_or,BitVec.toNat_ofNat,BitVec.toNat_ofNat,kY (show n*256<2 ^ 32 by omega),kY (show b.toNat<2 ^ 32 by omega),wrap_u32];have h1:=Nat.two_pow_add_eq_or_of_lt (i:=8) (b:=b.toNat) hb n;rw[show n*256=2 ^ 8*n from by omega,← h1];omega
structure qX (W:World)(L:List SP)(ad:Option Addr)(c:Nat)(rest:List UInt8):Prop where
 len:rest.length≤65536
 cap:rest.length≤c
 rd:∀ w',U W w' L→aW w' ad rest.length rest
section
variable {W w:World}{L L':List SP}{n c m rb:Nat}{ad:Option Addr}{bs rest:List UInt8}{p:Pk}{bad:Bool}
theorem qX.cut {k:Nat}(h:qX W L ad c rest)(hk:k≤rest.length):qX W L (ft ad k c 1) (c-k) (rest.drop k) :=
 ⟨by rw[c5];have:=h.len;omega,by rw[c5];have:=h.cap;omega,λw' hw=>(h.rd w' hw).uY hk h.cap⟩
theorem yU (I:U W w (aa rb 427 [.slice ad rest.length c,.bool bad]::L'))(Bp:∀ w',U W w' L'→U W w' L)(hr:qX W L ad c rest) :
   Calls prog 331 #[pt rb] w λe w'=>∃ (x:Int) (av:Option Addr) (c':Nat) (n3:List UInt8) (fv:Bool),e=.returned (.int .i64 x)∧yT x∧qX W L av c' n3 ∧
    (∀ (n:Int) (r:List UInt8),yT n→rest=aO (zz n)++r→bad=false→x=n∧n3=r∧fv=false)∧U W w' (aa rb 427 [.slice av n3.length c',.bool fv]::L'):=by
 have hlen:=hr.len;refine EN func331 ntmps331 rfl rfl λa E=>?_;refine j2 7 E I (K7 (bs:=rest) I (by omega) (λw' hw=>hr.rd w' (Bp _ hw.tail))) λx k er a w E ⟨hg,I⟩=>?_;refine RN 7 E I λa E=>?_;have p5:=hg.2.2.1;have nS:=hg.2.1;have dH:k≤rest.length:=by
  by_cases h0:er=0
  ·have:=p5 h0;omega
  ·have:=(hg.2.2.2.1 h0).1;omega
 refine cd (M:=λa w=>∃ (z:Bool) (av:Option Addr) (c':Nat) (n3:List UInt8),(er=0→bad=false→z=false)∧qX W L av c' n3∧(z=false→n3=rest.drop k)∧Fr a 41 [(3,.int .i64 x)]∧U W w (aa rb 427 [.slice av n3.length c',.bool z]::L')) ?_ ?_
 ·
  refine cd (M:=λa w=>∃ z:Bool,(bad=true→z=true)∧(er=0→bad=false→z=false)∧Fr a 41 [(0,pt rb),(3,.int .i64 x),(4,.int .i64 k)]∧U W w (aa rb 427 [.slice ad rest.length c,.bool z]::L')) ?_ ?_
  ·
   refine BY 6 E I (λji a E=>?_) λji a E=>?_
   ·
    refine ST 5 E I (λa w E I=>?_);refine RN 0 E I λa E=>?_;exact⟨_,λ_=>rfl,λ_ h=>(by rw[h]at ji;cases ji),E.ab [0,3,4],I⟩
   refine ST 5 E I (λa w E I=>?_);refine RN 0 E I λa E=>?_;exact⟨_,λh=>(by rw[h]at ji;cases ji),λh _=>bo (by omega),E.ab [0,3,4],I⟩
  clear E;(try clear I);rintro a w ⟨z,cV,kQ,E,I⟩;refine IF 6 E I (λaj a E=>?_) λaj a E=>?_
  ·
   have hz:z=false:=aj;refine RN 7 E I λa E=>?_;rw[show rest.length-k=(rest.drop k).length from by simp]at E;refine ST 2 E I (λa w E I=>?_);refine RN 0 E I λa E=>?_;exact⟨_,_,_,_,kQ,hr.cut dH,λ_=>rfl,E.ab [3],I⟩
  refine RN 0 E I λa E=>?_;exact⟨_,_,_,_,kQ,hr,λh=>(by rw[h]at aj;cases aj),E.ab [3],I⟩
 clear E;(try clear I);rintro a w ⟨z,av,c',n3,kQ,YY,YZ,E,I⟩;refine RT 3 E I ?_;refine⟨x,av,c',n3,z,rfl,hg.1,YY,λn r hn e hb=>?_,I⟩;obtain⟨rfl,rfl,rfl⟩:=hg.2.2.2.2 n r hn.1 hn.2 e;have hz:=kQ rfl hb;refine⟨rfl,?_,hz⟩;rw[YZ hz,e,drop_left]
theorem Y0 (I:U W w (aa rb 427 [.slice ad rest.length c,.bool bad]::L'))(Bp:∀ w',U W w' L'→U W w' L)(hr:qX W L ad c rest) :
   Calls prog 332 #[pt rb] w λe w'=>∃ (x:Nat) (av:Option Addr) (c':Nat) (n3:List UInt8) (fv:Bool),e=.returned (.int .u32 x)∧x<4294967296∧qX W L av c' n3 ∧
    (∀ (n:Nat) (r:List UInt8),n<4294967296→rest=eJ n++r→bad=false→x=n∧n3=r∧fv=false)∧U W w' (aa rb 427 [.slice av n3.length c',.bool fv]::L'):=by
 have hlen:=hr.len;have af1:=hr.cap;refine EN func332 ntmps332 rfl rfl λa E=>?_;refine RN 3 E I λa E=>?_;refine cd (M:=λa w=>∃ z:Bool,(z=true↔(bad=true∨rest.length<4))∧Fr a 50 [(0,pt rb)]∧U W w (aa rb 427 [.slice ad rest.length c,.bool z]::L')) ?_ ?_
 ·
  refine BY 6 E I (λji a E=>?_) λji a E=>?_
  ·
   refine ST 9 E I (λa w E I=>?_);refine RN 0 E I λa E=>?_;exact⟨_,⟨λ_=>.inl ji,λ_=>rfl⟩,E.ab [0],I⟩
  refine ST 9 E I (λa w E I=>?_);refine RN 0 E I λa E=>?_;exact⟨_,(by rw[ct,ji];simp;omega),E.ab [0],I⟩
 clear E;(try clear I);rintro a w ⟨z,hz,E,I⟩;refine IF 5 E I (λaj a E=>?_) λaj a E=>?_
 ·
  have Y1:=hz.1 aj;refine RT 2 E I ?_;refine⟨0,ad,c,rest,true,rfl,by decide,hr,λn r hn e hb=>?_,by rw[aj]at I;exact I⟩;rcases Y1 with h | h
  ·rw[hb]at h;cases h
  ·rw[e,aI,lS]at h;omega
 have Lr:¬ (bad=true∨rest.length<4):=λh=>by rw[hz.2 h]at aj;cases aj
 have h4:4≤rest.length:=Nat.le_of_not_lt λh=>Lr (.inr h);obtain⟨bb,oo,rfl,_⟩:=(hr.rd _ (Bp _ I.tail)).get (by omega);have eM:(rest.take 4).length=4:=by rw[et];omega
 refine RN 9 E I λa E=>?_;rw[rF,Nat.sub_zero,Nat.sub_zero]at E;refine RN 2 E I λa E=>?_;refine aQ (λμ a w=>∃ (i:Nat),(μ=4-i∧i≤4)∧Fr a 50 [(0,pt rb),(3,.int .u32 (mU (rest.take i))),(29,.slice (some ⟨bb,oo,none⟩) 4 c),(30,.int .i64 4),(31,.int .i64 i)]∧U W w (aa rb 427 [.slice (some ⟨bb,oo,none⟩) rest.length c,.bool z]::L')) (4) (⟨0,⟨rfl,by omega⟩,E.ab [0,3,29,30,31],I⟩) ?_;clear E I;rintro μ a w ⟨i,⟨rfl,hi⟩,E,I⟩;refine IF 3 E I (λao a E=>?_) λao a E=>?_
 ·
  have aF:i<rest.length:=by omega
  have nT:=Bo (rest.take i) 3 (by rw[et];omega);rw[show (256:Nat) ^ 3=16777216 from by decide]at nT;have qV:=lk rest[i];refine RN 3 E I λa E=>?_;refine SS E (ae E (((hr.rd _ (Bp _ I.tail)).rd (by omega)) i _ (dT aF))) λa E=>?_;refine SX 4 E I (by rw[wrap_u32];omega) λa E=>?_;refine RN 1 E I λa E=>?_;rw[YX nT,← Lq aF]at E;refine RN 3 E I λa E=>?_;exact⟨4-(i+1),by omega,i+1,⟨rfl,by omega⟩,E.ab [0,3,29,30,31],I⟩
 obtain rfl:i=4:=by omega
 refine RN 7 E I λa E=>?_;rw[show rest.length-4=(rest.drop 4).length from by simp]at E;refine ST 2 E I (λa w E I=>?_);refine RT 3 E I ?_;have nT:=Bo (rest.take 4) 4 (by rw[et];omega);rw[show (256:Nat) ^ 4=4294967296 from by decide]at nT;refine⟨_,_,_,_,z,rfl,nT,hr.cut h4,λn r hn e hb=>?_,I⟩;have ht:rest.take 4=eJ n:=by rw[e];rfl
 have hd:rest.drop 4=r:=by rw[e];rfl
 exact⟨by rw[ht,Lp hn],hd,aj⟩
theorem Ls {a b:List UInt8}{ad2:Option Addr}{m n c2:Nat}(I:U W w L)(de:aW w ad m a)(lJ:aW w ad2 n b) :
   Calls prog 313 #[.slice ad m c,.slice ad2 n c2] w λe w'=>e=.returned (.bool (a==b))∧U W w' L :=
 (I9 de lJ).mono λe w' h=>⟨h.1,by rw[h.2];exact I⟩
theorem FF {bs:List UInt8}{q:Pk}(h:ha bs q):(q.kind=((bs.getD 0 0).toNat:Int)∧q.aV=((bs.getD 1 0).toNat:Int)∧q.to=((bs.getD 2 0).toNat:Int))∧(bs.drop 3).take (bs.length-7)=ll q:=by
 have h1:=Fa h.2.2;obtain⟨f1,t1,wX,i1,k1⟩:=h.1;refine⟨?_,E9 h.2.2⟩;simp only[bl,h1.1,h1.2.1,h1.2.2,Option.getD_some,UInt8.toNat_ofNat'];omega
theorem tC (b:UInt8):IntKind.i64.wrap (b.toNat:Int)=(b.toNat:Int):=fH (by omega) (by have:=lk b;omega)
theorem n4 {bs:List UInt8}(h:¬ ∃ q,ha bs q):ea bs=none:=Bk λq hq=>h ⟨q,hq⟩
def Y2 (bs:List UInt8)(p:Pk)(adP:Option Addr)(cP:Nat)(ok:Bool):Prop:=(ok=true∧ea bs=some p)∨(ok=false∧ea bs=none∧p=nx∧adP=none∧cP=0)
theorem Y3 (I:U W w L)(hb:bs.length≤65536)(hc:bs.length≤c)(hp:∀ w',U W w' L→aW w' ad bs.length bs) :
   Calls prog 317 #[.slice ad bs.length c] w λe w'=>∃ (p:Pk) (adP:Option Addr) (cP:Nat) (ok:Bool),e=.returned (.tuple #[.agg (dN p adP cP).toArray,.int .i64 (if ok=true then 0 else 1)])∧Y2 bs p adP cP ok∧U W w' (Sl 5 1 adP p.al.length cP (bc p.al)::L):=by
 refine EN func317 ntmps317 rfl rfl λa E=>?_;refine AL 1 E I λb2 a w E I=>?_;refine IF 6 E I (λaj a E=>?_) λaj a E=>?_
 ·
  have bR:ea bs=none:=Bk λq hq=>by
   have:=di List.length hq.2.2;rw[wV]at this;omega
  refine SA 2 E I λa w E I=>?_;refine RT 1 E I ?_;exact⟨nx,none,0,false,rfl,.inr ⟨rfl,bR,rfl,rfl,rfl⟩,I.tail.bN _ _ _⟩
 obtain⟨bb,oo,rfl,_⟩:=(hp _ I.tail).get (by omega);have h7:7≤bs.length:=by omega
 refine aX 1 (λw0 w=>Rd w bb oo (bc bs)) [6,7,10,11,13] [0,1,4,5,8,9,3002,3,3006,3007,3010,3011,12,1013,1014] E I λa w E I hH=>?_;have hC:Rd w bb oo (bc bs):=(hp _ I.tail).rd (by omega);refine RH 6 E I hH hC λa E=>?_;refine QH E (λw hc=>ae E (hc 0 _ (ln (by omega)))) hC λa E=>?_;refine QP E (λw=>pE E underlying5 underlying3 (tC _)) λa E=>?_;refine QH E (λw hc=>ae E (hc 1 _ (ln (by omega)))) hC λa E=>?_;refine QH E (λw hc=>pE E underlying5 underlying3 (tC _)) hC λa E=>?_;refine QH E (λw hc=>ae E (hc 2 _ (ln (by omega)))) hC λa E=>?_;refine QH E (λw hc=>pE E underlying5 underlying3 (tC _)) hC λa E=>?_;refine RH 1 E I hH hC λa E=>?_;refine e0 E rfl I Ty.t203 rfl λb4 a w E I ho=>?_;clear ho;replace hC:=hH.at w ((hp _ I.tail.tail).rd (by omega));refine RH 0 E I hH hC λa E=>?_;refine SA 0 E I λa w E I=>?_;refine RN 5 E I λa E=>?_;rw[show (bs.length:Int)-4=((bs.length-4:Nat):Int) from by omega]at E;refine RN 1 E I λa E=>?_;obtain⟨R1,FG⟩:∃ R1,R1=(bs.drop 3).take (bs.length-7):=⟨_,rfl⟩;have jf:R1.length=bs.length-7:=by rw[FG,et,c5];omega
 have fg:qX W L (ft (some ⟨bb,oo,none⟩) 3 c 1) (c-3) R1:=⟨by omega,by omega,λw' hw=>by
  rw[jf,FG];exact ((hp w' hw).uY (lo:=3) (by omega) hc).E1 (by rw[c5];omega)⟩
 have mg:∀ q,ha bs q→(q.kind=((bs.getD 0 0).toNat:Int)∧q.aV=((bs.getD 1 0).toNat:Int)∧q.to=((bs.getD 2 0).toNat:Int))∧R1=ll q:=λq h=>by
  rw[FG];exact FF h
 rw[show bs.length-4-3=R1.length from by omega]at E;generalize ft (some ⟨bb,oo,none⟩) 3 c 1=lT at E fg;generalize c-3=eu at E fg;generalize R1=R1 at E fg mg;refine BX 1 E I λjO a w E I=>?_;refine j3 3 E I (yU (L:=L) I (λ_ h=>h.tail.tail) fg) ?_;clear E I;rintro e w ⟨x1,ad2,c2,R2,z2,rfl,ew,e5,iw,I⟩;refine⟨_,rfl,λa E=>?_⟩;refine ST 1 E I (λa w E I=>?_);refine RN 0 E I λa E=>?_;replace iw:∀ q,ha bs q→(q.kind=((bs.getD 0 0).toNat:Int)∧q.aV=((bs.getD 1 0).toNat:Int)∧q.to=((bs.getD 2 0).toNat:Int)∧q.id=x1)∧R2=ny q∧z2=false:=λq h=>by
  obtain⟨h1,h2⟩:=mg q h;obtain⟨e1,e2,e3⟩:=iw q.id (ny q) ⟨by have:=h.1.2.2.2.1;omega,by have:=h.1.2.2.2.1;omega⟩ (by rw[h2,ll]) rfl;exact⟨⟨h1.1,h1.2.1,h1.2.2,e1.symm⟩,e2,e3⟩
 refine cd (M:=λa w=>∃ (p:Pk) (adP:Option Addr) (cP:Nat) (av:Option Addr) (c':Nat) (R':List UInt8) (z:Bool),p.sum<4294967296∧(∀ q,ha bs q→p=q∧z=false)∧Fr a 91 [(0,.slice (some ⟨bb,oo,none⟩) bs.length c),(2,pt b2),(4,pt b4),(5,pt jO)]∧U W w (aa b4 203 (dN p adP cP)::Sl 5 1 adP p.al.length cP (bc p.al)::aa jO 427 [.slice av R'.length c',.bool z]::aa b2 203 (dN nx none 0)::L)) ?_ ?_
 ·
  refine IF 4 E I (λao a E=>?_) λao a E=>?_
  ·
   have mn:∀ q,ha bs q→ny q=aO (zz q.first)++(aO (zz q.da)++(aO (zz q.frame)++ml q))∧(yT q.first∧yT q.da∧yT q.frame)∧q.al.length≤32:=λq h=>by
    have hk:=(iw q h).1.1;rw[ao]at hk;rcases h.1.2.2.2.2 with k | k
    ·obtain⟨_,k1,k2,k3,lp⟩:=k;unfold eK at k1 k2 k3;exact⟨by rw[ny,ak hk],⟨⟨by omega,by omega⟩,⟨by omega,by omega⟩,⟨by omega,by omega⟩⟩,lp⟩
    ·omega
   refine j3 2 E I (yU (L:=L) (I.perm (cZ _ _ _)) (λ_ h=>h.tail.tail) e5) ?_;clear E I;rintro e w ⟨x2,fu,dI,R3,z3,rfl,dj,kg,yK,I⟩;refine⟨_,rfl,λa E=>?_⟩;replace yK:∀ q,ha bs q→q.first=x2∧R3=aO (zz q.da)++(aO (zz q.frame)++ml q)∧z3=false:=λq h=>by
    obtain⟨_,h2,h3⟩:=iw q h;obtain⟨e1,e2,e3⟩:=yK q.first _ (mn q h).2.1.1 (by rw[h2,(mn q h).1]) h3;exact⟨e1.symm,e2,e3⟩
   refine ST 1 E I (λa w E I=>?_);refine j3 2 E I (yU (L:=L) (I.perm (cZ _ _ _)) (λ_ h=>h.tail.tail) kg) ?_;clear E I;rintro e w ⟨x3,mI,hV,Y4,z4,rfl,eN,qU,Bq,I⟩;refine⟨_,rfl,λa E=>?_⟩;replace Bq:∀ q,ha bs q→q.da=x3∧Y4=aO (zz q.frame)++ml q∧z4=false:=λq h=>by
    obtain⟨_,h2,h3⟩:=yK q h;obtain⟨e1,e2,e3⟩:=Bq q.da _ (mn q h).2.1.2.1 h2 h3;exact⟨e1.symm,e2,e3⟩
   refine ST 1 E I (λa w E I=>?_);refine j3 2 E I (yU (L:=L) (I.perm (cZ _ _ _)) (λ_ h=>h.tail.tail) qU) ?_;clear E I;rintro e w ⟨Lt,eg,dJ,Y5,z5,rfl,u4,tB,Bs,I⟩;refine⟨_,rfl,λa E=>?_⟩;replace Bs:∀ q,ha bs q→q.frame=Lt∧Y5=eJ q.sum++(aO (zz (q.al.length:Int))++dA q.al 0)∧z5=false:=λq h=>by
    obtain⟨_,h2,h3⟩:=Bq q h;obtain⟨e1,e2,e3⟩:=Bs q.frame _ (mn q h).2.1.2.2 h2 h3;exact⟨e1.symm,by rw[e2,ml],e3⟩
   refine ST 1 E I (λa w E I=>?_);refine j3 2 E I (Y0 (L:=L) (I.perm (cZ _ _ _)) (λ_ h=>h.tail.tail) tB) ?_;clear E I;rintro e w ⟨Lu,tf,oN,Y6,Y7,rfl,tD,yV,Bt,I⟩;refine⟨_,rfl,λa E=>?_⟩;replace Bt:∀ q,ha bs q→q.sum=Lu∧Y6=aO (zz (q.al.length:Int))++dA q.al 0∧Y7=false:=λq h=>by
    obtain⟨_,h2,h3⟩:=Bs q h;obtain⟨e1,e2,e3⟩:=Bt q.sum _ h.2.1 h2 h3;exact⟨e1.symm,e2,e3⟩
   refine ST 1 E I (λa w E I=>?_);refine j3 2 E I (yU (L:=L) (I.perm (cZ _ _ _)) (λ_ h=>h.tail.tail) yV) ?_;clear E I;rintro e w ⟨Y8,sZ,rH,R7,Lw,rfl,qY,wZ,yW,I⟩;refine⟨_,rfl,λa E=>?_⟩;replace yW:∀ q,ha bs q→(q.al.length:Int)=Y8∧R7=dA q.al 0∧Lw=false:=λq h=>by
    obtain⟨_,h2,h3⟩:=Bt q h;have eF:=(mn q h).2.2;obtain⟨e1,e2,e3⟩:=yW q.al.length _ ⟨by omega,by omega⟩ h2 h3;exact⟨e1.symm,e2,e3⟩
   refine j3 6 E I (YD (m:=32) I wZ.len wZ.cap (by omega) (λw' hw=>wZ.rd w' hw.tail.tail.tail)) ?_;clear E I;rintro e w ⟨out,aq,cO,er,rfl,nU,I⟩;refine⟨_,rfl,λa E=>?_⟩;refine BY 10 E I (λbA a E=>?_) λbA a E=>?_
   ·
    refine SA 8 E I λa w E I=>?_;refine RT 1 E I ?_;have bR:ea bs=none:=n4 λ⟨q,h⟩=>by
     obtain⟨_,e2,_⟩:=yW q h;have:=(nU.2.2 q.al (mn q h).2.2 e2).2;simp[this]at bA
    exact⟨nx,none,0,false,rfl,.inr ⟨rfl,bR,rfl,rfl,rfl⟩,I.sub.bN _ _ _⟩
   refine IF 5 E I (λay a E=>?_) λay a E=>?_
   ·
    refine SA 2 E I λa w E I=>?_;refine RT 1 E I ?_;have bR:ea bs=none:=n4 λ⟨q,h⟩=>by
     obtain⟨e1,e2,_⟩:=yW q h;have:=(nU.2.2 q.al (mn q h).2.2 e2).1;rw[this]at ay;omega
    exact⟨nx,none,0,false,rfl,.inr ⟨rfl,bR,rfl,rfl,rfl⟩,I.sub.bN _ _ _⟩
   refine ST 2 E I (λa w E I=>?_);refine RN 0 E I λa E=>?_;refine⟨⟨((bs.getD 0 0).toNat:Int),((bs.getD 1 0).toNat:Int),((bs.getD 2 0).toNat:Int),x1,x2,x3,Lt,Lu,out⟩,aq,cO,sZ,rH,R7,Lw,by assumption,λq h=>?_,E.ab [0,2,4,5],I⟩;obtain⟨h1,h2,h3,h4⟩:=(iw q h).1;have h5:=(yK q h).1;have h6:=(Bq q h).1;have h7:=(Bs q h).1;have h8:=(Bt q h).1;have h9:=yW q h;have fh:=(nU.2.2 q.al (mn q h).2.2 h9.2.1).1;refine⟨?_,h9.2.2⟩;rw[← h1,← h2,← h3,← h4,← h5,← h6,← h7,← h8,fh]
  refine RN 0 E I λa E=>?_;refine⟨⟨((bs.getD 0 0).toNat:Int),((bs.getD 1 0).toNat:Int),((bs.getD 2 0).toNat:Int),x1,0,0,0,0,[]⟩,none,0,ad2,c2,R2,z2,by show 0<4294967296;decide,λq h=>?_,E.ab [0,2,4,5],(I.bN 5 1 none).perm (cZ _ _ _)⟩;obtain⟨⟨h1,h2,h3,h4⟩,_,h5⟩:=iw q h;rw[← h1]at ao;rcases h.1.2.2.2.2 with k | k
  ·exact absurd k.1 ao
  ·obtain⟨tE,k1,k2,k3,lp,yX⟩:=k;have lp:=g4 lp;refine⟨?_,h5⟩;rw[← h1,← h2,← h3,← h4];cases q;simp_all
 clear E;(try clear I);rintro a w ⟨p,adP,cP,Bn,sa,af2,af3,mm,FH,E,I⟩;refine aY 3 E I (Li (p:=p) I mm (λw' hw=>hw.cv adP p.al rfl rfl)) λadE cE a w E I=>?_;refine BY 7 E I (λdE a E=>?_) λdE a E=>?_
 ·
  refine SA 12 E I λa w E I=>?_;refine RT 1 E I ?_;have bR:ea bs=none:=n4 λ⟨q,h⟩=>by
   rw[(FH q h).2]at dE;cases dE
  exact⟨nx,none,0,false,rfl,.inr ⟨rfl,bR,rfl,rfl,rfl⟩,I.sub.bN _ _ _⟩
 refine BY 4 E I (λfj a E=>?_) λfj a E=>?_
 ·
  refine SA 8 E I λa w E I=>?_;refine RT 1 E I ?_;have bR:ea bs=none:=n4 λ⟨q,h⟩=>by
   have hn:=(I.cv adE (aS p) rfl rfl).2.1 (by cases adE with
    | none=>rfl
    | some _=>cases fj)
   rw[(FH q h).1,aS,ak h.1,wV]at hn;omega
  exact⟨nx,none,0,false,rfl,.inr ⟨rfl,bR,rfl,rfl,rfl⟩,I.sub.bN _ _ _⟩
 refine CL 2 E I (Ls I (I.cv adE (aS p) rfl rfl) (hp _ I.tail.tail.tail.tail.tail)) λa w E I=>?_;refine IF 2 E I (λbd a E=>?_) λbd a E=>?_
 ·
  refine SA 2 E I λa w E I=>?_;refine RT 1 E I ?_;have bR:ea bs=none:=n4 λ⟨q,h⟩=>by
   have e:aS p=bs:=by rw[(FH q h).1,aS,ak h.1];exact h.2.2
   rw[e]at bd;simp at bd
  exact⟨nx,none,0,false,rfl,.inr ⟨rfl,bR,rfl,rfl,rfl⟩,I.sub.bN _ _ _⟩
 refine SA 2 E I λa w E I=>?_;refine RT 1 E I ?_;exact⟨p,adP,cP,true,rfl,.inl ⟨rfl,Bj ((Fj (λe=>by rw[e]at h7;simp at h7) mm).2 (by simpa using bd))⟩,I.sub⟩
end
end
end Go.Proofs.YteoldcfapaiobaaGreat
