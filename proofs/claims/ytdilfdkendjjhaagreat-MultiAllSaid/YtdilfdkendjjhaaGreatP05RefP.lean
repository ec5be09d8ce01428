/- The references' runes and operations, plainly. -/
import Derived.Test.YtdilfdkendjjhaaGreatP03Branch
import Derived.Test.YtdilfdkendjjhaaGreatP04Num
import Derived.Test.YtdilfdkendjjhaaGreatP01Str
import Derived.Test.YtdilfdkendjjhaaGreatP00Sl
import Derived.Laws.StructEq
import Derived.ChangeKeysEq
import Derived.ProofKit
import Derived.Deep.Slices
import Derived.Deep.Strs
import Derived.ChangeSlices
import Derived.ChangeShapes
import Derived.DataShut
import Derived.ChangeSame
namespace Go.Proofs.YtdilfdkendjjhaaGreat
open Go.RowKit
set_option linter.unusedVariables false
set_option linter.unusedSimpArgs false
set_option maxRecDepth 10000
set_option synthInstance.maxSize 4000
set_option synthInstance.maxHeartbeats 400000
section
theorem getB_in {s:ByteArray}{j:Nat}(h:j<s.size):s.get! j=s[j]'h:=by
 have h2:j<s.data.size:=h
 show s.data[j]! = s.data[j]
 rw[getElem!_pos s.data j h2]
theorem getB_out {s:ByteArray}{j:Nat}(h:s.size≤j):s.get! j=0:=by
 have h2:¬ j<s.data.size:=Nat.not_lt.2 h
 show s.data[j]! = 0
 rw[getElem!_neg s.data j h2];rfl
theorem size_ext (s:ByteArray)(p:Nat):(s.extract p s.size).size=s.size-p:=by simp[ByteArray.size_extract]
theorem getB_ext (s:ByteArray)(p k:Nat):(s.extract p s.size).get! k=s.get! (p+k):=by
 by_cases h:p+k<s.size
 · have h2:k<(s.extract p s.size).size:=by rw[size_ext];omega
   rw[getB_in h2,getB_in h,ByteArray.getElem_extract]
 · rw[getB_out (by rw[size_ext];omega),getB_out (by omega)]
theorem decode_ext (s:ByteArray)(p:Nat):Utf8.decode (s.extract p s.size) 0=Utf8.decode s p:=by
 have hc:∀ k,decide (k<s.size-p)=decide (p+k<s.size):=λk=>by
   by_cases h:p+k<s.size
   · rw[decide_eq_true h,decide_eq_true (by omega)]
   · rw[decide_eq_false h,decide_eq_false (by omega)]
 simp only[Utf8.decode,getB_ext,size_ext,hc,Nat.zero_add,Nat.add_assoc]
theorem ext_ext (s:ByteArray)(p n:Nat):(s.extract p s.size).extract n (s.extract p s.size).size=s.extract (p+n) s.size:=by
 rw[size_ext,ByteArray.extract_extract]
 congr 1
 omega
def decHead (b n low r:Nat):Prop:=(b=192+r∧r<32∧n=2∧low=128)∨(b=224+r∧r<16∧n=3∧low=2048)∨(b=240+r∧r<8∧n=4∧low=65536)
def byteN (s:ByteArray)(j:Nat):Nat:=(s.get! j).toNat
def contN (s:ByteArray)(r:Nat):Nat→Nat
 | 0=>r
 | j+1=>contN s r j*64+byteN s (j+1)%64
theorem byteN_lt (s:ByteArray)(j:Nat):byteN s j<256:=(s.get! j).toNat_lt
theorem contN_lt {s:ByteArray}{r:Nat}(h:r<32):∀ j,contN s r j<32*64 ^ j
 | 0=>by simpa [contN] using h
 | j+1=>by
   have:=contN_lt (s:=s) h j
   rw[contN,Nat.pow_succ];omega
def badN (low r:Nat):Prop:=r<low∨1114111<r∨(55296≤r∧r<57344)
section
variable {s:ByteArray}{b n low r:Nat}
theorem dec_one (hb:byteN s 0=b)(h:b<128):Utf8.decode s 0=(b,1):=by
 simp only[byteN]at hb
 simp[Utf8.decode,hb,h]
theorem dec_none (hb:byteN s 0=b)(h1:128≤b)(h2:b<192∨248≤b):Utf8.decode s 0=(0xFFFD,1):=by
 have:=byteN_lt s 0
 simp only[byteN]at hb this
 have e1:¬ b<128:=by omega
 have e2:(b/32==6)=false:=by rw[beq_eq_false_iff_ne];omega
 have e3:(b/16==14)=false:=by rw[beq_eq_false_iff_ne];omega
 have e4:(b/8==30)=false:=by rw[beq_eq_false_iff_ne];omega
 simp[Utf8.decode,hb,e1,e2,e3,e4,Utf8.runeError]
theorem dec_fail (hb:byteN s 0=b)(hd:decHead b n low r)(h:s.size<n∨∃ k,1≤k∧k<n∧byteN s k/64≠2):Utf8.decode s 0=(0xFFFD,1):=by
 have hc:∃ k,1≤k∧k<n∧(decide (k<s.size)&&byteN s k/64==2)=false:=by
   rcases h with h | ⟨k,h1,h2,h3⟩
   · rcases Nat.eq_zero_or_pos s.size with h0 | h0
     · exact⟨1,by omega,by rcases hd with h | h | h <;> omega,by rw[decide_eq_false (by omega),Bool.false_and]⟩
     · exact⟨s.size,by omega,h,by rw[decide_eq_false (by omega),Bool.false_and]⟩
   · exact⟨k,h1,h2,by rw[beq_eq_false_iff_ne.2 h3,Bool.and_false]⟩
 obtain⟨k,h1,h2,h3⟩:=hc
 simp only[byteN]at hb h3
 rcases hd with ⟨rfl,h4,rfl,rfl⟩ | ⟨rfl,h4,rfl,rfl⟩ | ⟨rfl,h4,rfl,rfl⟩
 · have e1:¬ 192+r<128:=by omega
   have e2:((192+r)/32==6)=true:=by rw[beq_iff_eq];omega
   have e3:((192+r)/16==14)=false:=by rw[beq_eq_false_iff_ne];omega
   have e4:((192+r)/8==30)=false:=by rw[beq_eq_false_iff_ne];omega
   obtain rfl:k=1:=by omega
   simp only[Utf8.decode,Nat.zero_add,hb,e1,e2,e3,e4,h3,Utf8.runeError]
   simp
 · have e1:¬ 224+r<128:=by omega
   have e2:((224+r)/32==6)=false:=by rw[beq_eq_false_iff_ne];omega
   have e3:((224+r)/16==14)=true:=by rw[beq_iff_eq];omega
   have e4:((224+r)/8==30)=false:=by rw[beq_eq_false_iff_ne];omega
   have hk:k=1∨k=2:=by omega
   rcases hk with rfl | rfl
   all_goals
     simp only[Utf8.decode,Nat.zero_add,hb,e1,e2,e3,e4,h3,Utf8.runeError]
     simp
 · have e1:¬ 240+r<128:=by omega
   have e2:((240+r)/32==6)=false:=by rw[beq_eq_false_iff_ne];omega
   have e3:((240+r)/16==14)=false:=by rw[beq_eq_false_iff_ne];omega
   have e4:((240+r)/8==30)=true:=by rw[beq_iff_eq];omega
   have hk:k=1∨k=2∨k=3:=by omega
   rcases hk with rfl | rfl | rfl
   all_goals
     simp only[Utf8.decode,Nat.zero_add,hb,e1,e2,e3,e4,h3,Utf8.runeError]
     simp
theorem dec_all (hb:byteN s 0=b)(hd:decHead b n low r)(hs:n≤s.size)(h:∀ k,1≤k→k<n→byteN s k/64=2) :
   (badN low (contN s r (n-1))→Utf8.decode s 0=(0xFFFD,1))∧(¬ badN low (contN s r (n-1))→Utf8.decode s 0=(contN s r (n-1),n)):=by
 simp only[badN]
 have hc:∀ k,1≤k→k<n→(decide (k<s.size)&&(s.get! k).toNat/64==2)=true:=λk h1 h2=>by
   rw[decide_eq_true (by omega),Bool.true_and,beq_iff_eq];exact h k h1 h2
 have hlt:=contN_lt (s:=s) (r:=r) (by rcases hd with h | h | h <;> omega) (n-1)
 simp only[byteN]at hb
 rcases hd with ⟨rfl,h4,rfl,rfl⟩ | ⟨rfl,h4,rfl,rfl⟩ | ⟨rfl,h4,rfl,rfl⟩
 · have e1:¬ 192+r<128:=by omega
   have e2:((192+r)/32==6)=true:=by rw[beq_iff_eq];omega
   have e5:contN s r (2-1)=(192+r)%32*64+(s.get! 1).toNat%64:=by
     show r*64+(s.get! 1).toNat%64=_
     omega
   have hd2:Utf8.decode s 0=if 128≤contN s r (2-1) then (contN s r (2-1),2) else (0xFFFD,1):=by
     rw[e5]
     simp only[Utf8.decode,Nat.zero_add,hb,e1,e2,hc 1 (by omega) (by omega),Utf8.runeError]
     simp
   have hlt2:contN s r (2-1)<2048:=hlt
   refine⟨λhbad=>?_,λhg=>?_⟩
   · rw[hd2,if_neg (by omega)]
   · rw[hd2,if_pos (by omega)]
 · have e1:¬ 224+r<128:=by omega
   have e2:((224+r)/32==6)=false:=by rw[beq_eq_false_iff_ne];omega
   have e3:((224+r)/16==14)=true:=by rw[beq_iff_eq];omega
   have e5:contN s r (3-1)=(224+r)%16*4096+(s.get! 1).toNat%64*64+(s.get! 2).toNat%64:=by
     show (r*64+(s.get! 1).toNat%64)*64+(s.get! 2).toNat%64=_
     omega
   have hd2:Utf8.decode s 0=if 2048≤contN s r (3-1)∧Utf8.valid (contN s r (3-1))=true then (contN s r (3-1),3) else (0xFFFD,1):=by
     rw[e5]
     simp only[Utf8.decode,Nat.zero_add,hb,e1,e2,e3,hc 1 (by omega) (by omega),hc 2 (by omega) (by omega),Utf8.runeError]
     simp
   have hv:Utf8.valid (contN s r (3-1))=true↔(contN s r (3-1)<55296∨(57344≤contN s r (3-1)∧contN s r (3-1)≤1114111)):=by
     simp only[Utf8.valid,Bool.or_eq_true,Bool.and_eq_true,decide_eq_true_eq];omega
   refine⟨λhbad=>?_,λhg=>?_⟩
   · rw[hd2,if_neg (by rw[hv];omega)]
   · rw[hd2,if_pos (by rw[hv];omega)]
 · have e1:¬ 240+r<128:=by omega
   have e2:((240+r)/32==6)=false:=by rw[beq_eq_false_iff_ne];omega
   have e3:((240+r)/16==14)=false:=by rw[beq_eq_false_iff_ne];omega
   have e4:((240+r)/8==30)=true:=by rw[beq_iff_eq];omega
   have e5:contN s r (4-1)=(240+r)%8*262144+(s.get! 1).toNat%64*4096+(s.get! 2).toNat%64*64+(s.get! 3).toNat%64:=by
     show ((r*64+(s.get! 1).toNat%64)*64+(s.get! 2).toNat%64)*64+(s.get! 3).toNat%64=_
     omega
   have hd2:Utf8.decode s 0=if 65536≤contN s r (4-1)∧Utf8.valid (contN s r (4-1))=true then (contN s r (4-1),4) else (0xFFFD,1):=by
     rw[e5]
     simp only[Utf8.decode,Nat.zero_add,hb,e1,e2,e3,e4,hc 1 (by omega) (by omega),hc 2 (by omega) (by omega),hc 3 (by omega) (by omega),Utf8.runeError]
     simp
   have hv:Utf8.valid (contN s r (4-1))=true↔(contN s r (4-1)<55296∨(57344≤contN s r (4-1)∧contN s r (4-1)≤1114111)):=by
     simp only[Utf8.valid,Bool.or_eq_true,Bool.and_eq_true,decide_eq_true_eq];omega
   refine⟨λhbad=>?_,λhg=>?_⟩
   · rw[hd2,if_neg (by rw[hv];omega)]
   · rw[hd2,if_pos (by rw[hv];omega)]
end
def goodR (x:Nat×Nat):Bool:=if x.1≠65533 then true else decide (x.2=3)
theorem goodR_eq (s:ByteArray)(i:Nat):goodR (Utf8.decode s i)=goodB (Utf8.decode s i):=by
 rcases decode_wide s i with h | h
 · unfold goodR goodB
   by_cases h1:(Utf8.decode s i).1=65533
   · rw[h1]at h
     have h2:(Utf8.decode s i).2=3:=by rw[← h];rfl
     rw[if_neg (λh3=>h3 h1),h2]
     have:Utf8.decode s i≠(65533,1):=λe=>by rw[e]at h2;cases h2
     simp[this]
   · rw[if_pos h1]
     have:Utf8.decode s i≠(65533,1):=λe=>h1 (by rw[e])
     simp[this]
 · rw[h];rfl
def takesN (c:Int):Nat:=[0,2,2,3,3,3,3,3,3,1,2,2,2,2,2,1].getD c.toNat 0
def argO (o:OpR)(k:Nat):Int:=if k=0 then o.a else if k=1 then o.b else o.c
def mostO (n:Int)(o:OpR)(k:Nat):Int:=if takesN o.code≤k then 0 else if o.code=9∨(o.code=10∧k=1) then n else 31
def okK (n:Int)(o:OpR)(k:Nat):Prop:=(k<takesN o.code∧o.code=1∧k=1)∨(0≤argO o k∧argO o k≤mostO n o k)
theorem okOp_iff {n:Int}{o:OpR}:okOp n o↔(0≤o.code∧o.code≤15)∧okK n o 0∧okK n o 1∧okK n o 2:=by
 obtain⟨code,a,b,c⟩:=o
 simp only[okOp,okK,argO,mostO,cellP]
 by_cases h:0≤code∧code≤15
 · have h2:∃ m:Nat,code=m∧m≤15:=⟨code.toNat,by omega,by omega⟩
   obtain⟨m,rfl,hm⟩:=h2
   have:m=0∨m=1∨m=2∨m=3∨m=4∨m=5∨m=6∨m=7∨m=8∨m=9∨m=10∨m=11∨m=12∨m=13∨m=14∨m=15:=by omega
   rcases this with rfl | rfl | rfl | rfl | rfl | rfl | rfl | rfl | rfl | rfl | rfl | rfl | rfl | rfl | rfl | rfl <;> simp[takesN] <;> omega
 · constructor
   · intro h3;omega
   · intro h3;exact absurd h3.1 h
end
section
section
variable {W w:World}{L:List SP}{s:ByteArray}{p:Pr}{adO:Option Addr}{cO:Nat}
theorem ext_zero (s:ByteArray):s.extract 0 s.size=s:=by simp
theorem str_ne {s:ByteArray}(h:0<s.size):(s.data.toList==(⟨#[]⟩:ByteArray).data.toList)=false:=by
 rw[beq_eq_false_iff_ne]
 intro e
 have h2:=congrArg List.length e
 have h3:s.data.toList.length=s.size:=Array.length_toList
 rw[h3]at h2
 have h4:(⟨#[]⟩:ByteArray).data.toList.length=0:=rfl
 omega
theorem index_byte {s:ByteArray}{j:Nat}(h:j<s.size):(s[j]'h).toNat=byteN s j:=by rw[byteN,getB_in h]
theorem refDecode_spec (hs:St W w L)(h0:0<s.size):Calls Tryz.prog 237 #[.string s] w λe w'=>e=.returned (.tuple #[.int .i32 (Utf8.decode s 0).1,.int .i64 (Utf8.decode s 0).2])∧St W w' L:=by
 obtain⟨b,hb⟩:∃ b,byteN s 0=b:=⟨_,rfl⟩
 have hb2:=byteN_lt s 0
 rw[hb]at hb2
 refine EN Tryz.func237 Tryz.ntmps237 rfl rfl λa ha=>?_
 refine RN 6 ha hs λa ha=>?_
 refine SS ha (ex_eqlS ha) λa ha=>?_
 rw[str_ne h0]at ha
 refine RN 0 ha hs λa ha=>?_
 replace ha:=ha.isF 10
 refine RN 3 ha hs λa ha=>?_
 refine SS ha (ex_indexS ha Tryz.underlying9 (by omega)) λa ha=>?_
 rw[index_byte h0,hb]at ha
 refine RN 5 ha hs λa ha=>?_
 refine wp_seq_cut (M:=λa w=>∃ n low r:Nat,decHead b n low r∧Fr a 92 [(0,.string s),(5,.int .i64 n),(6,.int .i32 low),(7,.int .i32 r)]∧St W w L) ?_ ?_
 ·
  refine IF 4 ha hs (λhc1 a ha=>?_) λhc1 a ha=>?_
  ·
   refine SX 2 ha hs (wrap32' (by omega) (by omega)) λa ha=>?_
   refine RT 2 ha hs ?_
   exact⟨by rw[dec_one hb (by omega)];rfl,hs⟩
  refine BY 4 ha hs (λhg2 a ha=>?_) λhg2 a ha=>?_
  ·
   refine IF 4 ha hs (λhc2 a ha=>?_) λhc2 a ha=>?_
   ·
    refine SX 1 ha hs (wrap32' (by omega) (by omega)) λa ha=>?_
    refine RN 1 ha hs λa ha=>?_
    obtain⟨r,hr⟩:∃ r,b=192+r:=⟨b-192,by omega⟩
    rw[show IntKind.i32.wrap ((b:Int)-192)=(r:Nat) from by rw[wrap32' (by omega) (by omega)];omega]at ha
    refine RN 3 ha hs λa ha=>?_
    exact⟨2,128,r,.inl ⟨hr,by omega,rfl,rfl⟩,ha.keep [0,5,6,7],hs⟩
   refine BY 4 ha hs (λhg2 a ha=>?_) λhg2 a ha=>?_
   ·
    refine IF 4 ha hs (λhc3 a ha=>?_) λhc3 a ha=>?_
    ·
     refine SX 1 ha hs (wrap32' (by omega) (by omega)) λa ha=>?_
     refine RN 1 ha hs λa ha=>?_
     obtain⟨r,hr⟩:∃ r,b=224+r:=⟨b-224,by omega⟩
     rw[show IntKind.i32.wrap ((b:Int)-224)=(r:Nat) from by rw[wrap32' (by omega) (by omega)];omega]at ha
     refine RN 3 ha hs λa ha=>?_
     exact⟨3,2048,r,.inr (.inl ⟨hr,by omega,rfl,rfl⟩),ha.keep [0,5,6,7],hs⟩
    refine BY 4 ha hs (λhg2 a ha=>?_) λhg2 a ha=>?_
    ·
     refine IF 4 ha hs (λhc4 a ha=>?_) λhc4 a ha=>?_
     ·
      refine SX 1 ha hs (wrap32' (by omega) (by omega)) λa ha=>?_
      refine RN 1 ha hs λa ha=>?_
      obtain⟨r,hr⟩:∃ r,b=240+r:=⟨b-240,by omega⟩
      rw[show IntKind.i32.wrap ((b:Int)-240)=(r:Nat) from by rw[wrap32' (by omega) (by omega)];omega]at ha
      refine RN 3 ha hs λa ha=>?_
      exact⟨4,65536,r,.inr (.inr ⟨hr,by omega,rfl,rfl⟩),ha.keep [0,5,6,7],hs⟩
     refine RT 3 ha hs ?_
     exact⟨by rw[dec_none hb (by omega) (by omega)];rfl,hs⟩
    refine RT 8 ha hs ?_
    exact⟨by rw[dec_none hb (by omega) (by omega)];rfl,hs⟩
   refine BY 9 ha hs (λhg2 a ha=>?_) λhg2 a ha=>?_
   ·
    refine IF 4 ha hs (λhc4 a ha=>?_) λhc4 a ha=>?_
    ·
     refine SX 1 ha hs (wrap32' (by omega) (by omega)) λa ha=>?_
     refine RN 1 ha hs λa ha=>?_
     obtain⟨r,hr⟩:∃ r,b=240+r:=⟨b-240,by omega⟩
     rw[show IntKind.i32.wrap ((b:Int)-240)=(r:Nat) from by rw[wrap32' (by omega) (by omega)];omega]at ha
     refine RN 3 ha hs λa ha=>?_
     exact⟨4,65536,r,.inr (.inr ⟨hr,by omega,rfl,rfl⟩),ha.keep [0,5,6,7],hs⟩
    refine RT 3 ha hs ?_
    exact⟨by rw[dec_none hb (by omega) (by omega)];rfl,hs⟩
   refine RT 8 ha hs ?_
   exact⟨by rw[dec_none hb (by omega) (by omega)];rfl,hs⟩
  refine BY 9 ha hs (λhg2 a ha=>?_) λhg2 a ha=>?_
  ·
   refine IF 4 ha hs (λhc3 a ha=>?_) λhc3 a ha=>?_
   ·
    refine SX 1 ha hs (wrap32' (by omega) (by omega)) λa ha=>?_
    refine RN 1 ha hs λa ha=>?_
    obtain⟨r,hr⟩:∃ r,b=224+r:=⟨b-224,by omega⟩
    rw[show IntKind.i32.wrap ((b:Int)-224)=(r:Nat) from by rw[wrap32' (by omega) (by omega)];omega]at ha
    refine RN 3 ha hs λa ha=>?_
    exact⟨3,2048,r,.inr (.inl ⟨hr,by omega,rfl,rfl⟩),ha.keep [0,5,6,7],hs⟩
   refine BY 4 ha hs (λhg2 a ha=>?_) λhg2 a ha=>?_
   ·
    refine IF 4 ha hs (λhc4 a ha=>?_) λhc4 a ha=>?_
    ·
     refine SX 1 ha hs (wrap32' (by omega) (by omega)) λa ha=>?_
     refine RN 1 ha hs λa ha=>?_
     obtain⟨r,hr⟩:∃ r,b=240+r:=⟨b-240,by omega⟩
     rw[show IntKind.i32.wrap ((b:Int)-240)=(r:Nat) from by rw[wrap32' (by omega) (by omega)];omega]at ha
     refine RN 3 ha hs λa ha=>?_
     exact⟨4,65536,r,.inr (.inr ⟨hr,by omega,rfl,rfl⟩),ha.keep [0,5,6,7],hs⟩
    refine RT 3 ha hs ?_
    exact⟨by rw[dec_none hb (by omega) (by omega)];rfl,hs⟩
   refine RT 8 ha hs ?_
   exact⟨by rw[dec_none hb (by omega) (by omega)];rfl,hs⟩
  refine BY 9 ha hs (λhg2 a ha=>?_) λhg2 a ha=>?_
  ·
   refine IF 4 ha hs (λhc4 a ha=>?_) λhc4 a ha=>?_
   ·
    refine SX 1 ha hs (wrap32' (by omega) (by omega)) λa ha=>?_
    refine RN 1 ha hs λa ha=>?_
    obtain⟨r,hr⟩:∃ r,b=240+r:=⟨b-240,by omega⟩
    rw[show IntKind.i32.wrap ((b:Int)-240)=(r:Nat) from by rw[wrap32' (by omega) (by omega)];omega]at ha
    refine RN 3 ha hs λa ha=>?_
    exact⟨4,65536,r,.inr (.inr ⟨hr,by omega,rfl,rfl⟩),ha.keep [0,5,6,7],hs⟩
   refine RT 3 ha hs ?_
   exact⟨by rw[dec_none hb (by omega) (by omega)];rfl,hs⟩
  refine RT 8 ha hs ?_
  exact⟨by rw[dec_none hb (by omega) (by omega)];rfl,hs⟩
 clear ha;(try clear hs)
 rintro a w ⟨n,low,r,hd,ha,hs⟩
 refine RN 2 ha hs λa ha=>?_
 have hn2:2≤n∧n≤4∧r<32:=by rcases hd with h | h | h <;> omega
 refine IF 4 ha hs (λhc5 a ha=>?_) λhc5 a ha=>?_
 ·
  refine RT 3 ha hs ?_
  exact⟨by rw[dec_fail hb hd (.inl (by omega))];rfl,hs⟩
 refine RN 3 ha hs λa ha=>?_
 refine wp_loop_ghost (λμ a w=>∃ (j:Nat),(μ=n-j∧j+1≤n∧∀ k,1≤k→k<j+1→byteN s k/64=2)∧Fr a 92 [(0,.string s),(5,.int .i64 n),(6,.int .i32 low),(7,.int .i32 (contN s r j:Nat)),(8,.int .i64 ((j+1:Nat):Int))]∧St W w L) (n) (⟨0,⟨by simp,by omega,λk h1 h2=>by omega⟩,ha.keep [0,5,6,7,8],hs⟩) ?_
 clear ha hs
 rintro μ a w ⟨j,⟨rfl,hj,hall⟩,ha,hs⟩
 refine IF 5 ha hs (λhc6 a ha=>?_) λhc6 a ha=>?_
 ·
  refine RN 3 ha hs λa ha=>?_
  have hjs:j+1<s.size:=by omega
  have hbj:=byteN_lt s (j+1)
  refine RN 2 ha hs λa ha=>?_
  refine SS ha (ex_indexS ha Tryz.underlying9 (by omega)) λa ha=>?_
  rw[index_byte hjs]at ha
  refine BY 2 ha hs (λhg4 a ha=>?_) λhg4 a ha=>?_
  ·
   refine RT 9 ha hs ?_
   exact⟨by rw[dec_fail hb hd (.inr ⟨j+1,by omega,by omega,by omega⟩)];rfl,hs⟩
  refine RN 2 ha hs λa ha=>?_
  refine st_set ha (wgT ha rfl (s:=61)) (ex_indexS ha Tryz.underlying9 (by omega)) rfl λa ha=>?_
  rw[index_byte hjs]at ha
  refine IF 2 ha hs (λhc7 a ha=>?_) λhc7 a ha=>?_
  ·
   refine RT 3 ha hs ?_
   exact⟨by rw[dec_fail hb hd (.inr ⟨j+1,by omega,by omega,by omega⟩)];rfl,hs⟩
  refine RN 0 ha hs λa ha=>?_
  have hcl:=contN_lt (s:=s) hn2.2.2 j
  have hj2:(64:Nat) ^ j≤64 ^ 2:=Nat.pow_le_pow_right (by omega) (by omega)
  refine RN 2 ha hs λa ha=>?_
  rw[wrap32' (by omega) (by omega)]at ha
  refine RN 2 ha hs λa ha=>?_
  refine SS ha (ex_indexS ha Tryz.underlying9 (by omega)) λa ha=>?_
  rw[index_byte hjs]at ha
  refine SX 0 ha hs (wrap32' (by omega) (by omega)) λa ha=>?_
  refine RN 1 ha hs λa ha=>?_
  rw[wrap32' (by omega) (by omega)]at ha
  refine RN 1 ha hs λa ha=>?_
  rw[show IntKind.i32.wrap ((contN s r j:Nat)*64+(byteN s (j+1):Nat)-128:Int)=(contN s r (j+1):Nat) from by rw[wrap32' (by omega) (by omega),contN];omega]at ha
  refine RN 4 ha hs λa ha=>?_
  refine⟨n-(j+1),by omega,j+1,⟨rfl,by omega,λk h1 h2=>?_⟩,ha.keep [0,5,6,7,8],hs⟩
  rcases Nat.lt_or_ge k (j+1) with h3 | h3
  · exact hall k h1 h3
  · obtain rfl:k=j+1:=by omega
    omega
 refine RN 2 ha hs λa ha=>?_
 obtain rfl:n=j+1:=by omega
 have hda:=dec_all hb hd (by omega) hall
 simp only[badN,Nat.add_sub_cancel]at hda
 refine BY 4 ha hs (λhg3 a ha=>?_) λhg3 a ha=>?_
 ·
  refine RT 15 ha hs ?_
  exact⟨by rw[hda.1 (by omega)];rfl,hs⟩
 refine BY 4 ha hs (λhg7 a ha=>?_) λhg7 a ha=>?_
 ·
  refine RT 11 ha hs ?_
  exact⟨by rw[hda.1 (by omega)];rfl,hs⟩
 refine BY 3 ha hs (λhg10 a ha=>?_) λhg10 a ha=>?_
 ·
  refine IF 4 ha hs (λhc8 a ha=>?_) λhc8 a ha=>?_
  ·
   refine RT 3 ha hs ?_
   exact⟨by rw[hda.1 (by omega)];rfl,hs⟩
  refine RT 5 ha hs ?_
  exact⟨by rw[hda.2 (by omega)],hs⟩
 refine RT 10 ha hs ?_
 exact⟨by rw[hda.2 (by omega)],hs⟩
def RI (l:List (Nat×Nat)):List Value:=l.map λx=>.int .i32 x.1
theorem refRunes_spec (hs:St W w L)(hsz:s.size≤1000000000):Calls Tryz.prog 194 #[.string s] w λe w'=>∃ ad c,e=.returned (.tuple #[.slice ad (runesAt s 0).length c,.bool ((runesAt s 0).all goodB)]) ∧
   St W w' (Sl 21 1 ad (runesAt s 0).length c (RI (runesAt s 0))::L):=by
 refine EN Tryz.func194 Tryz.ntmps194 rfl rfl λa ha=>?_
 refine RN 6 ha hs λa ha=>?_
 replace hs:=hs.sl0 21 1 none
 refine RN 2 ha hs λa ha=>?_
 refine wp_loop_ghost (λμ a w=>∃ (pos:Nat) (dn:List (Nat×Nat)) (ad:Option Addr) (c:Nat),(μ=s.size-pos∧pos≤s.size∧dn.length≤pos∧runesAt s 0=dn++runesAt s pos)∧Fr a 34 [(0,.string (s.extract pos s.size)),(4,.slice ad dn.length c),(5,.bool (dn.all goodB))]∧St W w (Sl 21 1 ad dn.length c (RI dn)::L)) (s.size) (⟨0,[],none,0,⟨by simp,by omega,by simp,rfl⟩,by rw[ext_zero];exact ha.keep [0,4,5],hs⟩) ?_
 clear ha hs
 rintro μ a w ⟨pos,dn,ad,c,⟨rfl,hp,hdl,hdn⟩,ha,hs⟩
 refine RN 4 ha hs λa ha=>?_
 rw[size_ext]at ha
 refine IF 1 ha hs (λhc0 a ha=>?_) λhc0 a ha=>?_
 ·
  have hps:pos<s.size:=by omega
  have hra:=runesAt_in hps
  have hdp:=decode_pos s pos
  have hdi:=decode_in s pos hps
  have hadv:adv s pos=pos+(Utf8.decode s pos).2:=by rw[adv,if_pos hps]
  refine CL 2 ha hs (refDecode_spec hs (by rw[size_ext];omega)) λa w ha hs=>?_
  rw[decode_ext]at ha
  refine RN 8 ha hs λa ha=>?_
  refine st_buildSlice ha rfl hs Tryz.underlying265 Ty.t21 rfl rfl rfl rfl (by decide) (by decide) λb18 a w ha hs ho=>?_
  clear ho
  refine RN 0 ha hs λa ha=>?_
  refine st_append ha rfl hs Tryz.underlying265 Ty.t21 rfl rfl hs.rdAll rfl (by simp[Value.oneCell']) (by decide) (by decide) (by omega) λad19 c19 a w ha hs=>?_
  refine RN 1 ha hs λa ha=>?_
  have hs5:St W w (Sl 21 1 ad19 (dn++[Utf8.decode s pos]).length c19 (RI (dn++[Utf8.decode s pos]))::L):=by
    have e1:(dn++[Utf8.decode s pos]).length=dn.length+1:=by simp
    have e2:RI (dn++[Utf8.decode s pos])=RI dn++[.int .i32 (Utf8.decode s pos).1]:=by simp[RI]
    rw[e1,e2]
    change St W w (Sl 21 1 ad19 (dn.length+1) c19 (RI dn++[.int .i32 (Utf8.decode s pos).1])::_) at hs
    exact hs.sub
  replace hs:=hs5
  clear hs5
  refine RN 1 ha hs λa ha=>?_
  have hgd:(dn++[Utf8.decode s pos]).all goodB=(dn.all goodB&&goodR (Utf8.decode s pos)):=by rw[goodR_eq];simp
  simp only[goodR]at hgd
  refine BY 2 ha hs (λhg1 a ha=>?_) λhg1 a ha=>?_
  ·
   refine BY 3 ha hs (λhg4 a ha=>?_) λhg4 a ha=>?_
   ·
    refine RN 5 ha hs λa ha=>?_
    rw[hg1,if_pos (by omega)]at hgd
    refine RN 2 ha hs λa ha=>?_
    refine SS ha (ex_sliceSL ha Tryz.underlying9 (by rw[size_ext];omega)) λa ha=>?_
    rw[ext_ext,← hadv]at ha
    refine RN 1 ha hs λa ha=>?_
    have hdd:(dn++[Utf8.decode s pos]).length=dn.length+1:=by simp
    refine⟨s.size-adv s pos,by omega,adv s pos,dn++[Utf8.decode s pos],_,_,⟨rfl,by omega,by omega,by rw[hdn,hra,List.append_assoc];rfl⟩,?_,hs⟩
    rw[hdd,hgd]
    exact ha.keep [0,4,5]
   refine RN 5 ha hs λa ha=>?_
   rw[hg1,if_neg (by omega),Bool.true_and,show decide ((Utf8.decode s pos).2=3)=decide (((Utf8.decode s pos).2:Int)=3) from decide_eq_decide.2 (by omega)]at hgd
   refine RN 2 ha hs λa ha=>?_
   refine SS ha (ex_sliceSL ha Tryz.underlying9 (by rw[size_ext];omega)) λa ha=>?_
   rw[ext_ext,← hadv]at ha
   refine RN 1 ha hs λa ha=>?_
   have hdd:(dn++[Utf8.decode s pos]).length=dn.length+1:=by simp
   refine⟨s.size-adv s pos,by omega,adv s pos,dn++[Utf8.decode s pos],_,_,⟨rfl,by omega,by omega,by rw[hdn,hra,List.append_assoc];rfl⟩,?_,hs⟩
   rw[hdd,hgd]
   exact ha.keep [0,4,5]
  refine RN 8 ha hs λa ha=>?_
  rw[hg1,Bool.false_and]at hgd
  refine RN 2 ha hs λa ha=>?_
  refine SS ha (ex_sliceSL ha Tryz.underlying9 (by rw[size_ext];omega)) λa ha=>?_
  rw[ext_ext,← hadv]at ha
  refine RN 1 ha hs λa ha=>?_
  have hdd:(dn++[Utf8.decode s pos]).length=dn.length+1:=by simp
  refine⟨s.size-adv s pos,by omega,adv s pos,dn++[Utf8.decode s pos],_,_,⟨rfl,by omega,by omega,by rw[hdn,hra,List.append_assoc];rfl⟩,?_,hs⟩
  rw[hdd,hgd]
  exact ha.keep [0,4,5]
 refine RT 5 ha hs ?_
 obtain rfl:pos=s.size:=by omega
 have hre:=runesAt_out (s:=s) (pos:=s.size) (by omega)
 rw[hre,List.append_nil]at hdn
 rw[hdn]
 exact⟨_,_,rfl,hs.sub⟩
theorem RI_at {l:List (Nat×Nat)}{i:Nat}{x:Nat×Nat}(h:l[i]?=some x):(RI l)[i]?=some (.int .i32 x.1):=by rw[RI,List.getElem?_map,h];rfl
theorem refTitle_spec (hs:St W w L)(hsz:s.size≤1000000000):Calls Tryz.prog 214 #[.string s] w λe w'=>e=.returned (.bool (tOk s))∧St W w' L:=by
 have htk:tOk s=(decide (1≤(runesAt s 0).length)&&decide ((runesAt s 0).length≤20)&&(runesAt s 0).all ctlB&&(runesAt s 0).all goodB):=rfl
 have hrl:=runesAt_len s s.size 0 (by omega)
 refine EN Tryz.func214 Tryz.ntmps214 rfl rfl λa ha=>?_
 refine CL2 4 ha hs (refRunes_spec hs hsz) λad c a w ha hs=>?_
 generalize (runesAt s 0)=l at ha hs htk hrl
 refine BY 10 ha hs (λhg2 a ha=>?_) λhg2 a ha=>?_
 ·
  refine RT 12 ha hs ?_
  exact⟨by rw[htk,hg2,Bool.and_false],hs.sub⟩
 refine BY 5 ha hs (λhg7 a ha=>?_) λhg7 a ha=>?_
 ·
  refine RT 7 ha hs ?_
  exact⟨by rw[htk,decide_eq_false (by omega)];simp,hs.sub⟩
 refine IF 4 ha hs (λhc0 a ha=>?_) λhc0 a ha=>?_
 ·
  refine RT 2 ha hs ?_
  exact⟨by rw[htk,decide_eq_false (p:=l.length≤20) (by omega)];simp,hs.sub⟩
 refine RN 3 ha hs λa ha=>?_
 refine wp_loop_ghost (λμ a w=>∃ i:Nat,(μ=l.length-i∧i≤l.length∧∀ j x,j<i→l[j]?=some x→ctlB x=true)∧Fr a 41 [(3,.slice ad l.length c),(5,.int .i64 i)]∧St W w (Sl 21 1 ad l.length c (RI l)::L)) (l.length) (⟨0,⟨by simp,by simp,λj x h=>absurd h (by omega)⟩,ha.keep [3,5],hs⟩) ?_
 clear ha hs
 rintro μ a w ⟨i,⟨rfl,hi,hin⟩,ha,hs⟩
 refine IF 6 ha hs (λhc1 a ha=>?_) λhc1 a ha=>?_
 ·
  obtain⟨b,o,rfl,hrd⟩:=hs.slRd ad (by omega)
  obtain⟨x,hx⟩:∃ x,l[i]?=some x:=⟨_,List.getElem?_eq_getElem (by omega)⟩
  have hcell:=hrd i _ (RI_at hx)
  refine RN 5 ha hs λa ha=>?_
  refine SS ha (ld1 ha (hcell)) λa ha=>?_
  refine BY 2 ha hs (λhg5 a ha=>?_) λhg5 a ha=>?_
  ·
   refine RT 9 ha hs ?_
   refine⟨?_,hs.sub⟩
   have hcx:ctlB x=false:=by
     simp only[ctlB,Bool.and_eq_false_iff,decide_eq_false_iff_not];omega
   have hall:l.all ctlB=false:=by rw[List.all_eq_false];exact⟨x,List.mem_of_getElem? hx,by rw[hcx];decide⟩
   rw[htk,hall];simp
  refine RN 3 ha hs λa ha=>?_
  refine st_set ha (wgT ha rfl (s:=34)) (ld1 ha (hcell)) rfl λa ha=>?_
  refine IF 2 ha hs (λhc2 a ha=>?_) λhc2 a ha=>?_
  ·
   refine RT 2 ha hs ?_
   refine⟨?_,hs.sub⟩
   have hcx:ctlB x=false:=by
     simp only[ctlB,Bool.and_eq_false_iff,decide_eq_false_iff_not];omega
   have hall:l.all ctlB=false:=by rw[List.all_eq_false];exact⟨x,List.mem_of_getElem? hx,by rw[hcx];decide⟩
   rw[htk,hall];simp
  refine RN 3 ha hs λa ha=>?_
  refine⟨l.length-(i+1),by omega,i+1,⟨rfl,by omega,λj y hj hy=>?_⟩,ha.keep [3,5],hs.sub⟩
  rcases Nat.lt_or_ge j i with h | h
  · exact hin j y h hy
  · obtain rfl:j=i:=by omega
    rw[hx]at hy;cases hy
    simp only[ctlB,Bool.and_eq_true,decide_eq_true_eq];omega
 refine RT 2 ha hs ?_
 refine⟨?_,hs.sub⟩
 have hall:l.all ctlB=true:=by
   rw[List.all_eq_true]
   intro x hx
   obtain⟨j,hj⟩:=List.mem_iff_getElem?.1 hx
   exact hin j x (by have:=(List.getElem?_eq_some_iff.1 hj).1;omega) hj
 rw[htk,hall,hg2,decide_eq_true (p:=1≤l.length) (by omega),decide_eq_true (p:=l.length≤20) (by omega)];rfl
theorem small_spec {x:Int}(hs:St W w L):Calls Tryz.prog 215 #[.int .i64 x] w λe w'=>∃ r:Bool,e=.returned (.bool r)∧(r=true↔i32P x)∧St W w' L:=by
 simp only[i32P]
 refine EN Tryz.func215 Tryz.ntmps215 rfl rfl λa ha=>?_
 refine BY 6 ha hs (λhg2 a ha=>?_) λhg2 a ha=>?_
 ·
  refine RT 4 ha hs ?_
  exact⟨_,rfl,by rw[decide_eq_true_iff];omega,hs⟩
 refine RT 4 ha hs ?_
 exact⟨_,rfl,⟨λh=>(by cases h),λh=>by omega⟩,hs⟩
theorem refForm_spec {p:Pr}(hs:St W w (RoP W p adO cO::L))(hsz:p.title.size≤1000000000)(hol:p.ops.length≤1000000000) :
   Calls Tryz.prog 162 #[.agg (prV p adO cO).toArray] w λe w'=>∃ r:Bool,e=.returned (.bool r)∧(r=true↔formOk p)∧St W w' (RoP W p adO cO::L):=by
 refine EN Tryz.func162 Tryz.ntmps162 rfl rfl λa ha=>?_
 refine BX 1 ha hs λb1 a w ha hs=>?_
 change St W w (blk b1 34 (prV p adO cO)::_) at hs
 refine CL 5 ha hs (refTitle_spec hs hsz) λa w ha hs=>?_
 refine BY 2 ha hs (λhg4 a ha=>?_) λhg4 a ha=>?_
 ·
  refine RT 14 ha hs ?_
  exact⟨false,rfl,⟨λh=>(by cases h),λh=>by rw[h.1]at hg4;cases hg4⟩,hs.sub⟩
 have htt:tOk p.title=true:=by simpa using hg4
 refine BY 6 ha hs (λhg10 a ha=>?_) λhg10 a ha=>?_
 ·
  refine RT 8 ha hs ?_
  exact⟨false,rfl,⟨λh=>(by cases h),λh=>by have:=h.2.1;omega⟩,hs.sub⟩
 refine IF 5 ha hs (λhc0 a ha=>?_) λhc0 a ha=>?_
 ·
  refine RT 2 ha hs ?_
  exact⟨false,rfl,⟨λh=>(by cases h),λh=>by have:=h.2.2.1;omega⟩,hs.sub⟩
 refine RN 3 ha hs λa ha=>?_
 refine wp_loop_ghost (λμ a w=>∃ i:Nat,(μ=p.ops.length-i∧i≤p.ops.length∧∀ j o,j<i→p.ops[j]?=some o→i32O o)∧Fr a 55 [(1,pt b1),(3,.int .i64 i)]∧St W w (blk b1 34 (prV p adO cO)::RoP W p adO cO::L)) (p.ops.length) (⟨0,⟨by simp,by simp,λj o h=>absurd h (by omega)⟩,ha.keep [1,3],hs.sub⟩) ?_
 clear ha hs
 rintro μ a w ⟨i,⟨rfl,hi,hin⟩,ha,hs⟩
 refine IF 7 ha hs (λhc1 a ha=>?_) λhc1 a ha=>?_
 ·
  obtain⟨o,ho⟩:∃ o,p.ops[i]?=some o:=⟨_,List.getElem?_eq_getElem (by omega)⟩
  obtain⟨bo,oo,rfl,hro⟩:=hs.roRd adO (by omega)
  refine RN 6 ha hs λa ha=>?_
  refine SS ha (ex_loadN ha Tryz.underlying119 rfl Ty.t119 (op_rd hro ho)) λa ha=>?_
  refine AL 0 ha hs λb4 a w ha hs=>?_
  refine SA 0 ha hs λa w ha hs=>?_
  refine CL1 3 ha hs (small_spec hs) λr1 a w ha ⟨hr1,hs⟩=>?_
  refine BY 2 ha hs (λhg4 a ha=>?_) λhg4 a ha=>?_
  ·
   have hbad:¬ i32O o:=λh=>by rw[hr1.2 h.1]at hg4;cases hg4
   refine RT 20 ha hs ?_
   exact⟨false,rfl,⟨λh=>(by cases h),λh=>absurd (h.2.2.2 o (List.mem_of_getElem? ho)) hbad⟩,hs.sub⟩
  refine CL1 2 ha hs (small_spec hs) λr2 a w ha ⟨hr2,hs⟩=>?_
  refine BY 3 ha hs (λhg10 a ha=>?_) λhg10 a ha=>?_
  ·
   have hbad:¬ i32O o:=λh=>by rw[hr2.2 h.2.1]at hg10;cases hg10
   refine RT 14 ha hs ?_
   exact⟨false,rfl,⟨λh=>(by cases h),λh=>absurd (h.2.2.2 o (List.mem_of_getElem? ho)) hbad⟩,hs.sub⟩
  refine CL1 2 ha hs (small_spec hs) λr3 a w ha ⟨hr3,hs⟩=>?_
  refine BY 3 ha hs (λhg16 a ha=>?_) λhg16 a ha=>?_
  ·
   have hbad:¬ i32O o:=λh=>by rw[hr3.2 h.2.2.1]at hg16;cases hg16
   refine RT 8 ha hs ?_
   exact⟨false,rfl,⟨λh=>(by cases h),λh=>absurd (h.2.2.2 o (List.mem_of_getElem? ho)) hbad⟩,hs.sub⟩
  refine CL1 2 ha hs (small_spec hs) λr4 a w ha ⟨hr4,hs⟩=>?_
  refine IF 2 ha hs (λhc2 a ha=>?_) λhc2 a ha=>?_
  ·
   have hbad:¬ i32O o:=λh=>by rw[hr4.2 h.2.2.2]at hc2;cases hc2
   refine RT 2 ha hs ?_
   exact⟨false,rfl,⟨λh=>(by cases h),λh=>absurd (h.2.2.2 o (List.mem_of_getElem? ho)) hbad⟩,hs.sub⟩
  have hgood:i32O o:=⟨hr1.1 (by simpa using hg4),hr2.1 (by simpa using hg10),hr3.1 (by simpa using hg16),hr4.1 (by simpa using hc2)⟩
  refine RN 3 ha hs λa ha=>?_
  refine⟨p.ops.length-(i+1),by omega,i+1,⟨rfl,by omega,λj o' hj ho'=>?_⟩,ha.keep [1,3],hs.sub⟩
  rcases Nat.lt_or_ge j i with h | h
  · exact hin j o' h ho'
  · obtain rfl:j=i:=by omega
    rw[ho]at ho';cases ho'
    exact hgood
 refine RT 2 ha hs ?_
 refine⟨true,rfl,⟨λ_=>⟨htt,by omega,by omega,λo ho=>?_⟩,λ_=>rfl⟩,hs.sub⟩
 obtain⟨j,hj⟩:=List.mem_iff_getElem?.1 ho
 exact hin j o (by have:=(List.getElem?_eq_some_iff.1 hj).1;omega) hj
theorem takes_row:∀ m:Nat,m≤15→(([[.int .i64 0],[.int .i64 2],[.int .i64 2],[.int .i64 3],[.int .i64 3],[.int .i64 3],[.int .i64 3],[.int .i64 3],[.int .i64 3],[.int .i64 1],[.int .i64 2],[.int .i64 2],[.int .i64 2],[.int .i64 2],[.int .i64 2],[.int .i64 1]].flatten:List Value))[m]?=some (.int .i64 (takesN (m:Int)))
 | 0,_=>rfl
 | 1,_=>rfl
 | 2,_=>rfl
 | 3,_=>rfl
 | 4,_=>rfl
 | 5,_=>rfl
 | 6,_=>rfl
 | 7,_=>rfl
 | 8,_=>rfl
 | 9,_=>rfl
 | 10,_=>rfl
 | 11,_=>rfl
 | 12,_=>rfl
 | 13,_=>rfl
 | 14,_=>rfl
 | 15,_=>rfl
 | n+16,h=>absurd h (by omega)
theorem refTakes_spec {k:Int}(hs:St W w L)(hk:0≤k∧k≤15):Calls Tryz.prog 216 #[.int .i64 k] w λe w'=>e=.returned (.int .i64 (takesN k))∧St W w' L:=by
 obtain⟨m,rfl⟩:∃ m:Nat,k=m:=⟨k.toNat,by omega⟩
 have hm:m≤15:=by omega
 refine EN Tryz.func216 Tryz.ntmps216 rfl rfl λa ha=>?_
 refine RN 3 ha hs λa ha=>?_
 refine st_buildSlice ha rfl hs Tryz.underlying52 Ty.t3 rfl rfl rfl rfl (by decide) (by decide) λb4 a w ha hs ho=>?_
 clear ho
 refine RN 5 ha hs λa ha=>?_
 refine SS ha (ld1 ha ((hs.rd1 (takes_row m hm)))) λa ha=>?_
 refine RT 1 ha hs ?_
 exact⟨rfl,hs.sub⟩
theorem args_row {o:OpR}:∀ k:Nat,k<3→([[.int .i64 o.a],[.int .i64 o.b],[.int .i64 o.c]].flatten:List Value)[k]?=some (.int .i64 (argO o k))
 | 0,_=>rfl
 | 1,_=>rfl
 | 2,_=>rfl
 | n+3,h=>absurd h (by omega)
theorem refMayOp_spec {n:Nat}{o:OpR}(hs:St W w L):Calls Tryz.prog 163 #[.agg (opR o).toArray,.int .i64 n] w λe w'=>∃ r:Bool,e=.returned (.bool r)∧(r=true↔okOp n o)∧St W w' L:=by
 refine EN Tryz.func163 Tryz.ntmps163 rfl rfl λa ha=>?_
 refine BX 1 ha hs λb2 a w ha hs=>?_
 change St W w (blk b2 119 (opR o)::_) at hs
 refine BY 7 ha hs (λhg3 a ha=>?_) λhg3 a ha=>?_
 ·
  refine RT 7 ha hs ?_
  exact⟨false,rfl,⟨λh=>(by cases h),λh=>by have:=(okOp_iff.1 h).1;omega⟩,hs.sub⟩
 refine IF 4 ha hs (λhc0 a ha=>?_) λhc0 a ha=>?_
 ·
  refine RT 2 ha hs ?_
  exact⟨false,rfl,⟨λh=>(by cases h),λh=>by have:=(okOp_iff.1 h).1;omega⟩,hs.sub⟩
 refine RN 7 ha hs λa ha=>?_
 refine st_buildSlice ha rfl hs Tryz.underlying52 Ty.t3 rfl rfl rfl rfl (by decide) (by decide) λb22 a w ha hs ho=>?_
 clear ho
 refine RN 4 ha hs λa ha=>?_
 refine wp_loop_ghost (λμ a w=>∃ k:Nat,(μ=3-k∧k≤3∧∀ j,j<k→okK n o j)∧Fr a 68 [(1,.int .i64 n),(2,pt b2),(5,.slice (some ⟨b22,0,none⟩) 3 3),(6,.int .i64 k)]∧St W w (blk b22 3 [[.int .i64 o.a],[.int .i64 o.b],[.int .i64 o.c]].flatten::blk b2 119 (opR o)::L)) (3) (⟨0,⟨by simp,by simp,λj h=>absurd h (by omega)⟩,ha.keep [1,2,5,6],hs.sub⟩) ?_
 clear ha hs
 rintro μ a w ⟨k,⟨rfl,hk,hin⟩,ha,hs⟩
 refine IF 4 ha hs (λhc1 a ha=>?_) λhc1 a ha=>?_
 ·
  refine RN 3 ha hs λa ha=>?_
  refine wp_seq_cut (M:=λa w=>(takesN o.code≤k∨¬ (o.code=1∧k=1))∧Fr a 68 [(1,.int .i64 n),(2,pt b2),(5,.slice (some ⟨b22,0,none⟩) 3 3),(6,.int .i64 k),(7,.int .i64 (mostO n o k))]∧St W w (blk b22 3 [[.int .i64 o.a],[.int .i64 o.b],[.int .i64 o.c]].flatten::blk b2 119 (opR o)::L)) ?_ ?_
  ·
   refine CL 4 ha hs (refTakes_spec hs (by omega)) λa w ha hs=>?_
   refine IF 2 ha hs (λhc2 a ha=>?_) λhc2 a ha=>?_
   ·
    refine RN 1 ha hs λa ha=>?_
    refine⟨.inl (by omega),?_,hs.sub⟩
    rw[show mostO n o k=0 from if_pos (by omega)]
    exact ha.keep [1,2,5,6,7]
   refine BY 5 ha hs (λhg3 a ha=>?_) λhg3 a ha=>?_
   ·
    refine IF 4 ha hs (λhc3 a ha=>?_) λhc3 a ha=>?_
    ·
     refine RN 3 ha hs λa ha=>?_
     refine⟨3-(k+1),by omega,k+1,⟨rfl,by omega,λj hj=>?_⟩,ha.keep [1,2,5,6],hs.sub⟩
     rcases Nat.lt_or_ge j k with h | h
     · exact hin j h
     · obtain rfl:j=k:=by omega
       exact .inl ⟨by omega,by omega,by omega⟩
    refine BY 5 ha hs (λhg3 a ha=>?_) λhg3 a ha=>?_
    ·
     refine RN 12 ha hs λa ha=>?_
     refine⟨.inr (by omega),?_,hs.sub⟩
     rw[show mostO n o k=n from by rw[mostO,if_neg (by omega),if_pos (by omega)]]
     exact ha.keep [1,2,5,6,7]
    refine BY 4 ha hs (λhg7 a ha=>?_) λhg7 a ha=>?_
    ·
     refine IF 5 ha hs (λhc4 a ha=>?_) λhc4 a ha=>?_
     ·
      refine RN 2 ha hs λa ha=>?_
      refine⟨.inr (by omega),?_,hs.sub⟩
      rw[show mostO n o k=n from by rw[mostO,if_neg (by omega),if_pos (by omega)]]
      exact ha.keep [1,2,5,6,7]
     refine RN 0 ha hs λa ha=>?_
     refine⟨.inr (by omega),?_,hs.sub⟩
     rw[show mostO n o k=31 from by rw[mostO,if_neg (by omega),if_neg (by omega)]]
     exact ha.keep [1,2,5,6,7]
    refine RN 6 ha hs λa ha=>?_
    refine⟨.inr (by omega),?_,hs.sub⟩
    rw[show mostO n o k=31 from by rw[mostO,if_neg (by omega),if_neg (by omega)]]
    exact ha.keep [1,2,5,6,7]
   refine BY 10 ha hs (λhg3 a ha=>?_) λhg3 a ha=>?_
   ·
    refine RN 12 ha hs λa ha=>?_
    refine⟨.inr (by omega),?_,hs.sub⟩
    rw[show mostO n o k=n from by rw[mostO,if_neg (by omega),if_pos (by omega)]]
    exact ha.keep [1,2,5,6,7]
   refine BY 4 ha hs (λhg7 a ha=>?_) λhg7 a ha=>?_
   ·
    refine IF 5 ha hs (λhc4 a ha=>?_) λhc4 a ha=>?_
    ·
     refine RN 2 ha hs λa ha=>?_
     refine⟨.inr (by omega),?_,hs.sub⟩
     rw[show mostO n o k=n from by rw[mostO,if_neg (by omega),if_pos (by omega)]]
     exact ha.keep [1,2,5,6,7]
    refine RN 0 ha hs λa ha=>?_
    refine⟨.inr (by omega),?_,hs.sub⟩
    rw[show mostO n o k=31 from by rw[mostO,if_neg (by omega),if_neg (by omega)]]
    exact ha.keep [1,2,5,6,7]
   refine RN 6 ha hs λa ha=>?_
   refine⟨.inr (by omega),?_,hs.sub⟩
   rw[show mostO n o k=31 from by rw[mostO,if_neg (by omega),if_neg (by omega)]]
   exact ha.keep [1,2,5,6,7]
  clear ha;(try clear hs)
  rintro a w ⟨hnc,ha,hs⟩
  refine RN 4 ha hs λa ha=>?_
  refine SS ha (ld1 ha ((hs.rd1 (args_row k (by omega))))) λa ha=>?_
  refine BY 2 ha hs (λhg5 a ha=>?_) λhg5 a ha=>?_
  ·
   refine RT 10 ha hs ?_
   refine⟨false,rfl,⟨λh=>(by cases h),λh=>?_⟩,hs.sub⟩
   have hk2:okK n o k:=by
     obtain⟨_,h0,h1,h2⟩:=okOp_iff.1 h
     rcases (by omega:k=0∨k=1∨k=2) with rfl | rfl | rfl
     · exact h0
     · exact h1
     · exact h2
   simp only[okK]at hk2
   omega
  refine RN 3 ha hs λa ha=>?_
  refine st_set ha (wgT ha rfl (s:=60)) (ld1 ha ((hs.rd1 (args_row k (by omega))))) rfl λa ha=>?_
  refine IF 3 ha hs (λhc5 a ha=>?_) λhc5 a ha=>?_
  ·
   refine RT 2 ha hs ?_
   refine⟨false,rfl,⟨λh=>(by cases h),λh=>?_⟩,hs.sub⟩
   have hk2:okK n o k:=by
     obtain⟨_,h0,h1,h2⟩:=okOp_iff.1 h
     rcases (by omega:k=0∨k=1∨k=2) with rfl | rfl | rfl
     · exact h0
     · exact h1
     · exact h2
   simp only[okK]at hk2
   omega
  refine RN 3 ha hs λa ha=>?_
  refine⟨3-(k+1),by omega,k+1,⟨rfl,by omega,λj hj=>?_⟩,ha.keep [1,2,5,6],hs.sub⟩
  rcases Nat.lt_or_ge j k with h | h
  · exact hin j h
  · obtain rfl:j=k:=by omega
    exact .inr ⟨by omega,by omega⟩
 refine RT 2 ha hs ?_
 exact⟨true,rfl,⟨λ_=>okOp_iff.2 ⟨by omega,hin 0 (by omega),hin 1 (by omega),hin 2 (by omega)⟩,λ_=>rfl⟩,hs.sub⟩
theorem refFault_spec {p:Pr}(hs:St W w (RoP W p adO cO::L))(hsz:p.title.size≤1000000000)(hol:p.ops.length≤1000000000) :
   Calls Tryz.prog 102 #[.agg (prV p adO cO).toArray] w λe w'=>∃ r:Int,e=.returned (.int .i64 r)∧(r = -1↔prOk p)∧St W w' (RoP W p adO cO::L):=by
 refine EN Tryz.func102 Tryz.ntmps102 rfl rfl λa ha=>?_
 refine BX 1 ha hs λb1 a w ha hs=>?_
 change St W w (blk b1 34 (prV p adO cO)::_) at hs
 refine CL1 4 ha hs (refForm_spec (hs.pick (RoP W p adO cO)) hsz hol) λr a w ha ⟨hr,hs⟩=>?_
 refine IF 1 ha hs (λhc0 a ha=>?_) λhc0 a ha=>?_
 ·
  have hnf:¬ formOk p:=λh=>by rw[hr.2 h]at hc0;cases hc0
  refine RT 2 ha hs ?_
  exact⟨-2,rfl,⟨λh=>absurd h (by decide),λh=>absurd h.1 hnf⟩,hs.sub⟩
 have hfo:formOk p:=hr.1 (by simpa using hc0)
 refine RN 3 ha hs λa ha=>?_
 refine wp_loop_ghost (λμ a w=>∃ i:Nat,(μ=p.ops.length-i∧i≤p.ops.length∧∀ j o,j<i→p.ops[j]?=some o→okOp p.ops.length o)∧Fr a 25 [(1,pt b1),(3,.int .i64 i)]∧St W w (blk b1 34 (prV p adO cO)::RoP W p adO cO::L)) (p.ops.length) (⟨0,⟨by simp,by simp,λj o h=>absurd h (by omega)⟩,ha.keep [1,3],hs.sub⟩) ?_
 clear ha hs
 rintro μ a w ⟨i,⟨rfl,hi,hin⟩,ha,hs⟩
 refine IF 7 ha hs (λhc1 a ha=>?_) λhc1 a ha=>?_
 ·
  refine RN 2 ha hs λa ha=>?_
  obtain⟨o,ho⟩:∃ o,p.ops[i]?=some o:=⟨_,List.getElem?_eq_getElem (by omega)⟩
  obtain⟨bo,oo,rfl,hro⟩:=hs.drew.roRd adO (by omega)
  have hrp:=op_rd hro ho
  refine DWG 0 (λw'=>Rd w' b1 0 (prV p (some ⟨bo,oo,none⟩) cO)∧Rd w' bo (oo+i*4) (opR o)) [6,7] [0,2,5,3001,3,3004,1006,1007,1008,9] ha hs λa ha=>?_
  replace hs:=hs.drew
  generalize w.drew=w at hs hrp ⊢
  have hC:Rd w b1 0 (prV p (some ⟨bo,oo,none⟩) cO)∧Rd w bo (oo+i*4) (opR o):=⟨hs.rdAll,hrp⟩
  have hH:=Hd.any (λw'=>Rd w' b1 0 (prV p (some ⟨bo,oo,none⟩) cO)∧Rd w' bo (oo+i*4) (opR o))
  refine RH 3 ha hs hH hC λa ha=>?_
  refine QH ha (λw hc=>ld1 ha (hc.1 1 _ rfl)) hC λa ha=>?_
  refine RH 1 ha hs hH hC λa ha=>?_
  refine QH ha (λw hc=>ex_loadN ha Tryz.underlying119 rfl Ty.t119 (hc.2)) hC λa ha=>?_
  refine RH 0 ha hs hH hC λa ha=>?_
  refine SS ha (ld1 ha (hC.1 1 _ rfl)) λa ha=>?_
  refine RH 1 ha hs hH hC λa ha=>?_
  refine CL1 0 ha hs (refMayOp_spec (n:=p.ops.length) (o:=o) hs) λr a w ha ⟨hr,hs⟩=>?_
  refine RN 1 ha hs λa ha=>?_
  refine IF 0 ha hs (λhc2 a ha=>?_) λhc2 a ha=>?_
  ·
   have hno:¬ okOp p.ops.length o:=λh=>by rw[hr.2 h]at hc2;cases hc2
   refine RT 3 ha hs ?_
   exact⟨i,rfl,⟨λh=>absurd h (by omega),λh=>absurd (h.2 o (List.mem_of_getElem? ho)) hno⟩,hs.sub⟩
  have hok:okOp p.ops.length o:=hr.1 (by simpa using hc2)
  refine RN 3 ha hs λa ha=>?_
  refine⟨p.ops.length-(i+1),by omega,i+1,⟨rfl,by omega,λj o' hj ho'=>?_⟩,ha.keep [1,3],hs.sub⟩
  rcases Nat.lt_or_ge j i with h | h
  · exact hin j o' h ho'
  · obtain rfl:j=i:=by omega
    rw[ho]at ho';cases ho'
    exact hok
 refine RT 2 ha hs ?_
 refine⟨-1,rfl,⟨λ_=>⟨hfo,λo ho=>?_⟩,λ_=>rfl⟩,hs.sub⟩
 obtain⟨j,hj⟩:=List.mem_iff_getElem?.1 ho
 exact hin j o (by have:=(List.getElem?_eq_some_iff.1 hj).1;omega) hj
end
end
section
theorem w32_eq {x y:Int}(h1:-2147483648≤y)(h2:y≤2147483647)(h3:x%4294967296=y%4294967296):w32 x=y:=by
 simp only[w32,IntKind.wrap,IntKind.signed,IntKind.bits]
 simp
 split <;> omega
section
variable {W w:World}{L:List SP}{p:Pr}{adO adP:Option Addr}{cO cP:Nat}{b:List UInt8}{g:Nat→Int}{fr:Int}
theorem refRound_spec {x:Int}(hs:St W w L)(h1:-9223372036854775808≤x)(h2:x≤9223372036854775807):Calls Tryz.prog 197 #[.int .i64 x] w λe w'=>e=.returned (.int .i32 (w32 x))∧St W w' L:=by
 have hq1:=Int.tmod_lt_of_pos x (b:=4294967296) (by decide)
 have hq2:=Int.lt_tmod_of_pos x (b:=4294967296) (by decide)
 have hq3:(x.tmod 4294967296)%4294967296=x%4294967296:=by
   rw[Int.tmod_eq_emod]
   split <;> omega
 refine EN Tryz.func197 Tryz.ntmps197 rfl rfl λa ha=>?_
 refine IF 10 ha hs (λhc0 a ha=>?_) λhc0 a ha=>?_
 ·
  refine IF 7 ha hs (λhc1 a ha=>?_) λhc1 a ha=>?_
  ·
   refine SX 5 ha hs (wrap32' (by omega) (by omega)) λa ha=>?_
   refine RT 1 ha hs ?_
   exact⟨by rw[w32_eq (y:=x.tmod 4294967296+4294967296-4294967296) (by omega) (by omega) (by omega)],hs⟩
  refine SX 2 ha hs (wrap32' (by omega) (by omega)) λa ha=>?_
  refine RT 1 ha hs ?_
  exact⟨by rw[w32_eq (y:=x.tmod 4294967296+4294967296) (by omega) (by omega) (by omega)],hs⟩
 refine IF 4 ha hs (λhc1 a ha=>?_) λhc1 a ha=>?_
 ·
  refine SX 5 ha hs (wrap32' (by omega) (by omega)) λa ha=>?_
  refine RT 1 ha hs ?_
  exact⟨by rw[w32_eq (y:=x.tmod 4294967296-4294967296) (by omega) (by omega) (by omega)],hs⟩
 refine SX 2 ha hs (wrap32' (by omega) (by omega)) λa ha=>?_
 refine RT 1 ha hs ?_
 exact⟨by rw[w32_eq (y:=x.tmod 4294967296) (by omega) (by omega) (by omega)],hs⟩
theorem refMod_spec {x:Int}(hs:St W w L)(hx:i32P x):Calls Tryz.prog 196 #[.int .i32 x,.int .i64 32] w λe w'=>e=.returned (.int .i64 (mod32 x))∧St W w' L:=by
 have h1:=Int.tmod_lt_of_pos x (b:=32) (by decide)
 have h2:=Int.lt_tmod_of_pos x (b:=32) (by decide)
 have hm:(mod32 x:Int)=x%32:=by
   have h1:=Int.emod_nonneg x (show (32:Int)≠0 by decide)
   show (((x%32).toNat:Nat):Int)=_
   omega
 have ht:x.tmod 32=if 0≤x then x%32 else -((-x)%32):=by
   split
   · exact Int.tmod_eq_emod_of_nonneg (by omega)
   · rw[← Int.neg_neg (x.tmod 32),← Int.neg_tmod,Int.tmod_eq_emod_of_nonneg (by omega)]
 simp only[i32P]at hx
 refine EN Tryz.func196 Tryz.ntmps196 rfl rfl λa ha=>?_
 refine RN 6 ha hs λa ha=>?_
 replace ha:=ha.isF 7
 refine SX 3 ha hs (wrap_in (by omega) (by omega)) λa ha=>?_
 refine IF 7 ha hs (λhc1 a ha=>?_) λhc1 a ha=>?_
 ·
  refine RN 4 ha hs λa ha=>?_
  rw[show x.tmod 32+32=(mod32 x:Int) from by rw[hm,ht];split <;> omega]at ha
  refine RT 3 ha hs ?_
  exact⟨rfl,hs⟩
 refine RT 3 ha hs ?_
 exact⟨by rw[hm,show x.tmod 32=x%32 from by rw[ht] at *;split at*<;> omega],hs⟩
theorem pressed_spec {x:Int}(hs:St W w L)(hx:i32P x)(hb:b.length≤1099511627776)(hp:∀ w',St W w' L→RdB w' adP b.length b) :
   Calls Tryz.prog 195 #[.slice adP b.length cP,.int .i32 x] w λe w'=>e=.returned (.int .i32 (pressI b x))∧St W w' L:=by
 simp only[i32P]at hx
 refine EN Tryz.func195 Tryz.ntmps195 rfl rfl λa ha=>?_
 refine BY 7 ha hs (λhg2 a ha=>?_) λhg2 a ha=>?_
 ·
  refine RT 9 ha hs ?_
  exact⟨by rw[pressI,if_neg (by omega)],hs⟩
 refine SX 1 ha hs (by rw[wrap_in (by omega) (by omega)]) λa ha=>?_
 refine IF 4 ha hs (λhc0 a ha=>?_) λhc0 a ha=>?_
 ·
  refine RT 2 ha hs ?_
  exact⟨by rw[pressI,if_neg (by omega)],hs⟩
 refine RN 1 ha hs λa ha=>?_
 obtain⟨k,hk⟩:∃ k:Nat,x=(k:Int):=⟨x.toNat,by omega⟩
 obtain⟨_,_,hpr⟩:=hp _ hs
 have hkb:k<b.length:=by omega
 obtain⟨bp,op,hade,hrd⟩:∃ bp op,adP=some ⟨bp,op,none⟩∧Rd w bp op (bc b):=by
   cases hh:adP with
   | none =>
     have:=(hp _ hs).2.1 hh
     omega
   | some a =>
     obtain⟨b1,o1,rfl,h1⟩:=hpr a hh (by omega)
     exact⟨b1,o1,rfl,h1⟩
 rw[hk]at ha
 refine RN 1 ha hs λa ha=>?_
 rw[hade]at ha
 refine RN 2 ha hs λa ha=>?_
 refine SS ha (ld1 ha (hrd k (.int .u8 b[k].toNat) (by simp[bc,hkb]))) λa ha=>?_
 refine SX 0 ha hs (by have:=b[k].toNat_lt;exact wrap32' (by omega) (by omega)) λa ha=>?_
 refine RT 1 ha hs ?_
 refine⟨?_,hs⟩
 rw[pressI,if_pos (by omega),hk,Int.toNat_natCast,List.getD_eq_getElem?_getD,List.getElem?_eq_getElem hkb];rfl
theorem refDiv_spec {x y:Int}(hs:St W w L)(hx:i32P x)(hy:i32P y):Calls Tryz.prog 238 #[.int .i32 x,.int .i32 y] w λe w'=>e=.returned (.int .i32 (if y=0 then 0 else w32 (x.tdiv y)))∧St W w' L:=by
 simp only[i32P]at hx hy
 have hq:y≠0 → -9223372036854775808≤x.tdiv y∧x.tdiv y≤9223372036854775807:=λh=>by
   have h1:(x.tdiv y).natAbs≤x.natAbs:=by rw[Int.natAbs_tdiv];exact Nat.div_le_self _ _
   omega
 refine EN Tryz.func238 Tryz.ntmps238 rfl rfl λa ha=>?_
 refine IF 6 ha hs (λhc0 a ha=>?_) λhc0 a ha=>?_
 ·
  refine RT 2 ha hs ?_
  exact⟨by rw[if_pos hc0],hs⟩
 refine SX 2 ha hs (wrap_in (by omega) (by omega)) λa ha=>?_
 refine SX 1 ha hs (wrap_in (by omega) (by omega)) λa ha=>?_
 refine RN 0 ha hs λa ha=>?_
 refine SS ha (ex_quoW ha (by omega)) λa ha=>?_
 rw[wrap_in (hq hc0).1 (hq hc0).2]at ha
 refine CL 0 ha hs (refRound_spec hs (hq hc0).1 (hq hc0).2) λa w ha hs=>?_
 refine RT 1 ha hs ?_
 exact⟨by rw[if_neg hc0],hs⟩
theorem reckon_spec {k x y:Int}(hs:St W w L)(hx:i32P x)(hy:i32P y):Calls Tryz.prog 198 #[.int .i64 k,.int .i32 x,.int .i32 y] w λe w'=>e=.returned (.int .i32 (sumI k x y))∧St W w' L:=by
 have hx2:=hx
 have hy2:=hy
 simp only[i32P]at hx2 hy2
 have hmul:-9223372036854775808≤x*y∧x*y≤9223372036854775807:=by
   have h1:(x*y).natAbs≤2147483648*2147483648:=by rw[Int.natAbs_mul];exact Nat.mul_le_mul (by omega) (by omega)
   omega
 refine EN Tryz.func198 Tryz.ntmps198 rfl rfl λa ha=>?_
 refine IF 10 ha hs (λhc0 a ha=>?_) λhc0 a ha=>?_
 ·
  refine SX 2 ha hs (wrap_in (by omega) (by omega)) λa ha=>?_
  refine SX 1 ha hs (wrap_in (by omega) (by omega)) λa ha=>?_
  refine CL 1 ha hs (refRound_spec hs (by omega) (by omega)) λa w ha hs=>?_
  refine RT 1 ha hs ?_
  exact⟨by simp[sumI,hc0],hs⟩
 refine IF 3 ha hs (λhc1 a ha=>?_) λhc1 a ha=>?_
 ·
  refine SX 2 ha hs (wrap_in (by omega) (by omega)) λa ha=>?_
  refine SX 1 ha hs (wrap_in (by omega) (by omega)) λa ha=>?_
  refine CL 1 ha hs (refRound_spec hs (by omega) (by omega)) λa w ha hs=>?_
  refine RT 1 ha hs ?_
  exact⟨by simp[sumI,hc1],hs⟩
 refine IF 3 ha hs (λhc2 a ha=>?_) λhc2 a ha=>?_
 ·
  refine SX 2 ha hs (wrap_in (by omega) (by omega)) λa ha=>?_
  refine SX 1 ha hs (wrap_in (by omega) (by omega)) λa ha=>?_
  refine SX 0 ha hs ⟨(by first | exact hmul.1 | exact hmul.2),(by first | exact hmul.1 | exact hmul.2)⟩ λa ha=>?_
  refine CL 0 ha hs (refRound_spec hs hmul.1 hmul.2) λa w ha hs=>?_
  refine RT 1 ha hs ?_
  exact⟨by simp[sumI,hc2],hs⟩
 refine IF 3 ha hs (λhc3 a ha=>?_) λhc3 a ha=>?_
 ·
  refine CL 3 ha hs (refDiv_spec hs hx hy) λa w ha hs=>?_
  refine RT 1 ha hs ?_
  exact⟨by simp[sumI,hc3],hs⟩
 refine IF 3 ha hs (λhc4 a ha=>?_) λhc4 a ha=>?_
 ·
  refine IF 7 ha hs (λhc5 a ha=>?_) λhc5 a ha=>?_
  ·
   refine RT 2 ha hs ?_
   exact⟨by simp[sumI,hc4,hc5],hs⟩
  refine RT 2 ha hs ?_
  exact⟨by simp[sumI,hc4];omega,hs⟩
 refine IF 7 ha hs (λhc5 a ha=>?_) λhc5 a ha=>?_
 ·
  refine RT 2 ha hs ?_
  exact⟨by simp[sumI,hc0,hc1,hc2,hc3,hc4,hc5],hs⟩
 refine RT 2 ha hs ?_
 exact⟨by simp[sumI,hc0,hc1,hc2,hc3,hc4];omega,hs⟩
theorem ints_at {w:World}{bx j:Nat}{g:Nat→Int}(h:Rd w bx 0 (ints .i32 32 g))(hj:j<32):w.cell? ⟨bx,j,none⟩=some (.int .i32 (g j)):=by
 have:=h j _ (ints_get g hj)
 rwa [Nat.zero_add]at this
theorem refStep_spec (hs:St W w (RoP W p adO cO::L))(hpr:prOk p)(hsz:p.title.size≤1000000000)(hg:gOk g)(hb:b.length≤1099511627776)(hf:-4611686018427387904≤fr∧fr≤4611686018427387904)(hp:∀ w',St W w' L→RdB w' adP b.length b) :
   Calls Tryz.prog 132 #[.agg (prV p adO cO).toArray,.agg (ints .i32 32 g).toArray,.int .i64 fr,.slice adP b.length cP] w λe w'=>∃ n:Int,e=.returned (.tuple #[.agg (ints .i32 32 (frameI p fr b g)).toArray,.int .i64 n])∧gOk (frameI p fr b g)∧St W w' (RoP W p adO cO::L):=by
 have hol:p.ops.length≤64:=hpr.1.2.2.1
 refine EN Tryz.func132 Tryz.ntmps132 rfl rfl λa ha=>?_
 refine BX 1 ha hs λb4 a w ha hs=>?_
 change St W w (blk b4 34 (prV p adO cO)::_) at hs
 refine BX 0 ha hs λb5 a w ha hs=>?_
 change St W w (blk b5 63 (ints .i32 32 g)::_) at hs
 refine AL 0 ha hs λb8 a w ha hs=>?_
 change St W w (blk b8 63 (ints .i32 32 (λ_=>0))::_) at hs
 refine CL1 4 ha hs (refFault_spec (hs.pick (RoP W p adO cO)) hsz (by omega)) λr a w ha ⟨hr,hs⟩=>?_
 obtain rfl:r = -1:=hr.2 hpr
 refine RN 1 ha hs λa ha=>?_
 rw[show decide ((-1:Int) ≠ -1)=false from rfl]at ha
 replace ha:=ha.isF 18
 refine CL2 7 ha hs (refRunes_spec hs hsz) λadT cT a w ha hs=>?_
 refine RN 6 ha hs λa ha=>?_
 refine wp_loop_ghost (λμ a w=>∃ (n at':Nat) (g':Nat→Int),(μ=200-n∧n≤200∧at'≤p.ops.length∧gOk g'∧runI p fr b (200-n) g' at'=frameI p fr b g)∧Fr a 166 [(2,.int .i64 fr),(3,.slice adP b.length cP),(4,pt b4),(5,pt b5),(8,pt b8),(10,.int .i64 at'),(11,.int .i64 n),(12,.slice adT (runesAt p.title 0).length cT)]∧St W w (blk b5 63 (ints .i32 32 g')::blk b4 34 (prV p adO cO)::blk b8 63 (ints .i32 32 (λ_=>0))::Sl 21 1 adT (runesAt p.title 0).length cT (RI (runesAt p.title 0))::RoP W p adO cO::L)) (200) (⟨0,0,g,⟨by simp,by simp,by simp,hg,rfl⟩,ha.keep [2,3,4,5,8,10,11,12],hs.sub⟩) ?_
 clear ha hs
 rintro μ a w ⟨n,at',g',⟨rfl,hn,hat,hgo,hru⟩,ha,hs⟩
 refine BY 5 ha hs (λhg2 a ha=>?_) λhg2 a ha=>?_
 ·
  refine IF 6 ha hs (λhc1 a ha=>?_) λhc1 a ha=>?_
  ·
   obtain⟨o,ho⟩:∃ o,p.ops[at']?=some o:=⟨_,List.getElem?_eq_getElem (by omega)⟩
   obtain⟨bo,oo,rfl,hro⟩:=hs.roRd adO (by omega)
   have hst:=runI_step (p:=p) (fr:=fr) (b:=b) (g:=g') (n:=200-(n+1)) ho
   rw[show 200-(n+1)+1=200-n from by omega,hru]at hst
   have hok:=hpr.2 o (List.mem_of_getElem? ho)
   have hop:=hok
   simp only[okOp,cellP]at hop
   have ha9:o.code=9→LeN o.a p.ops.length:=λh=>LeN.of (by omega)
   have hac:o.code≠9→o.code≠0→LtN o.a 32:=λh h2=>LtN.of (by omega)
   have hb10:o.code=10→LeN o.b p.ops.length:=λh=>LeN.of (by omega)
   have hbc:o.code≠1→o.code≠15→o.code≠9→o.code≠10→o.code≠0→LtN o.b 32:=λ_ _ _ _ _=>LtN.of (by omega)
   have hcr:o.code≠0→o.code≠1→o.code≠2→o.code≠9→o.code≠10→o.code≠11→o.code≠12→o.code≠13→o.code≠14→o.code≠15→LtN o.c 32:=λ_ _ _ _ _ _ _ _ _ _=>LtN.of (by omega)
   clear hop
   refine RN 5 ha hs λa ha=>?_
   refine SS ha (ex_loadN ha Tryz.underlying119 rfl Ty.t119 (op_rd hro ho)) λa ha=>?_
   refine AL 0 ha hs λb14 a w ha hs=>?_
   refine SA 0 ha hs λa w ha hs=>?_
   refine IF 14 ha hs (λhc2 a ha=>?_) λhc2 a ha=>?_
   ·
    refine SA 3 ha hs λa w ha hs=>?_
    refine RT 1 ha hs ?_
    rw[show oneI p fr b g' at' o=(g',at'+1,false) from by rw[oneI,if_pos hc2]]at hst
    refine⟨_,by rw[hst];rfl,?_,hs.sub⟩
    rw[hst];exact hgo
   refine IF 3 ha hs (λhc3 a ha=>?_) λhc3 a ha=>?_
   ·
    obtain⟨an,han,hanl⟩:=hac (by omega) (by omega)
    refine RN 2 ha hs λa ha=>?_
    rw[han]at ha
    refine RN 2 ha hs λa ha=>?_
    refine SS ha (ex_convII ha Tryz.underlying3 Tryz.underlying21) λa ha=>?_
    refine ST 1 ha hs (λa w ha hs=>?_) (hlt:=(by rw[ints_len];omega))
    rw[ints_set,show (λi=>if i=an then IntKind.i32.wrap o.b else g' i)=upd g' (an) (w32 o.b) from rfl]at hs
    refine RN 0 ha hs λa ha=>?_
    have hone:oneI p fr b g' at' o=(upd g' (an) (w32 o.b),at'+1,true):=by
      rw[oneI,if_neg (by omega),if_neg (by omega),if_neg (by omega),if_neg (by omega),han,Int.toNat_natCast,valI,if_pos hc3]
    rw[hone]at hst
    exact⟨200-(n+1),by omega,n+1,at'+1,upd g' (an) (w32 o.b),⟨rfl,by omega,by omega,upd_ok hgo (w32_in _),hst.symm⟩,ha.keep [2,3,4,5,8,10,11,12],hs.sub⟩
   refine IF 3 ha hs (λhc4 a ha=>?_) λhc4 a ha=>?_
   ·
    refine RN 0 ha hs λa ha=>?_
    obtain⟨an,han,hanl⟩:=hac (by omega) (by omega)
    obtain⟨bn,hbn,hbnl⟩:=hbc (by omega) (by omega) (by omega) (by omega) (by omega)
    refine DWC 0 (λw0 w'=>Rd w' b14 0 (opR o)∧Rd w' b5 0 (ints .i32 32 g')) [3,4,5] [0,2,3001,1003,1004,1005,6,1007] ha hs λa w ha hs hH=>?_
    have hC:=hH.at w ⟨hs.rdAll,hs.rdAll⟩
    refine RH 2 ha hs hH hC λa ha=>?_
    refine QH ha (λw hc=>ld1 ha (hc.1 1 _ rfl)) hC λa ha=>?_
    rw[han]at ha
    refine RH 0 ha hs hH hC λa ha=>?_
    refine SS ha (ld1 ha (hC.1 2 _ rfl)) λa ha=>?_
    rw[hbn]at ha
    refine RH 1 ha hs hH hC λa ha=>?_
    refine SS ha (ld1 ha (ints_at hC.2 hbnl)) λa ha=>?_
    refine RH 1 ha hs hH hC λa ha=>?_
    refine ST 0 ha hs (λa w ha hs=>?_) (hlt:=(by rw[ints_len];omega))
    rw[ints_set,show (λi=>if i=an then g' bn else g' i)=upd g' (an) (g' bn) from rfl]at hs
    refine RN 0 ha hs λa ha=>?_
    have hone:oneI p fr b g' at' o=(upd g' (an) (g' bn),at'+1,true):=by
      rw[oneI,if_neg (by omega),if_neg (by omega),if_neg (by omega),if_neg (by omega),han,Int.toNat_natCast,valI,if_neg (by omega),if_pos hc4,hbn,Int.toNat_natCast]
    rw[hone]at hst
    exact⟨200-(n+1),by omega,n+1,at'+1,upd g' (an) (g' bn),⟨rfl,by omega,by omega,upd_ok hgo (hgo _ hbnl),hst.symm⟩,ha.keep [2,3,4,5,8,10,11,12],hs.sub⟩
   refine IF 3 ha hs (λhc5 a ha=>?_) λhc5 a ha=>?_
   ·
    obtain⟨an,han,hanl⟩:=ha9 hc5
    refine RN 2 ha hs λa ha=>?_
    rw[han]at ha
    refine RN 1 ha hs λa ha=>?_
    have hone:oneI p fr b g' at' o=(g',an,true):=by
      rw[oneI,if_neg (by omega),if_pos hc5,han,Int.toNat_natCast]
    rw[hone]at hst
    exact⟨200-(n+1),by omega,n+1,an,g',⟨rfl,by omega,by omega,hgo,hst.symm⟩,ha.keep [2,3,4,5,8,10,11,12],hs.sub⟩
   refine IF 3 ha hs (λhc6 a ha=>?_) λhc6 a ha=>?_
   ·
    refine RN 1 ha hs λa ha=>?_
    obtain⟨an,han,hanl⟩:=hac (by omega) (by omega)
    refine RN 2 ha hs λa ha=>?_
    rw[han]at ha
    refine RN 1 ha hs λa ha=>?_
    refine SS ha (ld1 ha ((ints_at hs.rdAll hanl))) λa ha=>?_
    refine IF 1 ha hs (λhc7 a ha=>?_) λhc7 a ha=>?_
    ·
     obtain⟨bn,hbn,hbnl⟩:=hb10 hc6
     refine RN 2 ha hs λa ha=>?_
     rw[hbn]at ha
     refine RN 1 ha hs λa ha=>?_
     have hone:oneI p fr b g' at' o=(g',bn,true):=by
       rw[oneI,if_neg (by omega),if_neg (by omega),if_pos hc6,han,Int.toNat_natCast,if_pos hc7,hbn,Int.toNat_natCast]
     rw[hone]at hst
     exact⟨200-(n+1),by omega,n+1,bn,g',⟨rfl,by omega,by omega,hgo,hst.symm⟩,ha.keep [2,3,4,5,8,10,11,12],hs.sub⟩
    refine RN 0 ha hs λa ha=>?_
    have hone:oneI p fr b g' at' o=(g',at'+1,true):=by
      rw[oneI,if_neg (by omega),if_neg (by omega),if_pos hc6,han,Int.toNat_natCast,if_neg hc7]
    rw[hone]at hst
    exact⟨200-(n+1),by omega,n+1,at'+1,g',⟨rfl,by omega,by omega,hgo,hst.symm⟩,ha.keep [2,3,4,5,8,10,11,12],hs.sub⟩
   refine IF 3 ha hs (λhc8 a ha=>?_) λhc8 a ha=>?_
   ·
    refine RN 0 ha hs λa ha=>?_
    obtain⟨an,han,hanl⟩:=hac (by omega) (by omega)
    obtain⟨bn,hbn,hbnl⟩:=hbc (by omega) (by omega) (by omega) (by omega) (by omega)
    refine DWC 0 (λw0 w'=>Rd w' b14 0 (opR o)∧Rd w' b5 0 (ints .i32 32 g')) [4,5,6,7] [0,2,3,3001,1004,1005,1006,1007,8,1009] ha hs λa w ha hs hH=>?_
    have hC:=hH.at w ⟨hs.rdAll,hs.rdAll⟩
    refine RH 3 ha hs hH hC λa ha=>?_
    refine QH ha (λw hc=>ld1 ha (hc.1 1 _ rfl)) hC λa ha=>?_
    rw[han]at ha
    refine RH 0 ha hs hH hC λa ha=>?_
    refine SS ha (ld1 ha (hC.1 2 _ rfl)) λa ha=>?_
    rw[hbn]at ha
    refine RH 1 ha hs hH hC λa ha=>?_
    refine SS ha (ld1 ha (ints_at hC.2 hbnl)) λa ha=>?_
    refine RH 0 ha hs hH hC λa ha=>?_
    refine CL 0 ha hs (pressed_spec hs (hgo _ hbnl) hb (λw' h=>hp w' h.sub)) λa w ha hs=>?_
    replace hC:=hH.at w ⟨hs.rdAll,hs.rdAll⟩
    refine RH 1 ha hs hH hC λa ha=>?_
    refine ST 0 ha hs (λa w ha hs=>?_) (hlt:=(by rw[ints_len];omega))
    rw[ints_set,show (λi=>if i=an then pressI b (g' bn) else g' i)=upd g' (an) (pressI b (g' bn)) from rfl]at hs
    refine RN 0 ha hs λa ha=>?_
    have hone:oneI p fr b g' at' o=(upd g' (an) (pressI b (g' bn)),at'+1,true):=by
      rw[oneI,if_neg (by omega),if_neg (by omega),if_neg (by omega),if_neg (by omega),han,Int.toNat_natCast,valI,if_neg (by omega),if_neg (by omega),if_pos hc8,hbn,Int.toNat_natCast]
    rw[hone]at hst
    exact⟨200-(n+1),by omega,n+1,at'+1,upd g' (an) (pressI b (g' bn)),⟨rfl,by omega,by omega,upd_ok hgo (pressI_ok _ _),hst.symm⟩,ha.keep [2,3,4,5,8,10,11,12],hs.sub⟩
   refine IF 3 ha hs (λhc9 a ha=>?_) λhc9 a ha=>?_
   ·
    refine RN 0 ha hs λa ha=>?_
    obtain⟨an,han,hanl⟩:=hac (by omega) (by omega)
    obtain⟨bn,hbn,hbnl⟩:=hbc (by omega) (by omega) (by omega) (by omega) (by omega)
    have hm32:=mod32_lt (g' bn)
    refine DWC 0 (λw0 w'=>Rd w' b14 0 (opR o)∧Rd w' b5 0 (ints .i32 32 g')) [3,4,5,6,7,8] [0,2,3001,1003,1004,1005,1006,1007,1008,9,1010] ha hs λa w ha hs hH=>?_
    have hC:=hH.at w ⟨hs.rdAll,hs.rdAll⟩
    refine RH 2 ha hs hH hC λa ha=>?_
    refine QH ha (λw hc=>ld1 ha (hc.1 1 _ rfl)) hC λa ha=>?_
    rw[han]at ha
    refine RH 0 ha hs hH hC λa ha=>?_
    refine SS ha (ld1 ha (hC.1 2 _ rfl)) λa ha=>?_
    rw[hbn]at ha
    refine RH 1 ha hs hH hC λa ha=>?_
    refine SS ha (ld1 ha (ints_at hC.2 hbnl)) λa ha=>?_
    refine RH 0 ha hs hH hC λa ha=>?_
    refine CL 0 ha hs (refMod_spec hs (hgo _ hbnl)) λa w ha hs=>?_
    replace hC:=hH.at w ⟨hs.rdAll,hs.rdAll⟩
    refine RH 1 ha hs hH hC λa ha=>?_
    refine SS ha (ld1 ha (ints_at hC.2 hm32)) λa ha=>?_
    refine RH 1 ha hs hH hC λa ha=>?_
    refine ST 0 ha hs (λa w ha hs=>?_) (hlt:=(by rw[ints_len];omega))
    rw[ints_set,show (λi=>if i=an then g' (mod32 (g' bn)) else g' i)=upd g' (an) (g' (mod32 (g' bn))) from rfl]at hs
    refine RN 0 ha hs λa ha=>?_
    have hone:oneI p fr b g' at' o=(upd g' (an) (g' (mod32 (g' bn))),at'+1,true):=by
      rw[oneI,if_neg (by omega),if_neg (by omega),if_neg (by omega),if_neg (by omega),han,Int.toNat_natCast,valI,if_neg (by omega),if_neg (by omega),if_neg (by omega),if_pos hc9,hbn,Int.toNat_natCast]
    rw[hone]at hst
    exact⟨200-(n+1),by omega,n+1,at'+1,upd g' (an) (g' (mod32 (g' bn))),⟨rfl,by omega,by omega,upd_ok hgo (hgo _ hm32),hst.symm⟩,ha.keep [2,3,4,5,8,10,11,12],hs.sub⟩
   refine IF 3 ha hs (λhc10 a ha=>?_) λhc10 a ha=>?_
   ·
    refine RN 0 ha hs λa ha=>?_
    obtain⟨an,han,hanl⟩:=hac (by omega) (by omega)
    obtain⟨bn,hbn,hbnl⟩:=hbc (by omega) (by omega) (by omega) (by omega) (by omega)
    have hm32:=mod32_lt (g' an)
    refine DWC 0 (λw0 w'=>Rd w' b14 0 (opR o)∧Rd w' b5 0 (ints .i32 32 g')) [4,6,7,8] [0,5,3001,2,3003,3006,3007,3008,1004,9,1010] ha hs λa w ha hs hH=>?_
    have hC:=hH.at w ⟨hs.rdAll,hs.rdAll⟩
    refine RH 2 ha hs hH hC λa ha=>?_
    refine QH ha (λw hc=>ld1 ha (hc.1 1 _ rfl)) hC λa ha=>?_
    rw[han]at ha
    refine RH 1 ha hs hH hC λa ha=>?_
    refine QH ha (λw hc=>ld1 ha (ints_at hc.2 hanl)) hC λa ha=>?_
    refine QH ha (λw hc=>ld1 ha (hc.1 2 _ rfl)) hC λa ha=>?_
    rw[hbn]at ha
    refine RH 1 ha hs hH hC λa ha=>?_
    refine QH ha (λw hc=>ld1 ha (ints_at hc.2 hbnl)) hC λa ha=>?_
    refine RH 0 ha hs hH hC λa ha=>?_
    refine CL 0 ha hs (refMod_spec hs (hgo _ hanl)) λa w ha hs=>?_
    replace hC:=hH.at w ⟨hs.rdAll,hs.rdAll⟩
    refine RH 1 ha hs hH hC λa ha=>?_
    refine ST 0 ha hs (λa w ha hs=>?_) (hlt:=(by rw[ints_len];omega))
    rw[ints_set,show (λi=>if i=mod32 (g' an) then g' bn else g' i)=upd g' (mod32 (g' an)) (g' bn) from rfl]at hs
    refine RN 0 ha hs λa ha=>?_
    have hone:oneI p fr b g' at' o=(upd g' (mod32 (g' an)) (g' bn),at'+1,true):=by
      rw[oneI,if_neg (by omega),if_neg (by omega),if_neg (by omega),if_pos hc10,han,Int.toNat_natCast,hbn,Int.toNat_natCast]
    rw[hone]at hst
    exact⟨200-(n+1),by omega,n+1,at'+1,upd g' (mod32 (g' an)) (g' bn),⟨rfl,by omega,by omega,upd_ok hgo (hgo _ hbnl),hst.symm⟩,ha.keep [2,3,4,5,8,10,11,12],hs.sub⟩
   refine IF 3 ha hs (λhc11 a ha=>?_) λhc11 a ha=>?_
   ·
    refine RN 1 ha hs λa ha=>?_
    obtain⟨an,han,hanl⟩:=hac (by omega) (by omega)
    obtain⟨bn,hbn,hbnl⟩:=hbc (by omega) (by omega) (by omega) (by omega) (by omega)
    have hgb:=hgo _ hbnl
    have hgb2:=hgb
    simp only[i32P]at hgb2
    refine RN 5 ha hs λa ha=>?_
    rw[hbn]at ha
    refine RN 1 ha hs λa ha=>?_
    refine SS ha (ld1 ha ((ints_at hs.rdAll hbnl))) λa ha=>?_
    refine BY 2 ha hs (λhg5 a ha=>?_) λhg5 a ha=>?_
    ·
     refine RN 2 ha hs λa ha=>?_
     rw[hbn]at ha
     refine RN 1 ha hs λa ha=>?_
     refine st_set ha (wgT ha rfl (s:=136)) (ld1 ha ((ints_at hs.rdAll hbnl))) rfl λa ha=>?_
     refine SX 0 ha hs (wrap_in (by omega) (by omega)) λa ha=>?_
     refine IF 4 ha hs (λhc12 a ha=>?_) λhc12 a ha=>?_
     ·
      obtain⟨rn,hrn⟩:∃ rn:Nat,g' bn=rn:=⟨(g' bn).toNat,by omega⟩
      obtain⟨bT,oT,rfl,hrT⟩:=hs.slRd adT (by omega)
      obtain⟨xr,hxr⟩:∃ xr,(runesAt p.title 0)[rn]?=some xr:=⟨_,List.getElem?_eq_getElem (by omega)⟩
      refine RN 3 ha hs λa ha=>?_
      rw[hbn]at ha
      refine RN 1 ha hs λa ha=>?_
      refine SS ha (ld1 ha ((ints_at hs.rdAll hbnl))) λa ha=>?_
      rw[hrn]at ha
      refine RN 1 ha hs λa ha=>?_
      refine SS ha (ld1 ha ((hrT rn _ (RI_at hxr)))) λa ha=>?_
      refine RN 1 ha hs λa ha=>?_
      have hri:runeI p.title (g' bn)=xr.1:=by rw[runeI,if_pos (by omega),hrn,Int.toNat_natCast,hxr];rfl
      rw[← hri]at ha
      refine RN 2 ha hs λa ha=>?_
      rw[han]at ha
      refine ST 2 ha hs (λa w ha hs=>?_) (hlt:=(by rw[ints_len];omega))
      rw[ints_set,show (λi=>if i=an then runeI p.title (g' bn) else g' i)=upd g' an (runeI p.title (g' bn)) from rfl]at hs
      refine RN 0 ha hs λa ha=>?_
      have hone:oneI p fr b g' at' o=(upd g' an (runeI p.title (g' bn)),at'+1,true):=by
        rw[oneI,if_neg (by omega),if_neg (by omega),if_neg (by omega),if_neg (by omega),han,Int.toNat_natCast,valI,if_neg (by omega),if_neg (by omega),if_neg (by omega),if_neg (by omega),if_pos hc11,hbn,Int.toNat_natCast]
      rw[hone]at hst
      exact⟨200-(n+1),by omega,n+1,at'+1,upd g' an (runeI p.title (g' bn)),⟨rfl,by omega,by omega,upd_ok hgo (runeI_ok _ _),hst.symm⟩,ha.keep [2,3,4,5,8,10,11,12],hs.sub⟩
     refine RN 0 ha hs λa ha=>?_
     have hri0:True:=trivial
     refine RN 2 ha hs λa ha=>?_
     rw[han]at ha
     refine ST 2 ha hs (λa w ha hs=>?_) (hlt:=(by rw[ints_len];omega))
     rw[ints_set,show (λi=>if i=an then 0 else g' i)=upd g' an 0 from rfl]at hs
     refine RN 0 ha hs λa ha=>?_
     have hone:oneI p fr b g' at' o=(upd g' an 0,at'+1,true):=by
       rw[oneI,if_neg (by omega),if_neg (by omega),if_neg (by omega),if_neg (by omega),han,Int.toNat_natCast,valI,if_neg (by omega),if_neg (by omega),if_neg (by omega),if_neg (by omega),if_pos hc11,hbn,Int.toNat_natCast,runeI,if_pos (by omega),List.getElem?_eq_none (by omega)];rfl
     rw[hone]at hst
     exact⟨200-(n+1),by omega,n+1,at'+1,upd g' an 0,⟨rfl,by omega,by omega,upd_ok hgo (by simp[i32P]),hst.symm⟩,ha.keep [2,3,4,5,8,10,11,12],hs.sub⟩
    refine RN 12 ha hs λa ha=>?_
    rw[han]at ha
    refine ST 2 ha hs (λa w ha hs=>?_) (hlt:=(by rw[ints_len];omega))
    rw[ints_set,show (λi=>if i=an then 0 else g' i)=upd g' an 0 from rfl]at hs
    refine RN 0 ha hs λa ha=>?_
    have hone:oneI p fr b g' at' o=(upd g' an 0,at'+1,true):=by
      rw[oneI,if_neg (by omega),if_neg (by omega),if_neg (by omega),if_neg (by omega),han,Int.toNat_natCast,valI,if_neg (by omega),if_neg (by omega),if_neg (by omega),if_neg (by omega),if_pos hc11,hbn,Int.toNat_natCast,runeI,if_neg (by omega)]
    rw[hone]at hst
    exact⟨200-(n+1),by omega,n+1,at'+1,upd g' an 0,⟨rfl,by omega,by omega,upd_ok hgo (by simp[i32P]),hst.symm⟩,ha.keep [2,3,4,5,8,10,11,12],hs.sub⟩
   refine IF 3 ha hs (λhc13 a ha=>?_) λhc13 a ha=>?_
   ·
    refine RN 0 ha hs λa ha=>?_
    obtain⟨an,han,hanl⟩:=hac (by omega) (by omega)
    refine DWC 0 (λw0 w'=>Rd w' b14 0 (opR o)∧Rd w' b5 0 (ints .i32 32 g')) [3] [0,2,3001,1003,4,1005] ha hs λa w ha hs hH=>?_
    have hC:=hH.at w ⟨hs.rdAll,hs.rdAll⟩
    refine RH 2 ha hs hH hC λa ha=>?_
    refine QH ha (λw hc=>ld1 ha (hc.1 1 _ rfl)) hC λa ha=>?_
    rw[han]at ha
    refine RH 0 ha hs hH hC λa ha=>?_
    refine CL 0 ha hs (refRound_spec hs (by omega) (by omega)) λa w ha hs=>?_
    replace hC:=hH.at w ⟨hs.rdAll,hs.rdAll⟩
    refine RH 1 ha hs hH hC λa ha=>?_
    refine ST 0 ha hs (λa w ha hs=>?_) (hlt:=(by rw[ints_len];omega))
    rw[ints_set,show (λi=>if i=an then w32 fr else g' i)=upd g' (an) (w32 fr) from rfl]at hs
    refine RN 0 ha hs λa ha=>?_
    have hone:oneI p fr b g' at' o=(upd g' (an) (w32 fr),at'+1,true):=by
      rw[oneI,if_neg (by omega),if_neg (by omega),if_neg (by omega),if_neg (by omega),han,Int.toNat_natCast,valI,if_neg (by omega),if_neg (by omega),if_neg (by omega),if_neg (by omega),if_neg (by omega),if_pos hc13]
    rw[hone]at hst
    exact⟨200-(n+1),by omega,n+1,at'+1,upd g' (an) (w32 fr),⟨rfl,by omega,by omega,upd_ok hgo (w32_in _),hst.symm⟩,ha.keep [2,3,4,5,8,10,11,12],hs.sub⟩
   refine RN 0 ha hs λa ha=>?_
   obtain⟨an,han,hanl⟩:=hac (by omega) (by omega)
   obtain⟨bn,hbn,hbnl⟩:=hbc (by omega) (by omega) (by omega) (by omega) (by omega)
   obtain⟨cn,hcn,hcnl⟩:=hcr (by omega) (by omega) (by omega) (by omega) (by omega) (by omega) (by omega) (by omega) (by omega) (by omega)
   refine DWC 0 (λw0 w'=>Rd w' b14 0 (opR o)∧Rd w' b5 0 (ints .i32 32 g')) [3,5,6,7,9,10,11,12] [0,2,4,8,3001,3003,3005,3006,3007,1009,1010,1011,1012,13,1014] ha hs λa w ha hs hH=>?_
   have hC:=hH.at w ⟨hs.rdAll,hs.rdAll⟩
   refine RH 4 ha hs hH hC λa ha=>?_
   refine QH ha (λw hc=>ld1 ha (hc.1 1 _ rfl)) hC λa ha=>?_
   rw[han]at ha
   refine RH 0 ha hs hH hC λa ha=>?_
   refine QH ha (λw hc=>ld1 ha (hc.1 0 _ rfl)) hC λa ha=>?_
   refine QH ha (λw hc=>ld1 ha (hc.1 2 _ rfl)) hC λa ha=>?_
   rw[hbn]at ha
   refine RH 1 ha hs hH hC λa ha=>?_
   refine QH ha (λw hc=>ld1 ha (ints_at hc.2 hbnl)) hC λa ha=>?_
   refine RH 0 ha hs hH hC λa ha=>?_
   refine SS ha (ld1 ha (hC.1 3 _ rfl)) λa ha=>?_
   rw[hcn]at ha
   refine RH 1 ha hs hH hC λa ha=>?_
   refine SS ha (ld1 ha (ints_at hC.2 hcnl)) λa ha=>?_
   refine RH 0 ha hs hH hC λa ha=>?_
   refine CL 0 ha hs (reckon_spec hs (hgo _ hbnl) (hgo _ hcnl)) λa w ha hs=>?_
   replace hC:=hH.at w ⟨hs.rdAll,hs.rdAll⟩
   refine RH 1 ha hs hH hC λa ha=>?_
   refine ST 0 ha hs (λa w ha hs=>?_) (hlt:=(by rw[ints_len];omega))
   rw[ints_set,show (λi=>if i=an then sumI o.code (g' bn) (g' cn) else g' i)=upd g' (an) (sumI o.code (g' bn) (g' cn)) from rfl]at hs
   refine RN 0 ha hs λa ha=>?_
   have hone:oneI p fr b g' at' o=(upd g' (an) (sumI o.code (g' bn) (g' cn)),at'+1,true):=by
     rw[oneI,if_neg (by omega),if_neg (by omega),if_neg (by omega),if_neg (by omega),han,Int.toNat_natCast,valI,if_neg (by omega),if_neg (by omega),if_neg (by omega),if_neg (by omega),if_neg (by omega),if_neg (by omega),hbn,Int.toNat_natCast,hcn,Int.toNat_natCast]
   rw[hone]at hst
   exact⟨200-(n+1),by omega,n+1,at'+1,upd g' (an) (sumI o.code (g' bn) (g' cn)),⟨rfl,by omega,by omega,upd_ok hgo (sumI_ok _ _ _),hst.symm⟩,ha.keep [2,3,4,5,8,10,11,12],hs.sub⟩
  refine SA 3 ha hs λa w ha hs=>?_
  refine RT 1 ha hs ?_
  rw[runI_end (by omega)]at hru
  exact⟨_,by rw[← hru],by rw[← hru];exact hgo,hs.sub⟩
 refine SA 10 ha hs λa w ha hs=>?_
 refine RT 1 ha hs ?_
 rw[show 200-n=0 from by omega]at hru
 exact⟨_,by rw[← hru];rfl,by rw[← hru];exact hgo,hs.sub⟩
theorem refFold_spec {P:List (List UInt8)}{zs:List BBx}(hs:St W w (RoP W p adO cO::L))(hpr:prOk p)(hsz:p.title.size≤1000000000)(hg:gOk g)(hP:P.length≤65536∧∀ b∈P,b.length≤1099511627776)(hz:zs.map (·.2.2)=P)(hf:-1099511627776≤fr∧fr≤1099511627776)(hp:∀ w',St W w' L→RdX w' adP zs) :
   Calls Tryz.prog 66 #[.agg (prV p adO cO).toArray,.agg (ints .i32 32 g).toArray,.int .i64 fr,.slice adP P.length cP] w λe w'=>e=.returned (.agg (ints .i32 32 (foldI p fr g P)).toArray)∧gOk (foldI p fr g P)∧St W w' (RoP W p adO cO::L):=by
 have hzl:zs.length=P.length:=by rw[← hz,List.length_map]
 have hPl:=hP.1
 refine EN Tryz.func66 Tryz.ntmps66 rfl rfl λa ha=>?_
 refine BX 1 ha hs λb4 a w ha hs=>?_
 change St W w (blk b4 34 (prV p adO cO)::_) at hs
 refine BX 0 ha hs λb5 a w ha hs=>?_
 change St W w (blk b5 63 (ints .i32 32 g)::_) at hs
 refine AL 0 ha hs λb8 a w ha hs=>?_
 change St W w (blk b8 63 (ints .i32 32 (λ_=>0))::_) at hs
 refine RN 3 ha hs λa ha=>?_
 refine wp_loop_ghost (λμ a w=>∃ (i:Nat) (g':Nat→Int),(μ=P.length-i∧i≤P.length∧gOk g'∧foldI p fr g P=foldI p (fr+i) g' (P.drop i))∧Fr a 33 [(2,.int .i64 fr),(3,.slice adP P.length cP),(4,pt b4),(5,pt b5),(8,pt b8),(9,.int .i64 i)]∧St W w (blk b5 63 (ints .i32 32 g')::blk b4 34 (prV p adO cO)::blk b8 63 (ints .i32 32 (λ_=>0))::RoP W p adO cO::L)) (P.length) (⟨0,g,⟨by simp,by simp,hg,by simp⟩,ha.keep [2,3,4,5,8,9],hs.sub⟩) ?_
 clear ha hs
 rintro μ a w ⟨i,g',⟨rfl,hi,hgo,hfo⟩,ha,hs⟩
 refine IF 6 ha hs (λhc0 a ha=>?_) λhc0 a ha=>?_
 ·
  have hzi:zs[i]?=some (zs[i]'(by omega)):=List.getElem?_eq_getElem (by omega)
  obtain⟨z,hze⟩:∃ z,zs[i]'(by omega)=z:=⟨_,rfl⟩
  rw[hze]at hzi
  have hPi:P[i]?=some z.2.2:=by rw[← hz,List.getElem?_map,hzi];rfl
  have hrx:=hp _ (hs.sub (M:=L))
  obtain⟨bp,op,hade,hrd⟩:=hrx.1 (by omega)
  have hcl:∀ w',St W w' L→w'.cell? ⟨bp,op+i,none⟩=some (bbv z):=λw' h=>by
    obtain⟨b',o',h1,h2⟩:=(hp w' h).1 (by omega)
    rw[hade]at h1
    cases h1
    exact h2 i _ (by rw[List.getElem?_map,hzi];rfl)
  clear hrd hrx
  have hzb:∀ w',St W w' L→RdB w' z.1 z.2.2.length z.2.2:=λw' h=>(hp w' h).2 z (List.mem_of_getElem? hzi)
  have hfo2:foldI p fr g P=foldI p (fr+(i+1:Nat)) (frameI p (fr+i) z.2.2 g') (P.drop (i+1)):=by
    rw[hfo,List.drop_eq_getElem_cons (by omega),foldI]
    have:P[i]'(by omega)=z.2.2:=by rw[List.getElem?_eq_getElem (by omega)]at hPi;exact Option.some.inj hPi
    rw[this]
    congr 1
    omega
  refine RN 1 ha hs λa ha=>?_
  refine wp_seq_cut (M:=λa w=>∃ b10:Nat,gOk (frameI p (fr+i) z.2.2 g')∧Fr a 33 [(2,.int .i64 fr),(3,.slice adP P.length cP),(4,pt b4),(5,pt b5),(8,pt b8),(9,.int .i64 i),(10,pt b10)]∧St W w (blk b10 63 (ints .i32 32 (frameI p (fr+i) z.2.2 g'))::blk b5 63 (ints .i32 32 g')::blk b4 34 (prV p adO cO)::blk b8 63 (ints .i32 32 (λ_=>0))::RoP W p adO cO::L)) ?_ ?_
  ·
   refine DWC 0 (λw0 w'=>Rd w' b4 0 (prV p adO cO)∧Rd w' b5 0 (ints .i32 32 g')∧w'.cell? ⟨bp,op+i,none⟩=some (bbv z)) [1,8,13] [2,3,4,5,6,7,3000,3001,3008,2009,10,11,12,1013,1014,15] ha hs λa w ha hs hH=>?_
   have hC:=hH.at w ⟨hs.rdAll,hs.rdAll,hcl _ hs.sub⟩
   refine RH 5 ha hs hH hC λa ha=>?_
   rw[hade]at ha
   refine RH 1 ha hs hH hC λa ha=>?_
   refine QH ha (λw hc=>ex_loadN ha Tryz.underlying34 rfl Ty.t34 (hc.1)) hC λa ha=>?_
   refine QH ha (λw hc=>ex_loadN ha Tryz.underlying63 rfl Ty.t63 (hc.2.1)) hC λa ha=>?_
   refine QH ha (λw hc=>ld1 ha (hc.2.2)) hC λa ha=>?_
   refine RH 0 ha hs hH hC λa ha=>?_
   refine DN [(9,[10,11,12,1013,1014,15]),(13,[1009,10,11,12,1014,15])] (by kernel_rfl) rfl ⟨⟨_,rfl,?_⟩,⟨_,rfl,?_⟩,trivial⟩
   ·
    refine RH 0 ha hs hH hC λa ha=>?_
    refine CL1 0 ha hs (refStep_spec (hs.pick (RoP W p adO cO)) hpr hsz hgo (hP.2 _ (List.mem_of_getElem? hPi)) (by omega) (λw' h=>hzb w' h.sub)) λn2 a w ha ⟨hg2,hs⟩=>?_
    refine RN 3 ha hs λa ha=>?_
    refine st_alloc ha rfl hs Ty.t63 rfl λb10 a w ha hs ho=>?_
    clear ho
    replace hC:=hH.at w ⟨hs.rdAll,hs.rdAll,hcl _ hs.sub⟩
    change St W w (blk b10 63 (ints .i32 32 (λ_=>0))::_) at hs
    refine RH 0 ha hs hH hC λa ha=>?_
    refine SA 0 ha hs λa w ha hs=>?_
    refine RN 1 ha hs λa ha=>?_
    rw[← hade]at ha
    exact⟨_,hg2,ha.keep [2,3,4,5,8,9,10],hs.sub⟩
   refine RH 0 ha hs hH hC λa ha=>?_
   refine st_alloc ha rfl hs Ty.t63 rfl λb10 a w ha hs ho=>?_
   clear ho
   replace hC:=hH.at w ⟨hs.rdAll,hs.rdAll,hcl _ hs.sub⟩
   change St W w (blk b10 63 (ints .i32 32 (λ_=>0))::_) at hs
   refine RH 0 ha hs hH hC λa ha=>?_
   refine CL1 0 ha hs (refStep_spec (hs.pick (RoP W p adO cO)) hpr hsz hgo (hP.2 _ (List.mem_of_getElem? hPi)) (by omega) (λw' h=>hzb w' h.sub)) λn2 a w ha ⟨hg2,hs⟩=>?_
   refine SA 3 ha hs λa w ha hs=>?_
   refine RN 1 ha hs λa ha=>?_
   rw[← hade]at ha
   exact⟨_,hg2,ha.keep [2,3,4,5,8,9,10],hs.sub⟩
  clear ha;(try clear hs)
  rintro a w ⟨b10,hg2,ha,hs⟩
  refine SA 1 ha hs λa w ha hs=>?_
  refine RN 3 ha hs λa ha=>?_
  exact⟨P.length-(i+1),by omega,i+1,_,⟨rfl,by omega,hg2,hfo2⟩,ha.keep [2,3,4,5,8,9],hs.sub⟩
 refine RN 1 ha hs λa ha=>?_
 obtain rfl:i=P.length:=by omega
 rw[List.drop_length,foldI]at hfo
 refine SA 1 ha hs λa w ha hs=>?_
 refine RT 0 ha hs ?_
 exact⟨by rw[hfo],by rw[hfo];exact hgo,hs.sub⟩
end
end
section
section
variable {P:Program}{a:Act}{w:World}{n:Nat}{l:List (Nat×Value)}
theorem ex_neqS {x y i j t u dst ty ps af g}(ha:Fr a n l)[e:Ev l x (.string i)][f:Ev l y (.string j)] :
   (execOp a.eval ⟨dst,.binOp .neq t x y u,ty,ps,af,g⟩).run P w=.ok (.value (.bool (!(i.data.toList==j.data.toList)))) w:=by
 simp[execOp,e.ev a n ha,f.ev a n ha,eqGuard,binOp,Op.stringOp,ByteArray.toList_eq]
end
def cutT (s:ByteArray)(n:Nat):ByteArray:=if n<s.size then s.extract 0 n else s
theorem cutT_le (s:ByteArray)(n:Nat):(cutT s n).size≤n:=by
 unfold cutT
 split
 · rw[ByteArray.size_extract];omega
 · omega
def cutP (K:Nat)(p:Pr):Pr:=⟨cutT p.title 40,p.ops.take K⟩
theorem cutP_ok {K:Nat}(hK:K≤1000)(p:Pr):(cutP K p).title.size≤1000000000∧(cutP K p).ops.length≤1000000000:=by
 refine⟨Nat.le_trans (cutT_le _ _) (by decide),?_⟩
 simp only[cutP,List.length_take];omega
section
variable {W w:World}{L:List SP}{n cO:Nat}{adO:Option Addr}{p:Pr}
theorem cut1_spec {s:ByteArray}{n:Nat}(hs:St W w L):Calls Tryz.prog 100 #[.string s,.int .i64 n] w λe w'=>e=.returned (.string (cutT s n))∧St W w' L:=by
 refine EN Tryz.func100 Tryz.ntmps100 rfl rfl λa ha=>?_
 refine IF 8 ha hs (λhc0 a ha=>?_) λhc0 a ha=>?_
 ·
  refine RN 3 ha hs λa ha=>?_
  refine SS ha (ex_sliceSH ha Tryz.underlying9 (by omega)) λa ha=>?_
  refine RT 1 ha hs ?_
  exact⟨by rw[cutT,if_pos (by omega)],hs⟩
 refine RT 3 ha hs ?_
 exact⟨by rw[cutT,if_neg (by omega)],hs⟩
theorem rows_takeO (K:Nat)(ops:List OpR):(rows opR ops).take (K*4)=rows opR (ops.take K):=rows_take opR_len ops K
theorem cut5_spec {K:Nat}(hs:St W w (RoP W p adO cO::L)):Calls Tryz.prog 43 #[.agg (prV p adO cO).toArray,.int .i64 K] w λe w'=>e=.returned (.agg (prV (cutP K p) adO cO).toArray)∧St W w' (RoP W (cutP K p) adO cO::L):=by
 have hco:=(hs.ro adO).2
 refine EN Tryz.func43 Tryz.ntmps43 rfl rfl λa ha=>?_
 refine BX 1 ha hs λb2 a w ha hs=>?_
 change St W w (blk b2 34 (prV p adO cO)::_) at hs
 refine AL 0 ha hs λb4 a w ha hs=>?_
 refine CL 3 ha hs (cut1_spec (n:=40) hs) λa w ha hs=>?_
 refine ST 1 ha hs (λa w ha hs=>?_) (hlt:=(by simp[prV]))
 change St W w (blk b2 34 [.string (cutT p.title 40),.slice adO p.ops.length cO]::_) at hs
 refine IF 7 ha hs (λhc0 a ha=>?_) λhc0 a ha=>?_
 ·
  have hl:(cutP K p).ops.length=K:=by simp only[cutP,List.length_take];omega
  refine RN 4 ha hs λa ha=>?_
  rw[cutAd_zero,Nat.sub_zero,Nat.sub_zero]at ha
  refine ST 1 ha hs (λa w ha hs=>?_)
  change St W w (blk b2 34 [.string (cutT p.title 40),.slice adO K cO]::_) at hs
  refine SA 2 ha hs λa w ha hs=>?_
  refine RT 0 ha hs ?_
  refine⟨by rw[prV,hl];rfl,?_⟩
  have h1:=(hs.pick (RoP W p adO cO)).roCut (m:=K) (by omega)
  rw[rows_takeO]at h1
  have h2:RoP W (cutP K p) adO cO=Ro W 119 4 adO K cO (rows opR (p.ops.take K)):=by rw[RoP,hl];rfl
  rw[h2];exact h1.sub
 have hl:(cutP K p).ops=p.ops:=by simp only[cutP];exact List.take_of_length_le (by omega)
 refine SA 2 ha hs λa w ha hs=>?_
 refine RT 0 ha hs ?_
 refine⟨by rw[prV,hl];rfl,?_⟩
 have h2:RoP W (cutP K p) adO cO=RoP W p adO cO:=by rw[RoP,RoP,hl]
 rw[h2];exact hs.sub
end
end
section
def sameN (m:Nat)(g g':Nat→Int):Bool:=(List.range m).all λi=>g i==g' i
theorem sameN_self (m:Nat)(g:Nat→Int):sameN m g g=true:=by simp[sameN]
section
variable {P:Program}{w:World}{a:Act}{n:Nat}{l:List (Nat×Value)}
theorem run_eqItems_ints {e:TypeId}{k:IntKind}(he:P.underlying e=some (.int k))(d m:Nat)(g g':Nat→Int):∀ is:List Nat,(∀ i∈is,i<m) →
   (Op.eqItems (d+1) e 1 (ints k m g).toArray (ints k m g').toArray is).run P w=.ok (is.all λi=>g i==g' i) w
 | [],_=>by simp[Op.eqItems]
 | i::is,h=>by
   have hi:=h i List.mem_cons_self
   have hp:∀ g:Nat→Int,(part e (ints k m g).toArray (i*1)).run P w=.ok (.int k (g i)) w:=λg=>by
     have hagg:(isAgg e).run P w=.ok false w:=by
       simp only[isAgg,Sem.run_bind,run_underlying he,Result.andThen_ok];rfl
     simp[part,hagg,ints_get g hi]
   have ih:=run_eqItems_ints he d m g g' is λj hj=>h j (List.mem_cons_of_mem _ hj)
   simp only[Op.eqItems,Sem.run_bind,hp,Result.andThen_ok,run_equalIn_int w d e k k (g i) (g' i) he]
   cases hb:(g i==g' i) with
   | false=>simp[hb]
   | true=>simp[hb,ih]
theorem run_equal_ints {t e:TypeId}{m:Nat}{k:IntKind}{i:TypeInfo}(ht:P.underlying t=some (.array m e))(he:P.underlying e=some (.int k))(hi:P.info? e=some i)(hc:P.cellsOf e=1)(g g':Nat→Int)(d:Nat) :
   (Op.equalIn (d+1+1) t (.agg (ints k m g).toArray) (.agg (ints k m g').toArray)).run P w=.ok (sameN m g g') w:=by
 rw[Go.run_equalIn_array (w:=w) (d+1) _ _ ht hi,hc]
 exact run_eqItems_ints he d m g g' _ λj hj=>List.mem_range.1 hj
theorem ex_neqA {x y t e m k z by' u g g' dst ty ps af gd}(ha:Fr a n l)(ht:P.underlying t=some (.array m e))(he:P.underlying e=some (.int k))(hi:TI P e z 1 by')(hc:P.cellsOf e=1)(hg:P.eqGuardType P.depth t=false)
   [ev:Ev l x (.agg (ints k m g).toArray)] [ey:Ev l y (.agg (ints k m g').toArray)] :
   (execOp a.eval ⟨dst,.binOp .neq t x y u,ty,ps,af,gd⟩).run P w=.ok (.value (.bool (!sameN m g g'))) w:=by
 obtain⟨i,h1,_⟩:=info_parts hi.h
 have h2:(Op.equal t (.agg (ints k m g).toArray) (.agg (ints k m g').toArray)).run P w=.ok (sameN m g g') w:=run_equal_ints ht he h1 hc g g' 9998
 have h3:(binOp .neq t (.agg (ints k m g).toArray) (.agg (ints k m g').toArray)).run P w=.ok (.bool (!sameN m g g')) w:=by simp[binOp,h2]
 simp only[execOp,ev.ev a n ha,ey.ev a n ha,Sem.run_bind,run_eqGuard_agg w _ t x y _ _ hg];simp[h3]
end
end
section
def ArgInts (k:IntKind)(w:World)(a:Option Addr)(len cap:Nat)(zs:List Int):Prop :=
 (a=none∧len=0∧cap=0∧zs=[]) ∨
 ∃ x,a=some x∧len≤cap∧cap≤maxLen∧zs.length=cap∧(∀ i,i<zs.length→w.cell? (x.add i)=some (.int k (zs.getD i 0)))∧∀ n∈zs,(Lit.int k n).wf=true
theorem cell_spot {w:World}{x:Addr}{v:Value}(h:w.cell? x=some v):x=⟨x.block,x.off,none⟩∧x.block<w.heap.size:=by
 refine⟨?_,World.block_lt_of_cell? _ _ h⟩
 obtain⟨b,o,s⟩:=x
 cases s with
 | none=>rfl
 | some s =>
   simp only[World.cell?]at h
   split at h <;> simp at h
theorem ArgInts.get {k:IntKind}{w:World}{a:Option Addr}{len cap:Nat}{zs:List Int}(h:ArgInts k w a len cap zs)(h0:0<len) :
   ∃ b off,a=some ⟨b,off,none⟩∧b<w.heap.size∧len≤zs.length∧∀ i,i<zs.length→w.cell? ⟨b,off+i*1,none⟩=some (.int k (zs.getD i 0)):=by
 rcases h with ⟨_,h,_,_⟩ | ⟨x,rfl,h1,h2,h3,h4,h5⟩
 · omega
 · have h6:=h4 0 (by omega)
   have h7:x.add 0=x:=by simp[Addr.add]
   rw[h7]at h6
   obtain⟨h8,h9⟩:=cell_spot h6
   refine⟨x.block,x.off,by rw[← h8],h9,by omega,λi hi=>?_⟩
   have:=h4 i hi
   rw[h8,add_off]at this
   rw[Nat.mul_one];exact this
theorem ArgInts.len_le {k:IntKind}{w:World}{a:Option Addr}{len cap:Nat}{zs:List Int}(h:ArgInts k w a len cap zs):len≤zs.length∧len≤9223372036854775807:=by
 rcases h with ⟨_,rfl,_,rfl⟩ | ⟨x,rfl,h1,h2,h3,h4,h5⟩
 · simp
 · unfold maxLen at h2;omega
theorem ArgInts.vals {k:IntKind}{W:World}{a:Option Addr}{len cap:Nat}{z:List Int}(h:ArgInts k W a len cap z):∃ zs:List Int,zs.length=len∧(∀ n∈zs,(Lit.int k n).wf=true) ∧
   ∀ w L,St W w L→len=0∨∃ b off,a=some ⟨b,off,none⟩∧b<W.heap.size∧Rd w b off (zs.map (.int k)):=by
 have hl:=h.len_le
 have hz:∀ n∈z,(Lit.int k n).wf=true:=by
   rcases h with ⟨_,_,_,rfl⟩ | ⟨x,_,_,_,_,_,hw⟩
   · intro n hn;cases hn
   · exact hw
 refine⟨z.take len,by simp;omega,λn hn=>hz n (List.mem_of_mem_take hn),λw L hs=>?_⟩
 rcases Nat.eq_zero_or_pos len with h0 | h0
 · exact .inl h0
 · right
   obtain⟨b,off,rfl,hb,h2,h3⟩:=h.get h0
   refine⟨b,off,rfl,hb,λj v hj=>?_⟩
   rw[hs.old hb]
   simp only[List.getElem?_map,List.getElem?_take]at hj
   by_cases hjl:j<len
   · rw[if_pos hjl,List.getElem?_eq_getElem (by omega)]at hj
     have:=h3 j (by omega)
     rw[Nat.mul_one]at this
     rw[this,← hj]
     simp[List.getD_eq_getElem?_getD,List.getElem?_eq_getElem (show j<z.length by omega)]
   · rw[if_neg hjl]at hj;cases hj
theorem argRows {H:Type}{enc:TypeId×Value→H}{W:World}{t e sz len cap:Nat}{ad:Option Addr}{d:DataW H}{p:List MemPlace}(ht:Tryz.prog.underlying t=some (.slice e))(hsz:Tryz.prog.cellsOf e=sz)(h0:0<sz)
   (h:DataW.Trod enc Tryz.prog W 0 (λ_=>true) true t (.slice ad len cap) d p) :
   len≤9223372036854775807∧(len=0∨∃ b off,ad=some ⟨b,off,none⟩∧b<W.heap.size∧∀ i,i<len→∃ cs m x,cs.length=sz∧Rd W b (off+i*sz) cs∧DataW.trod enc Tryz.prog W 0 (λ_=>true) true m e cs=some x):=by
 obtain⟨fuel,hf⟩:=h
 rcases Go.Deep.open_slice ht hf with ⟨hcs,_⟩ | ⟨a,l,c,m,n,D,Pl,hcs,_,hl,hc,hm,_,hx⟩
 · simp[Value.cells]at hcs
   obtain⟨rfl,rfl,rfl⟩:=hcs
   exact⟨by omega,.inl rfl⟩
 · simp[Value.cells]at hcs
   obtain⟨rfl,rfl,rfl⟩:=hcs
   unfold maxLen at hc
   refine⟨by omega,?_⟩
   by_cases hz:len=0
   · exact .inl hz
   · right
     rw[hsz]at hx
     simp only[if_true]at hm
     obtain⟨cs0,h1,_⟩:=hx 0 (by omega)
     obtain⟨_,h2,h3⟩:=World.cells?_some h1
     have h4:=h3 0 h0
     rw[Nat.zero_mul]at h4
     have h5:(a.add 0).add 0=a:=by simp[Addr.add]
     rw[h5]at h4
     obtain⟨h6,h7⟩:=cell_spot (h4.trans (List.getElem?_eq_getElem (by omega)))
     refine⟨a.block,a.off,by rw[← h6],h7,λi hi=>?_⟩
     obtain⟨cs,g1,g2⟩:=hx i (by omega)
     obtain⟨_,g3,g4⟩:=World.cells?_some g1
     refine⟨cs,n,_,g3,λj v hj=>?_,g2⟩
     have hjl:j<sz:=by
       rcases Nat.lt_or_ge j cs.length with h | h
       · omega
       · rw[List.getElem?_eq_none h]at hj;cases hj
     have:=g4 j hjl
     rw[h6,add_off,add_off,hj]at this
     exact this
end
section
theorem u8of {x:Int}(h:(Lit.int .u8 x).wf=true):x=((UInt8.ofNat x.toNat).toNat:Int):=by
 have hr:=(Lit.wf_int_iff .u8 x).1 h
 have h1:IntKind.u8.min=0:=by decide
 have h2:IntKind.u8.max=255:=by decide
 rw[h1,h2]at hr
 rw[UInt8.toNat_ofNat']
 omega
theorem ArgInts.bytesB {W:World}{a:Option Addr}{len cap:Nat}{z:List Int}(h:ArgInts .u8 W a len cap z):∃ bs:List UInt8,bs.length=len∧RdB W a len bs:=by
 refine⟨(z.take len).map (λn=>UInt8.ofNat n.toNat),?_,?_⟩
 · have:=h.len_le;simp;omega
 · have hl:=h.len_le
   have hz:∀ n∈z,(Lit.int .u8 n).wf=true:=by
     rcases h with ⟨_,_,_,rfl⟩ | ⟨x,_,_,_,_,_,hw⟩
     · intro n hn;cases hn
     · exact hw
   refine⟨by simp;omega,λe=>?_,λx hx hp=>?_⟩
   · rcases h with ⟨_,h,_,_⟩ | ⟨x,rfl,_⟩
     · exact h
     · cases e
   · obtain⟨b,off,rfl,hb,_,hc⟩:=h.get hp
     refine⟨b,off,by cases hx;rfl,λj v hj=>?_⟩
     have hj2:=(List.getElem?_eq_some_iff.1 hj).1
     rw[bc_len,List.length_map,List.length_take]at hj2
     have:=hc j (by omega)
     rw[Nat.mul_one]at this
     rw[this,← hj]
     have hzj:z.getD j 0∈z:=by rw[List.getD_eq_getElem?_getD,List.getElem?_eq_getElem (by omega),Option.getD_some];exact List.getElem_mem _
     have hw:=hz _ hzj
     have hu:=u8of hw
     simp only[bc,List.getElem?_map,List.getElem?_take]
     rw[if_pos (by omega),List.getElem?_eq_getElem (by omega)]
     simp only[Option.map_some]
     have hd:z.getD j 0=z[j]'(by omega):=by rw[List.getD_eq_getElem?_getD,List.getElem?_eq_getElem (by omega),Option.getD_some]
     rw[hd]at hu ⊢
     exact congrArg (λz=>some (Value.int .u8 z)) hu
theorem exists_list {α:Type}{P:Nat→α→Prop}:∀ n:Nat,(∀ i,i<n→∃ x,P i x)→∃ l:List α,l.length=n∧∀ i x,l[i]?=some x→P i x:=by
 intro n
 induction n with
 | zero=>exact λ_=>⟨[],rfl,λi x h=>by simp at h⟩
 | succ n ih =>
   intro h
   obtain⟨l,h1,h2⟩:=ih (λi hi=>h i (by omega))
   obtain⟨x,hx⟩:=h n (by omega)
   refine⟨l++[x],by simp[h1],λi y hy=>?_⟩
   rw[List.getElem?_append]at hy
   split at hy
   · exact h2 i y hy
   · have h4:=(List.getElem?_eq_some_iff.1 hy).1
     simp at h4
     obtain rfl:i=n:=by omega
     rw[h1,Nat.sub_self]at hy
     simp at hy
     exact hy ▸ hx
abbrev BBBx:=Option Addr×Nat×List BBx
end
section
section
theorem alikeP_iff {u v:List (List UInt8)}:alikeP u v=true↔u.take (min u.length v.length)=v.take (min u.length v.length):=by simp[alikeP]
end
end
section
abbrev Kx:=Wk×Nat
def ownK (p:Pr)(adO:Option Addr)(cO tq jq sq:Nat)(x:Kx):SP:=blk x.2 188 (wkC p adO cO tq jq sq x.1)
def ptrs (ks:List Kx):List Value:=ks.map λx=>pt x.2
theorem ptrs_at {ks:List Kx}{i:Nat}{k:Wk}{wb:Nat}(h:ks[i]?=some (k,wb)):(ptrs ks)[i]?=some (pt wb):=by rw[ptrs,List.getElem?_map,h];rfl
theorem ptrs_set {ks:List Kx}{i:Nat}{k k':Wk}{wb:Nat}(h:ks[i]?=some (k,wb)):ptrs (ks.set i (k',wb))=ptrs ks:=by
 have hi:=(List.getElem?_eq_some_iff.1 h).1
 apply List.ext_getElem?
 intro j
 simp only[ptrs,List.getElem?_map,List.getElem?_set]
 by_cases hj:i=j
 · subst hj;rw[if_pos rfl,if_pos hi,h];rfl
 · rw[if_neg hj]
theorem fst_set {ks:List Kx}{i:Nat}{k k':Wk}{wb:Nat}(h:ks[i]?=some (k,wb)):(ks.map (·.1)).Perm (k::(ks.eraseIdx i).map (·.1))∧((ks.set i (k',wb)).map (·.1)).Perm (k'::(ks.eraseIdx i).map (·.1)):=by
 obtain⟨hi,he⟩:=List.getElem?_eq_some_iff.1 h
 have h1:=(erase_perm ks hi).map (·.1)
 rw[List.map_cons,he]at h1
 have h2:=(erase_perm (ks.set i (k',wb)) (by simpa using hi)).map (·.1)
 rw[List.map_cons,List.getElem_set_self,List.eraseIdx_set_eq]at h2
 exact⟨h1,h2⟩
section
variable {W w:World}{L:List SP}{tq jq sq r wb i cO n base:Nat}{adO:Option Addr}{A:Sn}{T:Tr}{J:Js}{k:Wk}{p:Pr}{x:Br}{px:Pic}{ks:List Kx}{t:Nat→Nat}
theorem St.ownOut (hs:St W w (All (ownK p adO cO tq jq sq) ks::L))(hk:ks[i]?=some (k,wb)):St W w (blk wb 188 (wkC p adO cO tq jq sq k)::All (ownK p adO cO tq jq sq) (ks.eraseIdx i)::L):=by
 obtain⟨hi,he⟩:=List.getElem?_eq_some_iff.1 hk
 have:=hs.allOut hi
 rw[he]at this
 exact this
theorem St.ownIn {k':Wk}(hs:St W w (blk wb 188 (wkC p adO cO tq jq sq k')::All (ownK p adO cO tq jq sq) (ks.eraseIdx i)::L))(hk:ks[i]?=some (k,wb)):St W w (All (ownK p adO cO tq jq sq) (ks.set i (k',wb))::L) :=
 St.allPut (f:=ownK p adO cO tq jq sq) (x:=(k',wb)) (List.getElem?_eq_some_iff.1 hk).1 hs
theorem shop_step {F:Int}{g0:Nat→Int}(hs:St W w (All (ownK p adO cO tq jq sq) ks::Tree tq sq T::Store sq r A::Jobs jq J::RoP W p adO cO::L))(hk:ks[i]?=some (k,wb))(hI:Inv p F g0 t base A T (ks.map (·.1)))
   (hF:0≤F∧F≤1099511627776) (hp:prOk p) (hz:p.title.size≤1000000000) (hn:A.n+1<1099511627776) (hJ:J.length≤16) :
   Calls Tryz.prog 57 #[pt wb] w λe w'=>∃ (z:Bool) (A':Sn) (T':Tr) (J':Js) (k':Wk),e=.returned (.bool z)∧(Bit p A T J k z A' T' J' k'∧Inv p F g0 t base A' T' ((ks.set i (k',wb)).map (·.1))∧Near A T J A' T' J') ∧
     St W w' (All (ownK p adO cO tq jq sq) (ks.set i (k',wb))::Tree tq sq T'::Store sq r A'::Jobs jq J'::RoP W p adO cO::L):=by
 have hA:=(Store.facts (hs.store sq)).1
 have hT:=Tree.wt (hs.tree tq)
 have hmem:k∈ks.map (·.1):=List.mem_map.2 ⟨_,List.mem_of_getElem? hk,rfl⟩
 have h1:=hs.ownOut hk
 refine (step_bit (L:=All (ownK p adO cO tq jq sq) (ks.eraseIdx i)::L) (h1.sub (M:=blk wb 188 (wkC p adO cO tq jq sq k)::Tree tq sq T::Store sq r A::Jobs jq J::RoP W p adO cO::All (ownK p adO cO tq jq sq) (ks.eraseIdx i)::L)) (hI.ready hmem hF hp hz hn hJ)).mono λe w' ⟨z,A',T',J',k',he,hb,hs⟩=>?_
 refine⟨z,A',T',J',k',he,⟨hb,((hI.permW (fst_set (k':=k') hk).1).bit hA hT hb).permW (fst_set (k':=k') hk).2.symm,hb.near⟩,?_⟩
 have h2:=St.ownIn (i:=i) (ks:=ks) (k:=k) (k':=k') (hs.sub (M:=blk wb 188 (wkC p adO cO tq jq sq k')::All (ownK p adO cO tq jq sq) (ks.eraseIdx i)::Tree tq sq T'::Store sq r A'::Jobs jq J'::RoP W p adO cO::L)) hk
 exact h2
theorem shop_rest {F:Int}{g0:Nat→Int}(hs:St W w (All (ownK p adO cO tq jq sq) ks::Store sq r A::L))(hk:ks[i]?=some (k,wb))(hI:Inv p F g0 t base A T (ks.map (·.1))) :
   Calls Tryz.prog 128 #[pt wb] w λe w'=>∃ (A':Sn) (k':Wk),e=.returned (.bool k.busy)∧(k'.busy=false∧Inv p F g0 t base A' T ((ks.set i (k',wb)).map (·.1))∧A'.room=A.room∧A'.n=A.n) ∧
     St W w' (All (ownK p adO cO tq jq sq) (ks.set i (k',wb))::Store sq r A'::L):=by
 have hA:=(Store.facts (hs.store sq)).1
 have h1:=hs.ownOut hk
 cases hb:k.busy with
 | false =>
   refine (rest_idle h1 hb).mono λe w' ⟨he,hs⟩=>⟨A,k,he,⟨hb,(hI.permW (fst_set (k':=k) hk).1).permW (fst_set (k':=k) hk).2.symm,rfl,rfl⟩,?_⟩
   exact St.ownIn (i:=i) (ks:=ks) (k:=k) (k':=k) hs hk
 | true =>
   refine (rest_busy (L:=All (ownK p adO cO tq jq sq) (ks.eraseIdx i)::L) (h1.sub (M:=blk wb 188 (wkC p adO cO tq jq sq k)::Store sq r A::All (ownK p adO cO tq jq sq) (ks.eraseIdx i)::L)) hb).mono λe w' ⟨he,hs⟩=>?_
   refine⟨A.dropId k.x,{ k with busy:=false },he,⟨rfl,((hI.permW (fst_set (k':={ k with busy:=false }) hk).1).rest (k':={ k with busy:=false }) hA hb rfl rfl).permW (fst_set (k':={ k with busy:=false }) hk).2.symm,(dropId_same A _).1,(dropId_same A _).2.1⟩,?_⟩
   exact St.ownIn (i:=i) (ks:=ks) (k:=k) (k':={ k with busy:=false }) (hs.sub (M:=blk wb 188 (wkC p adO cO tq jq sq { k with busy:=false })::All (ownK p adO cO tq jq sq) (ks.eraseIdx i)::Store sq r (A.dropId k.x)::L)) hk
theorem worker_new (hs:St W w L):Calls Tryz.prog 51 #[.agg (prV p adO cO).toArray,pt tq,pt jq,pt sq] w λe w' =>
   ∃ wb,e=.returned (pt wb)∧St W w' (blk wb 188 (wkC p adO cO tq jq sq wk0)::L):=by
 refine EN Tryz.func51 Tryz.ntmps51 rfl rfl λa ha=>?_
 refine BX 1 ha hs λb4 a w ha hs=>?_
 change St W w (blk b4 34 (prV p adO cO)::_) at hs
 refine RN 3 ha hs λa ha=>?_
 change Fr a 15 ((9,.agg (List.toArray [.string p.title,.slice adO p.ops.length cO]))::_) at ha
 refine BX 4 ha hs λb14 a w ha hs=>?_
 change St W w (blk b14 188 (wkC p adO cO tq jq sq wk0)::_) at hs
 refine RT 1 ha hs ?_
 exact⟨b14,rfl,hs.sub⟩
theorem add_try {frm:Int}{ad2:Option Addr}{c2 id:Nat}{zs:List BBx}{P:List (List UInt8)}(hs:St W w (Tree tq sq T::Store sq r A::L))(hr:∀ w',St W w' L→RdX w' ad2 zs)(hz:zs.map (·.2.2)=P)(hc:P.length≤c2)(hok:OkP P)
   (hx:A.pics[i]?=some px) (hid:px.id=id) (hb:A.n+1<1099511627776) (hl:T.last+1<1099511627776) (hm:T.l.length<T.most) :
   Calls Tryz.prog 185 #[pt tq,.int .i64 frm,.int .i64 id,.slice ad2 P.length c2] w λe w'=>∃ (z:Nat) (ok:Bool),e=.returned (.tuple #[.int .i64 z,.bool ok]) ∧
     ((ok=false∧(P=[]∨∃ y∈T.l,y.is frm P)∧St W w' (Tree tq sq T::Store sq r A::L)) ∨
      (ok=true∧z=T.last+1∧P≠[]∧(∀ y∈T.l,¬ y.is frm P)∧St W w' (Tree tq sq (T.add frm P (A.last+1))::Store sq r (A.add px.g px.p)::L))):=by
 subst hid
 rcases Nat.eq_zero_or_pos P.length with h0 | h0
 · have hP:=List.eq_nil_of_length_eq_zero h0
   exact (add_full hs (.inr h0)).mono λe w' ⟨h1,hs⟩=>⟨0,false,h1,.inl ⟨rfl,.inl hP,hs⟩⟩
 · have hP:P≠[]:=List.length_pos_iff.1 h0
   by_cases hex:∃ y∈T.l,y.is frm P
   · obtain⟨y,hy,his⟩:=hex
     obtain⟨j,hj⟩:=List.mem_iff_getElem?.1 hy
     have hbb:∀ w',St W w' (Store sq r A::L)→RdBB w' ad2 P.length P:=λw' h=>by
       have:=(hr w' h.tail).bb
       rw[hz]at this
       rwa [show zs.length=P.length from by rw[← hz,List.length_map]]at this
     exact (add_dup hs hbb hc hok hj his).mono λe w' ⟨h1,hs⟩=>⟨0,false,h1,.inl ⟨rfl,.inr ⟨y,hy,his⟩,hs⟩⟩
   · have hno:∀ y∈T.l,¬ y.is frm P:=λy hy h=>hex ⟨y,hy,h⟩
     exact (add_ok hs hr hz hc hok hx hb hl hno hm h0).mono λe w' ⟨h1,hs⟩=>⟨T.last+1,true,h1,.inr ⟨rfl,rfl,hP,hno,hs⟩⟩
end
end
section
set_option linter.constructorNameAsVariable false
set_option maxRecDepth 100000
theorem rd_rows {W:World}{b off:Nat}{ops:List OpR}(h:∀ i o,ops[i]?=some o→Rd W b (off+i*4) (opR o)):Rd W b off (rows opR ops):=by
 intro j v hj
 have hlt:=(List.getElem?_eq_some_iff.1 hj).1
 rw[rows_len opR_len]at hlt
 have hi:j/4<ops.length:=by omega
 have h1:=h (j/4) ops[j/4] (List.getElem?_eq_getElem hi)
 have hk:j%4<(opR ops[j/4]).length:=by rw[opR_len];omega
 have h2:=rows_get opR_len ops (i:=j/4) (k:=j%4) (v:=(opR ops[j/4])[j%4]) hi (List.getElem?_eq_getElem hk)
 rw[show j/4*4+j%4=j from by omega,hj]at h2
 have h3:=h1 (j%4) _ (List.getElem?_eq_getElem hk)
 rw[show off+j/4*4+j%4=off+j from by omega]at h3
 rw[h3,h2]
theorem okWide_struct {P:Program}{w:World}{base:Nat}{t:TypeId}{fs:Array Field}{v:Value}(ht:P.underlying t=some (.struct fs))(h:Value.okWide P w .any base t v):∃ cs,v=.agg cs∧cs.size=P.cellsOf t:=by
 unfold Value.okWide at h
 rw[ht]at h
 obtain⟨cs,h1,h2,_⟩:=h
 exact⟨cs,h1,h2⟩
def ArgProg (W:World)(p:Pr)(adO:Option Addr)(cO:Nat):Prop:=p.title.size≤9223372036854775807∧p.ops.length≤cO∧cO≤9223372036854775807∧(0<p.ops.length→∃ b off,adO=some ⟨b,off,none⟩∧b<W.heap.size∧Rd W b off (rows opR p.ops))
theorem argProg_of {H:Type}{enc:TypeId×Value→H}{W:World}{base:Nat}{v:Value}{d:DataW H}{q:List MemPlace}(hv:Value.okWide Tryz.prog W .any base 34 v)
   (h:DataW.Trod enc Tryz.prog W 0 (λ_=>true) true 34 v d q):∃ p adO cO,v=.agg (prV p adO cO).toArray∧ArgProg W p adO cO:=by
 obtain⟨cs,rfl,hsz⟩:=okWide_struct Tryz.underlying34 hv
 obtain⟨fuel,hf⟩:=h
 obtain⟨y0,y1,n,_,hl,h0,h1⟩:=Go.ChangeShapes.trod_struct2 Tryz.underlying34 hf
 obtain⟨s,hs1,_,hs2⟩:=DataW.trod_string Tryz.underlying9 h0
 have hc2:Tryz.prog.cellsOf 34=2:=by kernel_rfl
 rw[hc2]at hsz
 rw[show Tryz.prog.cellsOf 9=1 from by kernel_rfl]at hs1
 rw[show Tryz.prog.cellsOf 32=1 from by kernel_rfl]at h1
 obtain⟨c0,c1,rfl⟩:∃ c0 c1,cs=#[c0,c1]:=by
   match cs,hsz with
   | ⟨[c0,c1]⟩,_=>exact⟨c0,c1,rfl⟩
 simp[Value.cells]at hs1 h1
 subst hs1
 rcases DataW.trod_slice Tryz.underlying32 h1 with ⟨hcs,_⟩ | ⟨a,len,cap,_,_,_,_,hcs,_,_,hlc,hcm,_⟩
 · simp at hcs
   subst hcs
   exact⟨⟨s,[]⟩,none,0,rfl,by simpa [maxLen] using hs2,Nat.le_refl _,by omega,λh=>absurd h (by simp)⟩
 · simp at hcs
   subst hcs
   obtain⟨g1,g2⟩:=argRows (sz:=4) Tryz.underlying32 (by kernel_rfl) (by decide) (⟨_,h1⟩:DataW.Trod enc Tryz.prog W 0 (λ_=>true) true 32 (.slice (some a) len cap) _ _)
   unfold maxLen at hcm hs2
   rcases g2 with g2 | ⟨b,off,g3,g4,g5⟩
   · subst g2
     exact⟨⟨s,[]⟩,some a,cap,rfl,hs2,Nat.zero_le _,by omega,λh=>absurd h (by simp)⟩
   · obtain ⟨ops, o1, o2⟩ := exists_list (α := OpR) (P := fun i o => Rd W b (off + i * 4) (opR o)) len fun i hi => by
       obtain⟨cs,m,x,e1,e2,e3⟩:=g5 i hi
       obtain⟨xs,n,_,_,_,hlen,hfs⟩:=DataW.trod_struct Tryz.underlying119 e3
       have hi4:∀ k,k<4→∃ z,cs[k]?=some (.int .i64 z):=by
         intro k hk
         obtain⟨y,hy⟩:∃ y,xs[k]?=some y:=⟨_,List.getElem?_eq_getElem (by rw[hlen];exact hk)⟩
         have hc1:Tryz.prog.cellsOf 3=1:=by kernel_rfl
         have hk2:∃ f:Field,f.type=3∧f.offset=k∧Tryz.prog.underlying 119=Tryz.prog.underlying 119∧DataW.trod enc Tryz.prog W 0 (λ_=>true) true n f.type ((cs.drop f.offset).take (Tryz.prog.cellsOf f.type))=some y:=by
           rcases (by omega:k=0∨k=1∨k=2∨k=3) with rfl | rfl | rfl | rfl
           · exact⟨_,rfl,rfl,rfl,(hfs 0 _ rfl).trans hy⟩
           · exact⟨_,rfl,rfl,rfl,(hfs 1 _ rfl).trans hy⟩
           · exact⟨_,rfl,rfl,rfl,(hfs 2 _ rfl).trans hy⟩
           · exact⟨_,rfl,rfl,rfl,(hfs 3 _ rfl).trans hy⟩
         obtain⟨f,t1,t2,_,t3⟩:=hk2
         rw[t1,t2,hc1]at t3
         obtain⟨z,hz,_,_⟩:=DataW.trod_int Tryz.underlying3 t3
         refine⟨z,?_⟩
         have h9:((cs.drop k).take 1)[0]?=some (.int .i64 z):=by rw[hz];rfl
         rw[List.getElem?_take,if_pos (by decide),List.getElem?_drop]at h9
         exact h9
       obtain⟨z0,q0⟩:=hi4 0 (by decide)
       obtain⟨z1,q1⟩:=hi4 1 (by decide)
       obtain⟨z2,q2⟩:=hi4 2 (by decide)
       obtain⟨z3,q3⟩:=hi4 3 (by decide)
       refine⟨⟨z0,z1,z2,z3⟩,?_⟩
       obtain⟨c0,c1,c2,c3,rfl⟩:∃ c0 c1 c2 c3,cs=[c0,c1,c2,c3]:=by
         match cs,e1 with
         | [c0,c1,c2,c3],_=>exact⟨c0,c1,c2,c3,rfl⟩
       obtain rfl:c0=_:=Option.some.inj q0
       obtain rfl:c1=_:=Option.some.inj q1
       obtain rfl:c2=_:=Option.some.inj q2
       obtain rfl:c3=_:=Option.some.inj q3
       exact e2
     subst o1
     exact⟨⟨s,ops⟩,some a,cap,rfl,hs2,hlc,by omega,λ_=>⟨b,off,g3,g4,rd_rows o2⟩⟩
theorem ArgProg.ro {W w:World}{L:List SP}{p:Pr}{adO:Option Addr}{cO:Nat}(h:ArgProg W p adO cO)(hs:St W w L):St W w (RoP W p adO cO::L) :=
 hs.roOld (rows_len opR_len _) h.2.1 h.2.2.2
end
section
section
variable {W w:World}{L:List SP}{sq r i:Nat}{A:Sn}{px:Pic}
theorem snap_state_id {id:Nat}(hs:St W w (Store sq r A::L))(hx:A.pics[i]?=some px)(hid:px.id=id) :
   Calls Tryz.prog 65 #[pt sq,.int .i64 id] w λe w'=>e=.returned (.tuple #[.agg (ints .i32 32 px.g).toArray,.bool true])∧St W w' (Store sq r A::L):=by
 subst hid;exact snap_state hs hx
set_option maxHeartbeats 4000000 in
end
end
section
section
variable {P:Program}{ops:Array Oper}{Q:Exit→Act→World→Prop}{a:Act}{w w' W:World}{K:Act→World→Prop}{n d:Nat}{l:List (Nat×Value)}{v:Value}{L R:List SP}
theorem st_appendT {s x t z sz by' e ad k c ad2 m c2 news ty ps af g}{cs:List Value}(ha:Fr a n l)(hw:Region.wanted ⟨some d,.call ⟨.builtin .append,#[s,x],#[t,t]⟩,ty,ps,af,g⟩ (yielded ops a.tmps)=true)(hs:St W w L)
   (ht:P.underlying t=some (.slice e)) (hi:TI P e z sz by') (hf:okB d n l=true) (hz:z.cells.size=sz) (hb:0<by')
   [e1:Ev l s (.slice ad k c)] [pk:PickSl L ad k c e sz cs R] [e2:Ev l x (.slice ad2 m c2)] (hr:0<m→∃ b2 off2,ad2=some ⟨b2,off2,none⟩∧Rd w b2 off2 news) (hl:news.length=m*sz) (h1:∀ v∈news,v.oneCell'=true)
   (hsz:(k+m)*by'≤140737488355328)
   (h:∀ ad' c' a' w',Fr a' n ((d,.slice ad' (k+m) c')::l)→St W w' (Sl e sz ad' (k+m) c' (cs++news)::R)→K a' w') :
   StepK P ops Q ⟨some d,.call ⟨.builtin .append,#[s,x],#[t,t]⟩,ty,ps,af,g⟩ K a w:=by
 rcases Nat.eq_zero_or_pos m with h0 | h0
 · subst h0
   have hkc:=(hs.sl ad).2
   obtain rfl:news=[]:=List.eq_nil_of_length_eq_zero (by rw[hl,Nat.zero_mul])
   refine st_append0 (ad:=ad) (k:=k) (c:=c) (ad2:=ad2) (c2:=c2) ha hw ht hi hf hkc λa' ha'=>h ad c a' w ha' ?_
   rw[List.append_nil]
   exact hs.perm pk.perm
 · obtain⟨b2,off2,rfl,hrd⟩:=hr h0
   exact st_append ha hw hs ht hi hz hf hrd hl h1 h0 hb hsz h
end
theorem St.litS {W w:World}{L:List SP}{b e n:Nat}{cs:List Value}{l:List UInt8}(hs:St W w (blk b e cs::L))(he:e=5)(hl:l.length=n)(h:cs=bc l):St W w (Sl 5 1 (some ⟨b,0,none⟩) n n (bc l)::L):=by
 subst h;subst he
 have h2:St W w (blk b 5 ([]++bc l++[])::L):=by simpa using hs
 exact St.slShut (pre:=[]) (post:=[]) (n:=n) (c:=n) (sz:=1) (cs:=bc l) h2 (by rw[bc_len,hl,Nat.mul_one]) (Nat.le_refl _) (by simp)
theorem bc_at {bs:List UInt8}{i:Nat}(h:i<bs.length):(bc bs)[i]?=some (.int .u8 ((bs[i]).toNat:Int)):=by simp[bc,h]
theorem bc_app (a b:List UInt8):bc (a++b)=bc a++bc b:=by simp[bc]
theorem RdB.get {w:World}{ad:Option Addr}{m:Nat}{bs:List UInt8}(h:RdB w ad m bs)(h0:0<m):∃ b o,ad=some ⟨b,o,none⟩∧Rd w b o (bc bs):=by
 obtain⟨_,h2,h3⟩:=h
 cases hh:ad with
 | none=>have:=h2 hh;omega
 | some a =>
   obtain⟨b,o,rfl,h1⟩:=h3 a hh h0
   exact⟨b,o,rfl,h1⟩
theorem RdB.rd {w:World}{b o m:Nat}{bs:List UInt8}(h:RdB w (some ⟨b,o,none⟩) m bs)(h0:0<m):Rd w b o (bc bs):=by
 obtain⟨b',o',e,h1⟩:=h.get h0
 cases e;exact h1
theorem RdB.cutL {w:World}{ad:Option Addr}{bs:List UInt8}{c:Nat}(h:RdB w ad bs.length bs){lo:Nat}(hl:lo≤bs.length)(hc:bs.length≤c):RdB w (cutAd ad lo c 1) (bs.drop lo).length (bs.drop lo):=by
 refine⟨rfl,λe=>?_,λx hx h0=>?_⟩
 · rw[List.length_drop]
   rcases Nat.eq_zero_or_pos (bs.length-lo) with h0 | h0
   · exact h0
   · obtain⟨b,o,rfl,_⟩:=h.get (by omega)
     rw[cutAd_some (by omega)]at e;cases e
 · rw[List.length_drop]at h0
   obtain⟨b,o,rfl,hr⟩:=h.get (by omega)
   rw[cutAd_some (by omega)]at hx
   cases hx
   refine⟨b,o+lo*1,rfl,λj v hj=>?_⟩
   have h1:=hr (lo+j) v (by rw[bc,List.getElem?_map,← List.getElem?_drop,← List.getElem?_map];exact hj)
   rwa [show o+lo*1+j=o+(lo+j) from by omega]
theorem RdB.cutH {w:World}{ad:Option Addr}{bs:List UInt8}{m:Nat}(h:RdB w ad m bs){hi:Nat}(hl:hi≤bs.length):RdB w ad hi (bs.take hi):=by
 obtain⟨h1,h2,h3⟩:=h
 refine⟨by rw[List.length_take];omega,λe=>by have:=h2 e;omega,λx hx h0=>?_⟩
 obtain⟨b,o,e,hr⟩:=h3 x hx (by omega)
 refine⟨b,o,e,λj v hj=>hr j v ?_⟩
 rw[bc,List.map_take,List.getElem?_take]at hj
 split at hj
 · exact hj
 · cases hj
theorem bv32 (x:Nat):BitVec.ofInt IntKind.u32.bits (x:Int)=BitVec.ofNat 32 x:=BitVec.ofInt_natCast 32 x
theorem bv64 (x:Nat):BitVec.ofInt IntKind.u64.bits (x:Int)=BitVec.ofNat 64 x:=BitVec.ofInt_natCast 64 x
theorem xor_u32 {x y:Nat}(hx:x<4294967296)(hy:y<4294967296):IntKind.u32.wrap (((BitVec.ofInt IntKind.u32.bits (x:Int) ^^^ BitVec.ofInt IntKind.u32.bits (y:Int)).toNat:Nat):Int)=((x ^^^ y:Nat):Int):=by
 rw[bv32,bv32]
 show IntKind.u32.wrap (((BitVec.ofNat 32 x ^^^ BitVec.ofNat 32 y).toNat:Nat):Int)=_
 rw[BitVec.toNat_xor,BitVec.toNat_ofNat,BitVec.toNat_ofNat,Nat.mod_eq_of_lt (show x<2 ^ 32 from hx),Nat.mod_eq_of_lt (show y<2 ^ 32 from hy),wrap_u32]
 have:=Nat.xor_lt_two_pow (n:=32) hx hy
 omega
theorem and_u32 {x y:Nat}(hx:x<4294967296)(hy:y<4294967296):IntKind.u32.wrap (((BitVec.ofInt IntKind.u32.bits (x:Int) &&& BitVec.ofInt IntKind.u32.bits (y:Int)).toNat:Nat):Int)=((x &&& y:Nat):Int):=by
 rw[bv32,bv32]
 show IntKind.u32.wrap (((BitVec.ofNat 32 x &&& BitVec.ofNat 32 y).toNat:Nat):Int)=_
 rw[BitVec.toNat_and,BitVec.toNat_ofNat,BitVec.toNat_ofNat,Nat.mod_eq_of_lt (show x<2 ^ 32 from hx),Nat.mod_eq_of_lt (show y<2 ^ 32 from hy),wrap_u32]
 have:x &&& y≤x:=Nat.and_le_left
 omega
theorem com_u32 {x:Nat}(h:x<4294967296):IntKind.u32.wrap (((BitVec.ofInt IntKind.u32.bits (if IntKind.u32.signed then -1 else IntKind.u32.max) ^^^ BitVec.ofInt IntKind.u32.bits (x:Int)).toNat:Nat):Int)=((4294967295-x:Nat):Int):=by
 have e:BitVec.ofInt IntKind.u32.bits (if IntKind.u32.signed then -1 else IntKind.u32.max)=BitVec.allOnes 32:=by
   show BitVec.ofInt 32 IntKind.u32.max=_
   decide
 rw[e,bv32]
 show IntKind.u32.wrap (((BitVec.allOnes 32 ^^^ BitVec.ofNat 32 x).toNat:Nat):Int)=_
 rw[BitVec.allOnes_xor,BitVec.toNat_not,BitVec.toNat_ofNat,wrap_u32]
 rw[Nat.mod_eq_of_lt (show x<2 ^ 32 from h)]
 omega
theorem or_u64 {x y:Nat}(hx:x<18446744073709551616)(hy:y<18446744073709551616):IntKind.u64.wrap (((BitVec.ofInt IntKind.u64.bits (x:Int) ||| BitVec.ofInt IntKind.u64.bits (y:Int)).toNat:Nat):Int)=((x ||| y:Nat):Int):=by
 rw[bv64,bv64]
 show IntKind.u64.wrap (((BitVec.ofNat 64 x ||| BitVec.ofNat 64 y).toNat:Nat):Int)=_
 rw[BitVec.toNat_or,BitVec.toNat_ofNat,BitVec.toNat_ofNat,Nat.mod_eq_of_lt (show x<2 ^ 64 from hx),Nat.mod_eq_of_lt (show y<2 ^ 64 from hy),wrap_u64]
 have:=Nat.or_lt_two_pow (n:=64) hx hy
 omega
theorem and_u64 {x y:Nat}(hx:x<18446744073709551616)(hy:y<18446744073709551616):IntKind.u64.wrap (((BitVec.ofInt IntKind.u64.bits (x:Int) &&& BitVec.ofInt IntKind.u64.bits (y:Int)).toNat:Nat):Int)=((x &&& y:Nat):Int):=by
 rw[bv64,bv64]
 show IntKind.u64.wrap (((BitVec.ofNat 64 x &&& BitVec.ofNat 64 y).toNat:Nat):Int)=_
 rw[BitVec.toNat_and,BitVec.toNat_ofNat,BitVec.toNat_ofNat,Nat.mod_eq_of_lt (show x<2 ^ 64 from hx),Nat.mod_eq_of_lt (show y<2 ^ 64 from hy),wrap_u64]
 have:x &&& y≤x:=Nat.and_le_left
 omega
theorem u8_lt (b:UInt8):b.toNat<256:=b.toNat_lt
def crcBit (x:Nat):Nat:=if x%2=1 then x/2 ^^^ 3988292384 else x/2
def crcBits:Nat→Nat→Nat
 | 0,y=>y
 | k+1,y=>crcBit (crcBits k y)
def crcByte (x:Nat)(b:UInt8):Nat:=crcBits 8 (x ^^^ b.toNat)
def crcL (bs:List UInt8):Nat:=bs.foldl crcByte 4294967295
def crcSum (bs:List UInt8):Nat:=4294967295-crcL bs
theorem crcBit_lt {x:Nat}(h:x<4294967296):crcBit x<4294967296:=by
 unfold crcBit
 split
 · exact Nat.xor_lt_two_pow (n:=32) (by show x/2<4294967296;omega) (by decide)
 · omega
theorem crcBits_lt {x:Nat}(h:x<4294967296):∀ k,crcBits k x<4294967296
 | 0=>h
 | k+1=>crcBit_lt (crcBits_lt h k)
theorem crcByte_lt {x:Nat}(b:UInt8)(h:x<4294967296):crcByte x b<4294967296:=by
 refine crcBits_lt (Nat.xor_lt_two_pow (n:=32) h ?_) 8
 have:=u8_lt b
 show b.toNat<4294967296
 omega
theorem crcFold_lt (bs:List UInt8):∀ {x:Nat},x<4294967296→bs.foldl crcByte x<4294967296:=by
 induction bs with
 | nil=>exact λh=>h
 | cons b bs ih=>exact λh=>ih (crcByte_lt b h)
theorem crcL_lt (bs:List UInt8):crcL bs<4294967296:=crcFold_lt bs (by decide)
theorem crcSum_lt (bs:List UInt8):crcSum bs<4294967296:=by unfold crcSum;omega
theorem crcL_succ {bs:List UInt8}{i:Nat}(h:i<bs.length):crcL (bs.take (i+1))=crcByte (crcL (bs.take i)) bs[i]:=by
 rw[crcL,List.take_succ_eq_append_getElem h,List.foldl_append];rfl
theorem crc_and1 {x:Nat}(h:x<4294967296):IntKind.u32.wrap (((BitVec.ofInt IntKind.u32.bits (x:Int) &&& BitVec.ofInt IntKind.u32.bits 1).toNat:Nat):Int)=((x%2:Nat):Int):=by
 have h1:=and_u32 (y:=1) h (by decide)
 rw[Nat.and_one_is_mod]at h1;exact h1
theorem crc_neg {m:Nat}(h:m<2):IntKind.u32.wrap (0-(m:Int))=((if m=1 then 4294967295 else 0:Nat):Int):=by
 rcases (by omega:m=0∨m=1) with rfl | rfl <;> decide
theorem crc_poly (m:Nat):IntKind.u32.wrap (((BitVec.ofInt IntKind.u32.bits 3988292384 &&& BitVec.ofInt IntKind.u32.bits ((if m=1 then 4294967295 else 0:Nat):Int)).toNat:Nat):Int)=((if m=1 then 3988292384 else 0:Nat):Int):=by
 by_cases h:m=1
 · rw[if_pos h,if_pos h];decide
 · rw[if_neg h,if_neg h];decide
theorem crc_xor {x m:Nat}(hx:x<4294967296):IntKind.u32.wrap (((BitVec.ofInt IntKind.u32.bits ((x/2:Nat):Int) ^^^ BitVec.ofInt IntKind.u32.bits ((if x%2=1 then 3988292384 else 0:Nat):Int)).toNat:Nat):Int)=((crcBit x:Nat):Int):=by
 rw[xor_u32 (by omega) (by split <;> decide),crcBit]
 split
 · rfl
 · rw[Nat.xor_zero]
theorem crc_xorP {x:Nat}(hx:x<4294967296):IntKind.u32.wrap (((BitVec.ofInt IntKind.u32.bits ((x/2:Nat):Int) ^^^ BitVec.ofInt IntKind.u32.bits 3988292384).toNat:Nat):Int)=((x/2 ^^^ 3988292384:Nat):Int):=xor_u32 (y:=3988292384) (by omega) (by decide)
def fourL (x:Nat):List UInt8:=[UInt8.ofNat (x/16777216),UInt8.ofNat (x/65536),UInt8.ofNat (x/256),UInt8.ofNat x]
theorem u8nat (n:Nat):IntKind.u8.wrap (n:Int)=((UInt8.ofNat n).toNat:Int):=by
 rw[wrap_u8,UInt8.toNat_ofNat'];omega
def unI (x:Int):Nat:=(x%4294967296).toNat
theorem wrap_un (x:Int):IntKind.u32.wrap x=((unI x:Nat):Int):=by rw[wrap_u32,unI];omega
def gameB (g:Nat→Int):List UInt8:=(List.range 32).flatMap λi=>fourL (unI (g i))
def gameBn (g:Nat→Int)(n:Nat):List UInt8:=(List.range n).flatMap λi=>fourL (unI (g i))
theorem gameBn_succ (g:Nat→Int)(n:Nat):gameBn g (n+1)=gameBn g n++fourL (unI (g n)):=by simp[gameBn,List.range_succ]
theorem gameBn_len (g:Nat→Int)(n:Nat):(gameBn g n).length=4*n:=by
 induction n with
 | zero=>rfl
 | succ n ih=>rw[gameBn_succ,List.length_append,ih];simp[fourL];omega
theorem gameB_len (g:Nat→Int):(gameB g).length=128:=gameBn_len g 32
section
variable {W w:World}{L:List SP}{n c m:Nat}{ad:Option Addr}{bs:List UInt8}
theorem crc_more (hs:St W w L)(hb:bs.length≤1099511627776)(hp:∀ w',St W w' L→RdB w' ad bs.length bs) :
   Calls Tryz.prog 267 #[.int .u32 0,.slice ad bs.length c] w λe w'=>e=.returned (.int .u32 (crcSum bs))∧St W w' L:=by
 refine EN Tryz.func267 Tryz.ntmps267 rfl rfl λa ha=>?_
 refine RN 6 ha hs λa ha=>?_
 rw[show IntKind.u32.wrap ((BitVec.ofInt IntKind.u32.bits (if IntKind.u32.signed then -1 else IntKind.u32.max) ^^^ BitVec.ofInt IntKind.u32.bits 0).toNat:Int)=((crcL (bs.take 0):Nat):Int) from rfl]at ha
 refine RN 5 ha hs λa ha=>?_
 refine wp_loop_ghost (λμ a w=>∃ (i:Nat),(μ=bs.length-i∧i≤bs.length)∧Fr a 33 [(5,.int .u32 (crcL (bs.take i))),(10,.slice ad bs.length c),(11,.int .i64 bs.length),(12,.int .i64 i)]∧St W w L) (bs.length) (⟨0,⟨rfl,by omega⟩,ha.keep [5,10,11,12],hs⟩) ?_
 clear ha hs
 rintro μ a w ⟨i,⟨rfl,hi⟩,ha,hs⟩
 refine IF 3 ha hs (λhc0 a ha=>?_) λhc0 a ha=>?_
 ·
  obtain⟨bb,oo,rfl,hr⟩:=(hp _ hs).get (by omega)
  have hil:i<bs.length:=by omega
  have hx:=crcL_lt (bs.take i)
  have hb8:=u8_lt bs[i]
  refine RN 3 ha hs λa ha=>?_
  refine SS ha (ld1 ha (hr i _ (bc_at hil))) λa ha=>?_
  refine SX 4 ha hs (by rw[wrap_u32];omega) λa ha=>?_
  refine RN 1 ha hs λa ha=>?_
  rw[xor_u32 hx (by omega)]at ha
  refine RN 3 ha hs λa ha=>?_
  have hy:crcL (bs.take i) ^^^ bs[i].toNat<4294967296:=Nat.xor_lt_two_pow (n:=32) hx (by show _<4294967296;omega)
  have hcs:=crcL_succ hil
  rw[crcByte]at hcs
  generalize crcL (bs.take i) ^^^ bs[i].toNat=y at ha hy hcs
  refine wp_loop_ghost (λμ a w=>∃ (k:Nat),(μ=8-k∧k≤8)∧Fr a 33 [(5,.int .u32 (crcBits k y)),(10,.slice (some ⟨bb,oo,none⟩) bs.length c),(11,.int .i64 bs.length),(12,.int .i64 i),(20,.int .i64 k)]∧St W w L) (8) (⟨0,⟨rfl,by omega⟩,ha.keep [5,10,11,12,20],hs⟩) ?_
  clear ha hs
  rintro μ a w ⟨k,⟨rfl,hk⟩,ha,hs⟩
  refine IF 3 ha hs (λhc1 a ha=>?_) λhc1 a ha=>?_
  ·
   have hyk:=crcBits_lt hy k
   refine RN 3 ha hs λa ha=>?_
   rw[show ((crcBits k y:Nat):Int).fdiv (2 ^ 1)=((crcBits k y/2:Nat):Int) from fdivN _ 2]at ha
   refine RN 2 ha hs λa ha=>?_
   rw[crc_and1 hyk]at ha
   refine RN 1 ha hs λa ha=>?_
   rw[crc_neg (Nat.mod_lt _ (by decide))]at ha
   refine RN 1 ha hs λa ha=>?_
   rw[crc_poly]at ha
   refine RN 1 ha hs λa ha=>?_
   rw[crc_xor (m:=0) hyk]at ha
   refine RN 3 ha hs λa ha=>?_
   exact⟨8-(k+1),by omega,k+1,⟨rfl,by omega⟩,ha.keep [5,10,11,12,20],hs⟩
  obtain rfl:k=8:=by omega
  rw[← hcs]at ha
  refine RN 2 ha hs λa ha=>?_
  exact⟨bs.length-(i+1),by omega,i+1,⟨rfl,by omega⟩,ha.keep [5,10,11,12],hs⟩
 obtain rfl:i=bs.length:=by omega
 rw[List.take_length]at ha
 refine RN 3 ha hs λa ha=>?_
 rw[com_u32 (crcL_lt bs)]at ha
 refine RT 1 ha hs ?_
 exact⟨rfl,hs⟩
theorem crc_sum (hs:St W w L)(hb:bs.length≤1099511627776)(hp:∀ w',St W w' L→RdB w' ad bs.length bs) :
   Calls Tryz.prog 224 #[.slice ad bs.length c] w λe w'=>e=.returned (.int .u32 (crcSum bs))∧St W w' L:=by
 refine EN Tryz.func224 Tryz.ntmps224 rfl rfl λa ha=>?_
 refine CL 4 ha hs (crc_more hs hb hp) λa w ha hs=>?_
 refine RT 1 ha hs ?_
 exact⟨rfl,hs⟩
theorem refSum_spec (hs:St W w L)(hb:bs.length≤1099511627776)(hp:∀ w',St W w' L→RdB w' ad bs.length bs) :
   Calls Tryz.prog 80 #[.slice ad bs.length c] w λe w'=>e=.returned (.int .u32 (crcSum bs))∧St W w' L:=by
 refine EN Tryz.func80 Tryz.ntmps80 rfl rfl λa ha=>?_
 refine RN 7 ha hs λa ha=>?_
 refine wp_loop_ghost (λμ a w=>∃ (i:Nat),(μ=bs.length-i∧i≤bs.length)∧Fr a 33 [(0,.slice ad bs.length c),(3,.int .u32 (crcL (bs.take i))),(4,.int .i64 i)]∧St W w L) (bs.length) (⟨0,⟨rfl,by omega⟩,ha.keep [0,3,4],hs⟩) ?_
 clear ha hs
 rintro μ a w ⟨i,⟨rfl,hi⟩,ha,hs⟩
 refine IF 6 ha hs (λhc0 a ha=>?_) λhc0 a ha=>?_
 ·
  obtain⟨bb,oo,rfl,hr⟩:=(hp _ hs).get (by omega)
  have hil:i<bs.length:=by omega
  have hx:=crcL_lt (bs.take i)
  have hb8:=u8_lt bs[i]
  refine RN 6 ha hs λa ha=>?_
  refine SS ha (ld1 ha (hr i _ (bc_at hil))) λa ha=>?_
  refine SX 0 ha hs (by rw[wrap_u32];omega) λa ha=>?_
  refine RN 1 ha hs λa ha=>?_
  rw[xor_u32 hx (by omega)]at ha
  refine RN 3 ha hs λa ha=>?_
  have hy:crcL (bs.take i) ^^^ bs[i].toNat<4294967296:=Nat.xor_lt_two_pow (n:=32) hx (by show _<4294967296;omega)
  have hcs:=crcL_succ hil
  rw[crcByte]at hcs
  generalize crcL (bs.take i) ^^^ bs[i].toNat=y at ha hy hcs
  refine wp_loop_ghost (λμ a w=>∃ (k:Nat),(μ=8-k∧k≤8)∧Fr a 33 [(0,.slice (some ⟨bb,oo,none⟩) bs.length c),(3,.int .u32 (crcBits k y)),(4,.int .i64 i),(5,.int .i64 k)]∧St W w L) (8) (⟨0,⟨rfl,by omega⟩,ha.keep [0,3,4,5],hs⟩) ?_
  clear ha hs
  rintro μ a w ⟨k,⟨rfl,hk⟩,ha,hs⟩
  refine IF 4 ha hs (λhc1 a ha=>?_) λhc1 a ha=>?_
  ·
   have hyk:=crcBits_lt hy k
   have hb1:crcBits (k+1) y=crcBit (crcBits k y):=rfl
   refine SX 3 ha hs (by decide) λa ha=>?_
   rw[show ((crcBits k y:Nat):Int).tmod 2=((crcBits k y%2:Nat):Int) from remN _ 2]at ha
   refine IF 1 ha hs (λhc2 a ha=>?_) λhc2 a ha=>?_
   ·
    rw[crcBit,if_pos (by omega)]at hb1
    refine RN 2 ha hs λa ha=>?_
    rw[show ((crcBits k y:Nat):Int).fdiv (2 ^ 1)=((crcBits k y/2:Nat):Int) from fdivN _ 2]at ha
    refine RN 1 ha hs λa ha=>?_
    rw[crc_xorP hyk,← hb1]at ha
    refine RN 4 ha hs λa ha=>?_
    exact⟨8-(k+1),by omega,k+1,⟨rfl,by omega⟩,ha.keep [0,3,4,5],hs⟩
   rw[crcBit,if_neg (by omega)]at hb1
   refine RN 2 ha hs λa ha=>?_
   rw[show ((crcBits k y:Nat):Int).fdiv (2 ^ 1)=((crcBits k y/2:Nat):Int) from fdivN _ 2,← hb1]at ha
   refine RN 4 ha hs λa ha=>?_
   exact⟨8-(k+1),by omega,k+1,⟨rfl,by omega⟩,ha.keep [0,3,4,5],hs⟩
  obtain rfl:k=8:=by omega
  rw[← hcs]at ha
  refine RN 3 ha hs λa ha=>?_
  exact⟨bs.length-(i+1),by omega,i+1,⟨rfl,by omega⟩,ha.keep [0,3,4],hs⟩
 obtain rfl:i=bs.length:=by omega
 rw[List.take_length]at ha
 refine RN 3 ha hs λa ha=>?_
 rw[com_u32 (crcL_lt bs)]at ha
 refine RT 1 ha hs ?_
 exact⟨rfl,hs⟩
theorem four_shape {x:Nat}:[[Value.int .u8 (IntKind.u8.wrap ((x/16777216:Nat):Int))],[Value.int .u8 (IntKind.u8.wrap ((x/65536:Nat):Int))],[Value.int .u8 (IntKind.u8.wrap ((x/256:Nat):Int))],[Value.int .u8 (IntKind.u8.wrap ((x:Nat):Int))]].flatten=bc (fourL x):=by
 simp only[u8nat];rfl
theorem St.fourS {b:Nat}{cs:List Value}{l:List UInt8}{e:Nat}(hs:St W w (blk b e cs::L))(he:e=5)(hl:l.length=4)(h:cs=bc l):St W w (Sl 5 1 (some ⟨b,0,none⟩) 4 4 (bc l)::L):=by
 subst h;subst he
 have h2:St W w (blk b 5 ([]++bc l++[])::L):=by simpa using hs
 exact St.slShut (pre:=[]) (post:=[]) (n:=4) (c:=4) (sz:=1) (cs:=bc l) h2 (by rw[bc_len,hl]) (Nat.le_refl _) (Nat.zero_le _)
theorem num_four {x:Nat}(hs:St W w L) :
   Calls Tryz.prog 273 #[.int .u32 x] w λe w'=>∃ ad,e=.returned (.slice ad 4 4)∧St W w' (Sl 5 1 ad 4 4 (bc (fourL x))::L):=by
 refine EN Tryz.func273 Tryz.ntmps273 rfl rfl λa ha=>?_
 refine RN 5 ha hs λa ha=>?_
 rw[show ((x:Nat):Int).fdiv (2 ^ 24)=((x/16777216:Nat):Int) from fdivN _ 16777216]at ha
 refine SS ha (ex_convII ha Tryz.underlying68 Tryz.underlying5) λa ha=>?_
 refine RN 2 ha hs λa ha=>?_
 rw[show ((x:Nat):Int).fdiv (2 ^ 16)=((x/65536:Nat):Int) from fdivN _ 65536]at ha
 refine SS ha (ex_convII ha Tryz.underlying68 Tryz.underlying5) λa ha=>?_
 refine RN 2 ha hs λa ha=>?_
 rw[show ((x:Nat):Int).fdiv (2 ^ 8)=((x/256:Nat):Int) from fdivN _ 256]at ha
 refine SS ha (ex_convII ha Tryz.underlying68 Tryz.underlying5) λa ha=>?_
 refine RN 1 ha hs λa ha=>?_
 refine SS ha (ex_convII ha Tryz.underlying68 Tryz.underlying5) λa ha=>?_
 refine RN 0 ha hs λa ha=>?_
 refine st_buildSlice ha rfl hs Tryz.underlying22 Ty.t5 rfl rfl rfl rfl (by decide) (by decide) λb14 a w ha hs ho=>?_
 clear ho
 refine RT 1 ha hs ?_
 exact⟨_,rfl,hs.fourS rfl rfl four_shape⟩
theorem refFour_spec {x:Nat}(hs:St W w L) :
   Calls Tryz.prog 78 #[.int .u32 x] w λe w'=>∃ ad,e=.returned (.slice ad 4 4)∧St W w' (Sl 5 1 ad 4 4 (bc (fourL x))::L):=by
 refine EN Tryz.func78 Tryz.ntmps78 rfl rfl λa ha=>?_
 refine RN 5 ha hs λa ha=>?_
 rw[show ((x:Nat):Int).fdiv (2 ^ 24)=((x/16777216:Nat):Int) from fdivN _ 16777216]at ha
 refine SS ha (ex_convII ha Tryz.underlying68 Tryz.underlying5) λa ha=>?_
 refine RN 2 ha hs λa ha=>?_
 rw[show ((x:Nat):Int).fdiv (2 ^ 16)=((x/65536:Nat):Int) from fdivN _ 65536]at ha
 refine SS ha (ex_convII ha Tryz.underlying68 Tryz.underlying5) λa ha=>?_
 refine RN 2 ha hs λa ha=>?_
 rw[show ((x:Nat):Int).fdiv (2 ^ 8)=((x/256:Nat):Int) from fdivN _ 256]at ha
 refine SS ha (ex_convII ha Tryz.underlying68 Tryz.underlying5) λa ha=>?_
 refine RN 1 ha hs λa ha=>?_
 refine SS ha (ex_convII ha Tryz.underlying68 Tryz.underlying5) λa ha=>?_
 refine RN 0 ha hs λa ha=>?_
 refine st_buildSlice ha rfl hs Tryz.underlying22 Ty.t5 rfl rfl rfl rfl (by decide) (by decide) λb14 a w ha hs ho=>?_
 clear ho
 refine RT 1 ha hs ?_
 exact⟨_,rfl,hs.fourS rfl rfl four_shape⟩
theorem word_put {x:Int}(hs:St W w L) :
   Calls Tryz.prog 154 #[.int .i32 x] w λe w'=>∃ ad,e=.returned (.slice ad 4 4)∧St W w' (Sl 5 1 ad 4 4 (bc (fourL (unI x)))::L):=by
 refine EN Tryz.func154 Tryz.ntmps154 rfl rfl λa ha=>?_
 refine RN 4 ha hs λa ha=>?_
 refine SS ha (ex_convII ha Tryz.underlying21 Tryz.underlying68) λa ha=>?_
 rw[wrap_un]at ha
 generalize unI x=x at ha ⊢
 refine RN 4 ha hs λa ha=>?_
 rw[show ((x:Nat):Int).fdiv (2 ^ 24)=((x/16777216:Nat):Int) from fdivN _ 16777216]at ha
 refine SS ha (ex_convII ha Tryz.underlying68 Tryz.underlying5) λa ha=>?_
 refine RN 2 ha hs λa ha=>?_
 rw[show ((x:Nat):Int).fdiv (2 ^ 16)=((x/65536:Nat):Int) from fdivN _ 65536]at ha
 refine SS ha (ex_convII ha Tryz.underlying68 Tryz.underlying5) λa ha=>?_
 refine RN 2 ha hs λa ha=>?_
 rw[show ((x:Nat):Int).fdiv (2 ^ 8)=((x/256:Nat):Int) from fdivN _ 256]at ha
 refine SS ha (ex_convII ha Tryz.underlying68 Tryz.underlying5) λa ha=>?_
 refine RN 1 ha hs λa ha=>?_
 refine SS ha (ex_convII ha Tryz.underlying68 Tryz.underlying5) λa ha=>?_
 refine RN 0 ha hs λa ha=>?_
 refine st_buildSlice ha rfl hs Tryz.underlying22 Ty.t5 rfl rfl rfl rfl (by decide) (by decide) λb17 a w ha hs ho=>?_
 clear ho
 refine RT 1 ha hs ?_
 exact⟨_,rfl,hs.fourS rfl rfl four_shape⟩
end
end
end Go.Proofs.YtdilfdkendjjhaaGreat
