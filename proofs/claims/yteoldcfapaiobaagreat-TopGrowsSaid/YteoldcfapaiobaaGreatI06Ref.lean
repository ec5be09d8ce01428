/- The references' runes, titles, programs: the walks. -/
import Derived.Test.YteoldcfapaiobaaGreatI05Vm
import Derived.Test.YteoldcfapaiobaaGreatI04Job
import Derived.Test.YteoldcfapaiobaaGreatI01Row
import Derived.ProofKit
import Derived.Deep.Slices
import Derived.Deep.Strs
import Derived.ChangeSlices
import Derived.ChangeShapes
import Derived.DataShut
import Derived.Test.YteoldcfapaiobaaGreatI03Snap2
import Derived.Laws.StructEq
import Derived.ChangeKeysEq
import Derived.ChangeSame
namespace Go.Proofs.YteoldcfapaiobaaGreat
open Tryz
open List (all_eq_true map_cons eraseIdx_set_eq append_nil ext_getElem? map_take range_succ foldl_append)
open Go.RowKit
set_option linter.unusedVariables false
set_option linter.unusedSimpArgs false
set_option maxRecDepth 10000
set_option synthInstance.maxSize 4000
set_option synthInstance.maxHeartbeats 400000
section
section
variable {W w:World}{L:List SP}{s:ByteArray}{p:Pr}{aq:Option Addr}{cO:Nat}
theorem YV (s:ByteArray):s.extract 0 s.size=s:=by simp
theorem YW {s:ByteArray}(h:0<s.size):(s.data.toList==(⟨#[]⟩:ByteArray).data.toList)=false:=by
 rw[mj];intro e;have h2:=dJ List.length e;have h3:s.data.toList.length=s.size:=Array.length_toList;rw[h3]at h2;have h4:(⟨#[]⟩:ByteArray).data.toList.length=0:=rfl;omega
theorem B5 {s:ByteArray}{j:Nat}(h:j<s.size):(s[j]'h).toNat=ko s j:=by rw[ko,F6 h]
theorem YX (I:U W w L)(h0:0<s.size):Calls prog 187 #[.string s] w λe w'=>e=.returned (.tuple #[.int .i32 (Utf8.decode s 0).1,.int .i64 (Utf8.decode s 0).2])∧U W w' L:=by
 obtain⟨b,hb⟩:∃ b,ko s 0=b:=⟨_,rfl⟩;have pL:=F9 s 0;rw[hb]at pL;refine EN func187 ntmps187 rfl rfl λa E=>?_;refine RN 6 E I λa E=>?_;refine SS E (td E) λa E=>?_;rw[YW h0]at E;refine RN 0 E I λa E=>?_;replace E:=E.aQ 10;refine RN 3 E I λa E=>?_;refine SS E (A8 E gB (by omega)) λa E=>?_;rw[B5 h0,hb]at E;refine RN 5 E I λa E=>?_;refine b6 (M:=λa w=>∃ n low r:Nat,F8 b n low r∧Fr a 92 [(0,.string s),(5,.int .i64 n),(6,.int .i32 low),(7,.int .i32 r)]∧U W w L) ?_ ?_
 ·
  refine IF 4 E I (λao a E=>?_) λao a E=>?_
  ·
   refine SX 2 E I (iA (by omega) (by omega)) λa E=>?_;refine RT 2 E I ?_;exact⟨by rw[YS hb (by omega)];rfl,I⟩
  refine BY 4 E I (λbD a E=>?_) λbD a E=>?_
  ·
   refine IF 4 E I (λay a E=>?_) λay a E=>?_
   ·
    refine SX 1 E I (iA (by omega) (by omega)) λa E=>?_;refine RN 1 E I λa E=>?_;obtain⟨r,hr⟩:∃ r,b=192+r:=⟨b-192,by omega⟩;rw[show IntKind.i32.wrap ((b:Int)-192)=(r:Nat) from by rw[iA (by omega) (by omega)];omega]at E;refine RN 3 E I λa E=>?_;exact⟨2,128,r,.inl ⟨hr,by omega,rfl,rfl⟩,E.ab [0,5,6,7],I⟩
   refine BY 4 E I (λbD a E=>?_) λbD a E=>?_
   ·
    refine IF 4 E I (λbl a E=>?_) λbl a E=>?_
    ·
     refine SX 1 E I (iA (by omega) (by omega)) λa E=>?_;refine RN 1 E I λa E=>?_;obtain⟨r,hr⟩:∃ r,b=224+r:=⟨b-224,by omega⟩;rw[show IntKind.i32.wrap ((b:Int)-224)=(r:Nat) from by rw[iA (by omega) (by omega)];omega]at E;refine RN 3 E I λa E=>?_;exact⟨3,2048,r,.inr (.inl ⟨hr,by omega,rfl,rfl⟩),E.ab [0,5,6,7],I⟩
    refine BY 4 E I (λbD a E=>?_) λbD a E=>?_
    ·
     refine IF 4 E I (λbO a E=>?_) λbO a E=>?_
     ·
      refine SX 1 E I (iA (by omega) (by omega)) λa E=>?_;refine RN 1 E I λa E=>?_;obtain⟨r,hr⟩:∃ r,b=240+r:=⟨b-240,by omega⟩;rw[show IntKind.i32.wrap ((b:Int)-240)=(r:Nat) from by rw[iA (by omega) (by omega)];omega]at E;refine RN 3 E I λa E=>?_;exact⟨4,65536,r,.inr (.inr ⟨hr,by omega,rfl,rfl⟩),E.ab [0,5,6,7],I⟩
     refine RT 3 E I ?_;exact⟨by rw[tT hb (by omega) (by omega)];rfl,I⟩
    refine RT 8 E I ?_;exact⟨by rw[tT hb (by omega) (by omega)];rfl,I⟩
   refine BY 9 E I (λbD a E=>?_) λbD a E=>?_
   ·
    refine IF 4 E I (λbO a E=>?_) λbO a E=>?_
    ·
     refine SX 1 E I (iA (by omega) (by omega)) λa E=>?_;refine RN 1 E I λa E=>?_;obtain⟨r,hr⟩:∃ r,b=240+r:=⟨b-240,by omega⟩;rw[show IntKind.i32.wrap ((b:Int)-240)=(r:Nat) from by rw[iA (by omega) (by omega)];omega]at E;refine RN 3 E I λa E=>?_;exact⟨4,65536,r,.inr (.inr ⟨hr,by omega,rfl,rfl⟩),E.ab [0,5,6,7],I⟩
    refine RT 3 E I ?_;exact⟨by rw[tT hb (by omega) (by omega)];rfl,I⟩
   refine RT 8 E I ?_;exact⟨by rw[tT hb (by omega) (by omega)];rfl,I⟩
  refine BY 9 E I (λbD a E=>?_) λbD a E=>?_
  ·
   refine IF 4 E I (λbl a E=>?_) λbl a E=>?_
   ·
    refine SX 1 E I (iA (by omega) (by omega)) λa E=>?_;refine RN 1 E I λa E=>?_;obtain⟨r,hr⟩:∃ r,b=224+r:=⟨b-224,by omega⟩;rw[show IntKind.i32.wrap ((b:Int)-224)=(r:Nat) from by rw[iA (by omega) (by omega)];omega]at E;refine RN 3 E I λa E=>?_;exact⟨3,2048,r,.inr (.inl ⟨hr,by omega,rfl,rfl⟩),E.ab [0,5,6,7],I⟩
   refine BY 4 E I (λbD a E=>?_) λbD a E=>?_
   ·
    refine IF 4 E I (λbO a E=>?_) λbO a E=>?_
    ·
     refine SX 1 E I (iA (by omega) (by omega)) λa E=>?_;refine RN 1 E I λa E=>?_;obtain⟨r,hr⟩:∃ r,b=240+r:=⟨b-240,by omega⟩;rw[show IntKind.i32.wrap ((b:Int)-240)=(r:Nat) from by rw[iA (by omega) (by omega)];omega]at E;refine RN 3 E I λa E=>?_;exact⟨4,65536,r,.inr (.inr ⟨hr,by omega,rfl,rfl⟩),E.ab [0,5,6,7],I⟩
    refine RT 3 E I ?_;exact⟨by rw[tT hb (by omega) (by omega)];rfl,I⟩
   refine RT 8 E I ?_;exact⟨by rw[tT hb (by omega) (by omega)];rfl,I⟩
  refine BY 9 E I (λbD a E=>?_) λbD a E=>?_
  ·
   refine IF 4 E I (λbO a E=>?_) λbO a E=>?_
   ·
    refine SX 1 E I (iA (by omega) (by omega)) λa E=>?_;refine RN 1 E I λa E=>?_;obtain⟨r,hr⟩:∃ r,b=240+r:=⟨b-240,by omega⟩;rw[show IntKind.i32.wrap ((b:Int)-240)=(r:Nat) from by rw[iA (by omega) (by omega)];omega]at E;refine RN 3 E I λa E=>?_;exact⟨4,65536,r,.inr (.inr ⟨hr,by omega,rfl,rfl⟩),E.ab [0,5,6,7],I⟩
   refine RT 3 E I ?_;exact⟨by rw[tT hb (by omega) (by omega)];rfl,I⟩
  refine RT 8 E I ?_;exact⟨by rw[tT hb (by omega) (by omega)];rfl,I⟩
 clear E;(try clear I);rintro a w ⟨n,low,r,hd,E,I⟩;refine RN 2 E I λa E=>?_;have qa:2≤n∧n≤4∧r<32:=by rcases hd with h | h | h <;> omega
 refine IF 4 E I (λeL a E=>?_) λeL a E=>?_
 ·
  refine RT 3 E I ?_;exact⟨by rw[Gb hb hd (.inl (by omega))];rfl,I⟩
 refine RN 3 E I λa E=>?_;refine aL (λμ a w=>∃ (j:Nat),(μ=n-j∧j+1≤n∧∀ k,1≤k→k<j+1→ko s k/64=2)∧Fr a 92 [(0,.string s),(5,.int .i64 n),(6,.int .i32 low),(7,.int .i32 (gp s r j:Nat)),(8,.int .i64 ((j+1:Nat):Int))]∧U W w L) (n) (⟨0,⟨by simp,by omega,λk h1 h2=>by omega⟩,E.ab [0,5,6,7,8],I⟩) ?_;clear E I;rintro μ a w ⟨j,⟨rfl,hj,iv⟩,E,I⟩;refine IF 5 E I (λmq a E=>?_) λmq a E=>?_
 ·
  refine RN 3 E I λa E=>?_;have tV:j+1<s.size:=by omega
  have hbj:=F9 s (j+1);refine RN 2 E I λa E=>?_;refine SS E (A8 E gB (by omega)) λa E=>?_;rw[B5 tV]at E;refine BY 2 E I (λdt a E=>?_) λdt a E=>?_
  ·
   refine RT 9 E I ?_;exact⟨by rw[Gb hb hd (.inr ⟨j+1,by omega,by omega,by omega⟩)];rfl,I⟩
  refine RN 2 E I λa E=>?_;refine bA E (cv E rfl (s:=61)) (A8 E gB (by omega)) rfl λa E=>?_;rw[B5 tV]at E;refine IF 2 E I (λlX a E=>?_) λlX a E=>?_
  ·
   refine RT 3 E I ?_;exact⟨by rw[Gb hb hd (.inr ⟨j+1,by omega,by omega,by omega⟩)];rfl,I⟩
  refine RN 0 E I λa E=>?_;have cr:=Ga (s:=s) qa.2.2 j;have q7:(64:Nat) ^ j≤64 ^ 2:=Nat.pow_le_pow_right (by omega) (by omega);refine RN 2 E I λa E=>?_;rw[iA (by omega) (by omega)]at E;refine RN 2 E I λa E=>?_;refine SS E (A8 E gB (by omega)) λa E=>?_;rw[B5 tV]at E;refine SX 0 E I (iA (by omega) (by omega)) λa E=>?_;refine RN 1 E I λa E=>?_;rw[iA (by omega) (by omega)]at E;refine RN 1 E I λa E=>?_;rw[show IntKind.i32.wrap ((gp s r j:Nat)*64+(ko s (j+1):Nat)-128:Int)=(gp s r (j+1):Nat) from by rw[iA (by omega) (by omega),gp];omega]at E;refine RN 4 E I λa E=>?_;refine⟨n-(j+1),by omega,j+1,⟨rfl,by omega,λk h1 h2=>?_⟩,E.ab [0,5,6,7,8],I⟩;rcases gX k (j+1) with h3 | h3
  ·exact iv k h1 h3
  ·obtain rfl:k=j+1:=by omega
   omega
 refine RN 2 E I λa E=>?_;obtain rfl:n=j+1:=by omega
 have p1:=YT hb hd (by omega) iv;simp only[B2,zo]at p1;refine BY 4 E I (λbW a E=>?_) λbW a E=>?_
 ·
  refine RT 15 E I ?_;exact⟨by rw[p1.1 (by omega)];rfl,I⟩
 refine BY 4 E I (λjY a E=>?_) λjY a E=>?_
 ·
  refine RT 11 E I ?_;exact⟨by rw[p1.1 (by omega)];rfl,I⟩
 refine BY 3 E I (λmn a E=>?_) λmn a E=>?_
 ·
  refine IF 4 E I (λm0 a E=>?_) λm0 a E=>?_
  ·
   refine RT 3 E I ?_;exact⟨by rw[p1.1 (by omega)];rfl,I⟩
  refine RT 5 E I ?_;exact⟨by rw[p1.2 (by omega)],I⟩
 refine RT 10 E I ?_;exact⟨by rw[p1.2 (by omega)],I⟩
def RI (l:List (Nat×Nat)):List Value:=l.map λx=>.int .i32 x.1
theorem L7 (I:U W w L)(aF:s.size≤1000000000):Calls prog 148 #[.string s] w λe w'=>∃ ad c,e=.returned (.tuple #[.slice ad (ef s 0).length c,.bool ((ef s 0).all mW)]) ∧
   U W w' (Sl 21 1 ad (ef s 0).length c (RI (ef s 0))::L):=by
 refine EN func148 ntmps148 rfl rfl λa E=>?_;refine RN 6 E I λa E=>?_;replace I:=I.bQ 21 1 none;refine RN 2 E I λa E=>?_;refine aL (λμ a w=>∃ (pos:Nat) (dn:List (Nat×Nat)) (ad:Option Addr) (c:Nat),(μ=s.size-pos∧pos≤s.size∧dn.length≤pos∧ef s 0=dn++ef s pos)∧Fr a 34 [(0,.string (s.extract pos s.size)),(4,.slice ad dn.length c),(5,.bool (dn.all mW))]∧U W w (Sl 21 1 ad dn.length c (RI dn)::L)) (s.size) (⟨0,[],none,0,⟨by simp,by omega,by simp,rfl⟩,by rw[YV];exact E.ab [0,4,5],I⟩) ?_;clear E I;rintro μ a w ⟨pos,dn,ad,c,⟨rfl,hp,mZ,dc⟩,E,I⟩;refine RN 4 E I λa E=>?_;rw[sm]at E;refine IF 1 E I (λak a E=>?_) λak a E=>?_
 ·
  have gP:pos<s.size:=by omega
  have nA:=sd gP;have hdp:=vh s pos;have hdi:=Lo s pos gP;have Gc:ed s pos=pos+(Utf8.decode s pos).2:=by rw[ed,aj gP]
  refine CL 2 E I (YX I (by rw[sm];omega)) λa w E I=>?_;rw[YR]at E;refine RN 8 E I λa E=>?_;refine ct E rfl I Bl Ty.t21 rfl rfl rfl rfl (by decide) (by decide) λtW a w E I ho=>?_;clear ho;refine RN 0 E I λa E=>?_;refine cR E rfl I Bl Ty.t21 rfl rfl I.ai rfl (by simp[Value.oneCell']) (by decide) (by decide) (by omega) λB6 B7 a w E I=>?_;refine RN 1 E I λa E=>?_;have qc:U W w (Sl 21 1 B6 (dn++[Utf8.decode s pos]).length B7 (RI (dn++[Utf8.decode s pos]))::L):=by
   have e1:(dn++[Utf8.decode s pos]).length=dn.length+1:=by simp
   have e2:RI (dn++[Utf8.decode s pos])=RI dn++[.int .i32 (Utf8.decode s pos).1]:=by simp[RI]
   rw[e1,e2];change U W w (Sl 21 1 B6 (dn.length+1) B7 (RI dn++[.int .i32 (Utf8.decode s pos).1])::_) at I;exact I.sub
  replace I:=qc;clear qc;refine RN 1 E I λa E=>?_;have q8:(dn++[Utf8.decode s pos]).all mW=(dn.all mW&&B3 (Utf8.decode s pos)):=by rw[YU];simp
  simp only[B3]at q8;refine BY 2 E I (λmx a E=>?_) λmx a E=>?_
  ·
   refine BY 3 E I (λdt a E=>?_) λdt a E=>?_
   ·
    refine RN 5 E I λa E=>?_;rw[mx,aj (by omega)]at q8;refine RN 2 E I λa E=>?_;refine SS E (EH E gB (by rw[sm];omega)) λa E=>?_;rw[F7,← Gc]at E;refine RN 1 E I λa E=>?_;have zp:(dn++[Utf8.decode s pos]).length=dn.length+1:=by simp
    refine⟨s.size-ed s pos,by omega,ed s pos,dn++[Utf8.decode s pos],_,_,⟨rfl,by omega,by omega,by rw[dc,nA,dz];rfl⟩,?_,I⟩;rw[zp,q8];exact E.ab [0,4,5]
   refine RN 5 E I λa E=>?_;rw[mx,ag (by omega),Bool.true_and,show decide ((Utf8.decode s pos).2=3)=decide (((Utf8.decode s pos).2:Int)=3) from decide_eq_decide.2 (by omega)]at q8;refine RN 2 E I λa E=>?_;refine SS E (EH E gB (by rw[sm];omega)) λa E=>?_;rw[F7,← Gc]at E;refine RN 1 E I λa E=>?_;have zp:(dn++[Utf8.decode s pos]).length=dn.length+1:=by simp
   refine⟨s.size-ed s pos,by omega,ed s pos,dn++[Utf8.decode s pos],_,_,⟨rfl,by omega,by omega,by rw[dc,nA,dz];rfl⟩,?_,I⟩;rw[zp,q8];exact E.ab [0,4,5]
  refine RN 8 E I λa E=>?_;rw[mx,Bool.false_and]at q8;refine RN 2 E I λa E=>?_;refine SS E (EH E gB (by rw[sm];omega)) λa E=>?_;rw[F7,← Gc]at E;refine RN 1 E I λa E=>?_;have zp:(dn++[Utf8.decode s pos]).length=dn.length+1:=by simp
  refine⟨s.size-ed s pos,by omega,ed s pos,dn++[Utf8.decode s pos],_,_,⟨rfl,by omega,by omega,by rw[dc,nA,dz];rfl⟩,?_,I⟩;rw[zp,q8];exact E.ab [0,4,5]
 refine RT 5 E I ?_;obtain rfl:pos=s.size:=by omega
 have my:=se (s:=s) (pos:=s.size) (by omega);rw[my,append_nil]at dc;rw[dc];exact⟨_,_,rfl,I.sub⟩
theorem L8 {l:List (Nat×Nat)}{i:Nat}{x:Nat×Nat}(h:l[i]?=some x):(RI l)[i]?=some (.int .i32 x.1):=by rw[RI,bd,h];rfl
theorem YY (I:U W w L)(aF:s.size≤1000000000):Calls prog 107 #[.string s] w λe w'=>e=.returned (.bool (p3 s))∧U W w' L:=by
 have o3:p3 s=(decide (1≤(ef s 0).length)&&decide ((ef s 0).length≤20)&&(ef s 0).all kR&&(ef s 0).all mW):=rfl;have gD:=Xr s s.size 0 (by omega);refine EN func107 ntmps107 rfl rfl λa E=>?_;refine aY 4 E I (L7 I aF) λad c a w E I=>?_;generalize (ef s 0)=l at E I o3 gD;refine BY 10 E I (λbD a E=>?_) λbD a E=>?_
 ·
  refine RT 12 E I ?_;exact⟨by rw[o3,bD,Bool.and_false],I.sub⟩
 refine BY 5 E I (λjY a E=>?_) λjY a E=>?_
 ·
  refine RT 7 E I ?_;exact⟨by rw[o3,bu (by omega)];simp,I.sub⟩
 refine IF 4 E I (λak a E=>?_) λak a E=>?_
 ·
  refine RT 2 E I ?_;exact⟨by rw[o3,bu (p:=l.length≤20) (by omega)];simp,I.sub⟩
 refine RN 3 E I λa E=>?_;refine aL (λμ a w=>∃ i:Nat,(μ=l.length-i∧i≤l.length∧∀ j x,j<i→l[j]?=some x→kR x=true)∧Fr a 41 [(3,.slice ad l.length c),(5,.int .i64 i)]∧U W w (Sl 21 1 ad l.length c (RI l)::L)) (l.length) (⟨0,⟨by simp,by simp,λj x h=>absurd h (by omega)⟩,E.ab [3,5],I⟩) ?_;clear E I;rintro μ a w ⟨i,⟨rfl,hi,cI⟩,E,I⟩;refine IF 6 E I (λao a E=>?_) λao a E=>?_
 ·
  obtain⟨b,o,rfl,da⟩:=I.bU ad (by omega);obtain⟨x,hx⟩:∃ x,l[i]?=some x:=⟨_,aD (by omega)⟩;have lS:=da i _ (L8 hx);refine RN 5 E I λa E=>?_;refine SS E (ae E (lS)) λa E=>?_;refine BY 2 E I (λjr a E=>?_) λjr a E=>?_
  ·
   refine RT 9 E I ?_;refine⟨?_,I.sub⟩;have jZ:kR x=false:=by
    simp only[kR,Bool.and_eq_false_iff,sh];omega
   have iv:l.all kR=false:=by rw[List.all_eq_false];exact⟨x,bI hx,by rw[jZ];decide⟩
   rw[o3,iv];simp
  refine RN 3 E I λa E=>?_;refine bA E (cv E rfl (s:=34)) (ae E (lS)) rfl λa E=>?_;refine IF 2 E I (λay a E=>?_) λay a E=>?_
  ·
   refine RT 2 E I ?_;refine⟨?_,I.sub⟩;have jZ:kR x=false:=by
    simp only[kR,Bool.and_eq_false_iff,sh];omega
   have iv:l.all kR=false:=by rw[List.all_eq_false];exact⟨x,bI hx,by rw[jZ];decide⟩
   rw[o3,iv];simp
  refine RN 3 E I λa E=>?_;refine⟨l.length-(i+1),by omega,i+1,⟨rfl,by omega,λj y hj hy=>?_⟩,E.ab [3,5],I.sub⟩;rcases gX j i with h | h
  ·exact cI j y h hy
  ·obtain rfl:j=i:=by omega
   rw[hx]at hy;cases hy;simp only[kR,fK,qK];omega
 refine RT 2 E I ?_;refine⟨?_,I.sub⟩;have iv:l.all kR=true:=by
  rw[all_eq_true];intro x hx;obtain⟨j,hj⟩:=ke.1 hx;exact cI j x (by have:=(a2.1 hj).1;omega) hj
 rw[o3,iv,bD,dr (p:=1≤l.length) (by omega),dr (p:=l.length≤20) (by omega)];rfl
theorem B8 {x:Int}(I:U W w L):Calls prog 108 #[.int .i64 x] w λe w'=>∃ r:Bool,e=.returned (.bool r)∧(r=true↔du x)∧U W w' L:=by
 simp only[du];refine EN func108 ntmps108 rfl rfl λa E=>?_;refine BY 6 E I (λbD a E=>?_) λbD a E=>?_
 ·
  refine RT 4 E I ?_;exact⟨_,rfl,by rw[cu];omega,I⟩
 refine RT 4 E I ?_;exact⟨_,rfl,⟨λh=>(by cases h),λh=>by omega⟩,I⟩
theorem YZ {p:Pr}(I:U W w (aA W p aq cO::L))(aF:p.title.size≤1000000000)(eb:p.ops.length≤1000000000) :
   Calls prog 68 #[.agg (bR p aq cO).toArray] w λe w'=>∃ r:Bool,e=.returned (.bool r)∧(r=true↔xg p)∧U W w' (aA W p aq cO::L):=by
 refine EN func68 ntmps68 rfl rfl λa E=>?_;refine BX 1 E I λb1 a w E I=>?_;change U W w (aa b1 45 (bR p aq cO)::_) at I;refine CL 5 E I (YY I aF) λa w E I=>?_;refine BY 2 E I (λdt a E=>?_) λdt a E=>?_
 ·
  refine RT 14 E I ?_;exact⟨false,rfl,⟨λh=>(by cases h),λh=>by rw[h.1]at dt;cases dt⟩,I.sub⟩
 have Y0:p3 p.title=true:=by simpa using dt
 refine BY 6 E I (λmn a E=>?_) λmn a E=>?_
 ·
  refine RT 8 E I ?_;exact⟨false,rfl,⟨λh=>(by cases h),λh=>by have:=h.2.1;omega⟩,I.sub⟩
 refine IF 5 E I (λak a E=>?_) λak a E=>?_
 ·
  refine RT 2 E I ?_;exact⟨false,rfl,⟨λh=>(by cases h),λh=>by have:=h.2.2.1;omega⟩,I.sub⟩
 refine RN 3 E I λa E=>?_;refine aL (λμ a w=>∃ i:Nat,(μ=p.ops.length-i∧i≤p.ops.length∧∀ j o,j<i→p.ops[j]?=some o→sf o)∧Fr a 55 [(1,pt b1),(3,.int .i64 i)]∧U W w (aa b1 45 (bR p aq cO)::aA W p aq cO::L)) (p.ops.length) (⟨0,⟨by simp,by simp,λj o h=>absurd h (by omega)⟩,E.ab [1,3],I.sub⟩) ?_;clear E I;rintro μ a w ⟨i,⟨rfl,hi,cI⟩,E,I⟩;refine IF 7 E I (λao a E=>?_) λao a E=>?_
 ·
  obtain⟨o,ho⟩:∃ o,p.ops[i]?=some o:=⟨_,aD (by omega)⟩;obtain⟨ld,oo,rfl,gQ⟩:=I.sg aq (by omega);refine RN 6 E I λa E=>?_;refine SS E (bT E rV rfl Ty.t114 (xh gQ ho)) λa E=>?_;refine AL 0 E I λb4 a w E I=>?_;refine SA 0 E I λa w E I=>?_;refine bg 3 E I (B8 I) λr1 a w E ⟨fl,I⟩=>?_;refine BY 2 E I (λdt a E=>?_) λdt a E=>?_
  ·
   have kh:¬ sf o:=λh=>by rw[fl.2 h.1]at dt;cases dt
   refine RT 20 E I ?_;exact⟨false,rfl,⟨λh=>(by cases h),λh=>absurd (h.2.2.2 o (bI ho)) kh⟩,I.sub⟩
  refine bg 2 E I (B8 I) λr2 a w E ⟨eO,I⟩=>?_;refine BY 3 E I (λmn a E=>?_) λmn a E=>?_
  ·
   have kh:¬ sf o:=λh=>by rw[eO.2 h.2.1]at mn;cases mn
   refine RT 14 E I ?_;exact⟨false,rfl,⟨λh=>(by cases h),λh=>absurd (h.2.2.2 o (bI ho)) kh⟩,I.sub⟩
  refine bg 2 E I (B8 I) λr3 a w E ⟨kn,I⟩=>?_;refine BY 3 E I (λvq a E=>?_) λvq a E=>?_
  ·
   have kh:¬ sf o:=λh=>by rw[kn.2 h.2.2.1]at vq;cases vq
   refine RT 8 E I ?_;exact⟨false,rfl,⟨λh=>(by cases h),λh=>absurd (h.2.2.2 o (bI ho)) kh⟩,I.sub⟩
  refine bg 2 E I (B8 I) λGe a w E ⟨q9,I⟩=>?_;refine IF 2 E I (λay a E=>?_) λay a E=>?_
  ·
   have kh:¬ sf o:=λh=>by rw[q9.2 h.2.2.2]at ay;cases ay
   refine RT 2 E I ?_;exact⟨false,rfl,⟨λh=>(by cases h),λh=>absurd (h.2.2.2 o (bI ho)) kh⟩,I.sub⟩
  have Gf:sf o:=⟨fl.1 (by simpa using dt),eO.1 (by simpa using mn),kn.1 (by simpa using vq),q9.1 (by simpa using ay)⟩;refine RN 3 E I λa E=>?_;refine⟨p.ops.length-(i+1),by omega,i+1,⟨rfl,by omega,λj o' hj kH=>?_⟩,E.ab [1,3],I.sub⟩;rcases gX j i with h | h
  ·exact cI j o' h kH
  ·obtain rfl:j=i:=by omega
   rw[ho]at kH;cases kH;exact Gf
 refine RT 2 E I ?_;refine⟨true,rfl,⟨λ_=>⟨Y0,by omega,by omega,λo ho=>?_⟩,λ_=>rfl⟩,I.sub⟩;obtain⟨j,hj⟩:=ke.1 ho;exact cI j o (by have:=(a2.1 hj).1;omega) hj
theorem Y1:∀ m:Nat,m≤15→(([[.int .i64 0],[.int .i64 2],[.int .i64 2],[.int .i64 3],[.int .i64 3],[.int .i64 3],[.int .i64 3],[.int .i64 3],[.int .i64 3],[.int .i64 1],[.int .i64 2],[.int .i64 2],[.int .i64 2],[.int .i64 2],[.int .i64 2],[.int .i64 1]].flatten:List Value))[m]?=some (.int .i64 (xx (m:Int)))
 | 0,_=>rfl
 | 1,_=>rfl
 | 2,_=>rfl
 | 3,_=>rfl
 | 4,_=>rfl
 | 5,_=>rfl
 | 6,_=>rfl
 | 7,_=>rfl
 | 8,_=>rfl
 | 9,_=>rfl
 | 10,_=>rfl
 | 11,_=>rfl
 | 12,_=>rfl
 | 13,_=>rfl
 | 14,_=>rfl
 | 15,_=>rfl
 | n+16,h=>absurd h (by omega)
theorem Y2 {k:Int}(I:U W w L)(hk:0≤k∧k≤15):Calls prog 109 #[.int .i64 k] w λe w'=>e=.returned (.int .i64 (xx k))∧U W w' L:=by
 obtain⟨m,rfl⟩:∃ m:Nat,k=m:=⟨k.toNat,by omega⟩;have hm:m≤15:=by omega
 refine EN func109 ntmps109 rfl rfl λa E=>?_;refine RN 3 E I λa E=>?_;refine ct E rfl I lR Ty.t3 rfl rfl rfl rfl (by decide) (by decide) λb4 a w E I ho=>?_;clear ho;refine RN 5 E I λa E=>?_;refine SS E (ae E ((I.bC (Y1 m hm)))) λa E=>?_;refine RT 1 E I ?_;exact⟨rfl,I.sub⟩
theorem L9 {o:gO}:∀ k:Nat,k<3→([[.int .i64 o.a],[.int .i64 o.b],[.int .i64 o.c]].flatten:List Value)[k]?=some (.int .i64 (B4 o k))
 | 0,_=>rfl
 | 1,_=>rfl
 | 2,_=>rfl
 | n+3,h=>absurd h (by omega)
theorem Y3 {n:Nat}{o:gO}(I:U W w L):Calls prog 69 #[.agg (dS o).toArray,.int .i64 n] w λe w'=>∃ r:Bool,e=.returned (.bool r)∧(r=true↔e9 n o)∧U W w' L:=by
 refine EN func69 ntmps69 rfl rfl λa E=>?_;refine BX 1 E I λb2 a w E I=>?_;change U W w (aa b2 114 (dS o)::_) at I;refine BY 7 E I (λbW a E=>?_) λbW a E=>?_
 ·
  refine RT 7 E I ?_;exact⟨false,rfl,⟨λh=>(by cases h),λh=>by have:=(zn.1 h).1;omega⟩,I.sub⟩
 refine IF 4 E I (λak a E=>?_) λak a E=>?_
 ·
  refine RT 2 E I ?_;exact⟨false,rfl,⟨λh=>(by cases h),λh=>by have:=(zn.1 h).1;omega⟩,I.sub⟩
 refine RN 7 E I λa E=>?_;refine ct E rfl I lR Ty.t3 rfl rfl rfl rfl (by decide) (by decide) λvr a w E I ho=>?_;clear ho;refine RN 4 E I λa E=>?_;refine aL (λμ a w=>∃ k:Nat,(μ=3-k∧k≤3∧∀ j,j<k→so n o j)∧Fr a 68 [(1,.int .i64 n),(2,pt b2),(5,.slice (some ⟨vr,0,none⟩) 3 3),(6,.int .i64 k)]∧U W w (aa vr 3 [[.int .i64 o.a],[.int .i64 o.b],[.int .i64 o.c]].flatten::aa b2 114 (dS o)::L)) (3) (⟨0,⟨by simp,by simp,λj h=>absurd h (by omega)⟩,E.ab [1,2,5,6],I.sub⟩) ?_;clear E I;rintro μ a w ⟨k,⟨rfl,hk,cI⟩,E,I⟩;refine IF 4 E I (λao a E=>?_) λao a E=>?_
 ·
  refine RN 3 E I λa E=>?_;refine b6 (M:=λa w=>(xx o.code≤k∨¬ (o.code=1∧k=1))∧Fr a 68 [(1,.int .i64 n),(2,pt b2),(5,.slice (some ⟨vr,0,none⟩) 3 3),(6,.int .i64 k),(7,.int .i64 (kq n o k))]∧U W w (aa vr 3 [[.int .i64 o.a],[.int .i64 o.b],[.int .i64 o.c]].flatten::aa b2 114 (dS o)::L)) ?_ ?_
  ·
   refine CL 4 E I (Y2 I (by omega)) λa w E I=>?_;refine IF 2 E I (λay a E=>?_) λay a E=>?_
   ·
    refine RN 1 E I λa E=>?_;refine⟨.inl (by omega),?_,I.sub⟩;rw[show kq n o k=0 from aj (by omega)];exact E.ab [1,2,5,6,7]
   refine BY 5 E I (λbW a E=>?_) λbW a E=>?_
   ·
    refine IF 4 E I (λbl a E=>?_) λbl a E=>?_
    ·
     refine RN 3 E I λa E=>?_;refine⟨3-(k+1),by omega,k+1,⟨rfl,by omega,λj hj=>?_⟩,E.ab [1,2,5,6],I.sub⟩;rcases gX j k with h | h
     ·exact cI j h
     ·obtain rfl:j=k:=by omega
      exact .inl ⟨by omega,by omega,by omega⟩
    refine BY 5 E I (λbW a E=>?_) λbW a E=>?_
    ·
     refine RN 12 E I λa E=>?_;refine⟨.inr (by omega),?_,I.sub⟩;rw[show kq n o k=n from by rw[kq,ag (by omega),aj (by omega)]];exact E.ab [1,2,5,6,7]
    refine BY 4 E I (λjY a E=>?_) λjY a E=>?_
    ·
     refine IF 5 E I (λbO a E=>?_) λbO a E=>?_
     ·
      refine RN 2 E I λa E=>?_;refine⟨.inr (by omega),?_,I.sub⟩;rw[show kq n o k=n from by rw[kq,ag (by omega),aj (by omega)]];exact E.ab [1,2,5,6,7]
     refine RN 0 E I λa E=>?_;refine⟨.inr (by omega),?_,I.sub⟩;rw[show kq n o k=31 from by rw[kq,ag (by omega),ag (by omega)]];exact E.ab [1,2,5,6,7]
    refine RN 6 E I λa E=>?_;refine⟨.inr (by omega),?_,I.sub⟩;rw[show kq n o k=31 from by rw[kq,ag (by omega),ag (by omega)]];exact E.ab [1,2,5,6,7]
   refine BY 10 E I (λbW a E=>?_) λbW a E=>?_
   ·
    refine RN 12 E I λa E=>?_;refine⟨.inr (by omega),?_,I.sub⟩;rw[show kq n o k=n from by rw[kq,ag (by omega),aj (by omega)]];exact E.ab [1,2,5,6,7]
   refine BY 4 E I (λjY a E=>?_) λjY a E=>?_
   ·
    refine IF 5 E I (λbO a E=>?_) λbO a E=>?_
    ·
     refine RN 2 E I λa E=>?_;refine⟨.inr (by omega),?_,I.sub⟩;rw[show kq n o k=n from by rw[kq,ag (by omega),aj (by omega)]];exact E.ab [1,2,5,6,7]
    refine RN 0 E I λa E=>?_;refine⟨.inr (by omega),?_,I.sub⟩;rw[show kq n o k=31 from by rw[kq,ag (by omega),ag (by omega)]];exact E.ab [1,2,5,6,7]
   refine RN 6 E I λa E=>?_;refine⟨.inr (by omega),?_,I.sub⟩;rw[show kq n o k=31 from by rw[kq,ag (by omega),ag (by omega)]];exact E.ab [1,2,5,6,7]
  clear E;(try clear I);rintro a w ⟨Fc,E,I⟩;refine RN 4 E I λa E=>?_;refine SS E (ae E ((I.bC (L9 k (by omega))))) λa E=>?_;refine BY 2 E I (λjr a E=>?_) λjr a E=>?_
  ·
   refine RT 10 E I ?_;refine⟨false,rfl,⟨λh=>(by cases h),λh=>?_⟩,I.sub⟩;have ch:so n o k:=by
    obtain⟨_,h0,h1,h2⟩:=zn.1 h;rcases (by omega:k=0∨k=1∨k=2) with rfl | rfl | rfl
    ·exact h0
    ·exact h1
    ·exact h2
   simp only[so]at ch;omega
  refine RN 3 E I λa E=>?_;refine bA E (cv E rfl (s:=60)) (ae E ((I.bC (L9 k (by omega))))) rfl λa E=>?_;refine IF 3 E I (λeL a E=>?_) λeL a E=>?_
  ·
   refine RT 2 E I ?_;refine⟨false,rfl,⟨λh=>(by cases h),λh=>?_⟩,I.sub⟩;have ch:so n o k:=by
    obtain⟨_,h0,h1,h2⟩:=zn.1 h;rcases (by omega:k=0∨k=1∨k=2) with rfl | rfl | rfl
    ·exact h0
    ·exact h1
    ·exact h2
   simp only[so]at ch;omega
  refine RN 3 E I λa E=>?_;refine⟨3-(k+1),by omega,k+1,⟨rfl,by omega,λj hj=>?_⟩,E.ab [1,2,5,6],I.sub⟩;rcases gX j k with h | h
  ·exact cI j h
  ·obtain rfl:j=k:=by omega
   exact .inr ⟨by omega,by omega⟩
 refine RT 2 E I ?_;exact⟨true,rfl,⟨λ_=>zn.2 ⟨by omega,cI 0 (by omega),cI 1 (by omega),cI 2 (by omega)⟩,λ_=>rfl⟩,I.sub⟩
theorem Y4 {p:Pr}(I:U W w (aA W p aq cO::L))(aF:p.title.size≤1000000000)(eb:p.ops.length≤1000000000) :
   Calls prog 48 #[.agg (bR p aq cO).toArray] w λe w'=>∃ r:Int,e=.returned (.int .i64 r)∧(r = -1↔dp p)∧U W w' (aA W p aq cO::L):=by
 refine EN func48 ntmps48 rfl rfl λa E=>?_;refine BX 1 E I λb1 a w E I=>?_;change U W w (aa b1 45 (bR p aq cO)::_) at I;refine bg 4 E I (YZ (I.pick (aA W p aq cO)) aF eb) λr a w E ⟨hr,I⟩=>?_;refine IF 1 E I (λak a E=>?_) λak a E=>?_
 ·
  have Y5:¬ xg p:=λh=>by rw[hr.2 h]at ak;cases ak
  refine RT 2 E I ?_;exact⟨-2,rfl,⟨λh=>absurd h (by decide),λh=>absurd h.1 Y5⟩,I.sub⟩
 have mv:xg p:=hr.1 (by simpa using ak);refine RN 3 E I λa E=>?_;refine aL (λμ a w=>∃ i:Nat,(μ=p.ops.length-i∧i≤p.ops.length∧∀ j o,j<i→p.ops[j]?=some o→e9 p.ops.length o)∧Fr a 25 [(1,pt b1),(3,.int .i64 i)]∧U W w (aa b1 45 (bR p aq cO)::aA W p aq cO::L)) (p.ops.length) (⟨0,⟨by simp,by simp,λj o h=>absurd h (by omega)⟩,E.ab [1,3],I.sub⟩) ?_;clear E I;rintro μ a w ⟨i,⟨rfl,hi,cI⟩,E,I⟩;refine IF 7 E I (λao a E=>?_) λao a E=>?_
 ·
  refine RN 2 E I λa E=>?_;obtain⟨o,ho⟩:∃ o,p.ops[i]?=some o:=⟨_,aD (by omega)⟩;obtain⟨ld,oo,rfl,gQ⟩:=I.drew.sg aq (by omega);have fo:=xh gQ ho;refine rT 0 (λw'=>Rd w' b1 0 (bR p (some ⟨ld,oo,none⟩) cO)∧Rd w' ld (oo+i*4) (dS o)) [6,7] [0,2,5,3001,3,3004,1006,1007,1008,9] E I λa E=>?_;replace I:=I.drew;generalize w.drew=w at I fo ⊢;have hC:Rd w b1 0 (bR p (some ⟨ld,oo,none⟩) cO)∧Rd w ld (oo+i*4) (dS o):=⟨I.ai,fo⟩;have hH:=Hd.any (λw'=>Rd w' b1 0 (bR p (some ⟨ld,oo,none⟩) cO)∧Rd w' ld (oo+i*4) (dS o));refine RH 3 E I hH hC λa E=>?_;refine QH E (λw hc=>ae E (hc.1 1 _ rfl)) hC λa E=>?_;refine RH 1 E I hH hC λa E=>?_;refine QH E (λw hc=>bT E rV rfl Ty.t114 (hc.2)) hC λa E=>?_;refine RH 0 E I hH hC λa E=>?_;refine SS E (ae E (hC.1 1 _ rfl)) λa E=>?_;refine RH 1 E I hH hC λa E=>?_;refine bg 0 E I (Y3 (n:=p.ops.length) (o:=o) I) λr a w E ⟨hr,I⟩=>?_;refine RN 1 E I λa E=>?_;refine IF 0 E I (λay a E=>?_) λay a E=>?_
  ·
   have bX:¬ e9 p.ops.length o:=λh=>by rw[hr.2 h]at ay;cases ay
   refine RT 3 E I ?_;exact⟨i,rfl,⟨λh=>absurd h (by omega),λh=>absurd (h.2 o (bI ho)) bX⟩,I.sub⟩
  have ds:e9 p.ops.length o:=hr.1 (by simpa using ay);refine RN 3 E I λa E=>?_;refine⟨p.ops.length-(i+1),by omega,i+1,⟨rfl,by omega,λj o' hj kH=>?_⟩,E.ab [1,3],I.sub⟩;rcases gX j i with h | h
  ·exact cI j o' h kH
  ·obtain rfl:j=i:=by omega
   rw[ho]at kH;cases kH;exact ds
 refine RT 2 E I ?_;refine⟨-1,rfl,⟨λ_=>⟨mv,λo ho=>?_⟩,λ_=>rfl⟩,I.sub⟩;obtain⟨j,hj⟩:=ke.1 ho;exact cI j o (by have:=(a2.1 hj).1;omega) hj
end
end
section
theorem B9 {x y:Int}(h1:-2147483648≤y)(h2:y≤2147483647)(h3:x%4294967296=y%4294967296):iz x=y:=by
 simp only[iz,IntKind.wrap,IntKind.signed,IntKind.bits];simp;split <;> omega
section
variable {W w:World}{L:List SP}{p:Pr}{aq adP:Option Addr}{cO cP:Nat}{b:List UInt8}{g:Nat→Int}{fr:Int}
theorem zq {x:Int}(I:U W w L)(h1:-9223372036854775808≤x)(h2:x≤9223372036854775807):Calls prog 151 #[.int .i64 x] w λe w'=>e=.returned (.int .i32 (iz x))∧U W w' L:=by
 have mz:=Int.tmod_lt_of_pos x (b:=4294967296) (by decide);have iC:=Int.lt_tmod_of_pos x (b:=4294967296) (by decide);have zr:(x.tmod 4294967296)%4294967296=x%4294967296:=by
  rw[Int.tmod_eq_emod];split <;> omega
 refine EN func151 ntmps151 rfl rfl λa E=>?_;refine IF 10 E I (λak a E=>?_) λak a E=>?_
 ·
  refine IF 7 E I (λao a E=>?_) λao a E=>?_
  ·
   refine SX 5 E I (iA (by omega) (by omega)) λa E=>?_;refine RT 1 E I ?_;exact⟨by rw[B9 (y:=x.tmod 4294967296+4294967296-4294967296) (by omega) (by omega) (by omega)],I⟩
  refine SX 2 E I (iA (by omega) (by omega)) λa E=>?_;refine RT 1 E I ?_;exact⟨by rw[B9 (y:=x.tmod 4294967296+4294967296) (by omega) (by omega) (by omega)],I⟩
 refine IF 4 E I (λao a E=>?_) λao a E=>?_
 ·
  refine SX 5 E I (iA (by omega) (by omega)) λa E=>?_;refine RT 1 E I ?_;exact⟨by rw[B9 (y:=x.tmod 4294967296-4294967296) (by omega) (by omega) (by omega)],I⟩
 refine SX 2 E I (iA (by omega) (by omega)) λa E=>?_;refine RT 1 E I ?_;exact⟨by rw[B9 (y:=x.tmod 4294967296) (by omega) (by omega) (by omega)],I⟩
theorem Ma {x:Int}(I:U W w L)(hx:du x):Calls prog 150 #[.int .i32 x,.int .i64 32] w λe w'=>e=.returned (.int .i64 (kS x))∧U W w' L:=by
 have h1:=Int.tmod_lt_of_pos x (b:=32) (by decide);have h2:=Int.lt_tmod_of_pos x (b:=32) (by decide);have hm:(kS x:Int)=x%32:=by
  have h1:=Int.emod_nonneg x (show (32:Int)≠0 by decide);show (((x%32).toNat:Nat):Int)=_;omega
 have ht:x.tmod 32=if 0≤x then x%32 else -((-x)%32):=by
  split
  ·exact Int.tmod_eq_emod_of_nonneg (by omega)
  ·rw[← Int.neg_neg (x.tmod 32),← Int.neg_tmod,Int.tmod_eq_emod_of_nonneg (by omega)]
 simp only[du]at hx;refine EN func150 ntmps150 rfl rfl λa E=>?_;refine RN 6 E I λa E=>?_;replace E:=E.aQ 7;refine SX 3 E I (gy (by omega) (by omega)) λa E=>?_;refine IF 7 E I (λao a E=>?_) λao a E=>?_
 ·
  refine RN 4 E I λa E=>?_;rw[show x.tmod 32+32=(kS x:Int) from by rw[hm,ht];split <;> omega]at E;refine RT 3 E I ?_;exact⟨rfl,I⟩
 refine RT 3 E I ?_;exact⟨by rw[hm,show x.tmod 32=x%32 from by rw[ht] at *;split at*<;> omega],I⟩
theorem Y6 {x:Int}(I:U W w L)(hx:du x)(hb:b.length≤1099511627776)(hp:∀ w',U W w' L→aX w' adP b.length b) :
   Calls prog 149 #[.slice adP b.length cP,.int .i32 x] w λe w'=>e=.returned (.int .i32 (mX b x))∧U W w' L:=by
 simp only[du]at hx;refine EN func149 ntmps149 rfl rfl λa E=>?_;refine BY 7 E I (λbD a E=>?_) λbD a E=>?_
 ·
  refine RT 9 E I ?_;exact⟨by rw[mX,ag (by omega)],I⟩
 refine SX 1 E I (by rw[gy (by omega) (by omega)]) λa E=>?_;refine IF 4 E I (λak a E=>?_) λak a E=>?_
 ·
  refine RT 2 E I ?_;exact⟨by rw[mX,ag (by omega)],I⟩
 refine RN 1 E I λa E=>?_;obtain⟨k,hk⟩:∃ k:Nat,x=(k:Int):=⟨x.toNat,by omega⟩;obtain⟨_,_,a6⟩:=hp _ I;have zj:k<b.length:=by omega
 obtain⟨bp,op,hK,da⟩:∃ bp op,adP=some ⟨bp,op,none⟩∧Rd w bp op (bc b):=by
  cases hh:adP with
  | none =>
   have:=(hp _ I).2.1 hh;omega
  | some a =>
   obtain⟨b1,o1,rfl,h1⟩:=a6 a hh (by omega);exact⟨b1,o1,rfl,h1⟩
 rw[hk]at E;refine RN 1 E I λa E=>?_;rw[hK]at E;refine RN 2 E I λa E=>?_;refine SS E (ae E (da k (.int .u8 b[k].toNat) (by simp[bc,zj]))) λa E=>?_;refine SX 0 E I (by have:=b[k].toNat_lt;exact iA (by omega) (by omega)) λa E=>?_;refine RT 1 E I ?_;refine⟨?_,I⟩;rw[mX,aj (by omega),hk,c9,br,aD zj];rfl
theorem Y7 {x y:Int}(I:U W w L)(hx:du x)(hy:du y):Calls prog 188 #[.int .i32 x,.int .i32 y] w λe w'=>e=.returned (.int .i32 (if y=0 then 0 else iz (x.tdiv y)))∧U W w' L:=by
 simp only[du]at hx hy;have hq:y≠0 → -9223372036854775808≤x.tdiv y∧x.tdiv y≤9223372036854775807:=λh=>by
  have h1:(x.tdiv y).natAbs≤x.natAbs:=by rw[Int.natAbs_tdiv];exact Nat.div_le_self _ _
  omega
 refine EN func188 ntmps188 rfl rfl λa E=>?_;refine IF 6 E I (λak a E=>?_) λak a E=>?_
 ·
  refine RT 2 E I ?_;exact⟨by rw[aj ak],I⟩
 refine SX 2 E I (gy (by omega) (by omega)) λa E=>?_;refine SX 1 E I (gy (by omega) (by omega)) λa E=>?_;refine RN 0 E I λa E=>?_;refine SS E (Km E (by omega)) λa E=>?_;rw[gy (hq ak).1 (hq ak).2]at E;refine CL 0 E I (zq I (hq ak).1 (hq ak).2) λa w E I=>?_;refine RT 1 E I ?_;exact⟨by rw[ag ak],I⟩
theorem Y8 {k x y:Int}(I:U W w L)(hx:du x)(hy:du y):Calls prog 152 #[.int .i64 k,.int .i32 x,.int .i32 y] w λe w'=>e=.returned (.int .i32 (jm k x y))∧U W w' L:=by
 have dm:=hx;have iR:=hy;simp only[du]at dm iR;have hmul:-9223372036854775808≤x*y∧x*y≤9223372036854775807:=by
  have h1:(x*y).natAbs≤2147483648*2147483648:=by rw[Int.natAbs_mul];exact Nat.mul_le_mul (by omega) (by omega)
  omega
 refine EN func152 ntmps152 rfl rfl λa E=>?_;refine IF 10 E I (λak a E=>?_) λak a E=>?_
 ·
  refine SX 2 E I (gy (by omega) (by omega)) λa E=>?_;refine SX 1 E I (gy (by omega) (by omega)) λa E=>?_;refine CL 1 E I (zq I (by omega) (by omega)) λa w E I=>?_;refine RT 1 E I ?_;exact⟨by simp[jm,ak],I⟩
 refine IF 3 E I (λao a E=>?_) λao a E=>?_
 ·
  refine SX 2 E I (gy (by omega) (by omega)) λa E=>?_;refine SX 1 E I (gy (by omega) (by omega)) λa E=>?_;refine CL 1 E I (zq I (by omega) (by omega)) λa w E I=>?_;refine RT 1 E I ?_;exact⟨by simp[jm,ao],I⟩
 refine IF 3 E I (λay a E=>?_) λay a E=>?_
 ·
  refine SX 2 E I (gy (by omega) (by omega)) λa E=>?_;refine SX 1 E I (gy (by omega) (by omega)) λa E=>?_;refine SX 0 E I ⟨(by first | exact hmul.1 | exact hmul.2),(by first | exact hmul.1 | exact hmul.2)⟩ λa E=>?_;refine CL 0 E I (zq I hmul.1 hmul.2) λa w E I=>?_;refine RT 1 E I ?_;exact⟨by simp[jm,ay],I⟩
 refine IF 3 E I (λbl a E=>?_) λbl a E=>?_
 ·
  refine CL 3 E I (Y7 I hx hy) λa w E I=>?_;refine RT 1 E I ?_;exact⟨by simp[jm,bl],I⟩
 refine IF 3 E I (λbO a E=>?_) λbO a E=>?_
 ·
  refine IF 7 E I (λeL a E=>?_) λeL a E=>?_
  ·
   refine RT 2 E I ?_;exact⟨by simp[jm,bO,eL],I⟩
  refine RT 2 E I ?_;exact⟨by simp[jm,bO];omega,I⟩
 refine IF 7 E I (λeL a E=>?_) λeL a E=>?_
 ·
  refine RT 2 E I ?_;exact⟨by simp[jm,ak,ao,ay,bl,bO,eL],I⟩
 refine RT 2 E I ?_;exact⟨by simp[jm,ak,ao,ay,bl,bO];omega,I⟩
theorem ints_at {w:World}{m2 j:Nat}{g:Nat→Int}(h:Rd w m2 0 (ints .i32 32 g))(hj:j<32):w.cell? ⟨m2,j,none⟩=some (.int .i32 (g j)):=by
 have:=h j _ (ga g hj)
 rwa [ei]at this
theorem Gg (I:U W w (aA W p aq cO::L))(a6:dp p)(aF:p.title.size≤1000000000)(hg:dT g)(hb:b.length≤1099511627776)(hf:-4611686018427387904≤fr∧fr≤4611686018427387904)(hp:∀ w',U W w' L→aX w' adP b.length b) :
   Calls prog 104 #[.agg (bR p aq cO).toArray,.agg (ints .i32 32 g).toArray,.int .i64 fr,.slice adP b.length cP] w λe w'=>∃ n:Int,e=.returned (.tuple #[.agg (ints .i32 32 (fa p fr b g)).toArray,.int .i64 n])∧dT (fa p fr b g)∧U W w' (aA W p aq cO::L):=by
 have eb:p.ops.length≤64:=a6.1.2.2.1;refine EN func104 ntmps104 rfl rfl λa E=>?_;refine BX 1 E I λb4 a w E I=>?_;change U W w (aa b4 45 (bR p aq cO)::_) at I;refine BX 0 E I λb5 a w E I=>?_;change U W w (aa b5 49 (ints .i32 32 g)::_) at I;refine AL 0 E I λb8 a w E I=>?_;change U W w (aa b8 49 (ints .i32 32 (λ_=>0))::_) at I;refine bg 4 E I (Y4 (I.pick (aA W p aq cO)) aF (by omega)) λr a w E ⟨hr,I⟩=>?_;obtain rfl:r = -1:=hr.2 a6;refine RN 1 E I λa E=>?_;rw[show decide ((-1:Int) ≠ -1)=false from rfl]at E;replace E:=E.aQ 18;refine aY 7 E I (L7 I aF) λadT cT a w E I=>?_;refine RN 6 E I λa E=>?_;refine aL (λμ a w=>∃ (n aR:Nat) (g':Nat→Int),(μ=200-n∧n≤200∧aR≤p.ops.length∧dT g'∧qY p fr b (200-n) g' aR=fa p fr b g)∧Fr a 166 [(2,.int .i64 fr),(3,.slice adP b.length cP),(4,pt b4),(5,pt b5),(8,pt b8),(10,.int .i64 aR),(11,.int .i64 n),(12,.slice adT (ef p.title 0).length cT)]∧U W w (aa b5 49 (ints .i32 32 g')::aa b4 45 (bR p aq cO)::aa b8 49 (ints .i32 32 (λ_=>0))::Sl 21 1 adT (ef p.title 0).length cT (RI (ef p.title 0))::aA W p aq cO::L)) (200) (⟨0,0,g,⟨by simp,by simp,by simp,hg,rfl⟩,E.ab [2,3,4,5,8,10,11,12],I.sub⟩) ?_;clear E I;rintro μ a w ⟨n,aR,g',⟨rfl,hn,eX,ew,vt⟩,E,I⟩;refine BY 5 E I (λbD a E=>?_) λbD a E=>?_
 ·
  refine IF 6 E I (λao a E=>?_) λao a E=>?_
  ·
   obtain⟨o,ho⟩:∃ o,p.ops[aR]?=some o:=⟨_,aD (by omega)⟩;obtain⟨ld,oo,rfl,gQ⟩:=I.sg aq (by omega);have aS:=F2 (p:=p) (fr:=fr) (b:=b) (g:=g') (n:=200-(n+1)) ho;rw[show 200-(n+1)+1=200-n from by omega,vt]at aS;have ds:=a6.2 o (bI ho);have q6:=ds;simp only[e9,e8]at q6;have F0:o.code=9→q5 o.a p.ops.length:=λh=>q5.of (by omega);have kl:o.code≠9→o.code≠0→mw o.a 32:=λh h2=>mw.of (by omega);have F1:o.code=10→q5 o.b p.ops.length:=λh=>q5.of (by omega);have o8:o.code≠1→o.code≠15→o.code≠9→o.code≠10→o.code≠0→mw o.b 32:=λ_ _ _ _ _=>mw.of (by omega);have sk:o.code≠0→o.code≠1→o.code≠2→o.code≠9→o.code≠10→o.code≠11→o.code≠12→o.code≠13→o.code≠14→o.code≠15→mw o.c 32:=λ_ _ _ _ _ _ _ _ _ _=>mw.of (by omega);clear q6;refine RN 5 E I λa E=>?_;refine SS E (bT E rV rfl Ty.t114 (xh gQ ho)) λa E=>?_;refine AL 0 E I λeu a w E I=>?_;refine SA 0 E I λa w E I=>?_;refine IF 14 E I (λay a E=>?_) λay a E=>?_
   ·
    refine SA 3 E I λa w E I=>?_;refine RT 1 E I ?_;rw[show et p fr b g' aR o=(g',aR+1,false) from by rw[et,aj ay]]at aS;refine⟨_,by rw[aS];rfl,?_,I.sub⟩;rw[aS];exact ew
   refine IF 3 E I (λbl a E=>?_) λbl a E=>?_
   ·
    obtain⟨cF,dP,km⟩:=kl (by omega) (by omega);refine RN 2 E I λa E=>?_;rw[dP]at E;refine RN 2 E I λa E=>?_;refine SS E (gA E fk tn) λa E=>?_;refine ST 1 E I (λa w E I=>?_) (hlt:=(by rw[dk];omega));rw[ints_set,show (λi=>if i=cF then IntKind.i32.wrap o.b else g' i)=cn g' (cF) (iz o.b) from rfl]at I;refine RN 0 E I λa E=>?_;have fZ:et p fr b g' aR o=(cn g' (cF) (iz o.b),aR+1,true):=by
     rw[et,ag (by omega),ag (by omega),ag (by omega),ag (by omega),dP,c9,jW,aj bl]
    rw[fZ]at aS;exact⟨200-(n+1),by omega,n+1,aR+1,cn g' (cF) (iz o.b),⟨rfl,by omega,by omega,og ew (y8 _),aS.symm⟩,E.ab [2,3,4,5,8,10,11,12],I.sub⟩
   refine IF 3 E I (λbO a E=>?_) λbO a E=>?_
   ·
    refine RN 0 E I λa E=>?_;obtain⟨cF,dP,km⟩:=kl (by omega) (by omega);obtain⟨bE,ec,iU⟩:=o8 (by omega) (by omega) (by omega) (by omega) (by omega);refine aV 0 (λw0 w'=>Rd w' eu 0 (dS o)∧Rd w' b5 0 (ints .i32 32 g')) [3,4,5] [0,2,3001,1003,1004,1005,6,1007] E I λa w E I hH=>?_;have hC:=hH.at w ⟨I.ai,I.ai⟩;refine RH 2 E I hH hC λa E=>?_;refine QH E (λw hc=>ae E (hc.1 1 _ rfl)) hC λa E=>?_;rw[dP]at E;refine RH 0 E I hH hC λa E=>?_;refine SS E (ae E (hC.1 2 _ rfl)) λa E=>?_;rw[ec]at E;refine RH 1 E I hH hC λa E=>?_;refine SS E (ae E (ints_at hC.2 iU)) λa E=>?_;refine RH 1 E I hH hC λa E=>?_;refine ST 0 E I (λa w E I=>?_) (hlt:=(by rw[dk];omega));rw[ints_set,show (λi=>if i=cF then g' bE else g' i)=cn g' (cF) (g' bE) from rfl]at I;refine RN 0 E I λa E=>?_;have fZ:et p fr b g' aR o=(cn g' (cF) (g' bE),aR+1,true):=by
     rw[et,ag (by omega),ag (by omega),ag (by omega),ag (by omega),dP,c9,jW,ag (by omega),aj bO,ec,c9]
    rw[fZ]at aS;exact⟨200-(n+1),by omega,n+1,aR+1,cn g' (cF) (g' bE),⟨rfl,by omega,by omega,og ew (ew _ iU),aS.symm⟩,E.ab [2,3,4,5,8,10,11,12],I.sub⟩
   refine IF 3 E I (λeL a E=>?_) λeL a E=>?_
   ·
    obtain⟨cF,dP,km⟩:=F0 eL;refine RN 2 E I λa E=>?_;rw[dP]at E;refine RN 1 E I λa E=>?_;have fZ:et p fr b g' aR o=(g',cF,true):=by
     rw[et,ag (by omega),aj eL,dP,c9]
    rw[fZ]at aS;exact⟨200-(n+1),by omega,n+1,cF,g',⟨rfl,by omega,by omega,ew,aS.symm⟩,E.ab [2,3,4,5,8,10,11,12],I.sub⟩
   refine IF 3 E I (λmq a E=>?_) λmq a E=>?_
   ·
    refine RN 1 E I λa E=>?_;obtain⟨cF,dP,km⟩:=kl (by omega) (by omega);refine RN 2 E I λa E=>?_;rw[dP]at E;refine RN 1 E I λa E=>?_;refine SS E (ae E ((ints_at I.ai km))) λa E=>?_;refine IF 1 E I (λlX a E=>?_) λlX a E=>?_
    ·
     obtain⟨bE,ec,iU⟩:=F1 mq;refine RN 2 E I λa E=>?_;rw[ec]at E;refine RN 1 E I λa E=>?_;have fZ:et p fr b g' aR o=(g',bE,true):=by
      rw[et,ag (by omega),ag (by omega),aj mq,dP,c9,aj lX,ec,c9]
     rw[fZ]at aS;exact⟨200-(n+1),by omega,n+1,bE,g',⟨rfl,by omega,by omega,ew,aS.symm⟩,E.ab [2,3,4,5,8,10,11,12],I.sub⟩
    refine RN 0 E I λa E=>?_;have fZ:et p fr b g' aR o=(g',aR+1,true):=by
     rw[et,ag (by omega),ag (by omega),aj mq,dP,c9,ag lX]
    rw[fZ]at aS;exact⟨200-(n+1),by omega,n+1,aR+1,g',⟨rfl,by omega,by omega,ew,aS.symm⟩,E.ab [2,3,4,5,8,10,11,12],I.sub⟩
   refine IF 3 E I (λm0 a E=>?_) λm0 a E=>?_
   ·
    refine RN 0 E I λa E=>?_;obtain⟨cF,dP,km⟩:=kl (by omega) (by omega);obtain⟨bE,ec,iU⟩:=o8 (by omega) (by omega) (by omega) (by omega) (by omega);refine aV 0 (λw0 w'=>Rd w' eu 0 (dS o)∧Rd w' b5 0 (ints .i32 32 g')) [4,5,6,7] [0,2,3,3001,1004,1005,1006,1007,8,1009] E I λa w E I hH=>?_;have hC:=hH.at w ⟨I.ai,I.ai⟩;refine RH 3 E I hH hC λa E=>?_;refine QH E (λw hc=>ae E (hc.1 1 _ rfl)) hC λa E=>?_;rw[dP]at E;refine RH 0 E I hH hC λa E=>?_;refine SS E (ae E (hC.1 2 _ rfl)) λa E=>?_;rw[ec]at E;refine RH 1 E I hH hC λa E=>?_;refine SS E (ae E (ints_at hC.2 iU)) λa E=>?_;refine RH 0 E I hH hC λa E=>?_;refine CL 0 E I (Y6 I (ew _ iU) hb (λw' h=>hp w' h.sub)) λa w E I=>?_;replace hC:=hH.at w ⟨I.ai,I.ai⟩;refine RH 1 E I hH hC λa E=>?_;refine ST 0 E I (λa w E I=>?_) (hlt:=(by rw[dk];omega));rw[ints_set,show (λi=>if i=cF then mX b (g' bE) else g' i)=cn g' (cF) (mX b (g' bE)) from rfl]at I;refine RN 0 E I λa E=>?_;have fZ:et p fr b g' aR o=(cn g' (cF) (mX b (g' bE)),aR+1,true):=by
     rw[et,ag (by omega),ag (by omega),ag (by omega),ag (by omega),dP,c9,jW,ag (by omega),ag (by omega),aj m0,ec,c9]
    rw[fZ]at aS;exact⟨200-(n+1),by omega,n+1,aR+1,cn g' (cF) (mX b (g' bE)),⟨rfl,by omega,by omega,og ew (LQ _ _),aS.symm⟩,E.ab [2,3,4,5,8,10,11,12],I.sub⟩
   refine IF 3 E I (λkj a E=>?_) λkj a E=>?_
   ·
    refine RN 0 E I λa E=>?_;obtain⟨cF,dP,km⟩:=kl (by omega) (by omega);obtain⟨bE,ec,iU⟩:=o8 (by omega) (by omega) (by omega) (by omega) (by omega);have zk:=y7 (g' bE);refine aV 0 (λw0 w'=>Rd w' eu 0 (dS o)∧Rd w' b5 0 (ints .i32 32 g')) [3,4,5,6,7,8] [0,2,3001,1003,1004,1005,1006,1007,1008,9,1010] E I λa w E I hH=>?_;have hC:=hH.at w ⟨I.ai,I.ai⟩;refine RH 2 E I hH hC λa E=>?_;refine QH E (λw hc=>ae E (hc.1 1 _ rfl)) hC λa E=>?_;rw[dP]at E;refine RH 0 E I hH hC λa E=>?_;refine SS E (ae E (hC.1 2 _ rfl)) λa E=>?_;rw[ec]at E;refine RH 1 E I hH hC λa E=>?_;refine SS E (ae E (ints_at hC.2 iU)) λa E=>?_;refine RH 0 E I hH hC λa E=>?_;refine CL 0 E I (Ma I (ew _ iU)) λa w E I=>?_;replace hC:=hH.at w ⟨I.ai,I.ai⟩;refine RH 1 E I hH hC λa E=>?_;refine SS E (ae E (ints_at hC.2 zk)) λa E=>?_;refine RH 1 E I hH hC λa E=>?_;refine ST 0 E I (λa w E I=>?_) (hlt:=(by rw[dk];omega));rw[ints_set,show (λi=>if i=cF then g' (kS (g' bE)) else g' i)=cn g' (cF) (g' (kS (g' bE))) from rfl]at I;refine RN 0 E I λa E=>?_;have fZ:et p fr b g' aR o=(cn g' (cF) (g' (kS (g' bE))),aR+1,true):=by
     rw[et,ag (by omega),ag (by omega),ag (by omega),ag (by omega),dP,c9,jW,ag (by omega),ag (by omega),ag (by omega),aj kj,ec,c9]
    rw[fZ]at aS;exact⟨200-(n+1),by omega,n+1,aR+1,cn g' (cF) (g' (kS (g' bE))),⟨rfl,by omega,by omega,og ew (ew _ zk),aS.symm⟩,E.ab [2,3,4,5,8,10,11,12],I.sub⟩
   refine IF 3 E I (λxp a E=>?_) λxp a E=>?_
   ·
    refine RN 0 E I λa E=>?_;obtain⟨cF,dP,km⟩:=kl (by omega) (by omega);obtain⟨bE,ec,iU⟩:=o8 (by omega) (by omega) (by omega) (by omega) (by omega);have zk:=y7 (g' cF);refine aV 0 (λw0 w'=>Rd w' eu 0 (dS o)∧Rd w' b5 0 (ints .i32 32 g')) [4,6,7,8] [0,5,3001,2,3003,3006,3007,3008,1004,9,1010] E I λa w E I hH=>?_;have hC:=hH.at w ⟨I.ai,I.ai⟩;refine RH 2 E I hH hC λa E=>?_;refine QH E (λw hc=>ae E (hc.1 1 _ rfl)) hC λa E=>?_;rw[dP]at E;refine RH 1 E I hH hC λa E=>?_;refine QH E (λw hc=>ae E (ints_at hc.2 km)) hC λa E=>?_;refine QH E (λw hc=>ae E (hc.1 2 _ rfl)) hC λa E=>?_;rw[ec]at E;refine RH 1 E I hH hC λa E=>?_;refine QH E (λw hc=>ae E (ints_at hc.2 iU)) hC λa E=>?_;refine RH 0 E I hH hC λa E=>?_;refine CL 0 E I (Ma I (ew _ km)) λa w E I=>?_;replace hC:=hH.at w ⟨I.ai,I.ai⟩;refine RH 1 E I hH hC λa E=>?_;refine ST 0 E I (λa w E I=>?_) (hlt:=(by rw[dk];omega));rw[ints_set,show (λi=>if i=kS (g' cF) then g' bE else g' i)=cn g' (kS (g' cF)) (g' bE) from rfl]at I;refine RN 0 E I λa E=>?_;have fZ:et p fr b g' aR o=(cn g' (kS (g' cF)) (g' bE),aR+1,true):=by
     rw[et,ag (by omega),ag (by omega),ag (by omega),aj xp,dP,c9,ec,c9]
    rw[fZ]at aS;exact⟨200-(n+1),by omega,n+1,aR+1,cn g' (kS (g' cF)) (g' bE),⟨rfl,by omega,by omega,og ew (ew _ iU),aS.symm⟩,E.ab [2,3,4,5,8,10,11,12],I.sub⟩
   refine IF 3 E I (λtN a E=>?_) λtN a E=>?_
   ·
    refine RN 1 E I λa E=>?_;obtain⟨cF,dP,km⟩:=kl (by omega) (by omega);obtain⟨bE,ec,iU⟩:=o8 (by omega) (by omega) (by omega) (by omega) (by omega);have pa:=ew _ iU;have F4:=pa;simp only[du]at F4;refine RN 5 E I λa E=>?_;rw[ec]at E;refine RN 1 E I λa E=>?_;refine SS E (ae E ((ints_at I.ai iU))) λa E=>?_;refine BY 2 E I (λjr a E=>?_) λjr a E=>?_
    ·
     refine RN 2 E I λa E=>?_;rw[ec]at E;refine RN 1 E I λa E=>?_;refine bA E (cv E rfl (s:=136)) (ae E ((ints_at I.ai iU))) rfl λa E=>?_;refine SX 0 E I (gy (by omega) (by omega)) λa E=>?_;refine IF 4 E I (λzh a E=>?_) λzh a E=>?_
     ·
      obtain⟨rn,nC⟩:∃ rn:Nat,g' bE=rn:=⟨(g' bE).toNat,by omega⟩;obtain⟨agz,agA,rfl,Gh⟩:=I.bU adT (by omega);obtain⟨Gj,tG⟩:∃ Gj,(ef p.title 0)[rn]?=some Gj:=⟨_,aD (by omega)⟩;refine RN 3 E I λa E=>?_;rw[ec]at E;refine RN 1 E I λa E=>?_;refine SS E (ae E ((ints_at I.ai iU))) λa E=>?_;rw[nC]at E;refine RN 1 E I λa E=>?_;refine SS E (ae E ((Gh rn _ (L8 tG)))) λa E=>?_;refine RN 1 E I λa E=>?_;have qd:ny p.title (g' bE)=Gj.1:=by rw[ny,aj (by omega),nC,c9,tG];rfl
      rw[← qd]at E;refine RN 2 E I λa E=>?_;rw[dP]at E;refine ST 2 E I (λa w E I=>?_) (hlt:=(by rw[dk];omega));rw[ints_set,show (λi=>if i=cF then ny p.title (g' bE) else g' i)=cn g' cF (ny p.title (g' bE)) from rfl]at I;refine RN 0 E I λa E=>?_;have fZ:et p fr b g' aR o=(cn g' cF (ny p.title (g' bE)),aR+1,true):=by
       rw[et,ag (by omega),ag (by omega),ag (by omega),ag (by omega),dP,c9,jW,ag (by omega),ag (by omega),ag (by omega),ag (by omega),aj tN,ec,c9]
      rw[fZ]at aS;exact⟨200-(n+1),by omega,n+1,aR+1,cn g' cF (ny p.title (g' bE)),⟨rfl,by omega,by omega,og ew (LO _ _),aS.symm⟩,E.ab [2,3,4,5,8,10,11,12],I.sub⟩
     refine RN 0 E I λa E=>?_;have agB:True:=trivial;refine RN 2 E I λa E=>?_;rw[dP]at E;refine ST 2 E I (λa w E I=>?_) (hlt:=(by rw[dk];omega));rw[ints_set,show (λi=>if i=cF then 0 else g' i)=cn g' cF 0 from rfl]at I;refine RN 0 E I λa E=>?_;have fZ:et p fr b g' aR o=(cn g' cF 0,aR+1,true):=by
      rw[et,ag (by omega),ag (by omega),ag (by omega),ag (by omega),dP,c9,jW,ag (by omega),ag (by omega),ag (by omega),ag (by omega),aj tN,ec,c9,ny,aj (by omega),iO (by omega)];rfl
     rw[fZ]at aS;exact⟨200-(n+1),by omega,n+1,aR+1,cn g' cF 0,⟨rfl,by omega,by omega,og ew (by simp[du]),aS.symm⟩,E.ab [2,3,4,5,8,10,11,12],I.sub⟩
    refine RN 12 E I λa E=>?_;rw[dP]at E;refine ST 2 E I (λa w E I=>?_) (hlt:=(by rw[dk];omega));rw[ints_set,show (λi=>if i=cF then 0 else g' i)=cn g' cF 0 from rfl]at I;refine RN 0 E I λa E=>?_;have fZ:et p fr b g' aR o=(cn g' cF 0,aR+1,true):=by
     rw[et,ag (by omega),ag (by omega),ag (by omega),ag (by omega),dP,c9,jW,ag (by omega),ag (by omega),ag (by omega),ag (by omega),aj tN,ec,c9,ny,ag (by omega)]
    rw[fZ]at aS;exact⟨200-(n+1),by omega,n+1,aR+1,cn g' cF 0,⟨rfl,by omega,by omega,og ew (by simp[du]),aS.symm⟩,E.ab [2,3,4,5,8,10,11,12],I.sub⟩
   refine IF 3 E I (λxq a E=>?_) λxq a E=>?_
   ·
    refine RN 0 E I λa E=>?_;obtain⟨cF,dP,km⟩:=kl (by omega) (by omega);refine aV 0 (λw0 w'=>Rd w' eu 0 (dS o)∧Rd w' b5 0 (ints .i32 32 g')) [3] [0,2,3001,1003,4,1005] E I λa w E I hH=>?_;have hC:=hH.at w ⟨I.ai,I.ai⟩;refine RH 2 E I hH hC λa E=>?_;refine QH E (λw hc=>ae E (hc.1 1 _ rfl)) hC λa E=>?_;rw[dP]at E;refine RH 0 E I hH hC λa E=>?_;refine CL 0 E I (zq I (by omega) (by omega)) λa w E I=>?_;replace hC:=hH.at w ⟨I.ai,I.ai⟩;refine RH 1 E I hH hC λa E=>?_;refine ST 0 E I (λa w E I=>?_) (hlt:=(by rw[dk];omega));rw[ints_set,show (λi=>if i=cF then iz fr else g' i)=cn g' (cF) (iz fr) from rfl]at I;refine RN 0 E I λa E=>?_;have fZ:et p fr b g' aR o=(cn g' (cF) (iz fr),aR+1,true):=by
     rw[et,ag (by omega),ag (by omega),ag (by omega),ag (by omega),dP,c9,jW,ag (by omega),ag (by omega),ag (by omega),ag (by omega),ag (by omega),aj xq]
    rw[fZ]at aS;exact⟨200-(n+1),by omega,n+1,aR+1,cn g' (cF) (iz fr),⟨rfl,by omega,by omega,og ew (y8 _),aS.symm⟩,E.ab [2,3,4,5,8,10,11,12],I.sub⟩
   refine RN 0 E I λa E=>?_;obtain⟨cF,dP,km⟩:=kl (by omega) (by omega);obtain⟨bE,ec,iU⟩:=o8 (by omega) (by omega) (by omega) (by omega) (by omega);obtain⟨u3,p9,Mb⟩:=sk (by omega) (by omega) (by omega) (by omega) (by omega) (by omega) (by omega) (by omega) (by omega) (by omega);refine aV 0 (λw0 w'=>Rd w' eu 0 (dS o)∧Rd w' b5 0 (ints .i32 32 g')) [3,5,6,7,9,10,11,12] [0,2,4,8,3001,3003,3005,3006,3007,1009,1010,1011,1012,13,1014] E I λa w E I hH=>?_;have hC:=hH.at w ⟨I.ai,I.ai⟩;refine RH 4 E I hH hC λa E=>?_;refine QH E (λw hc=>ae E (hc.1 1 _ rfl)) hC λa E=>?_;rw[dP]at E;refine RH 0 E I hH hC λa E=>?_;refine QH E (λw hc=>ae E (hc.1 0 _ rfl)) hC λa E=>?_;refine QH E (λw hc=>ae E (hc.1 2 _ rfl)) hC λa E=>?_;rw[ec]at E;refine RH 1 E I hH hC λa E=>?_;refine QH E (λw hc=>ae E (ints_at hc.2 iU)) hC λa E=>?_;refine RH 0 E I hH hC λa E=>?_;refine SS E (ae E (hC.1 3 _ rfl)) λa E=>?_;rw[p9]at E;refine RH 1 E I hH hC λa E=>?_;refine SS E (ae E (ints_at hC.2 Mb)) λa E=>?_;refine RH 0 E I hH hC λa E=>?_;refine CL 0 E I (Y8 I (ew _ iU) (ew _ Mb)) λa w E I=>?_;replace hC:=hH.at w ⟨I.ai,I.ai⟩;refine RH 1 E I hH hC λa E=>?_;refine ST 0 E I (λa w E I=>?_) (hlt:=(by rw[dk];omega));rw[ints_set,show (λi=>if i=cF then jm o.code (g' bE) (g' u3) else g' i)=cn g' (cF) (jm o.code (g' bE) (g' u3)) from rfl]at I;refine RN 0 E I λa E=>?_;have fZ:et p fr b g' aR o=(cn g' (cF) (jm o.code (g' bE) (g' u3)),aR+1,true):=by
    rw[et,ag (by omega),ag (by omega),ag (by omega),ag (by omega),dP,c9,jW,ag (by omega),ag (by omega),ag (by omega),ag (by omega),ag (by omega),ag (by omega),ec,c9,p9,c9]
   rw[fZ]at aS;exact⟨200-(n+1),by omega,n+1,aR+1,cn g' (cF) (jm o.code (g' bE) (g' u3)),⟨rfl,by omega,by omega,og ew (LP _ _ _),aS.symm⟩,E.ab [2,3,4,5,8,10,11,12],I.sub⟩
  refine SA 3 E I λa w E I=>?_;refine RT 1 E I ?_;rw[F3 (by omega)]at vt;exact⟨_,by rw[← vt],by rw[← vt];exact ew,I.sub⟩
 refine SA 10 E I λa w E I=>?_;refine RT 1 E I ?_;rw[show 200-n=0 from by omega]at vt;exact⟨_,by rw[← vt];rfl,by rw[← vt];exact ew,I.sub⟩
theorem Y9 {P:List (List UInt8)}{zs:List ee}(I:U W w (aA W p aq cO::L))(a6:dp p)(aF:p.title.size≤1000000000)(hg:dT g)(hP:P.length≤65536∧∀ b∈P,b.length≤1099511627776)(hz:zs.map (·.2.2)=P)(hf:-1099511627776≤fr∧fr≤1099511627776)(hp:∀ w',U W w' L→iQ w' adP zs) :
   Calls prog 116 #[.agg (bR p aq cO).toArray,.agg (ints .i32 32 g).toArray,.int .i64 fr,.slice adP P.length cP] w λe w'=>e=.returned (.agg (ints .i32 32 (foldI p fr g P)).toArray)∧dT (foldI p fr g P)∧U W w' (aA W p aq cO::L):=by
 have jz:zs.length=P.length:=by rw[← hz,a8]
 have tX:=hP.1;refine EN func116 ntmps116 rfl rfl λa E=>?_;refine BX 1 E I λb4 a w E I=>?_;change U W w (aa b4 45 (bR p aq cO)::_) at I;refine BX 0 E I λb5 a w E I=>?_;change U W w (aa b5 49 (ints .i32 32 g)::_) at I;refine AL 0 E I λb8 a w E I=>?_;change U W w (aa b8 49 (ints .i32 32 (λ_=>0))::_) at I;refine RN 3 E I λa E=>?_;refine aL (λμ a w=>∃ (i:Nat) (g':Nat→Int),(μ=P.length-i∧i≤P.length∧dT g'∧foldI p fr g P=foldI p (fr+i) g' (P.drop i))∧Fr a 33 [(2,.int .i64 fr),(3,.slice adP P.length cP),(4,pt b4),(5,pt b5),(8,pt b8),(9,.int .i64 i)]∧U W w (aa b5 49 (ints .i32 32 g')::aa b4 45 (bR p aq cO)::aa b8 49 (ints .i32 32 (λ_=>0))::aA W p aq cO::L)) (P.length) (⟨0,g,⟨by simp,by simp,hg,by simp⟩,E.ab [2,3,4,5,8,9],I.sub⟩) ?_;clear E I;rintro μ a w ⟨i,g',⟨rfl,hi,ew,mv⟩,E,I⟩;refine IF 6 E I (λak a E=>?_) λak a E=>?_
 ·
  have kV:zs[i]?=some (zs[i]'(by omega)):=aD (by omega);obtain⟨z,ra⟩:∃ z,zs[i]'(by omega)=z:=⟨_,rfl⟩;rw[ra]at kV;have Ca:P[i]?=some z.2.2:=by rw[← hz,bd,kV];rfl
  have fP:=hp _ (I.sub (M:=L));obtain⟨bp,op,hK,da⟩:=fP.1 (by omega);have cr:∀ w',U W w' L→w'.cell? ⟨bp,op+i,none⟩=some (aK z):=λw' h=>by
   obtain⟨b',o',h1,h2⟩:=(hp w' h).1 (by omega);rw[hK]at h1;cases h1;exact h2 i _ (by rw[bd,kV];rfl)
  clear da fP;have Mc:∀ w',U W w' L→aX w' z.1 z.2.2.length z.2.2:=λw' h=>(hp w' h).2 z (bI kV);have Gk:foldI p fr g P=foldI p (fr+(i+1:Nat)) (fa p (fr+i) z.2.2 g') (P.drop (i+1)):=by
   rw[mv,kL (by omega),foldI];have:P[i]'(by omega)=z.2.2:=by rw[aD (by omega)]at Ca;exact re Ca
   rw[this]
   congr 1
   omega
  refine RN 1 E I λa E=>?_;refine b6 (M:=λa w=>∃ kO:Nat,dT (fa p (fr+i) z.2.2 g')∧Fr a 33 [(2,.int .i64 fr),(3,.slice adP P.length cP),(4,pt b4),(5,pt b5),(8,pt b8),(9,.int .i64 i),(10,pt kO)]∧U W w (aa kO 49 (ints .i32 32 (fa p (fr+i) z.2.2 g'))::aa b5 49 (ints .i32 32 g')::aa b4 45 (bR p aq cO)::aa b8 49 (ints .i32 32 (λ_=>0))::aA W p aq cO::L)) ?_ ?_
  ·
   refine aV 0 (λw0 w'=>Rd w' b4 0 (bR p aq cO)∧Rd w' b5 0 (ints .i32 32 g')∧w'.cell? ⟨bp,op+i,none⟩=some (aK z)) [1,8,13] [2,3,4,5,6,7,3000,3001,3008,2009,10,11,12,1013,1014,15] E I λa w E I hH=>?_;have hC:=hH.at w ⟨I.ai,I.ai,cr _ I.sub⟩;refine RH 5 E I hH hC λa E=>?_;rw[hK]at E;refine RH 1 E I hH hC λa E=>?_;refine QH E (λw hc=>bT E n2 rfl Ty.t45 (hc.1)) hC λa E=>?_;refine QH E (λw hc=>bT E pS rfl Ty.t49 (hc.2.1)) hC λa E=>?_;refine QH E (λw hc=>ae E (hc.2.2)) hC λa E=>?_;refine RH 0 E I hH hC λa E=>?_;refine DN [(9,[10,11,12,1013,1014,15]),(13,[1009,10,11,12,1014,15])] (by kernel_rfl) rfl ⟨⟨_,rfl,?_⟩,⟨_,rfl,?_⟩,trivial⟩
   ·
    refine RH 0 E I hH hC λa E=>?_;refine bg 0 E I (Gg (I.pick (aA W p aq cO)) a6 aF ew (hP.2 _ (bI Ca)) (by omega) (λw' h=>Mc w' h.sub)) λtR a w E ⟨bD,I⟩=>?_;refine RN 3 E I λa E=>?_;refine e5 E rfl I Ty.t49 rfl λkO a w E I ho=>?_;clear ho;replace hC:=hH.at w ⟨I.ai,I.ai,cr _ I.sub⟩;change U W w (aa kO 49 (ints .i32 32 (λ_=>0))::_) at I;refine RH 0 E I hH hC λa E=>?_;refine SA 0 E I λa w E I=>?_;refine RN 1 E I λa E=>?_;rw[← hK]at E;exact⟨_,bD,E.ab [2,3,4,5,8,9,10],I.sub⟩
   refine RH 0 E I hH hC λa E=>?_;refine e5 E rfl I Ty.t49 rfl λkO a w E I ho=>?_;clear ho;replace hC:=hH.at w ⟨I.ai,I.ai,cr _ I.sub⟩;change U W w (aa kO 49 (ints .i32 32 (λ_=>0))::_) at I;refine RH 0 E I hH hC λa E=>?_;refine bg 0 E I (Gg (I.pick (aA W p aq cO)) a6 aF ew (hP.2 _ (bI Ca)) (by omega) (λw' h=>Mc w' h.sub)) λtR a w E ⟨bD,I⟩=>?_;refine SA 3 E I λa w E I=>?_;refine RN 1 E I λa E=>?_;rw[← hK]at E;exact⟨_,bD,E.ab [2,3,4,5,8,9,10],I.sub⟩
  clear E;(try clear I);rintro a w ⟨kO,bD,E,I⟩;refine SA 1 E I λa w E I=>?_;refine RN 3 E I λa E=>?_;exact⟨P.length-(i+1),by omega,i+1,_,⟨rfl,by omega,bD,Gk⟩,E.ab [2,3,4,5,8,9],I.sub⟩
 refine RN 1 E I λa E=>?_;obtain rfl:i=P.length:=by omega
 rw[List.drop_length,foldI]at mv;refine SA 1 E I λa w E I=>?_;refine RT 0 E I ?_;exact⟨by rw[mv],by rw[mv];exact ew,I.sub⟩
end
end
section
section
variable {P:Program}{a:Act}{w:World}{n:Nat}{l:List (Nat×Value)}
theorem Md {x y i j t u dst ty ps af g}(E:Fr a n l)[e:Ev l x (.string i)][f:Ev l y (.string j)] :
   (execOp a.eval ⟨dst,.binOp .neq t x y u,ty,ps,af,g⟩).run P w=.ok (.value (.bool (!(i.data.toList==j.data.toList)))) w:=by
 simp[execOp,e.ev a n E,f.ev a n E,eqGuard,binOp,Op.stringOp,ByteArray.toList_eq]
end
end
section
def tY (k:IntKind)(w:World)(a:Option Addr)(len cap:Nat)(zs:List Int):Prop :=
 (a=none∧len=0∧cap=0∧zs=[]) ∨
 ∃ x,a=some x∧len≤cap∧cap≤maxLen∧zs.length=cap∧(∀ i,i<zs.length→w.cell? (x.add i)=some (.int k (zs.getD i 0)))∧∀ n∈zs,(Lit.int k n).wf=true
theorem Za {w:World}{x:Addr}{v:Value}(h:w.cell? x=some v):x=⟨x.block,x.off,none⟩∧x.block<w.heap.size:=by
 refine⟨?_,World.block_lt_of_cell? _ _ h⟩;obtain⟨b,o,s⟩:=x;cases s with
 | none=>rfl
 | some s =>
  simp only[World.cell?]at h;split at h <;> simp at h
theorem tY.get {k:IntKind}{w:World}{a:Option Addr}{len cap:Nat}{zs:List Int}(h:tY k w a len cap zs)(h0:0<len) :
   ∃ b off,a=some ⟨b,off,none⟩∧b<w.heap.size∧len≤zs.length∧∀ i,i<zs.length→w.cell? ⟨b,off+i*1,none⟩=some (.int k (zs.getD i 0)):=by
 rcases h with ⟨_,h,_,_⟩ | ⟨x,rfl,h1,h2,h3,h4,h5⟩
 ·omega
 ·have h6:=h4 0 (by omega);have h7:x.add 0=x:=by simp[Addr.add]
  rw[h7]at h6;obtain⟨h8,h9⟩:=Za h6;refine⟨x.block,x.off,by rw[← h8],h9,by omega,λi hi=>?_⟩;have:=h4 i hi;rw[h8,k6]at this;rw[fB];exact this
theorem tY.Me {k:IntKind}{w:World}{a:Option Addr}{len cap:Nat}{zs:List Int}(h:tY k w a len cap zs):len≤zs.length∧len≤9223372036854775807:=by
 rcases h with ⟨_,rfl,_,rfl⟩ | ⟨x,rfl,h1,h2,h3,h4,h5⟩
 ·simp
 ·unfold maxLen at h2;omega
theorem tY.Zb {k:IntKind}{W:World}{a:Option Addr}{len cap:Nat}{z:List Int}(h:tY k W a len cap z):∃ zs:List Int,zs.length=len∧(∀ n∈zs,(Lit.int k n).wf=true) ∧
   ∀ w L,U W w L→len=0∨∃ b off,a=some ⟨b,off,none⟩∧b<W.heap.size∧Rd w b off (zs.map (.int k)):=by
 have hl:=h.Me;have hz:∀ n∈z,(Lit.int k n).wf=true:=by
  rcases h with ⟨_,_,_,rfl⟩ | ⟨x,_,_,_,_,_,hw⟩
  ·intro n hn;cases hn
  ·exact hw
 refine⟨z.take len,by simp;omega,λn hn=>hz n (List.mem_of_mem_take hn),λw L I=>?_⟩;rcases k8 len with h0 | h0
 ·exact .inl h0
 ·right;obtain⟨b,off,rfl,hb,h2,h3⟩:=h.get h0;refine⟨b,off,rfl,hb,λj v hj=>?_⟩;rw[I.gw hb];simp only[bd,uQ]at hj;by_cases dO:j<len
  ·rw[aj dO,aD (by omega)]at hj;have:=h3 j (by omega);rw[fB]at this;rw[this,← hj];simp[br,aD (show j<z.length by omega)]
  ·rw[ag dO]at hj;cases hj
end
section
abbrev agC:=Option Addr×Nat×List ee
end
section
section
theorem Zc {u v:List (List UInt8)}:pZ u v=true↔u.take (min u.length v.length)=v.take (min u.length v.length):=by simp[pZ]
end
end
section
abbrev Kx:=Wk×Nat
def fb (p:Pr)(aq:Option Addr)(cO tq jq sq:Nat)(x:Kx):SP:=aa x.2 247 (cz p aq cO tq jq sq x.1)
def g3 (ks:List Kx):List Value:=ks.map λx=>pt x.2
theorem Mf {ks:List Kx}{i:Nat}{k:Wk}{wb:Nat}(h:ks[i]?=some (k,wb)):(g3 ks)[i]?=some (pt wb):=by rw[g3,bd,h];rfl
theorem Mg {ks:List Kx}{i:Nat}{k k':Wk}{wb:Nat}(h:ks[i]?=some (k,wb)):g3 (ks.set i (k',wb))=g3 ks:=by
 have hi:=(a2.1 h).1;apply ext_getElem?;intro j;simp only[g3,bd,jB];by_cases hj:i=j
 ·subst hj;rw[aj rfl,aj hi,h];rfl
 ·rw[ag hj]
theorem xy {ks:List Kx}{i:Nat}{k k':Wk}{wb:Nat}(h:ks[i]?=some (k,wb)):(ks.map (·.1)).Perm (k::(ks.eraseIdx i).map (·.1))∧((ks.set i (k',wb)).map (·.1)).Perm (k'::(ks.eraseIdx i).map (·.1)):=by
 obtain⟨hi,he⟩:=a2.1 h;have h1:=(tg ks hi).map (·.1);rw[map_cons,he]at h1;have h2:=(tg (ks.set i (k',wb)) (by simpa using hi)).map (·.1);rw[map_cons,oP,eraseIdx_set_eq]at h2;exact⟨h1,h2⟩
section
variable {W w:World}{L:List SP}{tq jq sq r wb i cO n base:Nat}{aq:Option Addr}{A:Sn}{T:Tr}{J:Js}{k:Wk}{p:Pr}{x:Br}{px:aC}{ks:List Kx}{t:Nat→Nat}
theorem U.Mh (I:U W w (ah (fb p aq cO tq jq sq) ks::L))(hk:ks[i]?=some (k,wb)):U W w (aa wb 247 (cz p aq cO tq jq sq k)::ah (fb p aq cO tq jq sq) (ks.eraseIdx i)::L):=by
 obtain⟨hi,he⟩:=a2.1 hk;have:=I.fA hi;rw[he]at this;exact this
theorem U.Gl {k':Wk}(I:U W w (aa wb 247 (cz p aq cO tq jq sq k')::ah (fb p aq cO tq jq sq) (ks.eraseIdx i)::L))(hk:ks[i]?=some (k,wb)):U W w (ah (fb p aq cO tq jq sq) (ks.set i (k',wb))::L) :=
 U.la (f:=fb p aq cO tq jq sq) (x:=(k',wb)) (a2.1 hk).1 I
theorem Zd {F:Int}{g0:Nat→Int}(I:U W w (ah (fb p aq cO tq jq sq) ks::Tree tq sq T::ax sq r A::bJ jq J::aA W p aq cO::L))(hk:ks[i]?=some (k,wb))(hI:Inv p F g0 t base A T (ks.map (·.1)))
   (hF:0≤F∧F≤1099511627776) (hp:dp p) (hz:p.title.size≤1000000000) (hn:A.n+1<1099511627776) (kU:J.length≤16) :
   Calls prog 102 #[pt wb] w λe w'=>∃ (z:Bool) (A':Sn) (T':Tr) (J':Js) (k':Wk),e=.returned (.bool z)∧(lT p A T J k z A' T' J' k'∧Inv p F g0 t base A' T' ((ks.set i (k',wb)).map (·.1))∧BR A T J A' T' J') ∧
    U W w' (ah (fb p aq cO tq jq sq) (ks.set i (k',wb))::Tree tq sq T'::ax sq r A'::bJ jq J'::aA W p aq cO::L):=by
 have hA:=(ax.facts (I.store sq)).1;have hT:=Tree.wt (I.tree tq);have Ze:k∈ks.map (·.1):=cX.2 ⟨_,bI hk,rfl⟩;have h1:=I.Mh hk;refine (YP (L:=ah (fb p aq cO tq jq sq) (ks.eraseIdx i)::L) (h1.sub (M:=aa wb 247 (cz p aq cO tq jq sq k)::Tree tq sq T::ax sq r A::bJ jq J::aA W p aq cO::ah (fb p aq cO tq jq sq) (ks.eraseIdx i)::L)) (hI.ready Ze hF hp hz hn kU)).mono λe w' ⟨z,A',T',J',k',he,hb,I⟩=>?_;refine⟨z,A',T',J',k',he,⟨hb,((hI.xm (xy (k':=k') hk).1).bit hA hT hb).xm (xy (k':=k') hk).2.symm,hb.XP⟩,?_⟩;have h2:=U.Gl (i:=i) (ks:=ks) (k:=k) (k':=k') (I.sub (M:=aa wb 247 (cz p aq cO tq jq sq k')::ah (fb p aq cO tq jq sq) (ks.eraseIdx i)::Tree tq sq T'::ax sq r A'::bJ jq J'::aA W p aq cO::L)) hk;exact h2
theorem Zf {F:Int}{g0:Nat→Int}(I:U W w (ah (fb p aq cO tq jq sq) ks::ax sq r A::L))(hk:ks[i]?=some (k,wb))(hI:Inv p F g0 t base A T (ks.map (·.1))) :
   Calls prog 145 #[pt wb] w λe w'=>∃ (A':Sn) (k':Wk),e=.returned (.bool k.busy)∧(k'.busy=false∧Inv p F g0 t base A' T ((ks.set i (k',wb)).map (·.1))∧A'.room=A.room∧A'.n=A.n) ∧
    U W w' (ah (fb p aq cO tq jq sq) (ks.set i (k',wb))::ax sq r A'::L):=by
 have hA:=(ax.facts (I.store sq)).1;have h1:=I.Mh hk;cases hb:k.busy with
 | false =>
  refine (LX h1 hb).mono λe w' ⟨he,I⟩=>⟨A,k,he,⟨hb,(hI.xm (xy (k':=k) hk).1).xm (xy (k':=k) hk).2.symm,rfl,rfl⟩,?_⟩;exact U.Gl (i:=i) (ks:=ks) (k:=k) (k':=k) I hk
 | true =>
  refine (zl (L:=ah (fb p aq cO tq jq sq) (ks.eraseIdx i)::L) (h1.sub (M:=aa wb 247 (cz p aq cO tq jq sq k)::ax sq r A::ah (fb p aq cO tq jq sq) (ks.eraseIdx i)::L)) hb).mono λe w' ⟨he,I⟩=>?_;refine⟨A.eB k.x,{ k with busy:=false },he,⟨rfl,((hI.xm (xy (k':={ k with busy:=false }) hk).1).rest (k':={ k with busy:=false }) hA hb rfl rfl).xm (xy (k':={ k with busy:=false }) hk).2.symm,(o2 A _).1,(o2 A _).2.1⟩,?_⟩;exact U.Gl (i:=i) (ks:=ks) (k:=k) (k':={ k with busy:=false }) (I.sub (M:=aa wb 247 (cz p aq cO tq jq sq { k with busy:=false })::ah (fb p aq cO tq jq sq) (ks.eraseIdx i)::ax sq r (A.eB k.x)::L)) hk
theorem Zg (I:U W w L):Calls prog 92 #[.agg (bR p aq cO).toArray,pt tq,pt jq,pt sq] w λe w' =>
   ∃ wb,e=.returned (pt wb)∧U W w' (aa wb 247 (cz p aq cO tq jq sq lr)::L):=by
 refine EN func92 ntmps92 rfl rfl λa E=>?_;refine BX 1 E I λb4 a w E I=>?_;change U W w (aa b4 45 (bR p aq cO)::_) at I;refine RN 3 E I λa E=>?_;change Fr a 15 ((9,.agg (List.toArray [.string p.title,.slice aq p.ops.length cO]))::_) at E;refine BX 4 E I λeu a w E I=>?_;change U W w (aa eu 247 (cz p aq cO tq jq sq lr)::_) at I;refine RT 1 E I ?_;exact⟨eu,rfl,I.sub⟩
theorem Zh {frm:Int}{ad2:Option Addr}{c2 id:Nat}{zs:List ee}{P:List (List UInt8)}(I:U W w (Tree tq sq T::ax sq r A::L))(hr:∀ w',U W w' L→iQ w' ad2 zs)(hz:zs.map (·.2.2)=P)(hc:P.length≤c2)(ds:oa P)
   (hx:A.ar[i]?=some px) (b9:px.id=id) (hb:A.n+1<1099511627776) (hl:T.last+1<1099511627776) (hm:T.l.length<T.most) :
   Calls prog 306 #[pt tq,.int .i64 frm,.int .i64 id,.slice ad2 P.length c2] w λe w'=>∃ (z:Nat) (ok:Bool),e=.returned (.tuple #[.int .i64 z,.bool ok]) ∧
    ((ok=false∧(P=[]∨∃ y∈T.l,y.is frm P)∧U W w' (Tree tq sq T::ax sq r A::L)) ∨
     (ok=true∧z=T.last+1∧P≠[]∧(∀ y∈T.l,¬ y.is frm P)∧U W w' (Tree tq sq (T.add frm P (A.last+1))::ax sq r (A.add px.g px.p)::L))):=by
 subst b9;rcases k8 P.length with h0 | h0
 ·have hP:=hs h0;exact (Lf I (.inr h0)).mono λe w' ⟨h1,I⟩=>⟨0,false,h1,.inl ⟨rfl,.inl hP,I⟩⟩
 ·have hP:P≠[]:=List.length_pos_iff.1 h0;by_cases hex:∃ y∈T.l,y.is frm P
  ·obtain⟨y,hy,xc⟩:=hex;obtain⟨j,hj⟩:=ke.1 hy;have Zi:∀ w',U W w' (ax sq r A::L)→lj w' ad2 P.length P:=λw' h=>by
    have:=(hr w' h.tail).bb;rw[hz]at this
    rwa [show zs.length=P.length from by rw[← hz,a8]]at this
   exact (Xc I Zi hc ds hj xc).mono λe w' ⟨h1,I⟩=>⟨0,false,h1,.inl ⟨rfl,.inr ⟨y,hy,xc⟩,I⟩⟩
  ·have bX:∀ y∈T.l,¬ y.is frm P:=λy hy h=>hex ⟨y,hy,h⟩;exact (Xd I hr hz hc ds hx hb hl bX hm h0).mono λe w' ⟨h1,I⟩=>⟨T.last+1,true,h1,.inr ⟨rfl,rfl,hP,bX,I⟩⟩
end
end
section
section
variable {W w:World}{L:List SP}{sq r i:Nat}{A:Sn}{px:aC}
theorem Zj {id:Nat}(I:U W w (ax sq r A::L))(hx:A.ar[i]?=some px)(b9:px.id=id) :
   Calls prog 290 #[pt sq,.int .i64 id] w λe w'=>e=.returned (.tuple #[.agg (ints .i32 32 px.g).toArray,.bool true])∧U W w' (ax sq r A::L):=by
 subst b9;exact WQ I hx
set_option maxHeartbeats 4000000 in
end
end
section
section
variable {P:Program}{ops:Array Oper}{Q:Exit→Act→World→Prop}{a:Act}{w w' W:World}{K:Act→World→Prop}{n d:Nat}{l:List (Nat×Value)}{v:Value}{L R:List SP}
theorem hO {s x t z sz a1 e ad k c ad2 m c2 news ty ps af g}{cs:List Value}(E:Fr a n l)(hw:Region.wanted ⟨some d,.call ⟨.builtin .append,#[s,x],#[t,t]⟩,ty,ps,af,g⟩ (yielded ops a.tmps)=true)(I:U W w L)
   (ht:P.underlying t=some (.slice e)) (hi:TI P e z sz a1) (hf:okB d n l=true) (hz:z.cells.size=sz) (hb:0<a1)
   [e1:Ev l s (.slice ad k c)] [pk:fX L ad k c e sz cs R] [e2:Ev l x (.slice ad2 m c2)] (hr:0<m→∃ b2 gY,ad2=some ⟨b2,gY,none⟩∧Rd w b2 gY news) (hl:news.length=m*sz) (h1:∀ v∈news,v.oneCell'=true)
   (aF:(k+m)*a1≤140737488355328)
   (h:∀ av c' a' w',Fr a' n ((d,.slice av (k+m) c')::l)→U W w' (Sl e sz av (k+m) c' (cs++news)::R)→K a' w') :
   cK P ops Q ⟨some d,.call ⟨.builtin .append,#[s,x],#[t,t]⟩,ty,ps,af,g⟩ K a w:=by
 rcases k8 m with h0 | h0
 ·subst h0;have rL:=(I.sl ad).2;obtain rfl:news=[]:=hs (by rw[hl,Nat.zero_mul]);refine Er (ad:=ad) (k:=k) (c:=c) (ad2:=ad2) (c2:=c2) E hw ht hi hf rL λa' di=>h ad c a' w di ?_;rw[append_nil];exact I.perm pk.perm
 ·obtain⟨b2,gY,rfl,da⟩:=hr h0;exact cR E hw I ht hi hz hf da hl h1 h0 hb aF h
end
theorem U.Gn {W w:World}{L:List SP}{b e n:Nat}{cs:List Value}{l:List UInt8}(I:U W w (aa b e cs::L))(he:e=5)(hl:l.length=n)(h:cs=bc l):U W w (Sl 5 1 (some ⟨b,0,none⟩) n n (bc l)::L):=by
 subst h;subst he;have h2:U W w (aa b 5 ([]++bc l++[])::L):=by simpa using I
 exact U.jh (pre:=[]) (post:=[]) (n:=n) (c:=n) (sz:=1) (cs:=bc l) h2 (by rw[dA,hl,fB]) (a7 _) (by simp)
theorem dV {bs:List UInt8}{i:Nat}(h:i<bs.length):(bc bs)[i]?=some (.int .u8 ((bs[i]).toNat:Int)):=by simp[bc,h]
theorem fS (a b:List UInt8):bc (a++b)=bc a++bc b:=by simp[bc]
theorem aX.get {w:World}{ad:Option Addr}{m:Nat}{bs:List UInt8}(h:aX w ad m bs)(h0:0<m):∃ b o,ad=some ⟨b,o,none⟩∧Rd w b o (bc bs):=by
 obtain⟨_,h2,h3⟩:=h;cases hh:ad with
 | none=>have:=h2 hh;omega
 | some a =>
  obtain⟨b,o,rfl,h1⟩:=h3 a hh h0;exact⟨b,o,rfl,h1⟩
theorem aX.rd {w:World}{b o m:Nat}{bs:List UInt8}(h:aX w (some ⟨b,o,none⟩) m bs)(h0:0<m):Rd w b o (bc bs):=by
 obtain⟨b',o',e,h1⟩:=h.get h0;cases e;exact h1
theorem aX.vu {w:World}{ad:Option Addr}{bs:List UInt8}{c:Nat}(h:aX w ad bs.length bs){lo:Nat}(hl:lo≤bs.length)(hc:bs.length≤c):aX w (fw ad lo c 1) (bs.drop lo).length (bs.drop lo):=by
 refine⟨rfl,λe=>?_,λx hx h0=>?_⟩
 ·rw[c8];rcases k8 (bs.length-lo) with h0 | h0
  ·exact h0
  ·obtain⟨b,o,rfl,_⟩:=h.get (by omega);rw[pK (by omega)]at e;cases e
 ·rw[c8]at h0;obtain⟨b,o,rfl,hr⟩:=h.get (by omega);rw[pK (by omega)]at hx;cases hx;refine⟨b,o+lo*1,rfl,λj v hj=>?_⟩;have h1:=hr (lo+j) v (by rw[bc,bd,← qE,← bd];exact hj)
  rwa [show o+lo*1+j=o+(lo+j) from by omega]
theorem aX.Gp {w:World}{ad:Option Addr}{bs:List UInt8}{m:Nat}(h:aX w ad m bs){hi:Nat}(hl:hi≤bs.length):aX w ad hi (bs.take hi):=by
 obtain⟨h1,h2,h3⟩:=h;refine⟨by rw[eA];omega,λe=>by have:=h2 e;omega,λx hx h0=>?_⟩;obtain⟨b,o,e,hr⟩:=h3 x hx (by omega);refine⟨b,o,e,λj v hj=>hr j v ?_⟩;rw[bc,map_take,uQ]at hj;split at hj
 ·exact hj
 ·cases hj
theorem vv (x:Nat):BitVec.ofInt IntKind.u32.bits (x:Int)=BitVec.ofNat 32 x:=BitVec.ofInt_natCast 32 x
theorem Cb (x:Nat):BitVec.ofInt IntKind.u64.bits (x:Int)=BitVec.ofNat 64 x:=BitVec.ofInt_natCast 64 x
theorem Cc {x y:Nat}(hx:x<4294967296)(hy:y<4294967296):IntKind.u32.wrap (((BitVec.ofInt IntKind.u32.bits (x:Int) ^^^ BitVec.ofInt IntKind.u32.bits (y:Int)).toNat:Nat):Int)=((x ^^^ y:Nat):Int):=by
 rw[vv,vv];show IntKind.u32.wrap (((BitVec.ofNat 32 x ^^^ BitVec.ofNat 32 y).toNat:Nat):Int)=_;rw[BitVec.toNat_xor,BitVec.toNat_ofNat,BitVec.toNat_ofNat,k9 (show x<2 ^ 32 from hx),k9 (show y<2 ^ 32 from hy),wrap_u32];have:=Nat.xor_lt_two_pow (n:=32) hx hy;omega
theorem Zk {x y:Nat}(hx:x<4294967296)(hy:y<4294967296):IntKind.u32.wrap (((BitVec.ofInt IntKind.u32.bits (x:Int) &&& BitVec.ofInt IntKind.u32.bits (y:Int)).toNat:Nat):Int)=((x &&& y:Nat):Int):=by
 rw[vv,vv];show IntKind.u32.wrap (((BitVec.ofNat 32 x &&& BitVec.ofNat 32 y).toNat:Nat):Int)=_;rw[BitVec.toNat_and,BitVec.toNat_ofNat,BitVec.toNat_ofNat,k9 (show x<2 ^ 32 from hx),k9 (show y<2 ^ 32 from hy),wrap_u32];have:x &&& y≤x:=Nat.and_le_left;omega
theorem Mi {x:Nat}(h:x<4294967296):IntKind.u32.wrap (((BitVec.ofInt IntKind.u32.bits (if IntKind.u32.signed then -1 else IntKind.u32.max) ^^^ BitVec.ofInt IntKind.u32.bits (x:Int)).toNat:Nat):Int)=((4294967295-x:Nat):Int):=by
 have e:BitVec.ofInt IntKind.u32.bits (if IntKind.u32.signed then -1 else IntKind.u32.max)=BitVec.allOnes 32:=by
  show BitVec.ofInt 32 IntKind.u32.max=_;decide
 rw[e,vv];show IntKind.u32.wrap (((BitVec.allOnes 32 ^^^ BitVec.ofNat 32 x).toNat:Nat):Int)=_;rw[BitVec.allOnes_xor,BitVec.toNat_not,BitVec.toNat_ofNat,wrap_u32];rw[k9 (show x<2 ^ 32 from h)];omega
theorem Zl {x y:Nat}(hx:x<18446744073709551616)(hy:y<18446744073709551616):IntKind.u64.wrap (((BitVec.ofInt IntKind.u64.bits (x:Int) ||| BitVec.ofInt IntKind.u64.bits (y:Int)).toNat:Nat):Int)=((x ||| y:Nat):Int):=by
 rw[Cb,Cb];show IntKind.u64.wrap (((BitVec.ofNat 64 x ||| BitVec.ofNat 64 y).toNat:Nat):Int)=_;rw[BitVec.toNat_or,BitVec.toNat_ofNat,BitVec.toNat_ofNat,k9 (show x<2 ^ 64 from hx),k9 (show y<2 ^ 64 from hy),wrap_u64];have:=Nat.or_lt_two_pow (n:=64) hx hy;omega
theorem Zm {x y:Nat}(hx:x<18446744073709551616)(hy:y<18446744073709551616):IntKind.u64.wrap (((BitVec.ofInt IntKind.u64.bits (x:Int) &&& BitVec.ofInt IntKind.u64.bits (y:Int)).toNat:Nat):Int)=((x &&& y:Nat):Int):=by
 rw[Cb,Cb];show IntKind.u64.wrap (((BitVec.ofNat 64 x &&& BitVec.ofNat 64 y).toNat:Nat):Int)=_;rw[BitVec.toNat_and,BitVec.toNat_ofNat,BitVec.toNat_ofNat,k9 (show x<2 ^ 64 from hx),k9 (show y<2 ^ 64 from hy),wrap_u64];have:x &&& y≤x:=Nat.and_le_left;omega
theorem mA (b:UInt8):b.toNat<256:=b.toNat_lt
def tZ (x:Nat):Nat:=if x%2=1 then x/2 ^^^ 3988292384 else x/2
def m3:Nat→Nat→Nat
 | 0,y=>y
 | k+1,y=>tZ (m3 k y)
def xz (x:Nat)(b:UInt8):Nat:=m3 8 (x ^^^ b.toNat)
def pd (bs:List UInt8):Nat:=bs.foldl xz 4294967295
def jI (bs:List UInt8):Nat:=4294967295-pd bs
theorem Zn {x:Nat}(h:x<4294967296):tZ x<4294967296:=by
 unfold tZ;split
 ·exact Nat.xor_lt_two_pow (n:=32) (by show x/2<4294967296;omega) (by decide)
 ·omega
theorem Cd {x:Nat}(h:x<4294967296):∀ k,m3 k x<4294967296
 | 0=>h
 | k+1=>Zn (Cd h k)
theorem Zo {x:Nat}(b:UInt8)(h:x<4294967296):xz x b<4294967296:=by
 refine Cd (Nat.xor_lt_two_pow (n:=32) h ?_) 8;have:=mA b;show b.toNat<4294967296;omega
theorem Zq (bs:List UInt8):∀ {x:Nat},x<4294967296→bs.foldl xz x<4294967296:=by
 induction bs with
 | nil=>exact λh=>h
 | cons b bs ih=>exact λh=>ih (Zo b h)
theorem Ce (bs:List UInt8):pd bs<4294967296:=Zq bs (by decide)
theorem Gq (bs:List UInt8):jI bs<4294967296:=by unfold jI;omega
theorem Mj {bs:List UInt8}{i:Nat}(h:i<bs.length):pd (bs.take (i+1))=xz (pd (bs.take i)) bs[i]:=by
 rw[pd,jD h,foldl_append];rfl
theorem Zr {x:Nat}(h:x<4294967296):IntKind.u32.wrap (((BitVec.ofInt IntKind.u32.bits (x:Int) &&& BitVec.ofInt IntKind.u32.bits 1).toNat:Nat):Int)=((x%2:Nat):Int):=by
 have h1:=Zk (y:=1) h (by decide);rw[Nat.and_one_is_mod]at h1;exact h1
theorem Zs {m:Nat}(h:m<2):IntKind.u32.wrap (0-(m:Int))=((if m=1 then 4294967295 else 0:Nat):Int):=by
 rcases (by omega:m=0∨m=1) with rfl | rfl <;> decide
theorem Zt (m:Nat):IntKind.u32.wrap (((BitVec.ofInt IntKind.u32.bits 3988292384 &&& BitVec.ofInt IntKind.u32.bits ((if m=1 then 4294967295 else 0:Nat):Int)).toNat:Nat):Int)=((if m=1 then 3988292384 else 0:Nat):Int):=by
 by_cases h:m=1
 ·rw[aj h,aj h];decide
 ·rw[ag h,ag h];decide
theorem Zu {x m:Nat}(hx:x<4294967296):IntKind.u32.wrap (((BitVec.ofInt IntKind.u32.bits ((x/2:Nat):Int) ^^^ BitVec.ofInt IntKind.u32.bits ((if x%2=1 then 3988292384 else 0:Nat):Int)).toNat:Nat):Int)=((tZ x:Nat):Int):=by
 rw[Cc (by omega) (by split <;> decide),tZ];split
 ·rfl
 ·rw[Nat.xor_zero]
theorem Zv {x:Nat}(hx:x<4294967296):IntKind.u32.wrap (((BitVec.ofInt IntKind.u32.bits ((x/2:Nat):Int) ^^^ BitVec.ofInt IntKind.u32.bits 3988292384).toNat:Nat):Int)=((x/2 ^^^ 3988292384:Nat):Int):=Cc (y:=3988292384) (by omega) (by decide)
def fp (x:Nat):List UInt8:=[UInt8.ofNat (x/16777216),UInt8.ofNat (x/65536),UInt8.ofNat (x/256),UInt8.ofNat x]
theorem Zw (n:Nat):IntKind.u8.wrap (n:Int)=((UInt8.ofNat n).toNat:Int):=by
 rw[wrap_u8,UInt8.toNat_ofNat'];omega
def qe (x:Int):Nat:=(x%4294967296).toNat
theorem Mk (x:Int):IntKind.u32.wrap x=((qe x:Nat):Int):=by rw[wrap_u32,qe];omega
def gF (g:Nat→Int):List UInt8:=(List.range 32).flatMap λi=>fp (qe (g i))
def mB (g:Nat→Int)(n:Nat):List UInt8:=(List.range n).flatMap λi=>fp (qe (g i))
theorem Gt (g:Nat→Int)(n:Nat):mB g (n+1)=mB g n++fp (qe (g n)):=by simp[mB,range_succ]
theorem sr (g:Nat→Int)(n:Nat):(mB g n).length=4*n:=by
 induction n with
 | zero=>rfl
 | succ n ih=>rw[Gt,aM,ih];simp[fp];omega
theorem vw (g:Nat→Int):(gF g).length=128:=sr g 32
section
variable {W w:World}{L:List SP}{n c m:Nat}{ad:Option Addr}{bs:List UInt8}
theorem Zx (I:U W w L)(hb:bs.length≤1099511627776)(hp:∀ w',U W w' L→aX w' ad bs.length bs) :
   Calls prog 205 #[.int .u32 0,.slice ad bs.length c] w λe w'=>e=.returned (.int .u32 (jI bs))∧U W w' L:=by
 refine EN func205 ntmps205 rfl rfl λa E=>?_;refine RN 6 E I λa E=>?_;rw[show IntKind.u32.wrap ((BitVec.ofInt IntKind.u32.bits (if IntKind.u32.signed then -1 else IntKind.u32.max) ^^^ BitVec.ofInt IntKind.u32.bits 0).toNat:Int)=((pd (bs.take 0):Nat):Int) from rfl]at E;refine RN 5 E I λa E=>?_;refine aL (λμ a w=>∃ (i:Nat),(μ=bs.length-i∧i≤bs.length)∧Fr a 33 [(5,.int .u32 (pd (bs.take i))),(10,.slice ad bs.length c),(11,.int .i64 bs.length),(12,.int .i64 i)]∧U W w L) (bs.length) (⟨0,⟨rfl,by omega⟩,E.ab [5,10,11,12],I⟩) ?_;clear E I;rintro μ a w ⟨i,⟨rfl,hi⟩,E,I⟩;refine IF 3 E I (λak a E=>?_) λak a E=>?_
 ·
  obtain⟨bb,oo,rfl,hr⟩:=(hp _ I).get (by omega);have aG:i<bs.length:=by omega
  have hx:=Ce (bs.take i);have rf:=mA bs[i];refine RN 3 E I λa E=>?_;refine SS E (ae E (hr i _ (dV aG))) λa E=>?_;refine SX 4 E I (by rw[wrap_u32];omega) λa E=>?_;refine RN 1 E I λa E=>?_;rw[Cc hx (by omega)]at E;refine RN 3 E I λa E=>?_;have hy:pd (bs.take i) ^^^ bs[i].toNat<4294967296:=Nat.xor_lt_two_pow (n:=32) hx (by show _<4294967296;omega);have iu:=Mj aG;rw[xz]at iu;generalize pd (bs.take i) ^^^ bs[i].toNat=y at E hy iu;refine aL (λμ a w=>∃ (k:Nat),(μ=8-k∧k≤8)∧Fr a 33 [(5,.int .u32 (m3 k y)),(10,.slice (some ⟨bb,oo,none⟩) bs.length c),(11,.int .i64 bs.length),(12,.int .i64 i),(20,.int .i64 k)]∧U W w L) (8) (⟨0,⟨rfl,by omega⟩,E.ab [5,10,11,12,20],I⟩) ?_;clear E I;rintro μ a w ⟨k,⟨rfl,hk⟩,E,I⟩;refine IF 3 E I (λao a E=>?_) λao a E=>?_
  ·
   have Cg:=Cd hy k;refine RN 3 E I λa E=>?_;rw[show ((m3 k y:Nat):Int).fdiv (2 ^ 1)=((m3 k y/2:Nat):Int) from lu _ 2]at E;refine RN 2 E I λa E=>?_;rw[Zr Cg]at E;refine RN 1 E I λa E=>?_;rw[Zs (Nat.mod_lt _ (by decide))]at E;refine RN 1 E I λa E=>?_;rw[Zt]at E;refine RN 1 E I λa E=>?_;rw[Zu (m:=0) Cg]at E;refine RN 3 E I λa E=>?_;exact⟨8-(k+1),by omega,k+1,⟨rfl,by omega⟩,E.ab [5,10,11,12,20],I⟩
  obtain rfl:k=8:=by omega
  rw[← iu]at E;refine RN 2 E I λa E=>?_;exact⟨bs.length-(i+1),by omega,i+1,⟨rfl,by omega⟩,E.ab [5,10,11,12],I⟩
 obtain rfl:i=bs.length:=by omega
 rw[lf]at E;refine RN 3 E I λa E=>?_;rw[Mi (Ce bs)]at E;refine RT 1 E I ?_;exact⟨rfl,I⟩
theorem Mm (I:U W w L)(hb:bs.length≤1099511627776)(hp:∀ w',U W w' L→aX w' ad bs.length bs) :
   Calls prog 176 #[.slice ad bs.length c] w λe w'=>e=.returned (.int .u32 (jI bs))∧U W w' L:=by
 refine EN func176 ntmps176 rfl rfl λa E=>?_;refine CL 4 E I (Zx I hb hp) λa w E I=>?_;refine RT 1 E I ?_;exact⟨rfl,I⟩
theorem Mn (I:U W w L)(hb:bs.length≤1099511627776)(hp:∀ w',U W w' L→aX w' ad bs.length bs) :
   Calls prog 154 #[.slice ad bs.length c] w λe w'=>e=.returned (.int .u32 (jI bs))∧U W w' L:=by
 refine EN func154 ntmps154 rfl rfl λa E=>?_;refine RN 7 E I λa E=>?_;refine aL (λμ a w=>∃ (i:Nat),(μ=bs.length-i∧i≤bs.length)∧Fr a 33 [(0,.slice ad bs.length c),(3,.int .u32 (pd (bs.take i))),(4,.int .i64 i)]∧U W w L) (bs.length) (⟨0,⟨rfl,by omega⟩,E.ab [0,3,4],I⟩) ?_;clear E I;rintro μ a w ⟨i,⟨rfl,hi⟩,E,I⟩;refine IF 6 E I (λak a E=>?_) λak a E=>?_
 ·
  obtain⟨bb,oo,rfl,hr⟩:=(hp _ I).get (by omega);have aG:i<bs.length:=by omega
  have hx:=Ce (bs.take i);have rf:=mA bs[i];refine RN 6 E I λa E=>?_;refine SS E (ae E (hr i _ (dV aG))) λa E=>?_;refine SX 0 E I (by rw[wrap_u32];omega) λa E=>?_;refine RN 1 E I λa E=>?_;rw[Cc hx (by omega)]at E;refine RN 3 E I λa E=>?_;have hy:pd (bs.take i) ^^^ bs[i].toNat<4294967296:=Nat.xor_lt_two_pow (n:=32) hx (by show _<4294967296;omega);have iu:=Mj aG;rw[xz]at iu;generalize pd (bs.take i) ^^^ bs[i].toNat=y at E hy iu;refine aL (λμ a w=>∃ (k:Nat),(μ=8-k∧k≤8)∧Fr a 33 [(0,.slice (some ⟨bb,oo,none⟩) bs.length c),(3,.int .u32 (m3 k y)),(4,.int .i64 i),(5,.int .i64 k)]∧U W w L) (8) (⟨0,⟨rfl,by omega⟩,E.ab [0,3,4,5],I⟩) ?_;clear E I;rintro μ a w ⟨k,⟨rfl,hk⟩,E,I⟩;refine IF 4 E I (λao a E=>?_) λao a E=>?_
  ·
   have Cg:=Cd hy k;have o4:m3 (k+1) y=tZ (m3 k y):=rfl;refine SX 3 E I (by decide) λa E=>?_;rw[show ((m3 k y:Nat):Int).tmod 2=((m3 k y%2:Nat):Int) from oO _ 2]at E;refine IF 1 E I (λay a E=>?_) λay a E=>?_
   ·
    rw[tZ,aj (by omega)]at o4;refine RN 2 E I λa E=>?_;rw[show ((m3 k y:Nat):Int).fdiv (2 ^ 1)=((m3 k y/2:Nat):Int) from lu _ 2]at E;refine RN 1 E I λa E=>?_;rw[Zv Cg,← o4]at E;refine RN 4 E I λa E=>?_;exact⟨8-(k+1),by omega,k+1,⟨rfl,by omega⟩,E.ab [0,3,4,5],I⟩
   rw[tZ,ag (by omega)]at o4;refine RN 2 E I λa E=>?_;rw[show ((m3 k y:Nat):Int).fdiv (2 ^ 1)=((m3 k y/2:Nat):Int) from lu _ 2,← o4]at E;refine RN 4 E I λa E=>?_;exact⟨8-(k+1),by omega,k+1,⟨rfl,by omega⟩,E.ab [0,3,4,5],I⟩
  obtain rfl:k=8:=by omega
  rw[← iu]at E;refine RN 3 E I λa E=>?_;exact⟨bs.length-(i+1),by omega,i+1,⟨rfl,by omega⟩,E.ab [0,3,4],I⟩
 obtain rfl:i=bs.length:=by omega
 rw[lf]at E;refine RN 3 E I λa E=>?_;rw[Mi (Ce bs)]at E;refine RT 1 E I ?_;exact⟨rfl,I⟩
theorem Gu {x:Nat}:[[Value.int .u8 (IntKind.u8.wrap ((x/16777216:Nat):Int))],[Value.int .u8 (IntKind.u8.wrap ((x/65536:Nat):Int))],[Value.int .u8 (IntKind.u8.wrap ((x/256:Nat):Int))],[Value.int .u8 (IntKind.u8.wrap ((x:Nat):Int))]].flatten=bc (fp x):=by
 simp only[Zw];rfl
theorem U.Gv {b:Nat}{cs:List Value}{l:List UInt8}{e:Nat}(I:U W w (aa b e cs::L))(he:e=5)(hl:l.length=4)(h:cs=bc l):U W w (Sl 5 1 (some ⟨b,0,none⟩) 4 4 (bc l)::L):=by
 subst h;subst he;have h2:U W w (aa b 5 ([]++bc l++[])::L):=by simpa using I
 exact U.jh (pre:=[]) (post:=[]) (n:=4) (c:=4) (sz:=1) (cs:=bc l) h2 (by rw[dA,hl]) (a7 _) (Nat.zero_le _)
theorem Mo {x:Nat}(I:U W w L) :
   Calls prog 337 #[.int .u32 x] w λe w'=>∃ ad,e=.returned (.slice ad 4 4)∧U W w' (Sl 5 1 ad 4 4 (bc (fp x))::L):=by
 refine EN func337 ntmps337 rfl rfl λa E=>?_;refine RN 5 E I λa E=>?_;rw[show ((x:Nat):Int).fdiv (2 ^ 24)=((x/16777216:Nat):Int) from lu _ 16777216]at E;refine SS E (gA E lh dF) λa E=>?_;refine RN 2 E I λa E=>?_;rw[show ((x:Nat):Int).fdiv (2 ^ 16)=((x/65536:Nat):Int) from lu _ 65536]at E;refine SS E (gA E lh dF) λa E=>?_;refine RN 2 E I λa E=>?_;rw[show ((x:Nat):Int).fdiv (2 ^ 8)=((x/256:Nat):Int) from lu _ 256]at E;refine SS E (gA E lh dF) λa E=>?_;refine RN 1 E I λa E=>?_;refine SS E (gA E lh dF) λa E=>?_;refine RN 0 E I λa E=>?_;refine ct E rfl I bj Ty.t5 rfl rfl rfl rfl (by decide) (by decide) λeu a w E I ho=>?_;clear ho;refine RT 1 E I ?_;exact⟨_,rfl,I.Gv rfl rfl Gu⟩
theorem Gx {x:Nat}(I:U W w L) :
   Calls prog 158 #[.int .u32 x] w λe w'=>∃ ad,e=.returned (.slice ad 4 4)∧U W w' (Sl 5 1 ad 4 4 (bc (fp x))::L):=by
 refine EN func158 ntmps158 rfl rfl λa E=>?_;refine RN 5 E I λa E=>?_;rw[show ((x:Nat):Int).fdiv (2 ^ 24)=((x/16777216:Nat):Int) from lu _ 16777216]at E;refine SS E (gA E lh dF) λa E=>?_;refine RN 2 E I λa E=>?_;rw[show ((x:Nat):Int).fdiv (2 ^ 16)=((x/65536:Nat):Int) from lu _ 65536]at E;refine SS E (gA E lh dF) λa E=>?_;refine RN 2 E I λa E=>?_;rw[show ((x:Nat):Int).fdiv (2 ^ 8)=((x/256:Nat):Int) from lu _ 256]at E;refine SS E (gA E lh dF) λa E=>?_;refine RN 1 E I λa E=>?_;refine SS E (gA E lh dF) λa E=>?_;refine RN 0 E I λa E=>?_;refine ct E rfl I bj Ty.t5 rfl rfl rfl rfl (by decide) (by decide) λeu a w E I ho=>?_;clear ho;refine RT 1 E I ?_;exact⟨_,rfl,I.Gv rfl rfl Gu⟩
theorem Zy {x:Int}(I:U W w L) :
   Calls prog 206 #[.int .i32 x] w λe w'=>∃ ad,e=.returned (.slice ad 4 4)∧U W w' (Sl 5 1 ad 4 4 (bc (fp (qe x)))::L):=by
 refine EN func206 ntmps206 rfl rfl λa E=>?_;refine RN 4 E I λa E=>?_;refine SS E (gA E tn lh) λa E=>?_;rw[Mk]at E;generalize qe x=x at E ⊢;refine RN 4 E I λa E=>?_;rw[show ((x:Nat):Int).fdiv (2 ^ 24)=((x/16777216:Nat):Int) from lu _ 16777216]at E;refine SS E (gA E lh dF) λa E=>?_;refine RN 2 E I λa E=>?_;rw[show ((x:Nat):Int).fdiv (2 ^ 16)=((x/65536:Nat):Int) from lu _ 65536]at E;refine SS E (gA E lh dF) λa E=>?_;refine RN 2 E I λa E=>?_;rw[show ((x:Nat):Int).fdiv (2 ^ 8)=((x/256:Nat):Int) from lu _ 256]at E;refine SS E (gA E lh dF) λa E=>?_;refine RN 1 E I λa E=>?_;refine SS E (gA E lh dF) λa E=>?_;refine RN 0 E I λa E=>?_;refine ct E rfl I bj Ty.t5 rfl rfl rfl rfl (by decide) (by decide) λiD a w E I ho=>?_;clear ho;refine RT 1 E I ?_;exact⟨_,rfl,I.Gv rfl rfl Gu⟩
end
end
end Go.Proofs.YteoldcfapaiobaaGreat
