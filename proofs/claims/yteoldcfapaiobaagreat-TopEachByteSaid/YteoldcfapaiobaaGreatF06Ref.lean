/- The references' runes, titles, programs: the walks. -/
import Derived.Test.YteoldcfapaiobaaGreatF05Vm
import Derived.Test.YteoldcfapaiobaaGreatF04Job
import Derived.Test.YteoldcfapaiobaaGreatF01Row
import Derived.ProofKit
import Derived.Deep.Slices
import Derived.Deep.Strs
import Derived.ChangeSlices
import Derived.ChangeShapes
import Derived.DataShut
import Derived.Test.YteoldcfapaiobaaGreatF03Snap2
import Derived.Laws.StructEq
import Derived.ChangeKeysEq
import Derived.ChangeSame
namespace Go.Proofs.YteoldcfapaiobaaGreat
open Tryz
open List (all_eq_true drop_zero take_succ_cons nil_append map_cons cons_append eraseIdx_set_eq append_nil ext_getElem? map_take range_succ foldl_append)
open Go.RowKit
set_option linter.unusedVariables false
set_option linter.unusedSimpArgs false
set_option maxRecDepth 10000
set_option synthInstance.maxSize 4000
set_option synthInstance.maxHeartbeats 400000
section
section
variable {W w:World}{L:List SP}{s:ByteArray}{p:Pr}{aq:Option Addr}{cO:Nat}
theorem XI (s:ByteArray):s.extract 0 s.size=s:=by simp
theorem XJ {s:ByteArray}(h:0<s.size):(s.data.toList==(⟨#[]⟩:ByteArray).data.toList)=false:=by
 rw[l5];intro e;have h2:=di List.length e;have h3:s.data.toList.length=s.size:=Array.length_toList;rw[h3]at h2;have h4:(⟨#[]⟩:ByteArray).data.toList.length=0:=rfl;omega
theorem A6 {s:ByteArray}{j:Nat}(h:j<s.size):(s[j]'h).toNat=kh s j:=by rw[kh,EL h]
theorem XK (I:U W w L)(h0:0<s.size):Calls prog 187 #[.string s] w λe w'=>e=.returned (.tuple #[.int .i32 (Utf8.decode s 0).1,.int .i64 (Utf8.decode s 0).2])∧U W w' L:=by
 obtain⟨b,hb⟩:∃ b,kh s 0=b:=⟨_,rfl⟩;have pC:=EP s 0;rw[hb]at pC;refine EN func187 ntmps187 rfl rfl λa E=>?_;refine RN 6 E I λa E=>?_;refine SS E (sQ E) λa E=>?_;rw[XJ h0]at E;refine RN 0 E I λa E=>?_;replace E:=E.aM 10;refine RN 3 E I λa E=>?_;refine SS E (Aj E underlying9 (by omega)) λa E=>?_;rw[A6 h0,hb]at E;refine RN 5 E I λa E=>?_;refine cd (M:=λa w=>∃ n low r:Nat,EO b n low r∧Fr a 92 [(0,.string s),(5,.int .i64 n),(6,.int .i32 low),(7,.int .i32 r)]∧U W w L) ?_ ?_
 ·
  refine IF 4 E I (λao a E=>?_) λao a E=>?_
  ·
   refine SX 2 E I (iu (by omega) (by omega)) λa E=>?_;refine RT 2 E I ?_;exact⟨by rw[XF hb (by omega)];rfl,I⟩
  refine BY 4 E I (λbA a E=>?_) λbA a E=>?_
  ·
   refine IF 4 E I (λay a E=>?_) λay a E=>?_
   ·
    refine SX 1 E I (iu (by omega) (by omega)) λa E=>?_;refine RN 1 E I λa E=>?_;obtain⟨r,hr⟩:∃ r,b=192+r:=⟨b-192,by omega⟩;rw[show IntKind.i32.wrap ((b:Int)-192)=(r:Nat) from by rw[iu (by omega) (by omega)];omega]at E;refine RN 3 E I λa E=>?_;exact⟨2,128,r,.inl ⟨hr,by omega,rfl,rfl⟩,E.ab [0,5,6,7],I⟩
   refine BY 4 E I (λbA a E=>?_) λbA a E=>?_
   ·
    refine IF 4 E I (λbd a E=>?_) λbd a E=>?_
    ·
     refine SX 1 E I (iu (by omega) (by omega)) λa E=>?_;refine RN 1 E I λa E=>?_;obtain⟨r,hr⟩:∃ r,b=224+r:=⟨b-224,by omega⟩;rw[show IntKind.i32.wrap ((b:Int)-224)=(r:Nat) from by rw[iu (by omega) (by omega)];omega]at E;refine RN 3 E I λa E=>?_;exact⟨3,2048,r,.inr (.inl ⟨hr,by omega,rfl,rfl⟩),E.ab [0,5,6,7],I⟩
    refine BY 4 E I (λbA a E=>?_) λbA a E=>?_
    ·
     refine IF 4 E I (λbF a E=>?_) λbF a E=>?_
     ·
      refine SX 1 E I (iu (by omega) (by omega)) λa E=>?_;refine RN 1 E I λa E=>?_;obtain⟨r,hr⟩:∃ r,b=240+r:=⟨b-240,by omega⟩;rw[show IntKind.i32.wrap ((b:Int)-240)=(r:Nat) from by rw[iu (by omega) (by omega)];omega]at E;refine RN 3 E I λa E=>?_;exact⟨4,65536,r,.inr (.inr ⟨hr,by omega,rfl,rfl⟩),E.ab [0,5,6,7],I⟩
     refine RT 3 E I ?_;exact⟨by rw[tr hb (by omega) (by omega)];rfl,I⟩
    refine RT 8 E I ?_;exact⟨by rw[tr hb (by omega) (by omega)];rfl,I⟩
   refine BY 9 E I (λbA a E=>?_) λbA a E=>?_
   ·
    refine IF 4 E I (λbF a E=>?_) λbF a E=>?_
    ·
     refine SX 1 E I (iu (by omega) (by omega)) λa E=>?_;refine RN 1 E I λa E=>?_;obtain⟨r,hr⟩:∃ r,b=240+r:=⟨b-240,by omega⟩;rw[show IntKind.i32.wrap ((b:Int)-240)=(r:Nat) from by rw[iu (by omega) (by omega)];omega]at E;refine RN 3 E I λa E=>?_;exact⟨4,65536,r,.inr (.inr ⟨hr,by omega,rfl,rfl⟩),E.ab [0,5,6,7],I⟩
    refine RT 3 E I ?_;exact⟨by rw[tr hb (by omega) (by omega)];rfl,I⟩
   refine RT 8 E I ?_;exact⟨by rw[tr hb (by omega) (by omega)];rfl,I⟩
  refine BY 9 E I (λbA a E=>?_) λbA a E=>?_
  ·
   refine IF 4 E I (λbd a E=>?_) λbd a E=>?_
   ·
    refine SX 1 E I (iu (by omega) (by omega)) λa E=>?_;refine RN 1 E I λa E=>?_;obtain⟨r,hr⟩:∃ r,b=224+r:=⟨b-224,by omega⟩;rw[show IntKind.i32.wrap ((b:Int)-224)=(r:Nat) from by rw[iu (by omega) (by omega)];omega]at E;refine RN 3 E I λa E=>?_;exact⟨3,2048,r,.inr (.inl ⟨hr,by omega,rfl,rfl⟩),E.ab [0,5,6,7],I⟩
   refine BY 4 E I (λbA a E=>?_) λbA a E=>?_
   ·
    refine IF 4 E I (λbF a E=>?_) λbF a E=>?_
    ·
     refine SX 1 E I (iu (by omega) (by omega)) λa E=>?_;refine RN 1 E I λa E=>?_;obtain⟨r,hr⟩:∃ r,b=240+r:=⟨b-240,by omega⟩;rw[show IntKind.i32.wrap ((b:Int)-240)=(r:Nat) from by rw[iu (by omega) (by omega)];omega]at E;refine RN 3 E I λa E=>?_;exact⟨4,65536,r,.inr (.inr ⟨hr,by omega,rfl,rfl⟩),E.ab [0,5,6,7],I⟩
    refine RT 3 E I ?_;exact⟨by rw[tr hb (by omega) (by omega)];rfl,I⟩
   refine RT 8 E I ?_;exact⟨by rw[tr hb (by omega) (by omega)];rfl,I⟩
  refine BY 9 E I (λbA a E=>?_) λbA a E=>?_
  ·
   refine IF 4 E I (λbF a E=>?_) λbF a E=>?_
   ·
    refine SX 1 E I (iu (by omega) (by omega)) λa E=>?_;refine RN 1 E I λa E=>?_;obtain⟨r,hr⟩:∃ r,b=240+r:=⟨b-240,by omega⟩;rw[show IntKind.i32.wrap ((b:Int)-240)=(r:Nat) from by rw[iu (by omega) (by omega)];omega]at E;refine RN 3 E I λa E=>?_;exact⟨4,65536,r,.inr (.inr ⟨hr,by omega,rfl,rfl⟩),E.ab [0,5,6,7],I⟩
   refine RT 3 E I ?_;exact⟨by rw[tr hb (by omega) (by omega)];rfl,I⟩
  refine RT 8 E I ?_;exact⟨by rw[tr hb (by omega) (by omega)];rfl,I⟩
 clear E;(try clear I);rintro a w ⟨n,low,r,hd,E,I⟩;refine RN 2 E I λa E=>?_;have pW:2≤n∧n≤4∧r<32:=by rcases hd with h | h | h <;> omega
 refine IF 4 E I (λeU a E=>?_) λeU a E=>?_
 ·
  refine RT 3 E I ?_;exact⟨by rw[ES hb hd (.inl (by omega))];rfl,I⟩
 refine RN 3 E I λa E=>?_;refine aQ (λμ a w=>∃ (j:Nat),(μ=n-j∧j+1≤n∧∀ k,1≤k→k<j+1→kh s k/64=2)∧Fr a 92 [(0,.string s),(5,.int .i64 n),(6,.int .i32 low),(7,.int .i32 (gj s r j:Nat)),(8,.int .i64 ((j+1:Nat):Int))]∧U W w L) (n) (⟨0,⟨by simp,by omega,λk h1 h2=>by omega⟩,E.ab [0,5,6,7,8],I⟩) ?_;clear E I;rintro μ a w ⟨j,⟨rfl,hj,ig⟩,E,I⟩;refine IF 5 E I (λnn a E=>?_) λnn a E=>?_
 ·
  refine RN 3 E I λa E=>?_;have tt:j+1<s.size:=by omega
  have hbj:=EP s (j+1);refine RN 2 E I λa E=>?_;refine SS E (Aj E underlying9 (by omega)) λa E=>?_;rw[A6 tt]at E;refine BY 2 E I (λdE a E=>?_) λdE a E=>?_
  ·
   refine RT 9 E I ?_;exact⟨by rw[ES hb hd (.inr ⟨j+1,by omega,by omega,by omega⟩)];rfl,I⟩
  refine RN 2 E I λa E=>?_;refine bm E (bQ E rfl (s:=61)) (Aj E underlying9 (by omega)) rfl λa E=>?_;rw[A6 tt]at E;refine IF 2 E I (λmO a E=>?_) λmO a E=>?_
  ·
   refine RT 3 E I ?_;exact⟨by rw[ES hb hd (.inr ⟨j+1,by omega,by omega,by omega⟩)];rfl,I⟩
  refine RN 0 E I λa E=>?_;have cp:=ER (s:=s) pW.2.2 j;have qS:(64:Nat) ^ j≤64 ^ 2:=Nat.pow_le_pow_right (by omega) (by omega);refine RN 2 E I λa E=>?_;rw[iu (by omega) (by omega)]at E;refine RN 2 E I λa E=>?_;refine SS E (Aj E underlying9 (by omega)) λa E=>?_;rw[A6 tt]at E;refine SX 0 E I (iu (by omega) (by omega)) λa E=>?_;refine RN 1 E I λa E=>?_;rw[iu (by omega) (by omega)]at E;refine RN 1 E I λa E=>?_;rw[show IntKind.i32.wrap ((gj s r j:Nat)*64+(kh s (j+1):Nat)-128:Int)=(gj s r (j+1):Nat) from by rw[iu (by omega) (by omega),gj];omega]at E;refine RN 4 E I λa E=>?_;refine⟨n-(j+1),by omega,j+1,⟨rfl,by omega,λk h1 h2=>?_⟩,E.ab [0,5,6,7,8],I⟩;rcases gQ k (j+1) with h3 | h3
  ·exact ig k h1 h3
  ·obtain rfl:k=j+1:=by omega
   omega
 refine RN 2 E I λa E=>?_;obtain rfl:n=j+1:=by omega
 have pP:=XG hb hd (by omega) ig;simp only[AZ,yH]at pP;refine BY 4 E I (λbX a E=>?_) λbX a E=>?_
 ·
  refine RT 15 E I ?_;exact⟨by rw[pP.1 (by omega)];rfl,I⟩
 refine BY 4 E I (λjS a E=>?_) λjS a E=>?_
 ·
  refine RT 11 E I ?_;exact⟨by rw[pP.1 (by omega)];rfl,I⟩
 refine BY 3 E I (λl8 a E=>?_) λl8 a E=>?_
 ·
  refine IF 4 E I (λmP a E=>?_) λmP a E=>?_
  ·
   refine RT 3 E I ?_;exact⟨by rw[pP.1 (by omega)];rfl,I⟩
  refine RT 5 E I ?_;exact⟨by rw[pP.2 (by omega)],I⟩
 refine RT 10 E I ?_;exact⟨by rw[pP.2 (by omega)],I⟩
def RI (l:List (Nat×Nat)):List Value:=l.map λx=>.int .i32 x.1
theorem KG (I:U W w L)(aH:s.size≤1000000000):Calls prog 148 #[.string s] w λe w'=>∃ ad c,e=.returned (.tuple #[.slice ad (ee s 0).length c,.bool ((ee s 0).all mK)]) ∧
   U W w' (Sl 21 1 ad (ee s 0).length c (RI (ee s 0))::L):=by
 refine EN func148 ntmps148 rfl rfl λa E=>?_;refine RN 6 E I λa E=>?_;replace I:=I.bN 21 1 none;refine RN 2 E I λa E=>?_;refine aQ (λμ a w=>∃ (pos:Nat) (dn:List (Nat×Nat)) (ad:Option Addr) (c:Nat),(μ=s.size-pos∧pos≤s.size∧dn.length≤pos∧ee s 0=dn++ee s pos)∧Fr a 34 [(0,.string (s.extract pos s.size)),(4,.slice ad dn.length c),(5,.bool (dn.all mK))]∧U W w (Sl 21 1 ad dn.length c (RI dn)::L)) (s.size) (⟨0,[],none,0,⟨by simp,by omega,by simp,rfl⟩,by rw[XI];exact E.ab [0,4,5],I⟩) ?_;clear E I;rintro μ a w ⟨pos,dn,ad,c,⟨rfl,hp,mN,c9⟩,E,I⟩;refine RN 4 E I λa E=>?_;rw[rU]at E;refine IF 1 E I (λaj a E=>?_) λaj a E=>?_
 ·
  have gH:pos<s.size:=by omega
  have ni:=rN gH;have hdp:=uM s pos;have hdi:=J1 s pos gH;have ET:eb s pos=pos+(Utf8.decode s pos).2:=by rw[eb,ak gH]
  refine CL 2 E I (XK I (by rw[rU];omega)) λa w E I=>?_;rw[XE]at E;refine RN 8 E I λa E=>?_;refine cr E rfl I underlying270 Ty.t21 rfl rfl rfl rfl (by decide) (by decide) λtu a w E I ho=>?_;clear ho;refine RN 0 E I λa E=>?_;refine cQ E rfl I underlying270 Ty.t21 rfl rfl I.ai rfl (by simp[Value.oneCell']) (by decide) (by decide) (by omega) λA7 A8 a w E I=>?_;refine RN 1 E I λa E=>?_;have pX:U W w (Sl 21 1 A7 (dn++[Utf8.decode s pos]).length A8 (RI (dn++[Utf8.decode s pos]))::L):=by
   have e1:(dn++[Utf8.decode s pos]).length=dn.length+1:=by simp
   have e2:RI (dn++[Utf8.decode s pos])=RI dn++[.int .i32 (Utf8.decode s pos).1]:=by simp[RI]
   rw[e1,e2];change U W w (Sl 21 1 A7 (dn.length+1) A8 (RI dn++[.int .i32 (Utf8.decode s pos).1])::_) at I;exact I.sub
  replace I:=pX;clear pX;refine RN 1 E I λa E=>?_;have qT:(dn++[Utf8.decode s pos]).all mK=(dn.all mK&&A4 (Utf8.decode s pos)):=by rw[XH];simp
  simp only[A4]at qT;refine BY 2 E I (λnq a E=>?_) λnq a E=>?_
  ·
   refine BY 3 E I (λdE a E=>?_) λdE a E=>?_
   ·
    refine RN 5 E I λa E=>?_;rw[nq,ak (by omega)]at qT;refine RN 2 E I λa E=>?_;refine SS E (DB E underlying9 (by rw[rU];omega)) λa E=>?_;rw[EM,← ET]at E;refine RN 1 E I λa E=>?_;have yI:(dn++[Utf8.decode s pos]).length=dn.length+1:=by simp
    refine⟨s.size-eb s pos,by omega,eb s pos,dn++[Utf8.decode s pos],_,_,⟨rfl,by omega,by omega,by rw[c9,ni,dx];rfl⟩,?_,I⟩;rw[yI,qT];exact E.ab [0,4,5]
   refine RN 5 E I λa E=>?_;rw[nq,ag (by omega),Bool.true_and,show decide ((Utf8.decode s pos).2=3)=decide (((Utf8.decode s pos).2:Int)=3) from decide_eq_decide.2 (by omega)]at qT;refine RN 2 E I λa E=>?_;refine SS E (DB E underlying9 (by rw[rU];omega)) λa E=>?_;rw[EM,← ET]at E;refine RN 1 E I λa E=>?_;have yI:(dn++[Utf8.decode s pos]).length=dn.length+1:=by simp
   refine⟨s.size-eb s pos,by omega,eb s pos,dn++[Utf8.decode s pos],_,_,⟨rfl,by omega,by omega,by rw[c9,ni,dx];rfl⟩,?_,I⟩;rw[yI,qT];exact E.ab [0,4,5]
  refine RN 8 E I λa E=>?_;rw[nq,Bool.false_and]at qT;refine RN 2 E I λa E=>?_;refine SS E (DB E underlying9 (by rw[rU];omega)) λa E=>?_;rw[EM,← ET]at E;refine RN 1 E I λa E=>?_;have yI:(dn++[Utf8.decode s pos]).length=dn.length+1:=by simp
  refine⟨s.size-eb s pos,by omega,eb s pos,dn++[Utf8.decode s pos],_,_,⟨rfl,by omega,by omega,by rw[c9,ni,dx];rfl⟩,?_,I⟩;rw[yI,qT];exact E.ab [0,4,5]
 refine RT 5 E I ?_;obtain rfl:pos=s.size:=by omega
 have mf:=rO (s:=s) (pos:=s.size) (by omega);rw[mf,append_nil]at c9;rw[c9];exact⟨_,_,rfl,I.sub⟩
theorem KH {l:List (Nat×Nat)}{i:Nat}{x:Nat×Nat}(h:l[i]?=some x):(RI l)[i]?=some (.int .i32 x.1):=by rw[RI,bn,h];rfl
theorem XL (I:U W w L)(aH:s.size≤1000000000):Calls prog 107 #[.string s] w λe w'=>e=.returned (.bool (pQ s))∧U W w' L:=by
 have jC:pQ s=(decide (1≤(ee s 0).length)&&decide ((ee s 0).length≤20)&&(ee s 0).all kM&&(ee s 0).all mK):=rfl;have gq:=V4 s s.size 0 (by omega);refine EN func107 ntmps107 rfl rfl λa E=>?_;refine aY 4 E I (KG I aH) λad c a w E I=>?_;generalize (ee s 0)=l at E I jC gq;refine BY 10 E I (λbA a E=>?_) λbA a E=>?_
 ·
  refine RT 12 E I ?_;exact⟨by rw[jC,bA,Bool.and_false],I.sub⟩
 refine BY 5 E I (λjS a E=>?_) λjS a E=>?_
 ·
  refine RT 7 E I ?_;exact⟨by rw[jC,bo (by omega)];simp,I.sub⟩
 refine IF 4 E I (λaj a E=>?_) λaj a E=>?_
 ·
  refine RT 2 E I ?_;exact⟨by rw[jC,bo (p:=l.length≤20) (by omega)];simp,I.sub⟩
 refine RN 3 E I λa E=>?_;refine aQ (λμ a w=>∃ i:Nat,(μ=l.length-i∧i≤l.length∧∀ j x,j<i→l[j]?=some x→kM x=true)∧Fr a 41 [(3,.slice ad l.length c),(5,.int .i64 i)]∧U W w (Sl 21 1 ad l.length c (RI l)::L)) (l.length) (⟨0,⟨by simp,by simp,λj x h=>absurd h (by omega)⟩,E.ab [3,5],I⟩) ?_;clear E I;rintro μ a w ⟨i,⟨rfl,hi,cC⟩,E,I⟩;refine IF 6 E I (λao a E=>?_) λao a E=>?_
 ·
  obtain⟨b,o,rfl,c7⟩:=I.bU ad (by omega);obtain⟨x,hx⟩:∃ x,l[i]?=some x:=⟨_,aD (by omega)⟩;have mG:=c7 i _ (KH hx);refine RN 5 E I λa E=>?_;refine SS E (ae E (mG)) λa E=>?_;refine BY 2 E I (λji a E=>?_) λji a E=>?_
  ·
   refine RT 9 E I ?_;refine⟨?_,I.sub⟩;have pY:kM x=false:=by
    simp only[kM,Bool.and_eq_false_iff,rR];omega
   have ig:l.all kM=false:=by rw[List.all_eq_false];exact⟨x,bH hx,by rw[pY];decide⟩
   rw[jC,ig];simp
  refine RN 3 E I λa E=>?_;refine bm E (bQ E rfl (s:=34)) (ae E (mG)) rfl λa E=>?_;refine IF 2 E I (λay a E=>?_) λay a E=>?_
  ·
   refine RT 2 E I ?_;refine⟨?_,I.sub⟩;have pY:kM x=false:=by
    simp only[kM,Bool.and_eq_false_iff,rR];omega
   have ig:l.all kM=false:=by rw[List.all_eq_false];exact⟨x,bH hx,by rw[pY];decide⟩
   rw[jC,ig];simp
  refine RN 3 E I λa E=>?_;refine⟨l.length-(i+1),by omega,i+1,⟨rfl,by omega,λj y hj hy=>?_⟩,E.ab [3,5],I.sub⟩;rcases gQ j i with h | h
  ·exact cC j y h hy
  ·obtain rfl:j=i:=by omega
   rw[hx]at hy;cases hy;simp only[kM,fq,oA];omega
 refine RT 2 E I ?_;refine⟨?_,I.sub⟩;have ig:l.all kM=true:=by
  rw[all_eq_true];intro x hx;obtain⟨j,hj⟩:=j6.1 hx;exact cC j x (by have:=(a2.1 hj).1;omega) hj
 rw[jC,ig,bA,dh (p:=1≤l.length) (by omega),dh (p:=l.length≤20) (by omega)];rfl
theorem A9 {x:Int}(I:U W w L):Calls prog 108 #[.int .i64 x] w λe w'=>∃ r:Bool,e=.returned (.bool r)∧(r=true↔ds x)∧U W w' L:=by
 simp only[ds];refine EN func108 ntmps108 rfl rfl λa E=>?_;refine BY 6 E I (λbA a E=>?_) λbA a E=>?_
 ·
  refine RT 4 E I ?_;exact⟨_,rfl,by rw[ct];omega,I⟩
 refine RT 4 E I ?_;exact⟨_,rfl,⟨λh=>(by cases h),λh=>by omega⟩,I⟩
theorem XM {p:Pr}(I:U W w (aA W p aq cO::L))(aH:p.title.size≤1000000000)(dY:p.ops.length≤1000000000) :
   Calls prog 68 #[.agg (bP p aq cO).toArray] w λe w'=>∃ r:Bool,e=.returned (.bool r)∧(r=true↔wB p)∧U W w' (aA W p aq cO::L):=by
 refine EN func68 ntmps68 rfl rfl λa E=>?_;refine BX 1 E I λb1 a w E I=>?_;change U W w (aa b1 45 (bP p aq cO)::_) at I;refine CL 5 E I (XL I aH) λa w E I=>?_;refine BY 2 E I (λdE a E=>?_) λdE a E=>?_
 ·
  refine RT 14 E I ?_;exact⟨false,rfl,⟨λh=>(by cases h),λh=>by rw[h.1]at dE;cases dE⟩,I.sub⟩
 have XN:pQ p.title=true:=by simpa using dE
 refine BY 6 E I (λl8 a E=>?_) λl8 a E=>?_
 ·
  refine RT 8 E I ?_;exact⟨false,rfl,⟨λh=>(by cases h),λh=>by have:=h.2.1;omega⟩,I.sub⟩
 refine IF 5 E I (λaj a E=>?_) λaj a E=>?_
 ·
  refine RT 2 E I ?_;exact⟨false,rfl,⟨λh=>(by cases h),λh=>by have:=h.2.2.1;omega⟩,I.sub⟩
 refine RN 3 E I λa E=>?_;refine aQ (λμ a w=>∃ i:Nat,(μ=p.ops.length-i∧i≤p.ops.length∧∀ j o,j<i→p.ops[j]?=some o→rP o)∧Fr a 55 [(1,pt b1),(3,.int .i64 i)]∧U W w (aa b1 45 (bP p aq cO)::aA W p aq cO::L)) (p.ops.length) (⟨0,⟨by simp,by simp,λj o h=>absurd h (by omega)⟩,E.ab [1,3],I.sub⟩) ?_;clear E I;rintro μ a w ⟨i,⟨rfl,hi,cC⟩,E,I⟩;refine IF 7 E I (λao a E=>?_) λao a E=>?_
 ·
  obtain⟨o,ho⟩:∃ o,p.ops[i]?=some o:=⟨_,aD (by omega)⟩;obtain⟨k0,oo,rfl,gI⟩:=I.rQ aq (by omega);refine RN 6 E I λa E=>?_;refine SS E (bT E underlying114 rfl Ty.t114 (wC gI ho)) λa E=>?_;refine AL 0 E I λb4 a w E I=>?_;refine SA 0 E I λa w E I=>?_;refine bj 3 E I (A9 I) λr1 a w E ⟨fg,I⟩=>?_;refine BY 2 E I (λdE a E=>?_) λdE a E=>?_
  ·
   have ka:¬ rP o:=λh=>by rw[fg.2 h.1]at dE;cases dE
   refine RT 20 E I ?_;exact⟨false,rfl,⟨λh=>(by cases h),λh=>absurd (h.2.2.2 o (bH ho)) ka⟩,I.sub⟩
  refine bj 2 E I (A9 I) λr2 a w E ⟨e5,I⟩=>?_;refine BY 3 E I (λl8 a E=>?_) λl8 a E=>?_
  ·
   have ka:¬ rP o:=λh=>by rw[e5.2 h.2.1]at l8;cases l8
   refine RT 14 E I ?_;exact⟨false,rfl,⟨λh=>(by cases h),λh=>absurd (h.2.2.2 o (bH ho)) ka⟩,I.sub⟩
  refine bj 2 E I (A9 I) λr3 a w E ⟨kg,I⟩=>?_;refine BY 3 E I (λuV a E=>?_) λuV a E=>?_
  ·
   have ka:¬ rP o:=λh=>by rw[kg.2 h.2.2.1]at uV;cases uV
   refine RT 8 E I ?_;exact⟨false,rfl,⟨λh=>(by cases h),λh=>absurd (h.2.2.2 o (bH ho)) ka⟩,I.sub⟩
  refine bj 2 E I (A9 I) λXO a w E ⟨qU,I⟩=>?_;refine IF 2 E I (λay a E=>?_) λay a E=>?_
  ·
   have ka:¬ rP o:=λh=>by rw[qU.2 h.2.2.2]at ay;cases ay
   refine RT 2 E I ?_;exact⟨false,rfl,⟨λh=>(by cases h),λh=>absurd (h.2.2.2 o (bH ho)) ka⟩,I.sub⟩
  have EU:rP o:=⟨fg.1 (by simpa using dE),e5.1 (by simpa using l8),kg.1 (by simpa using uV),qU.1 (by simpa using ay)⟩;refine RN 3 E I λa E=>?_;refine⟨p.ops.length-(i+1),by omega,i+1,⟨rfl,by omega,λj o' hj kB=>?_⟩,E.ab [1,3],I.sub⟩;rcases gQ j i with h | h
  ·exact cC j o' h kB
  ·obtain rfl:j=i:=by omega
   rw[ho]at kB;cases kB;exact EU
 refine RT 2 E I ?_;refine⟨true,rfl,⟨λ_=>⟨XN,by omega,by omega,λo ho=>?_⟩,λ_=>rfl⟩,I.sub⟩;obtain⟨j,hj⟩:=j6.1 ho;exact cC j o (by have:=(a2.1 hj).1;omega) hj
theorem XP:∀ m:Nat,m≤15→(([[.int .i64 0],[.int .i64 2],[.int .i64 2],[.int .i64 3],[.int .i64 3],[.int .i64 3],[.int .i64 3],[.int .i64 3],[.int .i64 3],[.int .i64 1],[.int .i64 2],[.int .i64 2],[.int .i64 2],[.int .i64 2],[.int .i64 2],[.int .i64 1]].flatten:List Value))[m]?=some (.int .i64 (wP (m:Int)))
 | 0,_=>rfl
 | 1,_=>rfl
 | 2,_=>rfl
 | 3,_=>rfl
 | 4,_=>rfl
 | 5,_=>rfl
 | 6,_=>rfl
 | 7,_=>rfl
 | 8,_=>rfl
 | 9,_=>rfl
 | 10,_=>rfl
 | 11,_=>rfl
 | 12,_=>rfl
 | 13,_=>rfl
 | 14,_=>rfl
 | 15,_=>rfl
 | n+16,h=>absurd h (by omega)
theorem XQ {k:Int}(I:U W w L)(hk:0≤k∧k≤15):Calls prog 109 #[.int .i64 k] w λe w'=>e=.returned (.int .i64 (wP k))∧U W w' L:=by
 obtain⟨m,rfl⟩:∃ m:Nat,k=m:=⟨k.toNat,by omega⟩;have hm:m≤15:=by omega
 refine EN func109 ntmps109 rfl rfl λa E=>?_;refine RN 3 E I λa E=>?_;refine cr E rfl I underlying53 Ty.t3 rfl rfl rfl rfl (by decide) (by decide) λb4 a w E I ho=>?_;clear ho;refine RN 5 E I λa E=>?_;refine SS E (ae E ((I.bz (XP m hm)))) λa E=>?_;refine RT 1 E I ?_;exact⟨rfl,I.sub⟩
theorem KI {o:gG}:∀ k:Nat,k<3→([[.int .i64 o.a],[.int .i64 o.b],[.int .i64 o.c]].flatten:List Value)[k]?=some (.int .i64 (A5 o k))
 | 0,_=>rfl
 | 1,_=>rfl
 | 2,_=>rfl
 | n+3,h=>absurd h (by omega)
theorem XR {n:Nat}{o:gG}(I:U W w L):Calls prog 69 #[.agg (dQ o).toArray,.int .i64 n] w λe w'=>∃ r:Bool,e=.returned (.bool r)∧(r=true↔e7 n o)∧U W w' L:=by
 refine EN func69 ntmps69 rfl rfl λa E=>?_;refine BX 1 E I λb2 a w E I=>?_;change U W w (aa b2 114 (dQ o)::_) at I;refine BY 7 E I (λbX a E=>?_) λbX a E=>?_
 ·
  refine RT 7 E I ?_;exact⟨false,rfl,⟨λh=>(by cases h),λh=>by have:=(yG.1 h).1;omega⟩,I.sub⟩
 refine IF 4 E I (λaj a E=>?_) λaj a E=>?_
 ·
  refine RT 2 E I ?_;exact⟨false,rfl,⟨λh=>(by cases h),λh=>by have:=(yG.1 h).1;omega⟩,I.sub⟩
 refine RN 7 E I λa E=>?_;refine cr E rfl I underlying53 Ty.t3 rfl rfl rfl rfl (by decide) (by decide) λuW a w E I ho=>?_;clear ho;refine RN 4 E I λa E=>?_;refine aQ (λμ a w=>∃ k:Nat,(μ=3-k∧k≤3∧∀ j,j<k→rV n o j)∧Fr a 68 [(1,.int .i64 n),(2,pt b2),(5,.slice (some ⟨uW,0,none⟩) 3 3),(6,.int .i64 k)]∧U W w (aa uW 3 [[.int .i64 o.a],[.int .i64 o.b],[.int .i64 o.c]].flatten::aa b2 114 (dQ o)::L)) (3) (⟨0,⟨by simp,by simp,λj h=>absurd h (by omega)⟩,E.ab [1,2,5,6],I.sub⟩) ?_;clear E I;rintro μ a w ⟨k,⟨rfl,hk,cC⟩,E,I⟩;refine IF 4 E I (λao a E=>?_) λao a E=>?_
 ·
  refine RN 3 E I λa E=>?_;refine cd (M:=λa w=>(wP o.code≤k∨¬ (o.code=1∧k=1))∧Fr a 68 [(1,.int .i64 n),(2,pt b2),(5,.slice (some ⟨uW,0,none⟩) 3 3),(6,.int .i64 k),(7,.int .i64 (ki n o k))]∧U W w (aa uW 3 [[.int .i64 o.a],[.int .i64 o.b],[.int .i64 o.c]].flatten::aa b2 114 (dQ o)::L)) ?_ ?_
  ·
   refine CL 4 E I (XQ I (by omega)) λa w E I=>?_;refine IF 2 E I (λay a E=>?_) λay a E=>?_
   ·
    refine RN 1 E I λa E=>?_;refine⟨.inl (by omega),?_,I.sub⟩;rw[show ki n o k=0 from ak (by omega)];exact E.ab [1,2,5,6,7]
   refine BY 5 E I (λbX a E=>?_) λbX a E=>?_
   ·
    refine IF 4 E I (λbd a E=>?_) λbd a E=>?_
    ·
     refine RN 3 E I λa E=>?_;refine⟨3-(k+1),by omega,k+1,⟨rfl,by omega,λj hj=>?_⟩,E.ab [1,2,5,6],I.sub⟩;rcases gQ j k with h | h
     ·exact cC j h
     ·obtain rfl:j=k:=by omega
      exact .inl ⟨by omega,by omega,by omega⟩
    refine BY 5 E I (λbX a E=>?_) λbX a E=>?_
    ·
     refine RN 12 E I λa E=>?_;refine⟨.inr (by omega),?_,I.sub⟩;rw[show ki n o k=n from by rw[ki,ag (by omega),ak (by omega)]];exact E.ab [1,2,5,6,7]
    refine BY 4 E I (λjS a E=>?_) λjS a E=>?_
    ·
     refine IF 5 E I (λbF a E=>?_) λbF a E=>?_
     ·
      refine RN 2 E I λa E=>?_;refine⟨.inr (by omega),?_,I.sub⟩;rw[show ki n o k=n from by rw[ki,ag (by omega),ak (by omega)]];exact E.ab [1,2,5,6,7]
     refine RN 0 E I λa E=>?_;refine⟨.inr (by omega),?_,I.sub⟩;rw[show ki n o k=31 from by rw[ki,ag (by omega),ag (by omega)]];exact E.ab [1,2,5,6,7]
    refine RN 6 E I λa E=>?_;refine⟨.inr (by omega),?_,I.sub⟩;rw[show ki n o k=31 from by rw[ki,ag (by omega),ag (by omega)]];exact E.ab [1,2,5,6,7]
   refine BY 10 E I (λbX a E=>?_) λbX a E=>?_
   ·
    refine RN 12 E I λa E=>?_;refine⟨.inr (by omega),?_,I.sub⟩;rw[show ki n o k=n from by rw[ki,ag (by omega),ak (by omega)]];exact E.ab [1,2,5,6,7]
   refine BY 4 E I (λjS a E=>?_) λjS a E=>?_
   ·
    refine IF 5 E I (λbF a E=>?_) λbF a E=>?_
    ·
     refine RN 2 E I λa E=>?_;refine⟨.inr (by omega),?_,I.sub⟩;rw[show ki n o k=n from by rw[ki,ag (by omega),ak (by omega)]];exact E.ab [1,2,5,6,7]
    refine RN 0 E I λa E=>?_;refine⟨.inr (by omega),?_,I.sub⟩;rw[show ki n o k=31 from by rw[ki,ag (by omega),ag (by omega)]];exact E.ab [1,2,5,6,7]
   refine RN 6 E I λa E=>?_;refine⟨.inr (by omega),?_,I.sub⟩;rw[show ki n o k=31 from by rw[ki,ag (by omega),ag (by omega)]];exact E.ab [1,2,5,6,7]
  clear E;(try clear I);rintro a w ⟨DR,E,I⟩;refine RN 4 E I λa E=>?_;refine SS E (ae E ((I.bz (KI k (by omega))))) λa E=>?_;refine BY 2 E I (λji a E=>?_) λji a E=>?_
  ·
   refine RT 10 E I ?_;refine⟨false,rfl,⟨λh=>(by cases h),λh=>?_⟩,I.sub⟩;have b9:rV n o k:=by
    obtain⟨_,h0,h1,h2⟩:=yG.1 h;rcases (by omega:k=0∨k=1∨k=2) with rfl | rfl | rfl
    ·exact h0
    ·exact h1
    ·exact h2
   simp only[rV]at b9;omega
  refine RN 3 E I λa E=>?_;refine bm E (bQ E rfl (s:=60)) (ae E ((I.bz (KI k (by omega))))) rfl λa E=>?_;refine IF 3 E I (λeU a E=>?_) λeU a E=>?_
  ·
   refine RT 2 E I ?_;refine⟨false,rfl,⟨λh=>(by cases h),λh=>?_⟩,I.sub⟩;have b9:rV n o k:=by
    obtain⟨_,h0,h1,h2⟩:=yG.1 h;rcases (by omega:k=0∨k=1∨k=2) with rfl | rfl | rfl
    ·exact h0
    ·exact h1
    ·exact h2
   simp only[rV]at b9;omega
  refine RN 3 E I λa E=>?_;refine⟨3-(k+1),by omega,k+1,⟨rfl,by omega,λj hj=>?_⟩,E.ab [1,2,5,6],I.sub⟩;rcases gQ j k with h | h
  ·exact cC j h
  ·obtain rfl:j=k:=by omega
   exact .inr ⟨by omega,by omega⟩
 refine RT 2 E I ?_;exact⟨true,rfl,⟨λ_=>yG.2 ⟨by omega,cC 0 (by omega),cC 1 (by omega),cC 2 (by omega)⟩,λ_=>rfl⟩,I.sub⟩
theorem XS {p:Pr}(I:U W w (aA W p aq cO::L))(aH:p.title.size≤1000000000)(dY:p.ops.length≤1000000000) :
   Calls prog 48 #[.agg (bP p aq cO).toArray] w λe w'=>∃ r:Int,e=.returned (.int .i64 r)∧(r = -1↔dk p)∧U W w' (aA W p aq cO::L):=by
 refine EN func48 ntmps48 rfl rfl λa E=>?_;refine BX 1 E I λb1 a w E I=>?_;change U W w (aa b1 45 (bP p aq cO)::_) at I;refine bj 4 E I (XM (I.pick (aA W p aq cO)) aH dY) λr a w E ⟨hr,I⟩=>?_;refine IF 1 E I (λaj a E=>?_) λaj a E=>?_
 ·
  have XT:¬ wB p:=λh=>by rw[hr.2 h]at aj;cases aj
  refine RT 2 E I ?_;exact⟨-2,rfl,⟨λh=>absurd h (by decide),λh=>absurd h.1 XT⟩,I.sub⟩
 have ma:wB p:=hr.1 (by simpa using aj);refine RN 3 E I λa E=>?_;refine aQ (λμ a w=>∃ i:Nat,(μ=p.ops.length-i∧i≤p.ops.length∧∀ j o,j<i→p.ops[j]?=some o→e7 p.ops.length o)∧Fr a 25 [(1,pt b1),(3,.int .i64 i)]∧U W w (aa b1 45 (bP p aq cO)::aA W p aq cO::L)) (p.ops.length) (⟨0,⟨by simp,by simp,λj o h=>absurd h (by omega)⟩,E.ab [1,3],I.sub⟩) ?_;clear E I;rintro μ a w ⟨i,⟨rfl,hi,cC⟩,E,I⟩;refine IF 7 E I (λao a E=>?_) λao a E=>?_
 ·
  refine RN 2 E I λa E=>?_;obtain⟨o,ho⟩:∃ o,p.ops[i]?=some o:=⟨_,aD (by omega)⟩;obtain⟨k0,oo,rfl,gI⟩:=I.drew.rQ aq (by omega);have fk:=wC gI ho;refine rE 0 (λw'=>Rd w' b1 0 (bP p (some ⟨k0,oo,none⟩) cO)∧Rd w' k0 (oo+i*4) (dQ o)) [6,7] [0,2,5,3001,3,3004,1006,1007,1008,9] E I λa E=>?_;replace I:=I.drew;generalize w.drew=w at I fk ⊢;have hC:Rd w b1 0 (bP p (some ⟨k0,oo,none⟩) cO)∧Rd w k0 (oo+i*4) (dQ o):=⟨I.ai,fk⟩;have hH:=Hd.any (λw'=>Rd w' b1 0 (bP p (some ⟨k0,oo,none⟩) cO)∧Rd w' k0 (oo+i*4) (dQ o));refine RH 3 E I hH hC λa E=>?_;refine QH E (λw hc=>ae E (hc.1 1 _ rfl)) hC λa E=>?_;refine RH 1 E I hH hC λa E=>?_;refine QH E (λw hc=>bT E underlying114 rfl Ty.t114 (hc.2)) hC λa E=>?_;refine RH 0 E I hH hC λa E=>?_;refine SS E (ae E (hC.1 1 _ rfl)) λa E=>?_;refine RH 1 E I hH hC λa E=>?_;refine bj 0 E I (XR (n:=p.ops.length) (o:=o) I) λr a w E ⟨hr,I⟩=>?_;refine RN 1 E I λa E=>?_;refine IF 0 E I (λay a E=>?_) λay a E=>?_
  ·
   have bR:¬ e7 p.ops.length o:=λh=>by rw[hr.2 h]at ay;cases ay
   refine RT 3 E I ?_;exact⟨i,rfl,⟨λh=>absurd h (by omega),λh=>absurd (h.2 o (bH ho)) bR⟩,I.sub⟩
  have dr:e7 p.ops.length o:=hr.1 (by simpa using ay);refine RN 3 E I λa E=>?_;refine⟨p.ops.length-(i+1),by omega,i+1,⟨rfl,by omega,λj o' hj kB=>?_⟩,E.ab [1,3],I.sub⟩;rcases gQ j i with h | h
  ·exact cC j o' h kB
  ·obtain rfl:j=i:=by omega
   rw[ho]at kB;cases kB;exact dr
 refine RT 2 E I ?_;refine⟨-1,rfl,⟨λ_=>⟨ma,λo ho=>?_⟩,λ_=>rfl⟩,I.sub⟩;obtain⟨j,hj⟩:=j6.1 ho;exact cC j o (by have:=(a2.1 hj).1;omega) hj
end
end
section
theorem Ba {x y:Int}(h1:-2147483648≤y)(h2:y≤2147483647)(h3:x%4294967296=y%4294967296):iq x=y:=by
 simp only[iq,IntKind.wrap,IntKind.signed,IntKind.bits];simp;split <;> omega
section
variable {W w:World}{L:List SP}{p:Pr}{aq adP:Option Addr}{cO cP:Nat}{b:List UInt8}{g:Nat→Int}{fr:Int}
theorem yJ {x:Int}(I:U W w L)(h1:-9223372036854775808≤x)(h2:x≤9223372036854775807):Calls prog 151 #[.int .i64 x] w λe w'=>e=.returned (.int .i32 (iq x))∧U W w' L:=by
 have mg:=Int.tmod_lt_of_pos x (b:=4294967296) (by decide);have iw:=Int.lt_tmod_of_pos x (b:=4294967296) (by decide);have yK:(x.tmod 4294967296)%4294967296=x%4294967296:=by
  rw[Int.tmod_eq_emod];split <;> omega
 refine EN func151 ntmps151 rfl rfl λa E=>?_;refine IF 10 E I (λaj a E=>?_) λaj a E=>?_
 ·
  refine IF 7 E I (λao a E=>?_) λao a E=>?_
  ·
   refine SX 5 E I (iu (by omega) (by omega)) λa E=>?_;refine RT 1 E I ?_;exact⟨by rw[Ba (y:=x.tmod 4294967296+4294967296-4294967296) (by omega) (by omega) (by omega)],I⟩
  refine SX 2 E I (iu (by omega) (by omega)) λa E=>?_;refine RT 1 E I ?_;exact⟨by rw[Ba (y:=x.tmod 4294967296+4294967296) (by omega) (by omega) (by omega)],I⟩
 refine IF 4 E I (λao a E=>?_) λao a E=>?_
 ·
  refine SX 5 E I (iu (by omega) (by omega)) λa E=>?_;refine RT 1 E I ?_;exact⟨by rw[Ba (y:=x.tmod 4294967296-4294967296) (by omega) (by omega) (by omega)],I⟩
 refine SX 2 E I (iu (by omega) (by omega)) λa E=>?_;refine RT 1 E I ?_;exact⟨by rw[Ba (y:=x.tmod 4294967296) (by omega) (by omega) (by omega)],I⟩
theorem KJ {x:Int}(I:U W w L)(hx:ds x):Calls prog 150 #[.int .i32 x,.int .i64 32] w λe w'=>e=.returned (.int .i64 (kN x))∧U W w' L:=by
 have h1:=Int.tmod_lt_of_pos x (b:=32) (by decide);have h2:=Int.lt_tmod_of_pos x (b:=32) (by decide);have hm:(kN x:Int)=x%32:=by
  have h1:=Int.emod_nonneg x (show (32:Int)≠0 by decide);show (((x%32).toNat:Nat):Int)=_;omega
 have ht:x.tmod 32=if 0≤x then x%32 else -((-x)%32):=by
  split
  ·exact Int.tmod_eq_emod_of_nonneg (by omega)
  ·rw[← Int.neg_neg (x.tmod 32),← Int.neg_tmod,Int.tmod_eq_emod_of_nonneg (by omega)]
 simp only[ds]at hx;refine EN func150 ntmps150 rfl rfl λa E=>?_;refine RN 6 E I λa E=>?_;replace E:=E.aM 7;refine SX 3 E I (fH (by omega) (by omega)) λa E=>?_;refine IF 7 E I (λao a E=>?_) λao a E=>?_
 ·
  refine RN 4 E I λa E=>?_;rw[show x.tmod 32+32=(kN x:Int) from by rw[hm,ht];split <;> omega]at E;refine RT 3 E I ?_;exact⟨rfl,I⟩
 refine RT 3 E I ?_;exact⟨by rw[hm,show x.tmod 32=x%32 from by rw[ht] at *;split at*<;> omega],I⟩
theorem XU {x:Int}(I:U W w L)(hx:ds x)(hb:b.length≤1099511627776)(hp:∀ w',U W w' L→aW w' adP b.length b) :
   Calls prog 149 #[.slice adP b.length cP,.int .i32 x] w λe w'=>e=.returned (.int .i32 (mL b x))∧U W w' L:=by
 simp only[ds]at hx;refine EN func149 ntmps149 rfl rfl λa E=>?_;refine BY 7 E I (λbA a E=>?_) λbA a E=>?_
 ·
  refine RT 9 E I ?_;exact⟨by rw[mL,ag (by omega)],I⟩
 refine SX 1 E I (by rw[fH (by omega) (by omega)]) λa E=>?_;refine IF 4 E I (λaj a E=>?_) λaj a E=>?_
 ·
  refine RT 2 E I ?_;exact⟨by rw[mL,ag (by omega)],I⟩
 refine RN 1 E I λa E=>?_;obtain⟨k,hk⟩:∃ k:Nat,x=(k:Int):=⟨x.toNat,by omega⟩;obtain⟨_,_,a6⟩:=hp _ I;have yA:k<b.length:=by omega
 obtain⟨bp,op,g7,c7⟩:∃ bp op,adP=some ⟨bp,op,none⟩∧Rd w bp op (bc b):=by
  cases hh:adP with
  | none =>
   have:=(hp _ I).2.1 hh;omega
  | some a =>
   obtain⟨b1,o1,rfl,h1⟩:=a6 a hh (by omega);exact⟨b1,o1,rfl,h1⟩
 rw[hk]at E;refine RN 1 E I λa E=>?_;rw[g7]at E;refine RN 2 E I λa E=>?_;refine SS E (ae E (c7 k (.int .u8 b[k].toNat) (by simp[bc,yA]))) λa E=>?_;refine SX 0 E I (by have:=b[k].toNat_lt;exact iu (by omega) (by omega)) λa E=>?_;refine RT 1 E I ?_;refine⟨?_,I⟩;rw[mL,ak (by omega),hk,c6,bl,aD yA];rfl
theorem XV {x y:Int}(I:U W w L)(hx:ds x)(hy:ds y):Calls prog 188 #[.int .i32 x,.int .i32 y] w λe w'=>e=.returned (.int .i32 (if y=0 then 0 else iq (x.tdiv y)))∧U W w' L:=by
 simp only[ds]at hx hy;have hq:y≠0 → -9223372036854775808≤x.tdiv y∧x.tdiv y≤9223372036854775807:=λh=>by
  have h1:(x.tdiv y).natAbs≤x.natAbs:=by rw[Int.natAbs_tdiv];exact Nat.div_le_self _ _
  omega
 refine EN func188 ntmps188 rfl rfl λa E=>?_;refine IF 6 E I (λaj a E=>?_) λaj a E=>?_
 ·
  refine RT 2 E I ?_;exact⟨by rw[ak aj],I⟩
 refine SX 2 E I (fH (by omega) (by omega)) λa E=>?_;refine SX 1 E I (fH (by omega) (by omega)) λa E=>?_;refine RN 0 E I λa E=>?_;refine SS E (IY E (by omega)) λa E=>?_;rw[fH (hq aj).1 (hq aj).2]at E;refine CL 0 E I (yJ I (hq aj).1 (hq aj).2) λa w E I=>?_;refine RT 1 E I ?_;exact⟨by rw[ag aj],I⟩
theorem XW {k x y:Int}(I:U W w L)(hx:ds x)(hy:ds y):Calls prog 152 #[.int .i64 k,.int .i32 x,.int .i32 y] w λe w'=>e=.returned (.int .i32 (jh k x y))∧U W w' L:=by
 have dj:=hx;have jg:=hy;simp only[ds]at dj jg;have hmul:-9223372036854775808≤x*y∧x*y≤9223372036854775807:=by
  have h1:(x*y).natAbs≤2147483648*2147483648:=by rw[Int.natAbs_mul];exact Nat.mul_le_mul (by omega) (by omega)
  omega
 refine EN func152 ntmps152 rfl rfl λa E=>?_;refine IF 10 E I (λaj a E=>?_) λaj a E=>?_
 ·
  refine SX 2 E I (fH (by omega) (by omega)) λa E=>?_;refine SX 1 E I (fH (by omega) (by omega)) λa E=>?_;refine CL 1 E I (yJ I (by omega) (by omega)) λa w E I=>?_;refine RT 1 E I ?_;exact⟨by simp[jh,aj],I⟩
 refine IF 3 E I (λao a E=>?_) λao a E=>?_
 ·
  refine SX 2 E I (fH (by omega) (by omega)) λa E=>?_;refine SX 1 E I (fH (by omega) (by omega)) λa E=>?_;refine CL 1 E I (yJ I (by omega) (by omega)) λa w E I=>?_;refine RT 1 E I ?_;exact⟨by simp[jh,ao],I⟩
 refine IF 3 E I (λay a E=>?_) λay a E=>?_
 ·
  refine SX 2 E I (fH (by omega) (by omega)) λa E=>?_;refine SX 1 E I (fH (by omega) (by omega)) λa E=>?_;refine SX 0 E I ⟨(by first | exact hmul.1 | exact hmul.2),(by first | exact hmul.1 | exact hmul.2)⟩ λa E=>?_;refine CL 0 E I (yJ I hmul.1 hmul.2) λa w E I=>?_;refine RT 1 E I ?_;exact⟨by simp[jh,ay],I⟩
 refine IF 3 E I (λbd a E=>?_) λbd a E=>?_
 ·
  refine CL 3 E I (XV I hx hy) λa w E I=>?_;refine RT 1 E I ?_;exact⟨by simp[jh,bd],I⟩
 refine IF 3 E I (λbF a E=>?_) λbF a E=>?_
 ·
  refine IF 7 E I (λeU a E=>?_) λeU a E=>?_
  ·
   refine RT 2 E I ?_;exact⟨by simp[jh,bF,eU],I⟩
  refine RT 2 E I ?_;exact⟨by simp[jh,bF];omega,I⟩
 refine IF 7 E I (λeU a E=>?_) λeU a E=>?_
 ·
  refine RT 2 E I ?_;exact⟨by simp[jh,aj,ao,ay,bd,bF,eU],I⟩
 refine RT 2 E I ?_;exact⟨by simp[jh,aj,ao,ay,bd,bF];omega,I⟩
theorem ints_at {w:World}{mR j:Nat}{g:Nat→Int}(h:Rd w mR 0 (ints .i32 32 g))(hj:j<32):w.cell? ⟨mR,j,none⟩=some (.int .i32 (g j)):=by
 have:=h j _ (fT g hj)
 rwa [eE]at this
theorem EV (I:U W w (aA W p aq cO::L))(a6:dk p)(aH:p.title.size≤1000000000)(hg:dR g)(hb:b.length≤1099511627776)(hf:-4611686018427387904≤fr∧fr≤4611686018427387904)(hp:∀ w',U W w' L→aW w' adP b.length b) :
   Calls prog 104 #[.agg (bP p aq cO).toArray,.agg (ints .i32 32 g).toArray,.int .i64 fr,.slice adP b.length cP] w λe w'=>∃ n:Int,e=.returned (.tuple #[.agg (ints .i32 32 (e8 p fr b g)).toArray,.int .i64 n])∧dR (e8 p fr b g)∧U W w' (aA W p aq cO::L):=by
 have dY:p.ops.length≤64:=a6.1.2.2.1;refine EN func104 ntmps104 rfl rfl λa E=>?_;refine BX 1 E I λb4 a w E I=>?_;change U W w (aa b4 45 (bP p aq cO)::_) at I;refine BX 0 E I λb5 a w E I=>?_;change U W w (aa b5 49 (ints .i32 32 g)::_) at I;refine AL 0 E I λb8 a w E I=>?_;change U W w (aa b8 49 (ints .i32 32 (λ_=>0))::_) at I;refine bj 4 E I (XS (I.pick (aA W p aq cO)) aH (by omega)) λr a w E ⟨hr,I⟩=>?_;obtain rfl:r = -1:=hr.2 a6;refine RN 1 E I λa E=>?_;rw[show decide ((-1:Int) ≠ -1)=false from rfl]at E;replace E:=E.aM 18;refine aY 7 E I (KG I aH) λadT cT a w E I=>?_;refine RN 6 E I λa E=>?_;refine aQ (λμ a w=>∃ (n aT:Nat) (g':Nat→Int),(μ=200-n∧n≤200∧aT≤p.ops.length∧dR g'∧qL p fr b (200-n) g' aT=e8 p fr b g)∧Fr a 166 [(2,.int .i64 fr),(3,.slice adP b.length cP),(4,pt b4),(5,pt b5),(8,pt b8),(10,.int .i64 aT),(11,.int .i64 n),(12,.slice adT (ee p.title 0).length cT)]∧U W w (aa b5 49 (ints .i32 32 g')::aa b4 45 (bP p aq cO)::aa b8 49 (ints .i32 32 (λ_=>0))::Sl 21 1 adT (ee p.title 0).length cT (RI (ee p.title 0))::aA W p aq cO::L)) (200) (⟨0,0,g,⟨by simp,by simp,by simp,hg,rfl⟩,E.ab [2,3,4,5,8,10,11,12],I.sub⟩) ?_;clear E I;rintro μ a w ⟨n,aT,g',⟨rfl,hn,e9,eI,uX⟩,E,I⟩;refine BY 5 E I (λbA a E=>?_) λbA a E=>?_
 ·
  refine IF 6 E I (λao a E=>?_) λao a E=>?_
  ·
   obtain⟨o,ho⟩:∃ o,p.ops[aT]?=some o:=⟨_,aD (by omega)⟩;obtain⟨k0,oo,rfl,gI⟩:=I.rQ aq (by omega);have aR:=EH (p:=p) (fr:=fr) (b:=b) (g:=g') (n:=200-(n+1)) ho;rw[show 200-(n+1)+1=200-n from by omega,uX]at aR;have dr:=a6.2 o (bH ho);have qR:=dr;simp only[e7,e6]at qR;have EF:o.code=9→qQ o.a p.ops.length:=λh=>qQ.of (by omega);have ke:o.code≠9→o.code≠0→mc o.a 32:=λh h2=>mc.of (by omega);have EG:o.code=10→qQ o.b p.ops.length:=λh=>qQ.of (by omega);have oW:o.code≠1→o.code≠15→o.code≠9→o.code≠10→o.code≠0→mc o.b 32:=λ_ _ _ _ _=>mc.of (by omega);have rT:o.code≠0→o.code≠1→o.code≠2→o.code≠9→o.code≠10→o.code≠11→o.code≠12→o.code≠13→o.code≠14→o.code≠15→mc o.c 32:=λ_ _ _ _ _ _ _ _ _ _=>mc.of (by omega);clear qR;refine RN 5 E I λa E=>?_;refine SS E (bT E underlying114 rfl Ty.t114 (wC gI ho)) λa E=>?_;refine AL 0 E I λeL a w E I=>?_;refine SA 0 E I λa w E I=>?_;refine IF 14 E I (λay a E=>?_) λay a E=>?_
   ·
    refine SA 3 E I λa w E I=>?_;refine RT 1 E I ?_;rw[show en p fr b g' aT o=(g',aT+1,false) from by rw[en,ak ay]]at aR;refine⟨_,by rw[aR];rfl,?_,I.sub⟩;rw[aR];exact eI
   refine IF 3 E I (λbd a E=>?_) λbd a E=>?_
   ·
    obtain⟨cD,dM,kf⟩:=ke (by omega) (by omega);refine RN 2 E I λa E=>?_;rw[dM]at E;refine RN 2 E I λa E=>?_;refine SS E (gn E underlying3 underlying21) λa E=>?_;refine ST 1 E I (λa w E I=>?_) (hlt:=(by rw[dg];omega));rw[ints_set,show (λi=>if i=cD then IntKind.i32.wrap o.b else g' i)=cm g' (cD) (iq o.b) from rfl]at I;refine RN 0 E I λa E=>?_;have fS:en p fr b g' aT o=(cm g' (cD) (iq o.b),aT+1,true):=by
     rw[en,ag (by omega),ag (by omega),ag (by omega),ag (by omega),dM,c6,jP,ak bd]
    rw[fS]at aR;exact⟨200-(n+1),by omega,n+1,aT+1,cm g' (cD) (iq o.b),⟨rfl,by omega,by omega,n2 eI (yn _),aR.symm⟩,E.ab [2,3,4,5,8,10,11,12],I.sub⟩
   refine IF 3 E I (λbF a E=>?_) λbF a E=>?_
   ·
    refine RN 0 E I λa E=>?_;obtain⟨cD,dM,kf⟩:=ke (by omega) (by omega);obtain⟨bB,dZ,iN⟩:=oW (by omega) (by omega) (by omega) (by omega) (by omega);refine aX 0 (λw0 w'=>Rd w' eL 0 (dQ o)∧Rd w' b5 0 (ints .i32 32 g')) [3,4,5] [0,2,3001,1003,1004,1005,6,1007] E I λa w E I hH=>?_;have hC:=hH.at w ⟨I.ai,I.ai⟩;refine RH 2 E I hH hC λa E=>?_;refine QH E (λw hc=>ae E (hc.1 1 _ rfl)) hC λa E=>?_;rw[dM]at E;refine RH 0 E I hH hC λa E=>?_;refine SS E (ae E (hC.1 2 _ rfl)) λa E=>?_;rw[dZ]at E;refine RH 1 E I hH hC λa E=>?_;refine SS E (ae E (ints_at hC.2 iN)) λa E=>?_;refine RH 1 E I hH hC λa E=>?_;refine ST 0 E I (λa w E I=>?_) (hlt:=(by rw[dg];omega));rw[ints_set,show (λi=>if i=cD then g' bB else g' i)=cm g' (cD) (g' bB) from rfl]at I;refine RN 0 E I λa E=>?_;have fS:en p fr b g' aT o=(cm g' (cD) (g' bB),aT+1,true):=by
     rw[en,ag (by omega),ag (by omega),ag (by omega),ag (by omega),dM,c6,jP,ag (by omega),ak bF,dZ,c6]
    rw[fS]at aR;exact⟨200-(n+1),by omega,n+1,aT+1,cm g' (cD) (g' bB),⟨rfl,by omega,by omega,n2 eI (eI _ iN),aR.symm⟩,E.ab [2,3,4,5,8,10,11,12],I.sub⟩
   refine IF 3 E I (λeU a E=>?_) λeU a E=>?_
   ·
    obtain⟨cD,dM,kf⟩:=EF eU;refine RN 2 E I λa E=>?_;rw[dM]at E;refine RN 1 E I λa E=>?_;have fS:en p fr b g' aT o=(g',cD,true):=by
     rw[en,ag (by omega),ak eU,dM,c6]
    rw[fS]at aR;exact⟨200-(n+1),by omega,n+1,cD,g',⟨rfl,by omega,by omega,eI,aR.symm⟩,E.ab [2,3,4,5,8,10,11,12],I.sub⟩
   refine IF 3 E I (λnn a E=>?_) λnn a E=>?_
   ·
    refine RN 1 E I λa E=>?_;obtain⟨cD,dM,kf⟩:=ke (by omega) (by omega);refine RN 2 E I λa E=>?_;rw[dM]at E;refine RN 1 E I λa E=>?_;refine SS E (ae E ((ints_at I.ai kf))) λa E=>?_;refine IF 1 E I (λmO a E=>?_) λmO a E=>?_
    ·
     obtain⟨bB,dZ,iN⟩:=EG nn;refine RN 2 E I λa E=>?_;rw[dZ]at E;refine RN 1 E I λa E=>?_;have fS:en p fr b g' aT o=(g',bB,true):=by
      rw[en,ag (by omega),ag (by omega),ak nn,dM,c6,ak mO,dZ,c6]
     rw[fS]at aR;exact⟨200-(n+1),by omega,n+1,bB,g',⟨rfl,by omega,by omega,eI,aR.symm⟩,E.ab [2,3,4,5,8,10,11,12],I.sub⟩
    refine RN 0 E I λa E=>?_;have fS:en p fr b g' aT o=(g',aT+1,true):=by
     rw[en,ag (by omega),ag (by omega),ak nn,dM,c6,ag mO]
    rw[fS]at aR;exact⟨200-(n+1),by omega,n+1,aT+1,g',⟨rfl,by omega,by omega,eI,aR.symm⟩,E.ab [2,3,4,5,8,10,11,12],I.sub⟩
   refine IF 3 E I (λmP a E=>?_) λmP a E=>?_
   ·
    refine RN 0 E I λa E=>?_;obtain⟨cD,dM,kf⟩:=ke (by omega) (by omega);obtain⟨bB,dZ,iN⟩:=oW (by omega) (by omega) (by omega) (by omega) (by omega);refine aX 0 (λw0 w'=>Rd w' eL 0 (dQ o)∧Rd w' b5 0 (ints .i32 32 g')) [4,5,6,7] [0,2,3,3001,1004,1005,1006,1007,8,1009] E I λa w E I hH=>?_;have hC:=hH.at w ⟨I.ai,I.ai⟩;refine RH 3 E I hH hC λa E=>?_;refine QH E (λw hc=>ae E (hc.1 1 _ rfl)) hC λa E=>?_;rw[dM]at E;refine RH 0 E I hH hC λa E=>?_;refine SS E (ae E (hC.1 2 _ rfl)) λa E=>?_;rw[dZ]at E;refine RH 1 E I hH hC λa E=>?_;refine SS E (ae E (ints_at hC.2 iN)) λa E=>?_;refine RH 0 E I hH hC λa E=>?_;refine CL 0 E I (XU I (eI _ iN) hb (λw' h=>hp w' h.sub)) λa w E I=>?_;replace hC:=hH.at w ⟨I.ai,I.ai⟩;refine RH 1 E I hH hC λa E=>?_;refine ST 0 E I (λa w E I=>?_) (hlt:=(by rw[dg];omega));rw[ints_set,show (λi=>if i=cD then mL b (g' bB) else g' i)=cm g' (cD) (mL b (g' bB)) from rfl]at I;refine RN 0 E I λa E=>?_;have fS:en p fr b g' aT o=(cm g' (cD) (mL b (g' bB)),aT+1,true):=by
     rw[en,ag (by omega),ag (by omega),ag (by omega),ag (by omega),dM,c6,jP,ag (by omega),ag (by omega),ak mP,dZ,c6]
    rw[fS]at aR;exact⟨200-(n+1),by omega,n+1,aT+1,cm g' (cD) (mL b (g' bB)),⟨rfl,by omega,by omega,n2 eI (Kq _ _),aR.symm⟩,E.ab [2,3,4,5,8,10,11,12],I.sub⟩
   refine IF 3 E I (λkc a E=>?_) λkc a E=>?_
   ·
    refine RN 0 E I λa E=>?_;obtain⟨cD,dM,kf⟩:=ke (by omega) (by omega);obtain⟨bB,dZ,iN⟩:=oW (by omega) (by omega) (by omega) (by omega) (by omega);have yB:=ym (g' bB);refine aX 0 (λw0 w'=>Rd w' eL 0 (dQ o)∧Rd w' b5 0 (ints .i32 32 g')) [3,4,5,6,7,8] [0,2,3001,1003,1004,1005,1006,1007,1008,9,1010] E I λa w E I hH=>?_;have hC:=hH.at w ⟨I.ai,I.ai⟩;refine RH 2 E I hH hC λa E=>?_;refine QH E (λw hc=>ae E (hc.1 1 _ rfl)) hC λa E=>?_;rw[dM]at E;refine RH 0 E I hH hC λa E=>?_;refine SS E (ae E (hC.1 2 _ rfl)) λa E=>?_;rw[dZ]at E;refine RH 1 E I hH hC λa E=>?_;refine SS E (ae E (ints_at hC.2 iN)) λa E=>?_;refine RH 0 E I hH hC λa E=>?_;refine CL 0 E I (KJ I (eI _ iN)) λa w E I=>?_;replace hC:=hH.at w ⟨I.ai,I.ai⟩;refine RH 1 E I hH hC λa E=>?_;refine SS E (ae E (ints_at hC.2 yB)) λa E=>?_;refine RH 1 E I hH hC λa E=>?_;refine ST 0 E I (λa w E I=>?_) (hlt:=(by rw[dg];omega));rw[ints_set,show (λi=>if i=cD then g' (kN (g' bB)) else g' i)=cm g' (cD) (g' (kN (g' bB))) from rfl]at I;refine RN 0 E I λa E=>?_;have fS:en p fr b g' aT o=(cm g' (cD) (g' (kN (g' bB))),aT+1,true):=by
     rw[en,ag (by omega),ag (by omega),ag (by omega),ag (by omega),dM,c6,jP,ag (by omega),ag (by omega),ag (by omega),ak kc,dZ,c6]
    rw[fS]at aR;exact⟨200-(n+1),by omega,n+1,aT+1,cm g' (cD) (g' (kN (g' bB))),⟨rfl,by omega,by omega,n2 eI (eI _ yB),aR.symm⟩,E.ab [2,3,4,5,8,10,11,12],I.sub⟩
   refine IF 3 E I (λwI a E=>?_) λwI a E=>?_
   ·
    refine RN 0 E I λa E=>?_;obtain⟨cD,dM,kf⟩:=ke (by omega) (by omega);obtain⟨bB,dZ,iN⟩:=oW (by omega) (by omega) (by omega) (by omega) (by omega);have yB:=ym (g' cD);refine aX 0 (λw0 w'=>Rd w' eL 0 (dQ o)∧Rd w' b5 0 (ints .i32 32 g')) [4,6,7,8] [0,5,3001,2,3003,3006,3007,3008,1004,9,1010] E I λa w E I hH=>?_;have hC:=hH.at w ⟨I.ai,I.ai⟩;refine RH 2 E I hH hC λa E=>?_;refine QH E (λw hc=>ae E (hc.1 1 _ rfl)) hC λa E=>?_;rw[dM]at E;refine RH 1 E I hH hC λa E=>?_;refine QH E (λw hc=>ae E (ints_at hc.2 kf)) hC λa E=>?_;refine QH E (λw hc=>ae E (hc.1 2 _ rfl)) hC λa E=>?_;rw[dZ]at E;refine RH 1 E I hH hC λa E=>?_;refine QH E (λw hc=>ae E (ints_at hc.2 iN)) hC λa E=>?_;refine RH 0 E I hH hC λa E=>?_;refine CL 0 E I (KJ I (eI _ kf)) λa w E I=>?_;replace hC:=hH.at w ⟨I.ai,I.ai⟩;refine RH 1 E I hH hC λa E=>?_;refine ST 0 E I (λa w E I=>?_) (hlt:=(by rw[dg];omega));rw[ints_set,show (λi=>if i=kN (g' cD) then g' bB else g' i)=cm g' (kN (g' cD)) (g' bB) from rfl]at I;refine RN 0 E I λa E=>?_;have fS:en p fr b g' aT o=(cm g' (kN (g' cD)) (g' bB),aT+1,true):=by
     rw[en,ag (by omega),ag (by omega),ag (by omega),ak wI,dM,c6,dZ,c6]
    rw[fS]at aR;exact⟨200-(n+1),by omega,n+1,aT+1,cm g' (kN (g' cD)) (g' bB),⟨rfl,by omega,by omega,n2 eI (eI _ iN),aR.symm⟩,E.ab [2,3,4,5,8,10,11,12],I.sub⟩
   refine IF 3 E I (λtl a E=>?_) λtl a E=>?_
   ·
    refine RN 1 E I λa E=>?_;obtain⟨cD,dM,kf⟩:=ke (by omega) (by omega);obtain⟨bB,dZ,iN⟩:=oW (by omega) (by omega) (by omega) (by omega) (by omega);have oY:=eI _ iN;have EJ:=oY;simp only[ds]at EJ;refine RN 5 E I λa E=>?_;rw[dZ]at E;refine RN 1 E I λa E=>?_;refine SS E (ae E ((ints_at I.ai iN))) λa E=>?_;refine BY 2 E I (λji a E=>?_) λji a E=>?_
    ·
     refine RN 2 E I λa E=>?_;rw[dZ]at E;refine RN 1 E I λa E=>?_;refine bm E (bQ E rfl (s:=136)) (ae E ((ints_at I.ai iN))) rfl λa E=>?_;refine SX 0 E I (fH (by omega) (by omega)) λa E=>?_;refine IF 4 E I (λyx a E=>?_) λyx a E=>?_
     ·
      obtain⟨rn,nr⟩:∃ rn:Nat,g' bB=rn:=⟨(g' bB).toNat,by omega⟩;obtain⟨afJ,afK,rfl,EW⟩:=I.bU adT (by omega);obtain⟨EX,wo⟩:∃ EX,(ee p.title 0)[rn]?=some EX:=⟨_,aD (by omega)⟩;refine RN 3 E I λa E=>?_;rw[dZ]at E;refine RN 1 E I λa E=>?_;refine SS E (ae E ((ints_at I.ai iN))) λa E=>?_;rw[nr]at E;refine RN 1 E I λa E=>?_;refine SS E (ae E ((EW rn _ (KH wo)))) λa E=>?_;refine RN 1 E I λa E=>?_;have pZ:ng p.title (g' bB)=EX.1:=by rw[ng,ak (by omega),nr,c6,wo];rfl
      rw[← pZ]at E;refine RN 2 E I λa E=>?_;rw[dM]at E;refine ST 2 E I (λa w E I=>?_) (hlt:=(by rw[dg];omega));rw[ints_set,show (λi=>if i=cD then ng p.title (g' bB) else g' i)=cm g' cD (ng p.title (g' bB)) from rfl]at I;refine RN 0 E I λa E=>?_;have fS:en p fr b g' aT o=(cm g' cD (ng p.title (g' bB)),aT+1,true):=by
       rw[en,ag (by omega),ag (by omega),ag (by omega),ag (by omega),dM,c6,jP,ag (by omega),ag (by omega),ag (by omega),ag (by omega),ak tl,dZ,c6]
      rw[fS]at aR;exact⟨200-(n+1),by omega,n+1,aT+1,cm g' cD (ng p.title (g' bB)),⟨rfl,by omega,by omega,n2 eI (Ko _ _),aR.symm⟩,E.ab [2,3,4,5,8,10,11,12],I.sub⟩
     refine RN 0 E I λa E=>?_;have afL:True:=trivial;refine RN 2 E I λa E=>?_;rw[dM]at E;refine ST 2 E I (λa w E I=>?_) (hlt:=(by rw[dg];omega));rw[ints_set,show (λi=>if i=cD then 0 else g' i)=cm g' cD 0 from rfl]at I;refine RN 0 E I λa E=>?_;have fS:en p fr b g' aT o=(cm g' cD 0,aT+1,true):=by
      rw[en,ag (by omega),ag (by omega),ag (by omega),ag (by omega),dM,c6,jP,ag (by omega),ag (by omega),ag (by omega),ag (by omega),ak tl,dZ,c6,ng,ak (by omega),js (by omega)];rfl
     rw[fS]at aR;exact⟨200-(n+1),by omega,n+1,aT+1,cm g' cD 0,⟨rfl,by omega,by omega,n2 eI (by simp[ds]),aR.symm⟩,E.ab [2,3,4,5,8,10,11,12],I.sub⟩
    refine RN 12 E I λa E=>?_;rw[dM]at E;refine ST 2 E I (λa w E I=>?_) (hlt:=(by rw[dg];omega));rw[ints_set,show (λi=>if i=cD then 0 else g' i)=cm g' cD 0 from rfl]at I;refine RN 0 E I λa E=>?_;have fS:en p fr b g' aT o=(cm g' cD 0,aT+1,true):=by
     rw[en,ag (by omega),ag (by omega),ag (by omega),ag (by omega),dM,c6,jP,ag (by omega),ag (by omega),ag (by omega),ag (by omega),ak tl,dZ,c6,ng,ag (by omega)]
    rw[fS]at aR;exact⟨200-(n+1),by omega,n+1,aT+1,cm g' cD 0,⟨rfl,by omega,by omega,n2 eI (by simp[ds]),aR.symm⟩,E.ab [2,3,4,5,8,10,11,12],I.sub⟩
   refine IF 3 E I (λwJ a E=>?_) λwJ a E=>?_
   ·
    refine RN 0 E I λa E=>?_;obtain⟨cD,dM,kf⟩:=ke (by omega) (by omega);refine aX 0 (λw0 w'=>Rd w' eL 0 (dQ o)∧Rd w' b5 0 (ints .i32 32 g')) [3] [0,2,3001,1003,4,1005] E I λa w E I hH=>?_;have hC:=hH.at w ⟨I.ai,I.ai⟩;refine RH 2 E I hH hC λa E=>?_;refine QH E (λw hc=>ae E (hc.1 1 _ rfl)) hC λa E=>?_;rw[dM]at E;refine RH 0 E I hH hC λa E=>?_;refine CL 0 E I (yJ I (by omega) (by omega)) λa w E I=>?_;replace hC:=hH.at w ⟨I.ai,I.ai⟩;refine RH 1 E I hH hC λa E=>?_;refine ST 0 E I (λa w E I=>?_) (hlt:=(by rw[dg];omega));rw[ints_set,show (λi=>if i=cD then iq fr else g' i)=cm g' (cD) (iq fr) from rfl]at I;refine RN 0 E I λa E=>?_;have fS:en p fr b g' aT o=(cm g' (cD) (iq fr),aT+1,true):=by
     rw[en,ag (by omega),ag (by omega),ag (by omega),ag (by omega),dM,c6,jP,ag (by omega),ag (by omega),ag (by omega),ag (by omega),ag (by omega),ak wJ]
    rw[fS]at aR;exact⟨200-(n+1),by omega,n+1,aT+1,cm g' (cD) (iq fr),⟨rfl,by omega,by omega,n2 eI (yn _),aR.symm⟩,E.ab [2,3,4,5,8,10,11,12],I.sub⟩
   refine RN 0 E I λa E=>?_;obtain⟨cD,dM,kf⟩:=ke (by omega) (by omega);obtain⟨bB,dZ,iN⟩:=oW (by omega) (by omega) (by omega) (by omega) (by omega);obtain⟨uB,pV,KK⟩:=rT (by omega) (by omega) (by omega) (by omega) (by omega) (by omega) (by omega) (by omega) (by omega) (by omega);refine aX 0 (λw0 w'=>Rd w' eL 0 (dQ o)∧Rd w' b5 0 (ints .i32 32 g')) [3,5,6,7,9,10,11,12] [0,2,4,8,3001,3003,3005,3006,3007,1009,1010,1011,1012,13,1014] E I λa w E I hH=>?_;have hC:=hH.at w ⟨I.ai,I.ai⟩;refine RH 4 E I hH hC λa E=>?_;refine QH E (λw hc=>ae E (hc.1 1 _ rfl)) hC λa E=>?_;rw[dM]at E;refine RH 0 E I hH hC λa E=>?_;refine QH E (λw hc=>ae E (hc.1 0 _ rfl)) hC λa E=>?_;refine QH E (λw hc=>ae E (hc.1 2 _ rfl)) hC λa E=>?_;rw[dZ]at E;refine RH 1 E I hH hC λa E=>?_;refine QH E (λw hc=>ae E (ints_at hc.2 iN)) hC λa E=>?_;refine RH 0 E I hH hC λa E=>?_;refine SS E (ae E (hC.1 3 _ rfl)) λa E=>?_;rw[pV]at E;refine RH 1 E I hH hC λa E=>?_;refine SS E (ae E (ints_at hC.2 KK)) λa E=>?_;refine RH 0 E I hH hC λa E=>?_;refine CL 0 E I (XW I (eI _ iN) (eI _ KK)) λa w E I=>?_;replace hC:=hH.at w ⟨I.ai,I.ai⟩;refine RH 1 E I hH hC λa E=>?_;refine ST 0 E I (λa w E I=>?_) (hlt:=(by rw[dg];omega));rw[ints_set,show (λi=>if i=cD then jh o.code (g' bB) (g' uB) else g' i)=cm g' (cD) (jh o.code (g' bB) (g' uB)) from rfl]at I;refine RN 0 E I λa E=>?_;have fS:en p fr b g' aT o=(cm g' (cD) (jh o.code (g' bB) (g' uB)),aT+1,true):=by
    rw[en,ag (by omega),ag (by omega),ag (by omega),ag (by omega),dM,c6,jP,ag (by omega),ag (by omega),ag (by omega),ag (by omega),ag (by omega),ag (by omega),dZ,c6,pV,c6]
   rw[fS]at aR;exact⟨200-(n+1),by omega,n+1,aT+1,cm g' (cD) (jh o.code (g' bB) (g' uB)),⟨rfl,by omega,by omega,n2 eI (Kp _ _ _),aR.symm⟩,E.ab [2,3,4,5,8,10,11,12],I.sub⟩
  refine SA 3 E I λa w E I=>?_;refine RT 1 E I ?_;rw[EI (by omega)]at uX;exact⟨_,by rw[← uX],by rw[← uX];exact eI,I.sub⟩
 refine SA 10 E I λa w E I=>?_;refine RT 1 E I ?_;rw[show 200-n=0 from by omega]at uX;exact⟨_,by rw[← uX];rfl,by rw[← uX];exact eI,I.sub⟩
theorem XX {P:List (List UInt8)}{zs:List ec}(I:U W w (aA W p aq cO::L))(a6:dk p)(aH:p.title.size≤1000000000)(hg:dR g)(hP:P.length≤65536∧∀ b∈P,b.length≤1099511627776)(hz:zs.map (·.2.2)=P)(hf:-1099511627776≤fr∧fr≤1099511627776)(hp:∀ w',U W w' L→iK w' adP zs) :
   Calls prog 116 #[.agg (bP p aq cO).toArray,.agg (ints .i32 32 g).toArray,.int .i64 fr,.slice adP P.length cP] w λe w'=>e=.returned (.agg (ints .i32 32 (foldI p fr g P)).toArray)∧dR (foldI p fr g P)∧U W w' (aA W p aq cO::L):=by
 have iI:zs.length=P.length:=by rw[← hz,a8]
 have tv:=hP.1;refine EN func116 ntmps116 rfl rfl λa E=>?_;refine BX 1 E I λb4 a w E I=>?_;change U W w (aa b4 45 (bP p aq cO)::_) at I;refine BX 0 E I λb5 a w E I=>?_;change U W w (aa b5 49 (ints .i32 32 g)::_) at I;refine AL 0 E I λb8 a w E I=>?_;change U W w (aa b8 49 (ints .i32 32 (λ_=>0))::_) at I;refine RN 3 E I λa E=>?_;refine aQ (λμ a w=>∃ (i:Nat) (g':Nat→Int),(μ=P.length-i∧i≤P.length∧dR g'∧foldI p fr g P=foldI p (fr+i) g' (P.drop i))∧Fr a 33 [(2,.int .i64 fr),(3,.slice adP P.length cP),(4,pt b4),(5,pt b5),(8,pt b8),(9,.int .i64 i)]∧U W w (aa b5 49 (ints .i32 32 g')::aa b4 45 (bP p aq cO)::aa b8 49 (ints .i32 32 (λ_=>0))::aA W p aq cO::L)) (P.length) (⟨0,g,⟨by simp,by simp,hg,by simp⟩,E.ab [2,3,4,5,8,9],I.sub⟩) ?_;clear E I;rintro μ a w ⟨i,g',⟨rfl,hi,eI,ma⟩,E,I⟩;refine IF 6 E I (λaj a E=>?_) λaj a E=>?_
 ·
  have kP:zs[i]?=some (zs[i]'(by omega)):=aD (by omega);obtain⟨z,mh⟩:∃ z,zs[i]'(by omega)=z:=⟨_,rfl⟩;rw[mh]at kP;have Bb:P[i]?=some z.2.2:=by rw[← hz,bn,kP];rfl
  have fK:=hp _ (I.sub (M:=L));obtain⟨bp,op,g7,c7⟩:=fK.1 (by omega);have cp:∀ w',U W w' L→w'.cell? ⟨bp,op+i,none⟩=some (aL z):=λw' h=>by
   obtain⟨b',o',h1,h2⟩:=(hp w' h).1 (by omega);rw[g7]at h1;cases h1;exact h2 i _ (by rw[bn,kP];rfl)
  clear c7 fK;have KL:∀ w',U W w' L→aW w' z.1 z.2.2.length z.2.2:=λw' h=>(hp w' h).2 z (bH kP);have EY:foldI p fr g P=foldI p (fr+(i+1:Nat)) (e8 p (fr+i) z.2.2 g') (P.drop (i+1)):=by
   rw[ma,kF (by omega),foldI];have:P[i]'(by omega)=z.2.2:=by rw[aD (by omega)]at Bb;exact p0 Bb
   rw[this]
   congr 1
   omega
  refine RN 1 E I λa E=>?_;refine cd (M:=λa w=>∃ kJ:Nat,dR (e8 p (fr+i) z.2.2 g')∧Fr a 33 [(2,.int .i64 fr),(3,.slice adP P.length cP),(4,pt b4),(5,pt b5),(8,pt b8),(9,.int .i64 i),(10,pt kJ)]∧U W w (aa kJ 49 (ints .i32 32 (e8 p (fr+i) z.2.2 g'))::aa b5 49 (ints .i32 32 g')::aa b4 45 (bP p aq cO)::aa b8 49 (ints .i32 32 (λ_=>0))::aA W p aq cO::L)) ?_ ?_
  ·
   refine aX 0 (λw0 w'=>Rd w' b4 0 (bP p aq cO)∧Rd w' b5 0 (ints .i32 32 g')∧w'.cell? ⟨bp,op+i,none⟩=some (aL z)) [1,8,13] [2,3,4,5,6,7,3000,3001,3008,2009,10,11,12,1013,1014,15] E I λa w E I hH=>?_;have hC:=hH.at w ⟨I.ai,I.ai,cp _ I.sub⟩;refine RH 5 E I hH hC λa E=>?_;rw[g7]at E;refine RH 1 E I hH hC λa E=>?_;refine QH E (λw hc=>bT E underlying45 rfl Ty.t45 (hc.1)) hC λa E=>?_;refine QH E (λw hc=>bT E underlying49 rfl Ty.t49 (hc.2.1)) hC λa E=>?_;refine QH E (λw hc=>ae E (hc.2.2)) hC λa E=>?_;refine RH 0 E I hH hC λa E=>?_;refine DN [(9,[10,11,12,1013,1014,15]),(13,[1009,10,11,12,1014,15])] (by kernel_rfl) rfl ⟨⟨_,rfl,?_⟩,⟨_,rfl,?_⟩,trivial⟩
   ·
    refine RH 0 E I hH hC λa E=>?_;refine bj 0 E I (EV (I.pick (aA W p aq cO)) a6 aH eI (hP.2 _ (bH Bb)) (by omega) (λw' h=>KL w' h.sub)) λtn a w E ⟨bA,I⟩=>?_;refine RN 3 E I λa E=>?_;refine e0 E rfl I Ty.t49 rfl λkJ a w E I ho=>?_;clear ho;replace hC:=hH.at w ⟨I.ai,I.ai,cp _ I.sub⟩;change U W w (aa kJ 49 (ints .i32 32 (λ_=>0))::_) at I;refine RH 0 E I hH hC λa E=>?_;refine SA 0 E I λa w E I=>?_;refine RN 1 E I λa E=>?_;rw[← g7]at E;exact⟨_,bA,E.ab [2,3,4,5,8,9,10],I.sub⟩
   refine RH 0 E I hH hC λa E=>?_;refine e0 E rfl I Ty.t49 rfl λkJ a w E I ho=>?_;clear ho;replace hC:=hH.at w ⟨I.ai,I.ai,cp _ I.sub⟩;change U W w (aa kJ 49 (ints .i32 32 (λ_=>0))::_) at I;refine RH 0 E I hH hC λa E=>?_;refine bj 0 E I (EV (I.pick (aA W p aq cO)) a6 aH eI (hP.2 _ (bH Bb)) (by omega) (λw' h=>KL w' h.sub)) λtn a w E ⟨bA,I⟩=>?_;refine SA 3 E I λa w E I=>?_;refine RN 1 E I λa E=>?_;rw[← g7]at E;exact⟨_,bA,E.ab [2,3,4,5,8,9,10],I.sub⟩
  clear E;(try clear I);rintro a w ⟨kJ,bA,E,I⟩;refine SA 1 E I λa w E I=>?_;refine RN 3 E I λa E=>?_;exact⟨P.length-(i+1),by omega,i+1,_,⟨rfl,by omega,bA,EY⟩,E.ab [2,3,4,5,8,9],I.sub⟩
 refine RN 1 E I λa E=>?_;obtain rfl:i=P.length:=by omega
 rw[List.drop_length,foldI]at ma;refine SA 1 E I λa w E I=>?_;refine RT 0 E I ?_;exact⟨by rw[ma],by rw[ma];exact eI,I.sub⟩
end
end
section
section
variable {P:Program}{a:Act}{w:World}{n:Nat}{l:List (Nat×Value)}
theorem KM {x y i j t u dst ty ps af g}(E:Fr a n l)[e:Ev l x (.string i)][f:Ev l y (.string j)] :
   (execOp a.eval ⟨dst,.binOp .neq t x y u,ty,ps,af,g⟩).run P w=.ok (.value (.bool (!(i.data.toList==j.data.toList)))) w:=by
 simp[execOp,e.ev a n E,f.ev a n E,eqGuard,binOp,Op.stringOp,ByteArray.toList_eq]
end
end
section
abbrev afM:=Option Addr×Nat×List ec
end
section
section
theorem XY {u v:List (List UInt8)}:pN u v=true↔u.take (min u.length v.length)=v.take (min u.length v.length):=by simp[pN]
end
end
section
abbrev Kx:=Wk×Nat
def fa (p:Pr)(aq:Option Addr)(cO tq jq sq:Nat)(x:Kx):SP:=aa x.2 247 (cx p aq cO tq jq sq x.1)
def gV (ks:List Kx):List Value:=ks.map λx=>pt x.2
theorem KN {ks:List Kx}{i:Nat}{k:Wk}{wb:Nat}(h:ks[i]?=some (k,wb)):(gV ks)[i]?=some (pt wb):=by rw[gV,bn,h];rfl
theorem KO {ks:List Kx}{i:Nat}{k k':Wk}{wb:Nat}(h:ks[i]?=some (k,wb)):gV (ks.set i (k',wb))=gV ks:=by
 have hi:=(a2.1 h).1;apply ext_getElem?;intro j;simp only[gV,bn,jZ];by_cases hj:i=j
 ·subst hj;rw[ak rfl,ak hi,h];rfl
 ·rw[ag hj]
theorem wQ {ks:List Kx}{i:Nat}{k k':Wk}{wb:Nat}(h:ks[i]?=some (k,wb)):(ks.map (·.1)).Perm (k::(ks.eraseIdx i).map (·.1))∧((ks.set i (k',wb)).map (·.1)).Perm (k'::(ks.eraseIdx i).map (·.1)):=by
 obtain⟨hi,he⟩:=a2.1 h;have h1:=(sS ks hi).map (·.1);rw[map_cons,he]at h1;have h2:=(sS (ks.set i (k',wb)) (by simpa using hi)).map (·.1);rw[map_cons,oG,eraseIdx_set_eq]at h2;exact⟨h1,h2⟩
section
variable {W w:World}{L:List SP}{tq jq sq r wb i cO n base:Nat}{aq:Option Addr}{A:Sn}{T:Tr}{J:Js}{k:Wk}{p:Pr}{x:Br}{px:aC}{ks:List Kx}{t:Nat→Nat}
theorem U.KP (I:U W w (ah (fa p aq cO tq jq sq) ks::L))(hk:ks[i]?=some (k,wb)):U W w (aa wb 247 (cx p aq cO tq jq sq k)::ah (fa p aq cO tq jq sq) (ks.eraseIdx i)::L):=by
 obtain⟨hi,he⟩:=a2.1 hk;have:=I.fy hi;rw[he]at this;exact this
theorem U.EZ {k':Wk}(I:U W w (aa wb 247 (cx p aq cO tq jq sq k')::ah (fa p aq cO tq jq sq) (ks.eraseIdx i)::L))(hk:ks[i]?=some (k,wb)):U W w (ah (fa p aq cO tq jq sq) (ks.set i (k',wb))::L) :=
 U.kZ (f:=fa p aq cO tq jq sq) (x:=(k',wb)) (a2.1 hk).1 I
theorem XZ {F:Int}{g0:Nat→Int}(I:U W w (ah (fa p aq cO tq jq sq) ks::Tree tq sq T::ax sq r A::bI jq J::aA W p aq cO::L))(hk:ks[i]?=some (k,wb))(hI:Inv p F g0 t base A T (ks.map (·.1)))
   (hF:0≤F∧F≤1099511627776) (hp:dk p) (hz:p.title.size≤1000000000) (hn:A.n+1<1099511627776) (kO:J.length≤16) :
   Calls prog 102 #[pt wb] w λe w'=>∃ (z:Bool) (A':Sn) (T':Tr) (J':Js) (k':Wk),e=.returned (.bool z)∧(lL p A T J k z A' T' J' k'∧Inv p F g0 t base A' T' ((ks.set i (k',wb)).map (·.1))∧AR A T J A' T' J') ∧
    U W w' (ah (fa p aq cO tq jq sq) (ks.set i (k',wb))::Tree tq sq T'::ax sq r A'::bI jq J'::aA W p aq cO::L):=by
 have hA:=(ax.facts (I.store sq)).1;have hT:=Tree.wt (I.tree tq);have X0:k∈ks.map (·.1):=cR.2 ⟨_,bH hk,rfl⟩;have h1:=I.KP hk;refine (XC (L:=ah (fa p aq cO tq jq sq) (ks.eraseIdx i)::L) (h1.sub (M:=aa wb 247 (cx p aq cO tq jq sq k)::Tree tq sq T::ax sq r A::bI jq J::aA W p aq cO::ah (fa p aq cO tq jq sq) (ks.eraseIdx i)::L)) (hI.ready X0 hF hp hz hn kO)).mono λe w' ⟨z,A',T',J',k',he,hb,I⟩=>?_;refine⟨z,A',T',J',k',he,⟨hb,((hI.wG (wQ (k':=k') hk).1).bit hA hT hb).wG (wQ (k':=k') hk).2.symm,hb.Ww⟩,?_⟩;have h2:=U.EZ (i:=i) (ks:=ks) (k:=k) (k':=k') (I.sub (M:=aa wb 247 (cx p aq cO tq jq sq k')::ah (fa p aq cO tq jq sq) (ks.eraseIdx i)::Tree tq sq T'::ax sq r A'::bI jq J'::aA W p aq cO::L)) hk;exact h2
theorem X1 {F:Int}{g0:Nat→Int}(I:U W w (ah (fa p aq cO tq jq sq) ks::ax sq r A::L))(hk:ks[i]?=some (k,wb))(hI:Inv p F g0 t base A T (ks.map (·.1))) :
   Calls prog 145 #[pt wb] w λe w'=>∃ (A':Sn) (k':Wk),e=.returned (.bool k.busy)∧(k'.busy=false∧Inv p F g0 t base A' T ((ks.set i (k',wb)).map (·.1))∧A'.room=A.room∧A'.n=A.n) ∧
    U W w' (ah (fa p aq cO tq jq sq) (ks.set i (k',wb))::ax sq r A'::L):=by
 have hA:=(ax.facts (I.store sq)).1;have h1:=I.KP hk;cases hb:k.busy with
 | false =>
  refine (Ky h1 hb).mono λe w' ⟨he,I⟩=>⟨A,k,he,⟨hb,(hI.wG (wQ (k':=k) hk).1).wG (wQ (k':=k) hk).2.symm,rfl,rfl⟩,?_⟩;exact U.EZ (i:=i) (ks:=ks) (k:=k) (k':=k) I hk
 | true =>
  refine (yE (L:=ah (fa p aq cO tq jq sq) (ks.eraseIdx i)::L) (h1.sub (M:=aa wb 247 (cx p aq cO tq jq sq k)::ax sq r A::ah (fa p aq cO tq jq sq) (ks.eraseIdx i)::L)) hb).mono λe w' ⟨he,I⟩=>?_;refine⟨A.ey k.x,{ k with busy:=false },he,⟨rfl,((hI.wG (wQ (k':={ k with busy:=false }) hk).1).rest (k':={ k with busy:=false }) hA hb rfl rfl).wG (wQ (k':={ k with busy:=false }) hk).2.symm,(oR A _).1,(oR A _).2.1⟩,?_⟩;exact U.EZ (i:=i) (ks:=ks) (k:=k) (k':={ k with busy:=false }) (I.sub (M:=aa wb 247 (cx p aq cO tq jq sq { k with busy:=false })::ah (fa p aq cO tq jq sq) (ks.eraseIdx i)::ax sq r (A.ey k.x)::L)) hk
theorem X2 (I:U W w L):Calls prog 92 #[.agg (bP p aq cO).toArray,pt tq,pt jq,pt sq] w λe w' =>
   ∃ wb,e=.returned (pt wb)∧U W w' (aa wb 247 (cx p aq cO tq jq sq ld)::L):=by
 refine EN func92 ntmps92 rfl rfl λa E=>?_;refine BX 1 E I λb4 a w E I=>?_;change U W w (aa b4 45 (bP p aq cO)::_) at I;refine RN 3 E I λa E=>?_;change Fr a 15 ((9,.agg (List.toArray [.string p.title,.slice aq p.ops.length cO]))::_) at E;refine BX 4 E I λeL a w E I=>?_;change U W w (aa eL 247 (cx p aq cO tq jq sq ld)::_) at I;refine RT 1 E I ?_;exact⟨eL,rfl,I.sub⟩
theorem X3 {frm:Int}{ad2:Option Addr}{c2 id:Nat}{zs:List ec}{P:List (List UInt8)}(I:U W w (Tree tq sq T::ax sq r A::L))(hr:∀ w',U W w' L→iK w' ad2 zs)(hz:zs.map (·.2.2)=P)(hc:P.length≤c2)(dr:nY P)
   (hx:A.ar[i]?=some px) (b6:px.id=id) (hb:A.n+1<1099511627776) (hl:T.last+1<1099511627776) (hm:T.l.length<T.most) :
   Calls prog 306 #[pt tq,.int .i64 frm,.int .i64 id,.slice ad2 P.length c2] w λe w'=>∃ (z:Nat) (ok:Bool),e=.returned (.tuple #[.int .i64 z,.bool ok]) ∧
    ((ok=false∧(P=[]∨∃ y∈T.l,y.is frm P)∧U W w' (Tree tq sq T::ax sq r A::L)) ∨
     (ok=true∧z=T.last+1∧P≠[]∧(∀ y∈T.l,¬ y.is frm P)∧U W w' (Tree tq sq (T.add frm P (A.last+1))::ax sq r (A.add px.g px.p)::L))):=by
 subst b6;rcases lH P.length with h0 | h0
 ·have hP:=g4 h0;exact (JU I (.inr h0)).mono λe w' ⟨h1,I⟩=>⟨0,false,h1,.inl ⟨rfl,.inl hP,I⟩⟩
 ·have hP:P≠[]:=List.length_pos_iff.1 h0;by_cases hex:∃ y∈T.l,y.is frm P
  ·obtain⟨y,hy,wx⟩:=hex;obtain⟨j,hj⟩:=j6.1 hy;have X4:∀ w',U W w' (ax sq r A::L)→k6 w' ad2 P.length P:=λw' h=>by
    have:=(hr w' h.tail).bb;rw[hz]at this
    rwa [show zs.length=P.length from by rw[← hz,a8]]at this
   exact (VP I X4 hc dr hj wx).mono λe w' ⟨h1,I⟩=>⟨0,false,h1,.inl ⟨rfl,.inr ⟨y,hy,wx⟩,I⟩⟩
  ·have bR:∀ y∈T.l,¬ y.is frm P:=λy hy h=>hex ⟨y,hy,h⟩;exact (VQ I hr hz hc dr hx hb hl bR hm h0).mono λe w' ⟨h1,I⟩=>⟨T.last+1,true,h1,.inr ⟨rfl,rfl,hP,bR,I⟩⟩
end
end
section
section
variable {W w:World}{L:List SP}{sq r i:Nat}{A:Sn}{px:aC}
theorem X5 {id:Nat}(I:U W w (ax sq r A::L))(hx:A.ar[i]?=some px)(b6:px.id=id) :
   Calls prog 290 #[pt sq,.int .i64 id] w λe w'=>e=.returned (.tuple #[.agg (ints .i32 32 px.g).toArray,.bool true])∧U W w' (ax sq r A::L):=by
 subst b6;exact Vv I hx
set_option maxHeartbeats 4000000 in
end
end
section
section
variable {P:Program}{ops:Array Oper}{Q:Exit→Act→World→Prop}{a:Act}{w w' W:World}{K:Act→World→Prop}{n d:Nat}{l:List (Nat×Value)}{v:Value}{L R:List SP}
theorem g9 {s x t z sz a1 e ad k c ad2 m c2 news ty ps af g}{cs:List Value}(E:Fr a n l)(hw:Region.wanted ⟨some d,.call ⟨.builtin .append,#[s,x],#[t,t]⟩,ty,ps,af,g⟩ (yielded ops a.tmps)=true)(I:U W w L)
   (ht:P.underlying t=some (.slice e)) (hi:TI P e z sz a1) (hf:okB d n l=true) (hz:z.cells.size=sz) (hb:0<a1)
   [e1:Ev l s (.slice ad k c)] [pk:fQ L ad k c e sz cs R] [e2:Ev l x (.slice ad2 m c2)] (hr:0<m→∃ b2 gR,ad2=some ⟨b2,gR,none⟩∧Rd w b2 gR news) (hl:news.length=m*sz) (h1:∀ v∈news,v.oneCell'=true)
   (aH:(k+m)*a1≤140737488355328)
   (h:∀ av c' a' w',Fr a' n ((d,.slice av (k+m) c')::l)→U W w' (Sl e sz av (k+m) c' (cs++news)::R)→K a' w') :
   cJ P ops Q ⟨some d,.call ⟨.builtin .append,#[s,x],#[t,t]⟩,ty,ps,af,g⟩ K a w:=by
 rcases lH m with h0 | h0
 ·subst h0;have rv:=(I.sl ad).2;obtain rfl:news=[]:=g4 (by rw[hl,Nat.zero_mul]);refine Dn (ad:=ad) (k:=k) (c:=c) (ad2:=ad2) (c2:=c2) E hw ht hi hf rv λa' de=>h ad c a' w de ?_;rw[append_nil];exact I.perm pk.perm
 ·obtain⟨b2,gR,rfl,c7⟩:=hr h0;exact cQ E hw I ht hi hz hf c7 hl h1 h0 hb aH h
end
theorem U.E0 {W w:World}{L:List SP}{b e n:Nat}{cs:List Value}{l:List UInt8}(I:U W w (aa b e cs::L))(he:e=5)(hl:l.length=n)(h:cs=bc l):U W w (Sl 5 1 (some ⟨b,0,none⟩) n n (bc l)::L):=by
 subst h;subst he;have h2:U W w (aa b 5 ([]++bc l++[])::L):=by simpa using I
 exact U.iX (pre:=[]) (post:=[]) (n:=n) (c:=n) (sz:=1) (cs:=bc l) h2 (by rw[dy,hl,fU]) (bf _) (by simp)
theorem dT {bs:List UInt8}{i:Nat}(h:i<bs.length):(bc bs)[i]?=some (.int .u8 ((bs[i]).toNat:Int)):=by simp[bc,h]
theorem fM (a b:List UInt8):bc (a++b)=bc a++bc b:=by simp[bc]
theorem aW.get {w:World}{ad:Option Addr}{m:Nat}{bs:List UInt8}(h:aW w ad m bs)(h0:0<m):∃ b o,ad=some ⟨b,o,none⟩∧Rd w b o (bc bs):=by
 obtain⟨_,h2,h3⟩:=h;cases hh:ad with
 | none=>have:=h2 hh;omega
 | some a =>
  obtain⟨b,o,rfl,h1⟩:=h3 a hh h0;exact⟨b,o,rfl,h1⟩
theorem aW.rd {w:World}{b o m:Nat}{bs:List UInt8}(h:aW w (some ⟨b,o,none⟩) m bs)(h0:0<m):Rd w b o (bc bs):=by
 obtain⟨b',o',e,h1⟩:=h.get h0;cases e;exact h1
theorem aW.uY {w:World}{ad:Option Addr}{bs:List UInt8}{c:Nat}(h:aW w ad bs.length bs){lo:Nat}(hl:lo≤bs.length)(hc:bs.length≤c):aW w (ft ad lo c 1) (bs.drop lo).length (bs.drop lo):=by
 refine⟨rfl,λe=>?_,λx hx h0=>?_⟩
 ·rw[c5];rcases lH (bs.length-lo) with h0 | h0
  ·exact h0
  ·obtain⟨b,o,rfl,_⟩:=h.get (by omega);rw[pB (by omega)]at e;cases e
 ·rw[c5]at h0;obtain⟨b,o,rfl,hr⟩:=h.get (by omega);rw[pB (by omega)]at hx;cases hx;refine⟨b,o+lo*1,rfl,λj v hj=>?_⟩;have h1:=hr (lo+j) v (by rw[bc,bn,← qs,← bn];exact hj)
  rwa [show o+lo*1+j=o+(lo+j) from by omega]
theorem aW.E1 {w:World}{ad:Option Addr}{bs:List UInt8}{m:Nat}(h:aW w ad m bs){hi:Nat}(hl:hi≤bs.length):aW w ad hi (bs.take hi):=by
 obtain⟨h1,h2,h3⟩:=h;refine⟨by rw[et];omega,λe=>by have:=h2 e;omega,λx hx h0=>?_⟩;obtain⟨b,o,e,hr⟩:=h3 x hx (by omega);refine⟨b,o,e,λj v hj=>hr j v ?_⟩;rw[bc,map_take,vP]at hj;split at hj
 ·exact hj
 ·cases hj
theorem uZ (x:Nat):BitVec.ofInt IntKind.u32.bits (x:Int)=BitVec.ofNat 32 x:=BitVec.ofInt_natCast 32 x
theorem Bd (x:Nat):BitVec.ofInt IntKind.u64.bits (x:Int)=BitVec.ofNat 64 x:=BitVec.ofInt_natCast 64 x
theorem Be {x y:Nat}(hx:x<4294967296)(hy:y<4294967296):IntKind.u32.wrap (((BitVec.ofInt IntKind.u32.bits (x:Int) ^^^ BitVec.ofInt IntKind.u32.bits (y:Int)).toNat:Nat):Int)=((x ^^^ y:Nat):Int):=by
 rw[uZ,uZ];show IntKind.u32.wrap (((BitVec.ofNat 32 x ^^^ BitVec.ofNat 32 y).toNat:Nat):Int)=_;rw[BitVec.toNat_xor,BitVec.toNat_ofNat,BitVec.toNat_ofNat,kY (show x<2 ^ 32 from hx),kY (show y<2 ^ 32 from hy),wrap_u32];have:=Nat.xor_lt_two_pow (n:=32) hx hy;omega
theorem X6 {x y:Nat}(hx:x<4294967296)(hy:y<4294967296):IntKind.u32.wrap (((BitVec.ofInt IntKind.u32.bits (x:Int) &&& BitVec.ofInt IntKind.u32.bits (y:Int)).toNat:Nat):Int)=((x &&& y:Nat):Int):=by
 rw[uZ,uZ];show IntKind.u32.wrap (((BitVec.ofNat 32 x &&& BitVec.ofNat 32 y).toNat:Nat):Int)=_;rw[BitVec.toNat_and,BitVec.toNat_ofNat,BitVec.toNat_ofNat,kY (show x<2 ^ 32 from hx),kY (show y<2 ^ 32 from hy),wrap_u32];have:x &&& y≤x:=Nat.and_le_left;omega
theorem KQ {x:Nat}(h:x<4294967296):IntKind.u32.wrap (((BitVec.ofInt IntKind.u32.bits (if IntKind.u32.signed then -1 else IntKind.u32.max) ^^^ BitVec.ofInt IntKind.u32.bits (x:Int)).toNat:Nat):Int)=((4294967295-x:Nat):Int):=by
 have e:BitVec.ofInt IntKind.u32.bits (if IntKind.u32.signed then -1 else IntKind.u32.max)=BitVec.allOnes 32:=by
  show BitVec.ofInt 32 IntKind.u32.max=_;decide
 rw[e,uZ];show IntKind.u32.wrap (((BitVec.allOnes 32 ^^^ BitVec.ofNat 32 x).toNat:Nat):Int)=_;rw[BitVec.allOnes_xor,BitVec.toNat_not,BitVec.toNat_ofNat,wrap_u32];rw[kY (show x<2 ^ 32 from h)];omega
theorem X7 {x y:Nat}(hx:x<18446744073709551616)(hy:y<18446744073709551616):IntKind.u64.wrap (((BitVec.ofInt IntKind.u64.bits (x:Int) ||| BitVec.ofInt IntKind.u64.bits (y:Int)).toNat:Nat):Int)=((x ||| y:Nat):Int):=by
 rw[Bd,Bd];show IntKind.u64.wrap (((BitVec.ofNat 64 x ||| BitVec.ofNat 64 y).toNat:Nat):Int)=_;rw[BitVec.toNat_or,BitVec.toNat_ofNat,BitVec.toNat_ofNat,kY (show x<2 ^ 64 from hx),kY (show y<2 ^ 64 from hy),wrap_u64];have:=Nat.or_lt_two_pow (n:=64) hx hy;omega
theorem X8 {x y:Nat}(hx:x<18446744073709551616)(hy:y<18446744073709551616):IntKind.u64.wrap (((BitVec.ofInt IntKind.u64.bits (x:Int) &&& BitVec.ofInt IntKind.u64.bits (y:Int)).toNat:Nat):Int)=((x &&& y:Nat):Int):=by
 rw[Bd,Bd];show IntKind.u64.wrap (((BitVec.ofNat 64 x &&& BitVec.ofNat 64 y).toNat:Nat):Int)=_;rw[BitVec.toNat_and,BitVec.toNat_ofNat,BitVec.toNat_ofNat,kY (show x<2 ^ 64 from hx),kY (show y<2 ^ 64 from hy),wrap_u64];have:x &&& y≤x:=Nat.and_le_left;omega
theorem lk (b:UInt8):b.toNat<256:=b.toNat_lt
def p1 (x:Nat):Nat:=if x%2=1 then x/2 ^^^ 3988292384 else x/2
def lQ:Nat→Nat→Nat
 | 0,y=>y
 | k+1,y=>p1 (lQ k y)
def oZ (x:Nat)(b:UInt8):Nat:=lQ 8 (x ^^^ b.toNat)
def nt (bs:List UInt8):Nat:=bs.foldl oZ 4294967295
def gJ (bs:List UInt8):Nat:=4294967295-nt bs
theorem X9 {x:Nat}(h:x<4294967296):p1 x<4294967296:=by
 unfold p1;split
 ·exact Nat.xor_lt_two_pow (n:=32) (by show x/2<4294967296;omega) (by decide)
 ·omega
theorem wR {x:Nat}(h:x<4294967296):∀ k,lQ k x<4294967296
 | 0=>h
 | k+1=>X9 (wR h k)
theorem wS {x:Nat}(b:UInt8)(h:x<4294967296):oZ x b<4294967296:=by
 refine wR (Nat.xor_lt_two_pow (n:=32) h ?_) 8;have:=lk b;show b.toNat<4294967296;omega
theorem Ya (bs:List UInt8):∀ {x:Nat},x<4294967296→bs.foldl oZ x<4294967296:=by
 induction bs with
 | nil=>exact λh=>h
 | cons b bs ih=>exact λh=>ih (wS b h)
theorem wT (bs:List UInt8):nt bs<4294967296:=Ya bs (by decide)
theorem yL (bs:List UInt8):gJ bs<4294967296:=by unfold gJ;omega
theorem KR {bs:List UInt8}{i:Nat}(h:i<bs.length):nt (bs.take (i+1))=oZ (nt (bs.take i)) bs[i]:=by
 rw[nt,jw h,foldl_append];rfl
theorem Yb {x:Nat}(h:x<4294967296):IntKind.u32.wrap (((BitVec.ofInt IntKind.u32.bits (x:Int) &&& BitVec.ofInt IntKind.u32.bits 1).toNat:Nat):Int)=((x%2:Nat):Int):=by
 have h1:=X6 (y:=1) h (by decide);rw[Nat.and_one_is_mod]at h1;exact h1
theorem Yc {m:Nat}(h:m<2):IntKind.u32.wrap (0-(m:Int))=((if m=1 then 4294967295 else 0:Nat):Int):=by
 rcases (by omega:m=0∨m=1) with rfl | rfl <;> decide
theorem Yd (m:Nat):IntKind.u32.wrap (((BitVec.ofInt IntKind.u32.bits 3988292384 &&& BitVec.ofInt IntKind.u32.bits ((if m=1 then 4294967295 else 0:Nat):Int)).toNat:Nat):Int)=((if m=1 then 3988292384 else 0:Nat):Int):=by
 by_cases h:m=1
 ·rw[ak h,ak h];decide
 ·rw[ag h,ag h];decide
theorem Ye {x m:Nat}(hx:x<4294967296):IntKind.u32.wrap (((BitVec.ofInt IntKind.u32.bits ((x/2:Nat):Int) ^^^ BitVec.ofInt IntKind.u32.bits ((if x%2=1 then 3988292384 else 0:Nat):Int)).toNat:Nat):Int)=((p1 x:Nat):Int):=by
 rw[Be (by omega) (by split <;> decide),p1];split
 ·rfl
 ·rw[Nat.xor_zero]
theorem Yf {x:Nat}(hx:x<4294967296):IntKind.u32.wrap (((BitVec.ofInt IntKind.u32.bits ((x/2:Nat):Int) ^^^ BitVec.ofInt IntKind.u32.bits 3988292384).toNat:Nat):Int)=((x/2 ^^^ 3988292384:Nat):Int):=Be (y:=3988292384) (by omega) (by decide)
def eJ (x:Nat):List UInt8:=[UInt8.ofNat (x/16777216),UInt8.ofNat (x/65536),UInt8.ofNat (x/256),UInt8.ofNat x]
theorem Yg (n:Nat):IntKind.u8.wrap (n:Int)=((UInt8.ofNat n).toNat:Int):=by
 rw[wrap_u8,UInt8.toNat_ofNat'];omega
def p3 (x:Int):Nat:=(x%4294967296).toNat
theorem KS (x:Int):IntKind.u32.wrap x=((p3 x:Nat):Int):=by rw[wrap_u32,p3];omega
def gu (g:Nat→Int):List UInt8:=(List.range 32).flatMap λi=>eJ (p3 (g i))
def mi (g:Nat→Int)(n:Nat):List UInt8:=(List.range n).flatMap λi=>eJ (p3 (g i))
theorem E2 (g:Nat→Int)(n:Nat):mi g (n+1)=mi g n++eJ (p3 (g n)):=by simp[mi,range_succ]
theorem rW (g:Nat→Int)(n:Nat):(mi g n).length=4*n:=by
 induction n with
 | zero=>rfl
 | succ n ih=>rw[E2,aI,ih];simp[eJ];omega
theorem u0 (g:Nat→Int):(gu g).length=128:=rW g 32
section
variable {W w:World}{L:List SP}{n c m:Nat}{ad:Option Addr}{bs:List UInt8}
theorem Yh (I:U W w L)(hb:bs.length≤1099511627776)(hp:∀ w',U W w' L→aW w' ad bs.length bs) :
   Calls prog 205 #[.int .u32 0,.slice ad bs.length c] w λe w'=>e=.returned (.int .u32 (gJ bs))∧U W w' L:=by
 refine EN func205 ntmps205 rfl rfl λa E=>?_;refine RN 6 E I λa E=>?_;rw[show IntKind.u32.wrap ((BitVec.ofInt IntKind.u32.bits (if IntKind.u32.signed then -1 else IntKind.u32.max) ^^^ BitVec.ofInt IntKind.u32.bits 0).toNat:Int)=((nt (bs.take 0):Nat):Int) from rfl]at E;refine RN 5 E I λa E=>?_;refine aQ (λμ a w=>∃ (i:Nat),(μ=bs.length-i∧i≤bs.length)∧Fr a 33 [(5,.int .u32 (nt (bs.take i))),(10,.slice ad bs.length c),(11,.int .i64 bs.length),(12,.int .i64 i)]∧U W w L) (bs.length) (⟨0,⟨rfl,by omega⟩,E.ab [5,10,11,12],I⟩) ?_;clear E I;rintro μ a w ⟨i,⟨rfl,hi⟩,E,I⟩;refine IF 3 E I (λaj a E=>?_) λaj a E=>?_
 ·
  obtain⟨bb,oo,rfl,hr⟩:=(hp _ I).get (by omega);have aF:i<bs.length:=by omega
  have hx:=wT (bs.take i);have qV:=lk bs[i];refine RN 3 E I λa E=>?_;refine SS E (ae E (hr i _ (dT aF))) λa E=>?_;refine SX 4 E I (by rw[wrap_u32];omega) λa E=>?_;refine RN 1 E I λa E=>?_;rw[Be hx (by omega)]at E;refine RN 3 E I λa E=>?_;have hy:nt (bs.take i) ^^^ bs[i].toNat<4294967296:=Nat.xor_lt_two_pow (n:=32) hx (by show _<4294967296;omega);have kz:=KR aF;rw[oZ]at kz;generalize nt (bs.take i) ^^^ bs[i].toNat=y at E hy kz;refine aQ (λμ a w=>∃ (k:Nat),(μ=8-k∧k≤8)∧Fr a 33 [(5,.int .u32 (lQ k y)),(10,.slice (some ⟨bb,oo,none⟩) bs.length c),(11,.int .i64 bs.length),(12,.int .i64 i),(20,.int .i64 k)]∧U W w L) (8) (⟨0,⟨rfl,by omega⟩,E.ab [5,10,11,12,20],I⟩) ?_;clear E I;rintro μ a w ⟨k,⟨rfl,hk⟩,E,I⟩;refine IF 3 E I (λao a E=>?_) λao a E=>?_
  ·
   have Bf:=wR hy k;refine RN 3 E I λa E=>?_;rw[show ((lQ k y:Nat):Int).fdiv (2 ^ 1)=((lQ k y/2:Nat):Int) from lf _ 2]at E;refine RN 2 E I λa E=>?_;rw[Yb Bf]at E;refine RN 1 E I λa E=>?_;rw[Yc (Nat.mod_lt _ (by decide))]at E;refine RN 1 E I λa E=>?_;rw[Yd]at E;refine RN 1 E I λa E=>?_;rw[Ye (m:=0) Bf]at E;refine RN 3 E I λa E=>?_;exact⟨8-(k+1),by omega,k+1,⟨rfl,by omega⟩,E.ab [5,10,11,12,20],I⟩
  obtain rfl:k=8:=by omega
  rw[← kz]at E;refine RN 2 E I λa E=>?_;exact⟨bs.length-(i+1),by omega,i+1,⟨rfl,by omega⟩,E.ab [5,10,11,12],I⟩
 obtain rfl:i=bs.length:=by omega
 rw[k4]at E;refine RN 3 E I λa E=>?_;rw[KQ (wT bs)]at E;refine RT 1 E I ?_;exact⟨rfl,I⟩
theorem KT (I:U W w L)(hb:bs.length≤1099511627776)(hp:∀ w',U W w' L→aW w' ad bs.length bs) :
   Calls prog 176 #[.slice ad bs.length c] w λe w'=>e=.returned (.int .u32 (gJ bs))∧U W w' L:=by
 refine EN func176 ntmps176 rfl rfl λa E=>?_;refine CL 4 E I (Yh I hb hp) λa w E I=>?_;refine RT 1 E I ?_;exact⟨rfl,I⟩
theorem KU (I:U W w L)(hb:bs.length≤1099511627776)(hp:∀ w',U W w' L→aW w' ad bs.length bs) :
   Calls prog 154 #[.slice ad bs.length c] w λe w'=>e=.returned (.int .u32 (gJ bs))∧U W w' L:=by
 refine EN func154 ntmps154 rfl rfl λa E=>?_;refine RN 7 E I λa E=>?_;refine aQ (λμ a w=>∃ (i:Nat),(μ=bs.length-i∧i≤bs.length)∧Fr a 33 [(0,.slice ad bs.length c),(3,.int .u32 (nt (bs.take i))),(4,.int .i64 i)]∧U W w L) (bs.length) (⟨0,⟨rfl,by omega⟩,E.ab [0,3,4],I⟩) ?_;clear E I;rintro μ a w ⟨i,⟨rfl,hi⟩,E,I⟩;refine IF 6 E I (λaj a E=>?_) λaj a E=>?_
 ·
  obtain⟨bb,oo,rfl,hr⟩:=(hp _ I).get (by omega);have aF:i<bs.length:=by omega
  have hx:=wT (bs.take i);have qV:=lk bs[i];refine RN 6 E I λa E=>?_;refine SS E (ae E (hr i _ (dT aF))) λa E=>?_;refine SX 0 E I (by rw[wrap_u32];omega) λa E=>?_;refine RN 1 E I λa E=>?_;rw[Be hx (by omega)]at E;refine RN 3 E I λa E=>?_;have hy:nt (bs.take i) ^^^ bs[i].toNat<4294967296:=Nat.xor_lt_two_pow (n:=32) hx (by show _<4294967296;omega);have kz:=KR aF;rw[oZ]at kz;generalize nt (bs.take i) ^^^ bs[i].toNat=y at E hy kz;refine aQ (λμ a w=>∃ (k:Nat),(μ=8-k∧k≤8)∧Fr a 33 [(0,.slice (some ⟨bb,oo,none⟩) bs.length c),(3,.int .u32 (lQ k y)),(4,.int .i64 i),(5,.int .i64 k)]∧U W w L) (8) (⟨0,⟨rfl,by omega⟩,E.ab [0,3,4,5],I⟩) ?_;clear E I;rintro μ a w ⟨k,⟨rfl,hk⟩,E,I⟩;refine IF 4 E I (λao a E=>?_) λao a E=>?_
  ·
   have Bf:=wR hy k;have oS:lQ (k+1) y=p1 (lQ k y):=rfl;refine SX 3 E I (by decide) λa E=>?_;rw[show ((lQ k y:Nat):Int).tmod 2=((lQ k y%2:Nat):Int) from oD _ 2]at E;refine IF 1 E I (λay a E=>?_) λay a E=>?_
   ·
    rw[p1,ak (by omega)]at oS;refine RN 2 E I λa E=>?_;rw[show ((lQ k y:Nat):Int).fdiv (2 ^ 1)=((lQ k y/2:Nat):Int) from lf _ 2]at E;refine RN 1 E I λa E=>?_;rw[Yf Bf,← oS]at E;refine RN 4 E I λa E=>?_;exact⟨8-(k+1),by omega,k+1,⟨rfl,by omega⟩,E.ab [0,3,4,5],I⟩
   rw[p1,ag (by omega)]at oS;refine RN 2 E I λa E=>?_;rw[show ((lQ k y:Nat):Int).fdiv (2 ^ 1)=((lQ k y/2:Nat):Int) from lf _ 2,← oS]at E;refine RN 4 E I λa E=>?_;exact⟨8-(k+1),by omega,k+1,⟨rfl,by omega⟩,E.ab [0,3,4,5],I⟩
  obtain rfl:k=8:=by omega
  rw[← kz]at E;refine RN 3 E I λa E=>?_;exact⟨bs.length-(i+1),by omega,i+1,⟨rfl,by omega⟩,E.ab [0,3,4],I⟩
 obtain rfl:i=bs.length:=by omega
 rw[k4]at E;refine RN 3 E I λa E=>?_;rw[KQ (wT bs)]at E;refine RT 1 E I ?_;exact⟨rfl,I⟩
theorem E3 {x:Nat}:[[Value.int .u8 (IntKind.u8.wrap ((x/16777216:Nat):Int))],[Value.int .u8 (IntKind.u8.wrap ((x/65536:Nat):Int))],[Value.int .u8 (IntKind.u8.wrap ((x/256:Nat):Int))],[Value.int .u8 (IntKind.u8.wrap ((x:Nat):Int))]].flatten=bc (eJ x):=by
 simp only[Yg];rfl
theorem U.E4 {b:Nat}{cs:List Value}{l:List UInt8}{e:Nat}(I:U W w (aa b e cs::L))(he:e=5)(hl:l.length=4)(h:cs=bc l):U W w (Sl 5 1 (some ⟨b,0,none⟩) 4 4 (bc l)::L):=by
 subst h;subst he;have h2:U W w (aa b 5 ([]++bc l++[])::L):=by simpa using I
 exact U.iX (pre:=[]) (post:=[]) (n:=4) (c:=4) (sz:=1) (cs:=bc l) h2 (by rw[dy,hl]) (bf _) (Nat.zero_le _)
theorem KV {x:Nat}(I:U W w L) :
   Calls prog 337 #[.int .u32 x] w λe w'=>∃ ad,e=.returned (.slice ad 4 4)∧U W w' (Sl 5 1 ad 4 4 (bc (eJ x))::L):=by
 refine EN func337 ntmps337 rfl rfl λa E=>?_;refine RN 5 E I λa E=>?_;rw[show ((x:Nat):Int).fdiv (2 ^ 24)=((x/16777216:Nat):Int) from lf _ 16777216]at E;refine SS E (gn E underlying100 underlying5) λa E=>?_;refine RN 2 E I λa E=>?_;rw[show ((x:Nat):Int).fdiv (2 ^ 16)=((x/65536:Nat):Int) from lf _ 65536]at E;refine SS E (gn E underlying100 underlying5) λa E=>?_;refine RN 2 E I λa E=>?_;rw[show ((x:Nat):Int).fdiv (2 ^ 8)=((x/256:Nat):Int) from lf _ 256]at E;refine SS E (gn E underlying100 underlying5) λa E=>?_;refine RN 1 E I λa E=>?_;refine SS E (gn E underlying100 underlying5) λa E=>?_;refine RN 0 E I λa E=>?_;refine cr E rfl I underlying22 Ty.t5 rfl rfl rfl rfl (by decide) (by decide) λeL a w E I ho=>?_;clear ho;refine RT 1 E I ?_;exact⟨_,rfl,I.E4 rfl rfl E3⟩
theorem E5 {x:Nat}(I:U W w L) :
   Calls prog 158 #[.int .u32 x] w λe w'=>∃ ad,e=.returned (.slice ad 4 4)∧U W w' (Sl 5 1 ad 4 4 (bc (eJ x))::L):=by
 refine EN func158 ntmps158 rfl rfl λa E=>?_;refine RN 5 E I λa E=>?_;rw[show ((x:Nat):Int).fdiv (2 ^ 24)=((x/16777216:Nat):Int) from lf _ 16777216]at E;refine SS E (gn E underlying100 underlying5) λa E=>?_;refine RN 2 E I λa E=>?_;rw[show ((x:Nat):Int).fdiv (2 ^ 16)=((x/65536:Nat):Int) from lf _ 65536]at E;refine SS E (gn E underlying100 underlying5) λa E=>?_;refine RN 2 E I λa E=>?_;rw[show ((x:Nat):Int).fdiv (2 ^ 8)=((x/256:Nat):Int) from lf _ 256]at E;refine SS E (gn E underlying100 underlying5) λa E=>?_;refine RN 1 E I λa E=>?_;refine SS E (gn E underlying100 underlying5) λa E=>?_;refine RN 0 E I λa E=>?_;refine cr E rfl I underlying22 Ty.t5 rfl rfl rfl rfl (by decide) (by decide) λeL a w E I ho=>?_;clear ho;refine RT 1 E I ?_;exact⟨_,rfl,I.E4 rfl rfl E3⟩
theorem Yi {x:Int}(I:U W w L) :
   Calls prog 206 #[.int .i32 x] w λe w'=>∃ ad,e=.returned (.slice ad 4 4)∧U W w' (Sl 5 1 ad 4 4 (bc (eJ (p3 x)))::L):=by
 refine EN func206 ntmps206 rfl rfl λa E=>?_;refine RN 4 E I λa E=>?_;refine SS E (gn E underlying21 underlying100) λa E=>?_;rw[KS]at E;generalize p3 x=x at E ⊢;refine RN 4 E I λa E=>?_;rw[show ((x:Nat):Int).fdiv (2 ^ 24)=((x/16777216:Nat):Int) from lf _ 16777216]at E;refine SS E (gn E underlying100 underlying5) λa E=>?_;refine RN 2 E I λa E=>?_;rw[show ((x:Nat):Int).fdiv (2 ^ 16)=((x/65536:Nat):Int) from lf _ 65536]at E;refine SS E (gn E underlying100 underlying5) λa E=>?_;refine RN 2 E I λa E=>?_;rw[show ((x:Nat):Int).fdiv (2 ^ 8)=((x/256:Nat):Int) from lf _ 256]at E;refine SS E (gn E underlying100 underlying5) λa E=>?_;refine RN 1 E I λa E=>?_;refine SS E (gn E underlying100 underlying5) λa E=>?_;refine RN 0 E I λa E=>?_;refine cr E rfl I underlying22 Ty.t5 rfl rfl rfl rfl (by decide) (by decide) λix a w E I ho=>?_;clear ho;refine RT 1 E I ?_;exact⟨_,rfl,I.E4 rfl rfl E3⟩
end
end
section
def nu:List UInt8→Nat→Nat→Option (Nat×Nat)
 | [],_,_=>none
 | c::cs,i,u =>
  if i=9∧1<c.toNat then none
  else if 127<c.toNat then nu cs (i+1) (u+c.toNat%128*128 ^ i)
  else if 0<i∧c.toNat=0 then none
  else some (u+c.toNat*128 ^ i,i+1)
def tw (bs:List UInt8):Option (Nat×Nat):=nu bs 0 0
def nv (u:Nat):Int:=if u%2=1 then -((u/2:Nat):Int)-1 else ((u/2:Nat):Int)
theorem E6 (n:Int):nv (zz n)=n:=by
 unfold nv zz;split <;> split <;> omega
theorem E7 {n:Int}(h1:-9223372036854775808≤n)(h2:n≤9223372036854775807):zz n<18446744073709551616:=by
 unfold zz;split <;> omega
theorem yM (i:Nat):128 ^ (i+1)=128 ^ i*128:=Nat.pow_succ ..
theorem Yj (r:List UInt8):∀ (v i u:Nat),v*128 ^ i<18446744073709551616→(i=0∨0<v)→i≤9→nu (aO v++r) i u=some (u+v*128 ^ i,i+(aO v).length):=by
 intro v
 induction v using Nat.strongRecOn with
 | _ v ih =>
  intro i u hv h0 hi;by_cases I:v≤127
  ·rw[qN I];have hb:(UInt8.ofNat v).toNat=v:=by rw[UInt8.toNat_ofNat'];omega
   simp only[cons_append,nil_append,nu,hb,jD];have h9:¬ (i=9∧1<v):=by
    rintro⟨rX,h⟩;rw[rX]at hv;have:v*128 ^ 9 ≥ 2*128 ^ 9:=ox _ h;have h9':(128:Nat) ^ 9=9223372036854775808:=by decide
    omega
   rw[ag h9,ag (by omega),ag (by omega)]
  ·rw[wH I];have hb:(UInt8.ofNat (v%128+128)).toNat=v%128+128:=by rw[UInt8.toNat_ofNat'];omega
   simp only[cons_append,nu,hb,eR];have hle:128 ^ (i+1)≤v*128 ^ i:=by rw[yM,Nat.mul_comm];exact ox _ (by omega)
   have rX:i+1≤9:=by
    rcases gQ i 9 with h | h
    ·omega
    ·have:128 ^ 10≤128 ^ (i+1):=Nat.pow_le_pow_right (by decide) (by omega);have fh:(128:Nat) ^ 10=1180591620717411303424:=by decide
     omega
   have hdv:v/128*128 ^ (i+1)+v%128*128 ^ i=v*128 ^ i:=by
    rw[yM,show v/128*(128 ^ i*128)=128*(v/128)*128 ^ i from by rw[Nat.mul_comm (128 ^ i),← Nat.mul_assoc,Nat.mul_comm (v/128)],← Nat.add_mul,Nat.div_add_mod]
   rw[ag (by omega),ak (by omega),ih (v/128) (by omega) (i+1) _ (by omega) (.inr (by omega)) rX];rw[show (v%128+128)%128=v%128 from by omega]
   congr 2
   ·omega
   ·omega
theorem Bg {n:Int}(h1:-9223372036854775808≤n)(h2:n≤9223372036854775807)(r:List UInt8):tw (aO (zz n)++r)=some (zz n,(aO (zz n)).length):=by
 have:=Yj r (zz n) 0 0 (by have:=E7 h1 h2;omega) (.inl rfl) (by decide);simpa [tw] using this
theorem KW:∀ (bs:List UInt8) (i u:Nat) {v k:Nat},i≤9→u<128 ^ i→nu bs i u=some (v,k)→v<18446744073709551616∧i+1≤k∧k≤i+bs.length∧k≤10
 | [],_,_,_,_,_,_,h=>by cases h
 | c::cs,i,u,v,k,hi,hu,h=>by
  rw[nu]at h;have hc:=lk c;have hp:128 ^ i≤128 ^ 9:=Nat.pow_le_pow_right (by decide) hi;have h9:(128:Nat) ^ 9=9223372036854775808:=by decide
  split at h
  ·cases h
  rename_i n9;split at h
  ·rename_i hb;have hm:c.toNat%128*128 ^ i≤127*128 ^ i:=ox _ (by omega);have:=KW cs (i+1) _ (by omega) (by rw[yM];omega) h;simp only[eR];omega
  ·rename_i hb;split at h
   ·cases h
   ·obtain⟨rfl,rfl⟩:u+c.toNat*128 ^ i=v∧i+1=k:=by simpa using h
    simp only[eR];refine⟨?_,by omega,by omega,by omega⟩;rcases gQ i 9 with h8 | h8
    ·have hp8:128 ^ i≤128 ^ 8:=Nat.pow_le_pow_right (by decide) (by omega);have h88:(128:Nat) ^ 8=72057594037927936:=by decide
     have hm:c.toNat*128 ^ i≤127*128 ^ i:=ox _ (by omega);omega
    ·have:i=9:=by omega
     subst this;have hm:c.toNat*128 ^ 9≤1*128 ^ 9:=ox _ (by omega);omega
theorem E8 {bs:List UInt8}{v k:Nat}(h:tw bs=some (v,k)):v<18446744073709551616∧1≤k∧k≤bs.length∧k≤10:=by
 have:=KW bs 0 0 (by decide) (by decide) h;omega
def mj (bs:List UInt8)(x:Int)(k:Nat)(er:Int):Prop :=
 (-9223372036854775808≤x∧x≤9223372036854775807)∧(er=0∨er=1∨er=2)∧(er=0→1≤k∧k≤bs.length)∧(er≠0→k=0∧x=0) ∧
 ∀ (n:Int) (r:List UInt8), -9223372036854775808≤n→n≤9223372036854775807→bs=aO (zz n)++r→x=n∧k=(aO (zz n)).length∧er=0
theorem mj.bad {bs:List UInt8}{er:Int}(h:tw bs=none)(he:er=1∨er=2):mj bs 0 0 er:=by
 refine⟨by omega,by omega,by omega,λ_=>⟨rfl,rfl⟩,λn r h1 h2 e=>?_⟩;rw[e,Bg h1 h2]at h;cases h
theorem mj.KX {bs:List UInt8}{u k:Nat}(h:tw bs=some (u,k)):mj bs (nv u) k 0:=by
 have hb:=E8 h;refine⟨?_,by omega,by omega,by omega,λn r h1 h2 e=>?_⟩
 ·unfold nv;split <;> omega
 ·rw[e,Bg h1 h2]at h;obtain⟨rfl,rfl⟩:zz n=u∧(aO (zz n)).length=k:=by simpa using h
  exact⟨E6 n,rfl,rfl⟩
def runN (x:UInt8):List UInt8→Nat
 | []=>0
 | y::ys=>if y=x then runN x ys+1 else 0
theorem yN (x:UInt8):∀ l:List UInt8,runN x l≤l.length
 | []=>bf _
 | y::ys=>by
  have:=yN x ys;rw[runN];split <;> simp only[eR] <;> omega
def dA (l:List UInt8)(last:UInt8):List UInt8:=match l with
 | []=>[]
 | x::xs=>aO (zz ((runN x xs+1:Nat):Int))++(x ^^^ last)::dA (xs.drop (runN x xs)) x
termination_by l.length
decreasing_by simp only[c5,eR];omega
theorem wU (last:UInt8):dA [] last=[]:=by rw[dA]
theorem tx (x:UInt8)(xs:List UInt8)(last:UInt8):dA (x::xs) last=aO (zz ((runN x xs+1:Nat):Int))++(x ^^^ last)::dA (xs.drop (runN x xs)) x:=by rw[dA]
theorem Bh (x:UInt8):∀ l:List UInt8,l.take (runN x l)=List.replicate (runN x l) x
 | []=>rfl
 | y::ys=>by
  rw[runN];split
  ·rename_i h;subst h;rw[take_succ_cons,Bh y ys,List.replicate_succ]
  ·rfl
theorem KY (x:UInt8):∀ (l:List UInt8) (y:UInt8) (r:List UInt8),l.drop (runN x l)=y::r→y≠x
 | [],_,_,h=>by simp[runN]at h
 | z::zs,y,r,h=>by
  rw[runN]at h;split at h
  ·exact KY x zs y r h
  ·rename_i hn;rw[drop_zero]at h;cases h;exact hn
theorem Yk {x:UInt8}{l:List UInt8}{n:Nat}(h1:∀ i,i<n→l[i]?=some x)(h2:l[n]?≠some x):runN x l=n:=by
 induction l generalizing n with
 | nil =>
  cases n with
  | zero=>rfl
  | succ n=>have:=h1 0 (by omega);simp at this
 | cons y ys ih =>
  cases n with
  | zero =>
   rw[runN,ag];intro e;subst e;simp at h2
  | succ n =>
   have h0:=h1 0 (by omega);simp at h0;rw[runN,ak h0,ih (n:=n) (λi hi=>by have:=h1 (i+1) (by omega);simpa using this) (by simpa using h2)]
theorem yO (l:List UInt8):∀ last,(dA l last).length≤11*l.length:=by
 induction hn:l.length using Nat.strongRecOn generalizing l with
 | _ n ih =>
  intro last;cases l with
  | nil=>rw[wU];simp
  | cons x xs =>
   rw[tx,aI,eR];have h1:=yN x xs;subst hn;simp only[eR];by_cases hb:xs.length<4611686018427387904
   ·have h2 := qO 9 (zz ((runN x xs + 1 : Nat) : Int)) (by
     have:zz ((runN x xs+1:Nat):Int)=2*(runN x xs+1):=by unfold zz;rw[ag (by omega)];omega
     rw[this];have fh:(128:Nat) ^ (9+1)=1180591620717411303424:=by decide
     omega)
    have h3:=ih (xs.drop (runN x xs)).length (by simp only[c5,eR];omega) (xs.drop (runN x xs)) rfl x;simp only[c5]at h3;omega
   ·have h2 : (aO (zz ((runN x xs + 1 : Nat) : Int))).length ≤ runN x xs + 10 := by
     have:∀ u,(aO (2*(u+1))).length≤u+10:=by
      intro u
      induction u using Nat.strongRecOn with
      | _ u ih =>
       by_cases h:2*(u+1)≤127
       ·rw[qN h];simp
       ·rw[wH h,eR];by_cases h2:2*(u+1)/128≤127
        ·rw[qN h2];simp
        ·have hq : ∀ v, (aO v).length ≤ v + 1 := by
          intro v
          induction v using Nat.strongRecOn with
          | _ v Yl =>
           by_cases h3:v≤127
           ·rw[qN h3];simp
           ·rw[wH h3,eR];have:=Yl (v/128) (by omega);omega
         have:=hq (2*(u+1)/128);omega
     have hz:zz ((runN x xs+1:Nat):Int)=2*(runN x xs+1):=by unfold zz;rw[ag (by omega)];omega
     rw[hz];exact this _
    have h3:=ih (xs.drop (runN x xs)).length (by simp only[c5,eR];omega) (xs.drop (runN x xs)) rfl x;simp only[c5]at h3;omega
theorem Bi (a b:UInt8):b ^^^ (a ^^^ b)=a:=by rw[UInt8.xor_comm,UInt8.xor_assoc,UInt8.xor_self,UInt8.xor_zero]
theorem Ym {a b:UInt8}(h:(a ^^^ b).toNat=0):a=b:=by
 have h0:a ^^^ b=0:=UInt8.toNat_inj.1 (by simpa using h);have:=Bi a b;rw[h0,UInt8.xor_zero]at this;exact this.symm
def mT (p out:List UInt8)(last:UInt8)(rest:List UInt8):Prop:=∃ q,p=out++q∧rest=dA q last∧(out=[]∨∀ y r,q=y::r→y≠last)
theorem mT.start (p:List UInt8):mT p [] 0 (dA p 0):=⟨p,rfl,rfl,.inl rfl⟩
theorem mT.done {p out:List UInt8}{last:UInt8}(h:mT p out last []):p=out:=by
 obtain⟨q,h1,h2,_⟩:=h;cases q with
 | nil=>simpa using h1
 | cons x xs =>
  rw[tx]at h2;have:=di List.length h2;simp at this
theorem mT.next {p out:List UInt8}{last:UInt8}{rest:List UInt8}(h:mT p out last rest)(h0:rest≠[]):∃ (m:Nat) (x:UInt8) (r:List UInt8),rest=aO (zz ((m+1:Nat):Int))++(x ^^^ last)::r ∧
   out.length+(m+1)≤p.length∧(out≠[]→(x ^^^ last).toNat≠0)∧mT p (out++List.replicate (m+1) x) x r:=by
 obtain⟨q,h1,h2,h3⟩:=h;cases q with
 | nil=>rw[wU]at h2;exact absurd h2 h0
 | cons x xs =>
  rw[tx]at h2;have hle:=yN x xs;refine⟨runN x xs,x,_,h2,by rw[h1];simp;omega,λho hz=>?_,xs.drop (runN x xs),?_,rfl,.inr λy r hy=>KY x xs y r hy⟩
  ·rcases h3 with h3 | h3
   ·exact ho h3
   ·exact h3 x xs rfl (Ym hz)
  ·rw[h1,dx]
   congr 1
   rw[List.replicate_succ,← Bh,cons_append,jY]
structure Pk where
 kind:Int
 aV:Int
 to:Int
 id:Int
 first:Int
 da:Int
 frame:Int
 sum:Nat
 al:List UInt8
def nx:Pk:=⟨0,0,0,0,0,0,0,0,[]⟩
def eK (n:Int):Prop:=0≤n∧n≤1000
instance (n:Int):Decidable (eK n):=inferInstanceAs (Decidable (_∧_))
def hY (p:Pk):Prop:=(0≤p.aV∧p.aV≤7)∧(0≤p.to∧p.to≤7)∧p.aV≠p.to∧(0≤p.id∧p.id≤1099511627776) ∧
 ((p.kind=1∧eK p.first∧eK p.da∧eK p.frame∧p.al.length≤32)∨(p.kind=2∧p.first=0∧p.da=0∧p.frame=0∧p.al.length=0∧p.sum=0))
instance (p:Pk):Decidable (hY p):=inferInstanceAs (Decidable (_∧_))
def ml (p:Pk):List UInt8:=eJ p.sum++(aO (zz (p.al.length:Int))++dA p.al 0)
def ny (p:Pk):List UInt8:=if p.kind=1 then aO (zz p.first)++(aO (zz p.da)++(aO (zz p.frame)++ml p)) else []
def ll (p:Pk):List UInt8:=aO (zz p.id)++ny p
def lR (p:Pk):List UInt8:=[UInt8.ofNat p.kind.toNat,UInt8.ofNat p.aV.toNat,UInt8.ofNat p.to.toNat]
def eV (p:Pk):List UInt8:=lR p++ll p
def hZ (p:Pk):List UInt8:=eV p++eJ (gJ (eV p))
def aS (p:Pk):List UInt8:=if hY p then hZ p else []
theorem lS (x:Nat):(eJ x).length=4:=rfl
theorem wV (p:Pk):(hZ p).length=(ll p).length+7:=by
 simp[hZ,eV,lR,lS]
theorem E9 {p:Pk}{bs:List UInt8}(h:hZ p=bs):(bs.drop 3).take (bs.length-7)=ll p:=by
 subst h;rw[wV,yH,hZ];generalize gJ (eV p)=c;rw[eV,dx,List.drop_left' (by rfl),List.take_left' rfl]
theorem Fa {p:Pk}{bs:List UInt8}(h:hZ p=bs):bs[0]?=some (UInt8.ofNat p.kind.toNat)∧bs[1]?=some (UInt8.ofNat p.aV.toNat)∧bs[2]?=some (UInt8.ofNat p.to.toNat):=by
 subst h;exact⟨rfl,rfl,rfl⟩
def Fb (a b c d:Nat):Nat:=((a*256+b)*256+c)*256+d
theorem Fc {x:Nat}(h:x<4294967296):Fb (UInt8.ofNat (x/16777216)).toNat (UInt8.ofNat (x/65536)).toNat (UInt8.ofNat (x/256)).toNat (UInt8.ofNat x).toNat=x:=by
 simp only[UInt8.toNat_ofNat',Fb];omega
theorem KZ {x y:Nat}(hx:x<4294967296)(hy:y<4294967296)(h:eJ x=eJ y):x=y:=by
 simp only[eJ,List.cons.injEq,and_true]at h;obtain⟨h1,h2,h3,h4⟩:=h;have:=Fc hx;rw[h1,h2,h3,h4,Fc hy]at this;exact this.symm
theorem wW {n m:Int}{r s:List UInt8}(h1:-9223372036854775808≤n)(h2:n≤9223372036854775807)(h3:-9223372036854775808≤m)(h4:m≤9223372036854775807)(h:aO (zz n)++r=aO (zz m)++s):n=m∧r=s:=by
 have e:=Bg h1 h2 r;rw[h,Bg h3 h4]at e;obtain⟨e1,e2⟩:zz m=zz n∧_:=by simpa using e
 have:n=m:=by rw[← E6 n,← E6 m,e1]
 subst this;exact⟨rfl,List.append_cancel_left h⟩
theorem K0:∀ (n:Nat) {p q:List UInt8} {l:UInt8},p.length≤n→p.length≤1000000→q.length≤1000000→dA p l=dA q l→p=q
 | n,[],[],_,_,_,_,_=>rfl
 | n,[],y::ys,l,_,_,_,h=>by
  rw[wU,tx]at h;have:=di List.length h;simp at this
 | n,x::xs,[],l,_,_,_,h=>by
  rw[wU,tx]at h;have:=di List.length h;simp at this
 | 0,x::xs,y::ys,l,hn,_,_,_=>by simp at hn
 | n+1,x::xs,y::ys,l,hn,hp,hq,h=>by
  have h1:=yN x xs;have h2:=yN y ys;simp only[eR]at hn hp hq;rw[tx,tx]at h;obtain⟨e1,e2⟩:=wW (by omega) (by omega) (by omega) (by omega) h;rw[List.cons.injEq]at e2;obtain⟨e2,e3⟩:=e2;have Yn:x=y:=by
   have:=Bi x l;rw[e2,Bi]at this;exact this.symm
  subst Yn;have jt:runN x xs=runN x ys:=by omega
  have ts:=K0 n (by simp;omega) (by simp;omega) (by simp;omega) e3
  congr 1
  rw[← jY (runN x xs) xs,Bh,ts,jt,← Bh,jY]
theorem Fe {a b:Int}(E:0≤a∧a<256)(hb:0≤b∧b<256)(h:UInt8.ofNat a.toNat=UInt8.ofNat b.toNat):a=b:=by
 have:=di UInt8.toNat h;simp only[UInt8.toNat_ofNat']at this;omega
theorem Yo {p q:Pk}(hp:hY p)(hq:hY q)(Ff:p.sum<4294967296)(Yp:q.sum<4294967296)(h:hZ p=hZ q):p=q:=by
 have hm:ll p=ll q:=by rw[← E9 (p:=p) rfl,← E9 (p:=q) rfl,h]
 have h0:=Fa (p:=p) rfl;have h1:=Fa (p:=q) rfl;rw[h]at h0;obtain⟨cH,dq,a3⟩:=h0;obtain⟨b1,b2,b3⟩:=h1;rw[b1]at cH;rw[b2]at dq;rw[b3]at a3;obtain⟨f1,t1,wX,i1,k1⟩:=hp;obtain⟨f2,t2,tn,i2,k2⟩:=hq;have Yq:=Fe (by omega) (by omega) (p0 cH);have Yr:=Fe (by omega) (by omega) (p0 dq);have s6:=Fe (by omega) (by omega) (p0 a3);rw[ll,ll]at hm;obtain⟨Ys,hm⟩:=wW (by omega) (by omega) (by omega) (by omega) hm;obtain⟨pk,afN,pt,pi,Yt,p2,afO,afP,afQ⟩:=p;obtain⟨afR,afS,afT,afU,q1,q2,Fg,Fh,K1⟩:=q;simp only at *;subst Yq Yr s6 Ys;rcases k1 with ⟨eu,c2,dI,hV,dJ⟩ | ⟨eu,c2,dI,hV,dJ,oN⟩
 ·rcases k2 with ⟨d1,d2,d3,d4,d5⟩ | ⟨d1,_⟩
  ·unfold eK at c2 dI hV d2 d3 d4;rw[ny,ny,ak eu,ak d1]at hm;simp only at hm;obtain⟨e1,hm⟩:=wW (by omega) (by omega) (by omega) (by omega) hm;obtain⟨e2,hm⟩:=wW (by omega) (by omega) (by omega) (by omega) hm;obtain⟨e3,hm⟩:=wW (by omega) (by omega) (by omega) (by omega) hm;rw[ml,ml]at hm;simp only at hm;obtain⟨jt,hm⟩:=List.append_inj hm rfl;obtain⟨ts,hm⟩:=wW (by omega) (by omega) (by omega) (by omega) hm;have Yu:=K0 _ (bf _) (by omega) (by omega) hm;have Yv:=KZ Ff Yp jt;subst e1 e2 e3 Yu Yv;rfl
  ·omega
 ·rcases k2 with ⟨d1,_⟩ | ⟨d1,d2,d3,d4,d5,d6⟩
  ·omega
  ·have:=g4 dJ;have:=g4 d5;subst c2 dI hV oN d2 d3 d4 d6;simp_all
def ha (bs:List UInt8)(p:Pk):Prop:=hY p∧p.sum<4294967296∧hZ p=bs
open Classical in
noncomputable def ea (bs:List UInt8):Option Pk:=if h:∃ p,ha bs p then some (Classical.choose h) else none
theorem Bj {bs:List UInt8}{p:Pk}(h:ha bs p):ea bs=some p:=by
 have hx:∃ p,ha bs p:=⟨p,h⟩;rw[ea,dif_pos hx];have h2:=Classical.choose_spec hx;rw[Yo h2.1 h.1 h2.2.1 h.2.1 (h2.2.2.trans h.2.2.symm)]
theorem Bk {bs:List UInt8}(h:∀ p,¬ ha bs p):ea bs=none:=by
 rw[ea,dif_neg];exact λ⟨p,hp⟩=>h p hp
theorem Fi {bs:List UInt8}{p:Pk}(h:ea bs=some p):ha bs p:=by
 rw[ea]at h;split at h
 ·rename_i hx;cases h;exact Classical.choose_spec hx
 ·cases h
theorem K2 {p:Pk}(h:hY p)(I:p.sum<4294967296):ea (aS p)=some p:=by
 rw[aS,ak h];exact Bj ⟨h,I,rfl⟩
theorem Fj {bs:List UInt8}{p:Pk}(h0:bs≠[])(I:p.sum<4294967296):ha bs p↔aS p=bs:=by
 unfold ha aS;split
 ·rename_i h;simp[h,I]
 ·rename_i h;simp[h,h0,Ne.symm h0]
theorem K3 {p:Pk}(h:hY p):(ll p).length≤500:=by
 obtain⟨_,_,_,i1,k1⟩:=h;have pl:∀ n:Int,0≤n→n≤1099511627776→(aO (zz n)).length≤10:=λn h0 h1=>qO 9 _ (by
  have:zz n<18446744073709551616:=E7 (by omega) (by omega);have fh:(128:Nat) ^ (9+1)=1180591620717411303424:=by decide
  omega)
 rw[ll,aI];have:=pl p.id i1.1 i1.2;rcases k1 with ⟨eu,c2,dI,hV,dJ⟩ | ⟨eu,_⟩
 ·unfold eK at c2 dI hV;rw[ny,ak eu,ml];simp only[aI,lS];have h1:=pl p.first (by omega) (by omega);have h2:=pl p.da (by omega) (by omega);have h3:=pl p.frame (by omega) (by omega);have h4:=pl p.al.length (by omega) (by omega);have h5:=yO p.al 0;omega
 ·rw[ny,ag (by omega)];simp;omega
end
end Go.Proofs.YteoldcfapaiobaaGreat
