/- The references' runes, titles, programs: the walks. -/
import Derived.Test.YteoldcfapaiobaaGreatH05Vm
import Derived.Test.YteoldcfapaiobaaGreatH04Job
import Derived.Test.YteoldcfapaiobaaGreatH01Row
import Derived.ProofKit
import Derived.Deep.Slices
import Derived.Deep.Strs
import Derived.ChangeSlices
import Derived.ChangeShapes
import Derived.DataShut
import Derived.Test.YteoldcfapaiobaaGreatH03Snap2
import Derived.Laws.StructEq
import Derived.ChangeKeysEq
import Derived.ChangeSame
namespace Go.Proofs.YteoldcfapaiobaaGreat
open Tryz
open List (all_eq_true map_cons eraseIdx_set_eq append_nil ext_getElem? map_take range_succ foldl_append)
open Go.RowKit
set_option linter.unusedVariables false
set_option linter.unusedSimpArgs false
set_option maxRecDepth 10000
set_option synthInstance.maxSize 4000
set_option synthInstance.maxHeartbeats 400000
section
section
variable {W w:World}{L:List SP}{s:ByteArray}{p:Pr}{an:Option Addr}{cO:Nat}
theorem XF (s:ByteArray):s.extract 0 s.size=s:=by simp
theorem XG {s:ByteArray}(h:0<s.size):(s.data.toList==(⟨#[]⟩:ByteArray).data.toList)=false:=by
 rw[l3];intro e;have h2:=dG List.length e;have h3:s.data.toList.length=s.size:=Array.length_toList;rw[h3]at h2;have h4:(⟨#[]⟩:ByteArray).data.toList.length=0:=rfl;omega
theorem Bh {s:ByteArray}{j:Nat}(h:j<s.size):(s[j]'h).toNat=ke s j:=by rw[ke,E1 h]
theorem XH (I:U W w L)(h0:0<s.size):Calls prog 187 #[.string s] w λe V=>e=.returned (.tuple #[.int .i32 (Utf8.decode s 0).1,.int .i64 (Utf8.decode s 0).2])∧U W V L:=by
 obtain⟨b,hb⟩:∃ b,ke s 0=b:=⟨_,rfl⟩;have pq:=E4 s 0;rw[hb]at pq;refine EN func187 ntmps187 rfl rfl λa E=>?_;refine RN 6 E I λa E=>?_;refine SS E (sO E) λa E=>?_;rw[XG h0]at E;refine RN 0 E I λa E=>?_;replace E:=E.aK 10;refine RN 3 E I λa E=>?_;refine SS E (As E underlying9 (by omega)) λa E=>?_;rw[Bh h0,hb]at E;refine RN 5 E I λa E=>?_;refine cc (M:=λa w=>∃ n low r:Nat,E3 b n low r∧Fr a 92 [(0,.string s),(5,.int .i64 n),(6,.int .i32 low),(7,.int .i32 r)]∧U W w L) ?_ ?_
 ·
  refine IF 4 E I (λao a E=>?_) λao a E=>?_
  ·
   refine SX 2 E I (ij (by omega) (by omega)) λa E=>?_;refine RT 2 E I ?_;exact⟨by rw[XC hb (by omega)];rfl,I⟩
  refine BY 4 E I (λbA a E=>?_) λbA a E=>?_
  ·
   refine IF 4 E I (λay a E=>?_) λay a E=>?_
   ·
    refine SX 1 E I (ij (by omega) (by omega)) λa E=>?_;refine RN 1 E I λa E=>?_;obtain⟨r,hr⟩:∃ r,b=192+r:=⟨b-192,by omega⟩;rw[show IntKind.i32.wrap ((b:Int)-192)=(r:Nat) from by rw[ij (by omega) (by omega)];omega]at E;refine RN 3 E I λa E=>?_;exact⟨2,128,r,.inl ⟨hr,by omega,rfl,rfl⟩,E.ab [0,5,6,7],I⟩
   refine BY 4 E I (λbA a E=>?_) λbA a E=>?_
   ·
    refine IF 4 E I (λbj a E=>?_) λbj a E=>?_
    ·
     refine SX 1 E I (ij (by omega) (by omega)) λa E=>?_;refine RN 1 E I λa E=>?_;obtain⟨r,hr⟩:∃ r,b=224+r:=⟨b-224,by omega⟩;rw[show IntKind.i32.wrap ((b:Int)-224)=(r:Nat) from by rw[ij (by omega) (by omega)];omega]at E;refine RN 3 E I λa E=>?_;exact⟨3,2048,r,.inr (.inl ⟨hr,by omega,rfl,rfl⟩),E.ab [0,5,6,7],I⟩
    refine BY 4 E I (λbA a E=>?_) λbA a E=>?_
    ·
     refine IF 4 E I (λbO a E=>?_) λbO a E=>?_
     ·
      refine SX 1 E I (ij (by omega) (by omega)) λa E=>?_;refine RN 1 E I λa E=>?_;obtain⟨r,hr⟩:∃ r,b=240+r:=⟨b-240,by omega⟩;rw[show IntKind.i32.wrap ((b:Int)-240)=(r:Nat) from by rw[ij (by omega) (by omega)];omega]at E;refine RN 3 E I λa E=>?_;exact⟨4,65536,r,.inr (.inr ⟨hr,by omega,rfl,rfl⟩),E.ab [0,5,6,7],I⟩
     refine RT 3 E I ?_;exact⟨by rw[tl hb (by omega) (by omega)];rfl,I⟩
    refine RT 8 E I ?_;exact⟨by rw[tl hb (by omega) (by omega)];rfl,I⟩
   refine BY 9 E I (λbA a E=>?_) λbA a E=>?_
   ·
    refine IF 4 E I (λbO a E=>?_) λbO a E=>?_
    ·
     refine SX 1 E I (ij (by omega) (by omega)) λa E=>?_;refine RN 1 E I λa E=>?_;obtain⟨r,hr⟩:∃ r,b=240+r:=⟨b-240,by omega⟩;rw[show IntKind.i32.wrap ((b:Int)-240)=(r:Nat) from by rw[ij (by omega) (by omega)];omega]at E;refine RN 3 E I λa E=>?_;exact⟨4,65536,r,.inr (.inr ⟨hr,by omega,rfl,rfl⟩),E.ab [0,5,6,7],I⟩
    refine RT 3 E I ?_;exact⟨by rw[tl hb (by omega) (by omega)];rfl,I⟩
   refine RT 8 E I ?_;exact⟨by rw[tl hb (by omega) (by omega)];rfl,I⟩
  refine BY 9 E I (λbA a E=>?_) λbA a E=>?_
  ·
   refine IF 4 E I (λbj a E=>?_) λbj a E=>?_
   ·
    refine SX 1 E I (ij (by omega) (by omega)) λa E=>?_;refine RN 1 E I λa E=>?_;obtain⟨r,hr⟩:∃ r,b=224+r:=⟨b-224,by omega⟩;rw[show IntKind.i32.wrap ((b:Int)-224)=(r:Nat) from by rw[ij (by omega) (by omega)];omega]at E;refine RN 3 E I λa E=>?_;exact⟨3,2048,r,.inr (.inl ⟨hr,by omega,rfl,rfl⟩),E.ab [0,5,6,7],I⟩
   refine BY 4 E I (λbA a E=>?_) λbA a E=>?_
   ·
    refine IF 4 E I (λbO a E=>?_) λbO a E=>?_
    ·
     refine SX 1 E I (ij (by omega) (by omega)) λa E=>?_;refine RN 1 E I λa E=>?_;obtain⟨r,hr⟩:∃ r,b=240+r:=⟨b-240,by omega⟩;rw[show IntKind.i32.wrap ((b:Int)-240)=(r:Nat) from by rw[ij (by omega) (by omega)];omega]at E;refine RN 3 E I λa E=>?_;exact⟨4,65536,r,.inr (.inr ⟨hr,by omega,rfl,rfl⟩),E.ab [0,5,6,7],I⟩
    refine RT 3 E I ?_;exact⟨by rw[tl hb (by omega) (by omega)];rfl,I⟩
   refine RT 8 E I ?_;exact⟨by rw[tl hb (by omega) (by omega)];rfl,I⟩
  refine BY 9 E I (λbA a E=>?_) λbA a E=>?_
  ·
   refine IF 4 E I (λbO a E=>?_) λbO a E=>?_
   ·
    refine SX 1 E I (ij (by omega) (by omega)) λa E=>?_;refine RN 1 E I λa E=>?_;obtain⟨r,hr⟩:∃ r,b=240+r:=⟨b-240,by omega⟩;rw[show IntKind.i32.wrap ((b:Int)-240)=(r:Nat) from by rw[ij (by omega) (by omega)];omega]at E;refine RN 3 E I λa E=>?_;exact⟨4,65536,r,.inr (.inr ⟨hr,by omega,rfl,rfl⟩),E.ab [0,5,6,7],I⟩
   refine RT 3 E I ?_;exact⟨by rw[tl hb (by omega) (by omega)];rfl,I⟩
  refine RT 8 E I ?_;exact⟨by rw[tl hb (by omega) (by omega)];rfl,I⟩
 clear E;(try clear I);rintro a w ⟨n,low,r,hd,E,I⟩;refine RN 2 E I λa E=>?_;have pP:2≤n∧n≤4∧r<32:=by rcases hd with h | h | h <;> omega
 refine IF 4 E I (λeZ a E=>?_) λeZ a E=>?_
 ·
  refine RT 3 E I ?_;exact⟨by rw[E6 hb hd (.inl (by omega))];rfl,I⟩
 refine RN 3 E I λa E=>?_;refine aQ (λμ a w=>∃ (j:Nat),(μ=n-j∧j+1≤n∧∀ k,1≤k→k<j+1→ke s k/64=2)∧Fr a 92 [(0,.string s),(5,.int .i64 n),(6,.int .i32 low),(7,.int .i32 (gl s r j:Nat)),(8,.int .i64 ((j+1:Nat):Int))]∧U W w L) (n) (⟨0,⟨by simp,by omega,λk h1 h2=>by omega⟩,E.ab [0,5,6,7,8],I⟩) ?_;clear E I;rintro μ a w ⟨j,⟨rfl,hj,hX⟩,E,I⟩;refine IF 5 E I (λnf a E=>?_) λnf a E=>?_
 ·
  refine RN 3 E I λa E=>?_;have tn:j+1<s.size:=by omega
  have hbj:=E4 s (j+1);refine RN 2 E I λa E=>?_;refine SS E (As E underlying9 (by omega)) λa E=>?_;rw[Bh tn]at E;refine BY 2 E I (λdk a E=>?_) λdk a E=>?_
  ·
   refine RT 9 E I ?_;exact⟨by rw[E6 hb hd (.inr ⟨j+1,by omega,by omega,by omega⟩)];rfl,I⟩
  refine RN 2 E I λa E=>?_;refine bu E (cu E rfl (s:=61)) (As E underlying9 (by omega)) rfl λa E=>?_;rw[Bh tn]at E;refine IF 2 E I (λmM a E=>?_) λmM a E=>?_
  ·
   refine RT 3 E I ?_;exact⟨by rw[E6 hb hd (.inr ⟨j+1,by omega,by omega,by omega⟩)];rfl,I⟩
  refine RN 0 E I λa E=>?_;have cm:=E5 (s:=s) pP.2.2 j;have oT:(64:Nat) ^ j≤64 ^ 2:=Nat.pow_le_pow_right (by omega) (by omega);refine RN 2 E I λa E=>?_;rw[ij (by omega) (by omega)]at E;refine RN 2 E I λa E=>?_;refine SS E (As E underlying9 (by omega)) λa E=>?_;rw[Bh tn]at E;refine SX 0 E I (ij (by omega) (by omega)) λa E=>?_;refine RN 1 E I λa E=>?_;rw[ij (by omega) (by omega)]at E;refine RN 1 E I λa E=>?_;rw[show IntKind.i32.wrap ((gl s r j:Nat)*64+(ke s (j+1):Nat)-128:Int)=(gl s r (j+1):Nat) from by rw[ij (by omega) (by omega),gl];omega]at E;refine RN 4 E I λa E=>?_;refine⟨n-(j+1),by omega,j+1,⟨rfl,by omega,λk h1 h2=>?_⟩,E.ab [0,5,6,7,8],I⟩;rcases gE k (j+1) with h3 | h3
  ·exact hX k h1 h3
  ·obtain rfl:k=j+1:=by omega
   omega
 refine RN 2 E I λa E=>?_;obtain rfl:n=j+1:=by omega
 have pJ:=XD hb hd (by omega) hX;simp only[Be,yS]at pJ;refine BY 4 E I (λbE a E=>?_) λbE a E=>?_
 ·
  refine RT 15 E I ?_;exact⟨by rw[pJ.1 (by omega)];rfl,I⟩
 refine BY 4 E I (λiN a E=>?_) λiN a E=>?_
 ·
  refine RT 11 E I ?_;exact⟨by rw[pJ.1 (by omega)];rfl,I⟩
 refine BY 3 E I (λl5 a E=>?_) λl5 a E=>?_
 ·
  refine IF 4 E I (λmN a E=>?_) λmN a E=>?_
  ·
   refine RT 3 E I ?_;exact⟨by rw[pJ.1 (by omega)];rfl,I⟩
  refine RT 5 E I ?_;exact⟨by rw[pJ.2 (by omega)],I⟩
 refine RT 10 E I ?_;exact⟨by rw[pJ.2 (by omega)],I⟩
def RI (l:List (Nat×Nat)):List Value:=l.map λx=>.int .i32 x.1
theorem KL (I:U W w L)(aE:s.size≤1000000000):Calls prog 148 #[.string s] w λe V=>∃ ad c,e=.returned (.tuple #[.slice ad (ei s 0).length c,.bool ((ei s 0).all mI)]) ∧
   U W V (Sl 21 1 ad (ei s 0).length c (RI (ei s 0))::L):=by
 refine EN func148 ntmps148 rfl rfl λa E=>?_;refine RN 6 E I λa E=>?_;replace I:=I.bR 21 1 none;refine RN 2 E I λa E=>?_;refine aQ (λμ a w=>∃ (pos:Nat) (dn:List (Nat×Nat)) (ad:Option Addr) (c:Nat),(μ=s.size-pos∧pos≤s.size∧dn.length≤pos∧ei s 0=dn++ei s pos)∧Fr a 34 [(0,.string (s.extract pos s.size)),(4,.slice ad dn.length c),(5,.bool (dn.all mI))]∧U W w (Sl 21 1 ad dn.length c (RI dn)::L)) (s.size) (⟨0,[],none,0,⟨by simp,by omega,by simp,rfl⟩,by rw[XF];exact E.ab [0,4,5],I⟩) ?_;clear E I;rintro μ a w ⟨pos,dn,ad,c,⟨rfl,hp,mL,c7⟩,E,I⟩;refine RN 4 E I λa E=>?_;rw[rS]at E;refine IF 1 E I (λaj a E=>?_) λaj a E=>?_
 ·
  have gH:pos<s.size:=by omega
  have nc:=rK gH;have hdp:=uK s pos;have hdi:=J4 s pos gH;have E7:ee s pos=pos+(Utf8.decode s pos).2:=by rw[ee,ak gH]
  refine CL 2 E I (XH I (by rw[rS];omega)) λa w E I=>?_;rw[XB]at E;refine RN 8 E I λa E=>?_;refine cn E rfl I underlying270 Ty.t21 rfl rfl rfl rfl (by decide) (by decide) λtp a w E I ho=>?_;clear ho;refine RN 0 E I λa E=>?_;refine cK E rfl I underlying270 Ty.t21 rfl rfl I.ai rfl (by simp[Value.oneCell']) (by decide) (by decide) (by omega) λBi Bj a w E I=>?_;refine RN 1 E I λa E=>?_;have pQ:U W w (Sl 21 1 Bi (dn++[Utf8.decode s pos]).length Bj (RI (dn++[Utf8.decode s pos]))::L):=by
   have e1:(dn++[Utf8.decode s pos]).length=dn.length+1:=by simp
   have e2:RI (dn++[Utf8.decode s pos])=RI dn++[.int .i32 (Utf8.decode s pos).1]:=by simp[RI]
   rw[e1,e2];change U W w (Sl 21 1 Bi (dn.length+1) Bj (RI dn++[.int .i32 (Utf8.decode s pos).1])::_) at I;exact I.sub
  replace I:=pQ;clear pQ;refine RN 1 E I λa E=>?_;have qM:(dn++[Utf8.decode s pos]).all mI=(dn.all mI&&Bf (Utf8.decode s pos)):=by rw[XE];simp
  simp only[Bf]at qM;refine BY 2 E I (λnh a E=>?_) λnh a E=>?_
  ·
   refine BY 3 E I (λdk a E=>?_) λdk a E=>?_
   ·
    refine RN 5 E I λa E=>?_;rw[nh,ak (by omega)]at qM;refine RN 2 E I λa E=>?_;refine SS E (DS E underlying9 (by rw[rS];omega)) λa E=>?_;rw[E2,← E7]at E;refine RN 1 E I λa E=>?_;have yT:(dn++[Utf8.decode s pos]).length=dn.length+1:=by simp
    refine⟨s.size-ee s pos,by omega,ee s pos,dn++[Utf8.decode s pos],_,_,⟨rfl,by omega,by omega,by rw[c7,nc,dA];rfl⟩,?_,I⟩;rw[yT,qM];exact E.ab [0,4,5]
   refine RN 5 E I λa E=>?_;rw[nh,ag (by omega),Bool.true_and,show decide ((Utf8.decode s pos).2=3)=decide (((Utf8.decode s pos).2:Int)=3) from decide_eq_decide.2 (by omega)]at qM;refine RN 2 E I λa E=>?_;refine SS E (DS E underlying9 (by rw[rS];omega)) λa E=>?_;rw[E2,← E7]at E;refine RN 1 E I λa E=>?_;have yT:(dn++[Utf8.decode s pos]).length=dn.length+1:=by simp
   refine⟨s.size-ee s pos,by omega,ee s pos,dn++[Utf8.decode s pos],_,_,⟨rfl,by omega,by omega,by rw[c7,nc,dA];rfl⟩,?_,I⟩;rw[yT,qM];exact E.ab [0,4,5]
  refine RN 8 E I λa E=>?_;rw[nh,Bool.false_and]at qM;refine RN 2 E I λa E=>?_;refine SS E (DS E underlying9 (by rw[rS];omega)) λa E=>?_;rw[E2,← E7]at E;refine RN 1 E I λa E=>?_;have yT:(dn++[Utf8.decode s pos]).length=dn.length+1:=by simp
  refine⟨s.size-ee s pos,by omega,ee s pos,dn++[Utf8.decode s pos],_,_,⟨rfl,by omega,by omega,by rw[c7,nc,dA];rfl⟩,?_,I⟩;rw[yT,qM];exact E.ab [0,4,5]
 refine RT 5 E I ?_;obtain rfl:pos=s.size:=by omega
 have l9:=rL (s:=s) (pos:=s.size) (by omega);rw[l9,append_nil]at c7;rw[c7];exact⟨_,_,rfl,I.sub⟩
theorem KM {l:List (Nat×Nat)}{i:Nat}{x:Nat×Nat}(h:l[i]?=some x):(RI l)[i]?=some (.int .i32 x.1):=by rw[RI,bm,h];rfl
theorem XI (I:U W w L)(aE:s.size≤1000000000):Calls prog 107 #[.string s] w λe V=>e=.returned (.bool (pK s))∧U W V L:=by
 have oK:pK s=(decide (1≤(ei s 0).length)&&decide ((ei s 0).length≤20)&&(ei s 0).all kH&&(ei s 0).all mI):=rfl;have ia:=V1 s s.size 0 (by omega);refine EN func107 ntmps107 rfl rfl λa E=>?_;refine aX 4 E I (KL I aE) λad c a w E I=>?_;generalize (ei s 0)=l at E I oK ia;refine BY 10 E I (λbA a E=>?_) λbA a E=>?_
 ·
  refine RT 12 E I ?_;exact⟨by rw[oK,bA,Bool.and_false],I.sub⟩
 refine BY 5 E I (λiN a E=>?_) λiN a E=>?_
 ·
  refine RT 7 E I ?_;exact⟨by rw[oK,bn (by omega)];simp,I.sub⟩
 refine IF 4 E I (λaj a E=>?_) λaj a E=>?_
 ·
  refine RT 2 E I ?_;exact⟨by rw[oK,bn (p:=l.length≤20) (by omega)];simp,I.sub⟩
 refine RN 3 E I λa E=>?_;refine aQ (λμ a w=>∃ i:Nat,(μ=l.length-i∧i≤l.length∧∀ j x,j<i→l[j]?=some x→kH x=true)∧Fr a 41 [(3,.slice ad l.length c),(5,.int .i64 i)]∧U W w (Sl 21 1 ad l.length c (RI l)::L)) (l.length) (⟨0,⟨by simp,by simp,λj x h=>absurd h (by omega)⟩,E.ab [3,5],I⟩) ?_;clear E I;rintro μ a w ⟨i,⟨rfl,hi,cF⟩,E,I⟩;refine IF 6 E I (λao a E=>?_) λao a E=>?_
 ·
  obtain⟨b,o,rfl,dh⟩:=I.bY ad (by omega);obtain⟨x,hx⟩:∃ x,l[i]?=some x:=⟨_,aD (by omega)⟩;have kD:=dh i _ (KM hx);refine RN 5 E I λa E=>?_;refine SS E (ae E (kD)) λa E=>?_;refine BY 2 E I (λjg a E=>?_) λjg a E=>?_
  ·
   refine RT 9 E I ?_;refine⟨?_,I.sub⟩;have pR:kH x=false:=by
    simp only[kH,Bool.and_eq_false_iff,rO];omega
   have hX:l.all kH=false:=by rw[List.all_eq_false];exact⟨x,bH hx,by rw[pR];decide⟩
   rw[oK,hX];simp
  refine RN 3 E I λa E=>?_;refine bu E (cu E rfl (s:=34)) (ae E (kD)) rfl λa E=>?_;refine IF 2 E I (λay a E=>?_) λay a E=>?_
  ·
   refine RT 2 E I ?_;refine⟨?_,I.sub⟩;have pR:kH x=false:=by
    simp only[kH,Bool.and_eq_false_iff,rO];omega
   have hX:l.all kH=false:=by rw[List.all_eq_false];exact⟨x,bH hx,by rw[pR];decide⟩
   rw[oK,hX];simp
  refine RN 3 E I λa E=>?_;refine⟨l.length-(i+1),by omega,i+1,⟨rfl,by omega,λj y hj hy=>?_⟩,E.ab [3,5],I.sub⟩;rcases gE j i with h | h
  ·exact cF j y h hy
  ·obtain rfl:j=i:=by omega
   rw[hx]at hy;cases hy;simp only[kH,fL,qs];omega
 refine RT 2 E I ?_;refine⟨?_,I.sub⟩;have hX:l.all kH=true:=by
  rw[all_eq_true];intro x hx;obtain⟨j,hj⟩:=j5.1 hx;exact cF j x (by have:=(aZ.1 hj).1;omega) hj
 rw[oK,hX,bA,dp (p:=1≤l.length) (by omega),dp (p:=l.length≤20) (by omega)];rfl
theorem Bk {x:Int}(I:U W w L):Calls prog 108 #[.int .i64 x] w λe V=>∃ r:Bool,e=.returned (.bool r)∧(r=true↔du x)∧U W V L:=by
 simp only[du];refine EN func108 ntmps108 rfl rfl λa E=>?_;refine BY 6 E I (λbA a E=>?_) λbA a E=>?_
 ·
  refine RT 4 E I ?_;exact⟨_,rfl,by rw[ct];omega,I⟩
 refine RT 4 E I ?_;exact⟨_,rfl,⟨λh=>(by cases h),λh=>by omega⟩,I⟩
theorem XJ {p:Pr}(I:U W w (az W p an cO::L))(aE:p.title.size≤1000000000)(dO:p.ops.length≤1000000000) :
   Calls prog 68 #[.agg (bx p an cO).toArray] w λe V=>∃ r:Bool,e=.returned (.bool r)∧(r=true↔wE p)∧U W V (az W p an cO::L):=by
 refine EN func68 ntmps68 rfl rfl λa E=>?_;refine BX 1 E I λb1 a w E I=>?_;change U W w (aa b1 45 (bx p an cO)::_) at I;refine CL 5 E I (XI I aE) λa w E I=>?_;refine BY 2 E I (λdk a E=>?_) λdk a E=>?_
 ·
  refine RT 14 E I ?_;exact⟨false,rfl,⟨λh=>(by cases h),λh=>by rw[h.1]at dk;cases dk⟩,I.sub⟩
 have XK:pK p.title=true:=by simpa using dk
 refine BY 6 E I (λl5 a E=>?_) λl5 a E=>?_
 ·
  refine RT 8 E I ?_;exact⟨false,rfl,⟨λh=>(by cases h),λh=>by have:=h.2.1;omega⟩,I.sub⟩
 refine IF 5 E I (λaj a E=>?_) λaj a E=>?_
 ·
  refine RT 2 E I ?_;exact⟨false,rfl,⟨λh=>(by cases h),λh=>by have:=h.2.2.1;omega⟩,I.sub⟩
 refine RN 3 E I λa E=>?_;refine aQ (λμ a w=>∃ i:Nat,(μ=p.ops.length-i∧i≤p.ops.length∧∀ j o,j<i→p.ops[j]?=some o→rM o)∧Fr a 55 [(1,pt b1),(3,.int .i64 i)]∧U W w (aa b1 45 (bx p an cO)::az W p an cO::L)) (p.ops.length) (⟨0,⟨by simp,by simp,λj o h=>absurd h (by omega)⟩,E.ab [1,3],I.sub⟩) ?_;clear E I;rintro μ a w ⟨i,⟨rfl,hi,cF⟩,E,I⟩;refine IF 7 E I (λao a E=>?_) λao a E=>?_
 ·
  obtain⟨o,ho⟩:∃ o,p.ops[i]?=some o:=⟨_,aD (by omega)⟩;obtain⟨kZ,oo,rfl,gI⟩:=I.rN an (by omega);refine RN 6 E I λa E=>?_;refine SS E (bQ E underlying114 rfl Ty.t114 (wF gI ho)) λa E=>?_;refine AL 0 E I λb4 a w E I=>?_;refine SA 0 E I λa w E I=>?_;refine aW 3 E I (Bk I) λr1 a w E ⟨eB,I⟩=>?_;refine BY 2 E I (λdk a E=>?_) λdk a E=>?_
  ·
   have j8:¬ rM o:=λh=>by rw[eB.2 h.1]at dk;cases dk
   refine RT 20 E I ?_;exact⟨false,rfl,⟨λh=>(by cases h),λh=>absurd (h.2.2.2 o (bH ho)) j8⟩,I.sub⟩
  refine aW 2 E I (Bk I) λr2 a w E ⟨eg,I⟩=>?_;refine BY 3 E I (λl5 a E=>?_) λl5 a E=>?_
  ·
   have j8:¬ rM o:=λh=>by rw[eg.2 h.2.1]at l5;cases l5
   refine RT 14 E I ?_;exact⟨false,rfl,⟨λh=>(by cases h),λh=>absurd (h.2.2.2 o (bH ho)) j8⟩,I.sub⟩
  refine aW 2 E I (Bk I) λr3 a w E ⟨g2,I⟩=>?_;refine BY 3 E I (λuV a E=>?_) λuV a E=>?_
  ·
   have j8:¬ rM o:=λh=>by rw[g2.2 h.2.2.1]at uV;cases uV
   refine RT 8 E I ?_;exact⟨false,rfl,⟨λh=>(by cases h),λh=>absurd (h.2.2.2 o (bH ho)) j8⟩,I.sub⟩
  refine aW 2 E I (Bk I) λKN a w E ⟨lj,I⟩=>?_;refine IF 2 E I (λay a E=>?_) λay a E=>?_
  ·
   have j8:¬ rM o:=λh=>by rw[lj.2 h.2.2.2]at ay;cases ay
   refine RT 2 E I ?_;exact⟨false,rfl,⟨λh=>(by cases h),λh=>absurd (h.2.2.2 o (bH ho)) j8⟩,I.sub⟩
  have E8:rM o:=⟨eB.1 (by simpa using dk),eg.1 (by simpa using l5),g2.1 (by simpa using uV),lj.1 (by simpa using ay)⟩;refine RN 3 E I λa E=>?_;refine⟨p.ops.length-(i+1),by omega,i+1,⟨rfl,by omega,λj o' hj ku=>?_⟩,E.ab [1,3],I.sub⟩;rcases gE j i with h | h
  ·exact cF j o' h ku
  ·obtain rfl:j=i:=by omega
   rw[ho]at ku;cases ku;exact E8
 refine RT 2 E I ?_;refine⟨true,rfl,⟨λ_=>⟨XK,by omega,by omega,λo ho=>?_⟩,λ_=>rfl⟩,I.sub⟩;obtain⟨j,hj⟩:=j5.1 ho;exact cF j o (by have:=(aZ.1 hj).1;omega) hj
theorem XL:∀ m:Nat,m≤15→(([[.int .i64 0],[.int .i64 2],[.int .i64 2],[.int .i64 3],[.int .i64 3],[.int .i64 3],[.int .i64 3],[.int .i64 3],[.int .i64 3],[.int .i64 1],[.int .i64 2],[.int .i64 2],[.int .i64 2],[.int .i64 2],[.int .i64 2],[.int .i64 1]].flatten:List Value))[m]?=some (.int .i64 (wR (m:Int)))
 | 0,_=>rfl
 | 1,_=>rfl
 | 2,_=>rfl
 | 3,_=>rfl
 | 4,_=>rfl
 | 5,_=>rfl
 | 6,_=>rfl
 | 7,_=>rfl
 | 8,_=>rfl
 | 9,_=>rfl
 | 10,_=>rfl
 | 11,_=>rfl
 | 12,_=>rfl
 | 13,_=>rfl
 | 14,_=>rfl
 | 15,_=>rfl
 | n+16,h=>absurd h (by omega)
theorem XM {k:Int}(I:U W w L)(hk:0≤k∧k≤15):Calls prog 109 #[.int .i64 k] w λe V=>e=.returned (.int .i64 (wR k))∧U W V L:=by
 obtain⟨m,rfl⟩:∃ m:Nat,k=m:=⟨k.toNat,by omega⟩;have hm:m≤15:=by omega
 refine EN func109 ntmps109 rfl rfl λa E=>?_;refine RN 3 E I λa E=>?_;refine cn E rfl I underlying53 Ty.t3 rfl rfl rfl rfl (by decide) (by decide) λb4 a w E I ho=>?_;clear ho;refine RN 5 E I λa E=>?_;refine SS E (ae E ((I.bz (XL m hm)))) λa E=>?_;refine RT 1 E I ?_;exact⟨rfl,I.sub⟩
theorem KO {o:fZ}:∀ k:Nat,k<3→([[.int .i64 o.a],[.int .i64 o.b],[.int .i64 o.c]].flatten:List Value)[k]?=some (.int .i64 (Bg o k))
 | 0,_=>rfl
 | 1,_=>rfl
 | 2,_=>rfl
 | n+3,h=>absurd h (by omega)
theorem XN {n:Nat}{o:fZ}(I:U W w L):Calls prog 69 #[.agg (c6 o).toArray,.int .i64 n] w λe V=>∃ r:Bool,e=.returned (.bool r)∧(r=true↔e9 n o)∧U W V L:=by
 refine EN func69 ntmps69 rfl rfl λa E=>?_;refine BX 1 E I λb2 a w E I=>?_;change U W w (aa b2 114 (c6 o)::_) at I;refine BY 7 E I (λbE a E=>?_) λbE a E=>?_
 ·
  refine RT 7 E I ?_;exact⟨false,rfl,⟨λh=>(by cases h),λh=>by have:=(yR.1 h).1;omega⟩,I.sub⟩
 refine IF 4 E I (λaj a E=>?_) λaj a E=>?_
 ·
  refine RT 2 E I ?_;exact⟨false,rfl,⟨λh=>(by cases h),λh=>by have:=(yR.1 h).1;omega⟩,I.sub⟩
 refine RN 7 E I λa E=>?_;refine cn E rfl I underlying53 Ty.t3 rfl rfl rfl rfl (by decide) (by decide) λuW a w E I ho=>?_;clear ho;refine RN 4 E I λa E=>?_;refine aQ (λμ a w=>∃ k:Nat,(μ=3-k∧k≤3∧∀ j,j<k→rT n o j)∧Fr a 68 [(1,.int .i64 n),(2,pt b2),(5,.slice (some ⟨uW,0,none⟩) 3 3),(6,.int .i64 k)]∧U W w (aa uW 3 [[.int .i64 o.a],[.int .i64 o.b],[.int .i64 o.c]].flatten::aa b2 114 (c6 o)::L)) (3) (⟨0,⟨by simp,by simp,λj h=>absurd h (by omega)⟩,E.ab [1,2,5,6],I.sub⟩) ?_;clear E I;rintro μ a w ⟨k,⟨rfl,hk,cF⟩,E,I⟩;refine IF 4 E I (λao a E=>?_) λao a E=>?_
 ·
  refine RN 3 E I λa E=>?_;refine cc (M:=λa w=>(wR o.code≤k∨¬ (o.code=1∧k=1))∧Fr a 68 [(1,.int .i64 n),(2,pt b2),(5,.slice (some ⟨uW,0,none⟩) 3 3),(6,.int .i64 k),(7,.int .i64 (kf n o k))]∧U W w (aa uW 3 [[.int .i64 o.a],[.int .i64 o.b],[.int .i64 o.c]].flatten::aa b2 114 (c6 o)::L)) ?_ ?_
  ·
   refine CL 4 E I (XM I (by omega)) λa w E I=>?_;refine IF 2 E I (λay a E=>?_) λay a E=>?_
   ·
    refine RN 1 E I λa E=>?_;refine⟨.inl (by omega),?_,I.sub⟩;rw[show kf n o k=0 from ak (by omega)];exact E.ab [1,2,5,6,7]
   refine BY 5 E I (λbE a E=>?_) λbE a E=>?_
   ·
    refine IF 4 E I (λbj a E=>?_) λbj a E=>?_
    ·
     refine RN 3 E I λa E=>?_;refine⟨3-(k+1),by omega,k+1,⟨rfl,by omega,λj hj=>?_⟩,E.ab [1,2,5,6],I.sub⟩;rcases gE j k with h | h
     ·exact cF j h
     ·obtain rfl:j=k:=by omega
      exact .inl ⟨by omega,by omega,by omega⟩
    refine BY 5 E I (λbE a E=>?_) λbE a E=>?_
    ·
     refine RN 12 E I λa E=>?_;refine⟨.inr (by omega),?_,I.sub⟩;rw[show kf n o k=n from by rw[kf,ag (by omega),ak (by omega)]];exact E.ab [1,2,5,6,7]
    refine BY 4 E I (λiN a E=>?_) λiN a E=>?_
    ·
     refine IF 5 E I (λbO a E=>?_) λbO a E=>?_
     ·
      refine RN 2 E I λa E=>?_;refine⟨.inr (by omega),?_,I.sub⟩;rw[show kf n o k=n from by rw[kf,ag (by omega),ak (by omega)]];exact E.ab [1,2,5,6,7]
     refine RN 0 E I λa E=>?_;refine⟨.inr (by omega),?_,I.sub⟩;rw[show kf n o k=31 from by rw[kf,ag (by omega),ag (by omega)]];exact E.ab [1,2,5,6,7]
    refine RN 6 E I λa E=>?_;refine⟨.inr (by omega),?_,I.sub⟩;rw[show kf n o k=31 from by rw[kf,ag (by omega),ag (by omega)]];exact E.ab [1,2,5,6,7]
   refine BY 10 E I (λbE a E=>?_) λbE a E=>?_
   ·
    refine RN 12 E I λa E=>?_;refine⟨.inr (by omega),?_,I.sub⟩;rw[show kf n o k=n from by rw[kf,ag (by omega),ak (by omega)]];exact E.ab [1,2,5,6,7]
   refine BY 4 E I (λiN a E=>?_) λiN a E=>?_
   ·
    refine IF 5 E I (λbO a E=>?_) λbO a E=>?_
    ·
     refine RN 2 E I λa E=>?_;refine⟨.inr (by omega),?_,I.sub⟩;rw[show kf n o k=n from by rw[kf,ag (by omega),ak (by omega)]];exact E.ab [1,2,5,6,7]
    refine RN 0 E I λa E=>?_;refine⟨.inr (by omega),?_,I.sub⟩;rw[show kf n o k=31 from by rw[kf,ag (by omega),ag (by omega)]];exact E.ab [1,2,5,6,7]
   refine RN 6 E I λa E=>?_;refine⟨.inr (by omega),?_,I.sub⟩;rw[show kf n o k=31 from by rw[kf,ag (by omega),ag (by omega)]];exact E.ab [1,2,5,6,7]
  clear E;(try clear I);rintro a w ⟨AF,E,I⟩;refine RN 4 E I λa E=>?_;refine SS E (ae E ((I.bz (KO k (by omega))))) λa E=>?_;refine BY 2 E I (λjg a E=>?_) λjg a E=>?_
  ·
   refine RT 10 E I ?_;refine⟨false,rfl,⟨λh=>(by cases h),λh=>?_⟩,I.sub⟩;have ca:rT n o k:=by
    obtain⟨_,h0,h1,h2⟩:=yR.1 h;rcases (by omega:k=0∨k=1∨k=2) with rfl | rfl | rfl
    ·exact h0
    ·exact h1
    ·exact h2
   simp only[rT]at ca;omega
  refine RN 3 E I λa E=>?_;refine bu E (cu E rfl (s:=60)) (ae E ((I.bz (KO k (by omega))))) rfl λa E=>?_;refine IF 3 E I (λeZ a E=>?_) λeZ a E=>?_
  ·
   refine RT 2 E I ?_;refine⟨false,rfl,⟨λh=>(by cases h),λh=>?_⟩,I.sub⟩;have ca:rT n o k:=by
    obtain⟨_,h0,h1,h2⟩:=yR.1 h;rcases (by omega:k=0∨k=1∨k=2) with rfl | rfl | rfl
    ·exact h0
    ·exact h1
    ·exact h2
   simp only[rT]at ca;omega
  refine RN 3 E I λa E=>?_;refine⟨3-(k+1),by omega,k+1,⟨rfl,by omega,λj hj=>?_⟩,E.ab [1,2,5,6],I.sub⟩;rcases gE j k with h | h
  ·exact cF j h
  ·obtain rfl:j=k:=by omega
   exact .inr ⟨by omega,by omega⟩
 refine RT 2 E I ?_;exact⟨true,rfl,⟨λ_=>yR.2 ⟨by omega,cF 0 (by omega),cF 1 (by omega),cF 2 (by omega)⟩,λ_=>rfl⟩,I.sub⟩
theorem KP {p:Pr}(I:U W w (az W p an cO::L))(aE:p.title.size≤1000000000)(dO:p.ops.length≤1000000000) :
   Calls prog 48 #[.agg (bx p an cO).toArray] w λe V=>∃ r:Int,e=.returned (.int .i64 r)∧(r = -1↔dq p)∧U W V (az W p an cO::L):=by
 refine EN func48 ntmps48 rfl rfl λa E=>?_;refine BX 1 E I λb1 a w E I=>?_;change U W w (aa b1 45 (bx p an cO)::_) at I;refine aW 4 E I (XJ (I.pick (az W p an cO)) aE dO) λr a w E ⟨hr,I⟩=>?_;refine IF 1 E I (λaj a E=>?_) λaj a E=>?_
 ·
  have XO:¬ wE p:=λh=>by rw[hr.2 h]at aj;cases aj
  refine RT 2 E I ?_;exact⟨-2,rfl,⟨λh=>absurd h (by decide),λh=>absurd h.1 XO⟩,I.sub⟩
 have l7:wE p:=hr.1 (by simpa using aj);refine RN 3 E I λa E=>?_;refine aQ (λμ a w=>∃ i:Nat,(μ=p.ops.length-i∧i≤p.ops.length∧∀ j o,j<i→p.ops[j]?=some o→e9 p.ops.length o)∧Fr a 25 [(1,pt b1),(3,.int .i64 i)]∧U W w (aa b1 45 (bx p an cO)::az W p an cO::L)) (p.ops.length) (⟨0,⟨by simp,by simp,λj o h=>absurd h (by omega)⟩,E.ab [1,3],I.sub⟩) ?_;clear E I;rintro μ a w ⟨i,⟨rfl,hi,cF⟩,E,I⟩;refine IF 7 E I (λao a E=>?_) λao a E=>?_
 ·
  refine RN 2 E I λa E=>?_;obtain⟨o,ho⟩:∃ o,p.ops[i]?=some o:=⟨_,aD (by omega)⟩;obtain⟨kZ,oo,rfl,gI⟩:=I.drew.rN an (by omega);have fp:=wF gI ho;refine qy 0 (λV=>Rd V b1 0 (bx p (some ⟨kZ,oo,none⟩) cO)∧Rd V kZ (oo+i*4) (c6 o)) [6,7] [0,2,5,3001,3,3004,1006,1007,1008,9] E I λa E=>?_;replace I:=I.drew;generalize w.drew=w at I fp ⊢;have hC:Rd w b1 0 (bx p (some ⟨kZ,oo,none⟩) cO)∧Rd w kZ (oo+i*4) (c6 o):=⟨I.ai,fp⟩;have hH:=Hd.any (λV=>Rd V b1 0 (bx p (some ⟨kZ,oo,none⟩) cO)∧Rd V kZ (oo+i*4) (c6 o));refine RH 3 E I hH hC λa E=>?_;refine QH E (λw hc=>ae E (hc.1 1 _ rfl)) hC λa E=>?_;refine RH 1 E I hH hC λa E=>?_;refine QH E (λw hc=>bQ E underlying114 rfl Ty.t114 (hc.2)) hC λa E=>?_;refine RH 0 E I hH hC λa E=>?_;refine SS E (ae E (hC.1 1 _ rfl)) λa E=>?_;refine RH 1 E I hH hC λa E=>?_;refine aW 0 E I (XN (n:=p.ops.length) (o:=o) I) λr a w E ⟨hr,I⟩=>?_;refine RN 1 E I λa E=>?_;refine IF 0 E I (λay a E=>?_) λay a E=>?_
  ·
   have b6:¬ e9 p.ops.length o:=λh=>by rw[hr.2 h]at ay;cases ay
   refine RT 3 E I ?_;exact⟨i,rfl,⟨λh=>absurd h (by omega),λh=>absurd (h.2 o (bH ho)) b6⟩,I.sub⟩
  have dj:e9 p.ops.length o:=hr.1 (by simpa using ay);refine RN 3 E I λa E=>?_;refine⟨p.ops.length-(i+1),by omega,i+1,⟨rfl,by omega,λj o' hj ku=>?_⟩,E.ab [1,3],I.sub⟩;rcases gE j i with h | h
  ·exact cF j o' h ku
  ·obtain rfl:j=i:=by omega
   rw[ho]at ku;cases ku;exact dj
 refine RT 2 E I ?_;refine⟨-1,rfl,⟨λ_=>⟨l7,λo ho=>?_⟩,λ_=>rfl⟩,I.sub⟩;obtain⟨j,hj⟩:=j5.1 ho;exact cF j o (by have:=(aZ.1 hj).1;omega) hj
end
end
section
theorem Bl {x y:Int}(h1:-2147483648≤y)(h2:y≤2147483647)(h3:x%4294967296=y%4294967296):ig x=y:=by
 simp only[ig,IntKind.wrap,IntKind.signed,IntKind.bits];simp;split <;> omega
section
variable {W w:World}{L:List SP}{p:Pr}{an adP:Option Addr}{cO cP:Nat}{b:List UInt8}{g:Nat→Int}{fr:Int}
theorem yU {x:Int}(I:U W w L)(h1:-9223372036854775808≤x)(h2:x≤9223372036854775807):Calls prog 151 #[.int .i64 x] w λe V=>e=.returned (.int .i32 (ig x))∧U W V L:=by
 have ma:=Int.tmod_lt_of_pos x (b:=4294967296) (by decide);have il:=Int.lt_tmod_of_pos x (b:=4294967296) (by decide);have yV:(x.tmod 4294967296)%4294967296=x%4294967296:=by
  rw[Int.tmod_eq_emod];split <;> omega
 refine EN func151 ntmps151 rfl rfl λa E=>?_;refine IF 10 E I (λaj a E=>?_) λaj a E=>?_
 ·
  refine IF 7 E I (λao a E=>?_) λao a E=>?_
  ·
   refine SX 5 E I (ij (by omega) (by omega)) λa E=>?_;refine RT 1 E I ?_;exact⟨by rw[Bl (y:=x.tmod 4294967296+4294967296-4294967296) (by omega) (by omega) (by omega)],I⟩
  refine SX 2 E I (ij (by omega) (by omega)) λa E=>?_;refine RT 1 E I ?_;exact⟨by rw[Bl (y:=x.tmod 4294967296+4294967296) (by omega) (by omega) (by omega)],I⟩
 refine IF 4 E I (λao a E=>?_) λao a E=>?_
 ·
  refine SX 5 E I (ij (by omega) (by omega)) λa E=>?_;refine RT 1 E I ?_;exact⟨by rw[Bl (y:=x.tmod 4294967296-4294967296) (by omega) (by omega) (by omega)],I⟩
 refine SX 2 E I (ij (by omega) (by omega)) λa E=>?_;refine RT 1 E I ?_;exact⟨by rw[Bl (y:=x.tmod 4294967296) (by omega) (by omega) (by omega)],I⟩
theorem KQ {x:Int}(I:U W w L)(hx:du x):Calls prog 150 #[.int .i32 x,.int .i64 32] w λe V=>e=.returned (.int .i64 (kI x))∧U W V L:=by
 have h1:=Int.tmod_lt_of_pos x (b:=32) (by decide);have h2:=Int.lt_tmod_of_pos x (b:=32) (by decide);have hm:(kI x:Int)=x%32:=by
  have h1:=Int.emod_nonneg x (show (32:Int)≠0 by decide);show (((x%32).toNat:Nat):Int)=_;omega
 have ht:x.tmod 32=if 0≤x then x%32 else -((-x)%32):=by
  split
  ·exact Int.tmod_eq_emod_of_nonneg (by omega)
  ·rw[← Int.neg_neg (x.tmod 32),← Int.neg_tmod,Int.tmod_eq_emod_of_nonneg (by omega)]
 simp only[du]at hx;refine EN func150 ntmps150 rfl rfl λa E=>?_;refine RN 6 E I λa E=>?_;replace E:=E.aK 7;refine SX 3 E I (fU (by omega) (by omega)) λa E=>?_;refine IF 7 E I (λao a E=>?_) λao a E=>?_
 ·
  refine RN 4 E I λa E=>?_;rw[show x.tmod 32+32=(kI x:Int) from by rw[hm,ht];split <;> omega]at E;refine RT 3 E I ?_;exact⟨rfl,I⟩
 refine RT 3 E I ?_;exact⟨by rw[hm,show x.tmod 32=x%32 from by rw[ht] at *;split at*<;> omega],I⟩
theorem XP {x:Int}(I:U W w L)(hx:du x)(hb:b.length≤1099511627776)(hp:∀ V,U W V L→aL V adP b.length b) :
   Calls prog 149 #[.slice adP b.length cP,.int .i32 x] w λe V=>e=.returned (.int .i32 (mJ b x))∧U W V L:=by
 simp only[du]at hx;refine EN func149 ntmps149 rfl rfl λa E=>?_;refine BY 7 E I (λbA a E=>?_) λbA a E=>?_
 ·
  refine RT 9 E I ?_;exact⟨by rw[mJ,ag (by omega)],I⟩
 refine SX 1 E I (by rw[fU (by omega) (by omega)]) λa E=>?_;refine IF 4 E I (λaj a E=>?_) λaj a E=>?_
 ·
  refine RT 2 E I ?_;exact⟨by rw[mJ,ag (by omega)],I⟩
 refine RN 1 E I λa E=>?_;obtain⟨k,hk⟩:∃ k:Nat,x=(k:Int):=⟨x.toNat,by omega⟩;obtain⟨_,_,a7⟩:=hp _ I;have yL:k<b.length:=by omega
 obtain⟨bp,op,gY,dh⟩:∃ bp op,adP=some ⟨bp,op,none⟩∧Rd w bp op (bc b):=by
  cases hh:adP with
  | none =>
   have:=(hp _ I).2.1 hh;omega
  | some a =>
   obtain⟨b1,o1,rfl,h1⟩:=a7 a hh (by omega);exact⟨b1,o1,rfl,h1⟩
 rw[hk]at E;refine RN 1 E I λa E=>?_;rw[gY]at E;refine RN 2 E I λa E=>?_;refine SS E (ae E (dh k (.int .u8 b[k].toNat) (by simp[bc,yL]))) λa E=>?_;refine SX 0 E I (by have:=b[k].toNat_lt;exact ij (by omega) (by omega)) λa E=>?_;refine RT 1 E I ?_;refine⟨?_,I⟩;rw[mJ,ak (by omega),hk,c3,bl,aD yL];rfl
theorem XQ {x y:Int}(I:U W w L)(hx:du x)(hy:du y):Calls prog 188 #[.int .i32 x,.int .i32 y] w λe V=>e=.returned (.int .i32 (if y=0 then 0 else ig (x.tdiv y)))∧U W V L:=by
 simp only[du]at hx hy;have hq:y≠0 → -9223372036854775808≤x.tdiv y∧x.tdiv y≤9223372036854775807:=λh=>by
  have h1:(x.tdiv y).natAbs≤x.natAbs:=by rw[Int.natAbs_tdiv];exact Nat.div_le_self _ _
  omega
 refine EN func188 ntmps188 rfl rfl λa E=>?_;refine IF 6 E I (λaj a E=>?_) λaj a E=>?_
 ·
  refine RT 2 E I ?_;exact⟨by rw[ak aj],I⟩
 refine SX 2 E I (fU (by omega) (by omega)) λa E=>?_;refine SX 1 E I (fU (by omega) (by omega)) λa E=>?_;refine RN 0 E I λa E=>?_;refine SS E (I5 E (by omega)) λa E=>?_;rw[fU (hq aj).1 (hq aj).2]at E;refine CL 0 E I (yU I (hq aj).1 (hq aj).2) λa w E I=>?_;refine RT 1 E I ?_;exact⟨by rw[ag aj],I⟩
theorem XR {k x y:Int}(I:U W w L)(hx:du x)(hy:du y):Calls prog 152 #[.int .i64 k,.int .i32 x,.int .i32 y] w λe V=>e=.returned (.int .i32 (jf k x y))∧U W V L:=by
 have da:=hx;have kE:=hy;simp only[du]at da kE;have hmul:-9223372036854775808≤x*y∧x*y≤9223372036854775807:=by
  have h1:(x*y).natAbs≤2147483648*2147483648:=by rw[Int.natAbs_mul];exact Nat.mul_le_mul (by omega) (by omega)
  omega
 refine EN func152 ntmps152 rfl rfl λa E=>?_;refine IF 10 E I (λaj a E=>?_) λaj a E=>?_
 ·
  refine SX 2 E I (fU (by omega) (by omega)) λa E=>?_;refine SX 1 E I (fU (by omega) (by omega)) λa E=>?_;refine CL 1 E I (yU I (by omega) (by omega)) λa w E I=>?_;refine RT 1 E I ?_;exact⟨by simp[jf,aj],I⟩
 refine IF 3 E I (λao a E=>?_) λao a E=>?_
 ·
  refine SX 2 E I (fU (by omega) (by omega)) λa E=>?_;refine SX 1 E I (fU (by omega) (by omega)) λa E=>?_;refine CL 1 E I (yU I (by omega) (by omega)) λa w E I=>?_;refine RT 1 E I ?_;exact⟨by simp[jf,ao],I⟩
 refine IF 3 E I (λay a E=>?_) λay a E=>?_
 ·
  refine SX 2 E I (fU (by omega) (by omega)) λa E=>?_;refine SX 1 E I (fU (by omega) (by omega)) λa E=>?_;refine SX 0 E I ⟨(by first | exact hmul.1 | exact hmul.2),(by first | exact hmul.1 | exact hmul.2)⟩ λa E=>?_;refine CL 0 E I (yU I hmul.1 hmul.2) λa w E I=>?_;refine RT 1 E I ?_;exact⟨by simp[jf,ay],I⟩
 refine IF 3 E I (λbj a E=>?_) λbj a E=>?_
 ·
  refine CL 3 E I (XQ I hx hy) λa w E I=>?_;refine RT 1 E I ?_;exact⟨by simp[jf,bj],I⟩
 refine IF 3 E I (λbO a E=>?_) λbO a E=>?_
 ·
  refine IF 7 E I (λeZ a E=>?_) λeZ a E=>?_
  ·
   refine RT 2 E I ?_;exact⟨by simp[jf,bO,eZ],I⟩
  refine RT 2 E I ?_;exact⟨by simp[jf,bO];omega,I⟩
 refine IF 7 E I (λeZ a E=>?_) λeZ a E=>?_
 ·
  refine RT 2 E I ?_;exact⟨by simp[jf,aj,ao,ay,bj,bO,eZ],I⟩
 refine RT 2 E I ?_;exact⟨by simp[jf,aj,ao,ay,bj,bO];omega,I⟩
theorem ints_at {w:World}{kK j:Nat}{g:Nat→Int}(h:Rd w kK 0 (ints .i32 32 g))(hj:j<32):w.cell? ⟨kK,j,none⟩=some (.int .i32 (g j)):=by
 have:=h j _ (fX g hj)
 rwa [ep]at this
theorem E9 (I:U W w (az W p an cO::L))(a7:dq p)(aE:p.title.size≤1000000000)(hg:dT g)(hb:b.length≤1099511627776)(hf:-4611686018427387904≤fr∧fr≤4611686018427387904)(hp:∀ V,U W V L→aL V adP b.length b) :
   Calls prog 104 #[.agg (bx p an cO).toArray,.agg (ints .i32 32 g).toArray,.int .i64 fr,.slice adP b.length cP] w λe V=>∃ n:Int,e=.returned (.tuple #[.agg (ints .i32 32 (fa p fr b g)).toArray,.int .i64 n])∧dT (fa p fr b g)∧U W V (az W p an cO::L):=by
 have dO:p.ops.length≤64:=a7.1.2.2.1;refine EN func104 ntmps104 rfl rfl λa E=>?_;refine BX 1 E I λb4 a w E I=>?_;change U W w (aa b4 45 (bx p an cO)::_) at I;refine BX 0 E I λb5 a w E I=>?_;change U W w (aa b5 49 (ints .i32 32 g)::_) at I;refine AL 0 E I λb8 a w E I=>?_;change U W w (aa b8 49 (ints .i32 32 (λ_=>0))::_) at I;refine aW 4 E I (KP (I.pick (az W p an cO)) aE (by omega)) λr a w E ⟨hr,I⟩=>?_;obtain rfl:r = -1:=hr.2 a7;refine RN 1 E I λa E=>?_;rw[show decide ((-1:Int) ≠ -1)=false from rfl]at E;replace E:=E.aK 18;refine aX 7 E I (KL I aE) λadT cT a w E I=>?_;refine RN 6 E I λa E=>?_;refine aQ (λμ a w=>∃ (n aU:Nat) (g':Nat→Int),(μ=200-n∧n≤200∧aU≤p.ops.length∧dT g'∧qG p fr b (200-n) g' aU=fa p fr b g)∧Fr a 166 [(2,.int .i64 fr),(3,.slice adP b.length cP),(4,pt b4),(5,pt b5),(8,pt b8),(10,.int .i64 aU),(11,.int .i64 n),(12,.slice adT (ei p.title 0).length cT)]∧U W w (aa b5 49 (ints .i32 32 g')::aa b4 45 (bx p an cO)::aa b8 49 (ints .i32 32 (λ_=>0))::Sl 21 1 adT (ei p.title 0).length cT (RI (ei p.title 0))::az W p an cO::L)) (200) (⟨0,0,g,⟨by simp,by simp,by simp,hg,rfl⟩,E.ab [2,3,4,5,8,10,11,12],I.sub⟩) ?_;clear E I;rintro μ a w ⟨n,aU,g',⟨rfl,hn,fb,eQ,uX⟩,E,I⟩;refine BY 5 E I (λbA a E=>?_) λbA a E=>?_
 ·
  refine IF 6 E I (λao a E=>?_) λao a E=>?_
  ·
   obtain⟨o,ho⟩:∃ o,p.ops[aU]?=some o:=⟨_,aD (by omega)⟩;obtain⟨kZ,oo,rfl,gI⟩:=I.rN an (by omega);have aT:=EX (p:=p) (fr:=fr) (b:=b) (g:=g') (n:=200-(n+1)) ho;rw[show 200-(n+1)+1=200-n from by omega,uX]at aT;have dj:=a7.2 o (bH ho);have qL:=dj;simp only[e9,e8]at qL;have EV:o.code=9→qK o.a p.ops.length:=λh=>qK.of (by omega);have kb:o.code≠9→o.code≠0→l8 o.a 32:=λh h2=>l8.of (by omega);have EW:o.code=10→qK o.b p.ops.length:=λh=>qK.of (by omega);have oP:o.code≠1→o.code≠15→o.code≠9→o.code≠10→o.code≠0→l8 o.b 32:=λ_ _ _ _ _=>l8.of (by omega);have rR:o.code≠0→o.code≠1→o.code≠2→o.code≠9→o.code≠10→o.code≠11→o.code≠12→o.code≠13→o.code≠14→o.code≠15→l8 o.c 32:=λ_ _ _ _ _ _ _ _ _ _=>l8.of (by omega);clear qL;refine RN 5 E I λa E=>?_;refine SS E (bQ E underlying114 rfl Ty.t114 (wF gI ho)) λa E=>?_;refine AL 0 E I λeT a w E I=>?_;refine SA 0 E I λa w E I=>?_;refine IF 14 E I (λay a E=>?_) λay a E=>?_
   ·
    refine SA 3 E I λa w E I=>?_;refine RT 1 E I ?_;rw[show eC p fr b g' aU o=(g',aU+1,false) from by rw[eC,ak ay]]at aT;refine⟨_,by rw[aT];rfl,?_,I.sub⟩;rw[aT];exact eQ
   refine IF 3 E I (λbj a E=>?_) λbj a E=>?_
   ·
    obtain⟨cB,dP,kc⟩:=kb (by omega) (by omega);refine RN 2 E I λa E=>?_;rw[dP]at E;refine RN 2 E I λa E=>?_;refine SS E (gr E underlying3 underlying21) λa E=>?_;refine ST 1 E I (λa w E I=>?_) (hlt:=(by rw[di];omega));rw[ints_set,show (λi=>if i=cB then IntKind.i32.wrap o.b else g' i)=ck g' (cB) (ig o.b) from rfl]at I;refine RN 0 E I λa E=>?_;have fW:eC p fr b g' aU o=(ck g' (cB) (ig o.b),aU+1,true):=by
     rw[eC,ag (by omega),ag (by omega),ag (by omega),ag (by omega),dP,c3,jP,ak bj]
    rw[fW]at aT;exact⟨200-(n+1),by omega,n+1,aU+1,ck g' (cB) (ig o.b),⟨rfl,by omega,by omega,nW eQ (yA _),aT.symm⟩,E.ab [2,3,4,5,8,10,11,12],I.sub⟩
   refine IF 3 E I (λbO a E=>?_) λbO a E=>?_
   ·
    refine RN 0 E I λa E=>?_;obtain⟨cB,dP,kc⟩:=kb (by omega) (by omega);obtain⟨bC,ed,iM⟩:=oP (by omega) (by omega) (by omega) (by omega) (by omega);refine a1 0 (λw0 V=>Rd V eT 0 (c6 o)∧Rd V b5 0 (ints .i32 32 g')) [3,4,5] [0,2,3001,1003,1004,1005,6,1007] E I λa w E I hH=>?_;have hC:=hH.at w ⟨I.ai,I.ai⟩;refine RH 2 E I hH hC λa E=>?_;refine QH E (λw hc=>ae E (hc.1 1 _ rfl)) hC λa E=>?_;rw[dP]at E;refine RH 0 E I hH hC λa E=>?_;refine SS E (ae E (hC.1 2 _ rfl)) λa E=>?_;rw[ed]at E;refine RH 1 E I hH hC λa E=>?_;refine SS E (ae E (ints_at hC.2 iM)) λa E=>?_;refine RH 1 E I hH hC λa E=>?_;refine ST 0 E I (λa w E I=>?_) (hlt:=(by rw[di];omega));rw[ints_set,show (λi=>if i=cB then g' bC else g' i)=ck g' (cB) (g' bC) from rfl]at I;refine RN 0 E I λa E=>?_;have fW:eC p fr b g' aU o=(ck g' (cB) (g' bC),aU+1,true):=by
     rw[eC,ag (by omega),ag (by omega),ag (by omega),ag (by omega),dP,c3,jP,ag (by omega),ak bO,ed,c3]
    rw[fW]at aT;exact⟨200-(n+1),by omega,n+1,aU+1,ck g' (cB) (g' bC),⟨rfl,by omega,by omega,nW eQ (eQ _ iM),aT.symm⟩,E.ab [2,3,4,5,8,10,11,12],I.sub⟩
   refine IF 3 E I (λeZ a E=>?_) λeZ a E=>?_
   ·
    obtain⟨cB,dP,kc⟩:=EV eZ;refine RN 2 E I λa E=>?_;rw[dP]at E;refine RN 1 E I λa E=>?_;have fW:eC p fr b g' aU o=(g',cB,true):=by
     rw[eC,ag (by omega),ak eZ,dP,c3]
    rw[fW]at aT;exact⟨200-(n+1),by omega,n+1,cB,g',⟨rfl,by omega,by omega,eQ,aT.symm⟩,E.ab [2,3,4,5,8,10,11,12],I.sub⟩
   refine IF 3 E I (λnf a E=>?_) λnf a E=>?_
   ·
    refine RN 1 E I λa E=>?_;obtain⟨cB,dP,kc⟩:=kb (by omega) (by omega);refine RN 2 E I λa E=>?_;rw[dP]at E;refine RN 1 E I λa E=>?_;refine SS E (ae E ((ints_at I.ai kc))) λa E=>?_;refine IF 1 E I (λmM a E=>?_) λmM a E=>?_
    ·
     obtain⟨bC,ed,iM⟩:=EW nf;refine RN 2 E I λa E=>?_;rw[ed]at E;refine RN 1 E I λa E=>?_;have fW:eC p fr b g' aU o=(g',bC,true):=by
      rw[eC,ag (by omega),ag (by omega),ak nf,dP,c3,ak mM,ed,c3]
     rw[fW]at aT;exact⟨200-(n+1),by omega,n+1,bC,g',⟨rfl,by omega,by omega,eQ,aT.symm⟩,E.ab [2,3,4,5,8,10,11,12],I.sub⟩
    refine RN 0 E I λa E=>?_;have fW:eC p fr b g' aU o=(g',aU+1,true):=by
     rw[eC,ag (by omega),ag (by omega),ak nf,dP,c3,ag mM]
    rw[fW]at aT;exact⟨200-(n+1),by omega,n+1,aU+1,g',⟨rfl,by omega,by omega,eQ,aT.symm⟩,E.ab [2,3,4,5,8,10,11,12],I.sub⟩
   refine IF 3 E I (λmN a E=>?_) λmN a E=>?_
   ·
    refine RN 0 E I λa E=>?_;obtain⟨cB,dP,kc⟩:=kb (by omega) (by omega);obtain⟨bC,ed,iM⟩:=oP (by omega) (by omega) (by omega) (by omega) (by omega);refine a1 0 (λw0 V=>Rd V eT 0 (c6 o)∧Rd V b5 0 (ints .i32 32 g')) [4,5,6,7] [0,2,3,3001,1004,1005,1006,1007,8,1009] E I λa w E I hH=>?_;have hC:=hH.at w ⟨I.ai,I.ai⟩;refine RH 3 E I hH hC λa E=>?_;refine QH E (λw hc=>ae E (hc.1 1 _ rfl)) hC λa E=>?_;rw[dP]at E;refine RH 0 E I hH hC λa E=>?_;refine SS E (ae E (hC.1 2 _ rfl)) λa E=>?_;rw[ed]at E;refine RH 1 E I hH hC λa E=>?_;refine SS E (ae E (ints_at hC.2 iM)) λa E=>?_;refine RH 0 E I hH hC λa E=>?_;refine CL 0 E I (XP I (eQ _ iM) hb (λV h=>hp V h.sub)) λa w E I=>?_;replace hC:=hH.at w ⟨I.ai,I.ai⟩;refine RH 1 E I hH hC λa E=>?_;refine ST 0 E I (λa w E I=>?_) (hlt:=(by rw[di];omega));rw[ints_set,show (λi=>if i=cB then mJ b (g' bC) else g' i)=ck g' (cB) (mJ b (g' bC)) from rfl]at I;refine RN 0 E I λa E=>?_;have fW:eC p fr b g' aU o=(ck g' (cB) (mJ b (g' bC)),aU+1,true):=by
     rw[eC,ag (by omega),ag (by omega),ag (by omega),ag (by omega),dP,c3,jP,ag (by omega),ag (by omega),ak mN,ed,c3]
    rw[fW]at aT;exact⟨200-(n+1),by omega,n+1,aU+1,ck g' (cB) (mJ b (g' bC)),⟨rfl,by omega,by omega,nW eQ (Kw _ _),aT.symm⟩,E.ab [2,3,4,5,8,10,11,12],I.sub⟩
   refine IF 3 E I (λka a E=>?_) λka a E=>?_
   ·
    refine RN 0 E I λa E=>?_;obtain⟨cB,dP,kc⟩:=kb (by omega) (by omega);obtain⟨bC,ed,iM⟩:=oP (by omega) (by omega) (by omega) (by omega) (by omega);have yM:=yz (g' bC);refine a1 0 (λw0 V=>Rd V eT 0 (c6 o)∧Rd V b5 0 (ints .i32 32 g')) [3,4,5,6,7,8] [0,2,3001,1003,1004,1005,1006,1007,1008,9,1010] E I λa w E I hH=>?_;have hC:=hH.at w ⟨I.ai,I.ai⟩;refine RH 2 E I hH hC λa E=>?_;refine QH E (λw hc=>ae E (hc.1 1 _ rfl)) hC λa E=>?_;rw[dP]at E;refine RH 0 E I hH hC λa E=>?_;refine SS E (ae E (hC.1 2 _ rfl)) λa E=>?_;rw[ed]at E;refine RH 1 E I hH hC λa E=>?_;refine SS E (ae E (ints_at hC.2 iM)) λa E=>?_;refine RH 0 E I hH hC λa E=>?_;refine CL 0 E I (KQ I (eQ _ iM)) λa w E I=>?_;replace hC:=hH.at w ⟨I.ai,I.ai⟩;refine RH 1 E I hH hC λa E=>?_;refine SS E (ae E (ints_at hC.2 yM)) λa E=>?_;refine RH 1 E I hH hC λa E=>?_;refine ST 0 E I (λa w E I=>?_) (hlt:=(by rw[di];omega));rw[ints_set,show (λi=>if i=cB then g' (kI (g' bC)) else g' i)=ck g' (cB) (g' (kI (g' bC))) from rfl]at I;refine RN 0 E I λa E=>?_;have fW:eC p fr b g' aU o=(ck g' (cB) (g' (kI (g' bC))),aU+1,true):=by
     rw[eC,ag (by omega),ag (by omega),ag (by omega),ag (by omega),dP,c3,jP,ag (by omega),ag (by omega),ag (by omega),ak ka,ed,c3]
    rw[fW]at aT;exact⟨200-(n+1),by omega,n+1,aU+1,ck g' (cB) (g' (kI (g' bC))),⟨rfl,by omega,by omega,nW eQ (eQ _ yM),aT.symm⟩,E.ab [2,3,4,5,8,10,11,12],I.sub⟩
   refine IF 3 E I (λwL a E=>?_) λwL a E=>?_
   ·
    refine RN 0 E I λa E=>?_;obtain⟨cB,dP,kc⟩:=kb (by omega) (by omega);obtain⟨bC,ed,iM⟩:=oP (by omega) (by omega) (by omega) (by omega) (by omega);have yM:=yz (g' cB);refine a1 0 (λw0 V=>Rd V eT 0 (c6 o)∧Rd V b5 0 (ints .i32 32 g')) [4,6,7,8] [0,5,3001,2,3003,3006,3007,3008,1004,9,1010] E I λa w E I hH=>?_;have hC:=hH.at w ⟨I.ai,I.ai⟩;refine RH 2 E I hH hC λa E=>?_;refine QH E (λw hc=>ae E (hc.1 1 _ rfl)) hC λa E=>?_;rw[dP]at E;refine RH 1 E I hH hC λa E=>?_;refine QH E (λw hc=>ae E (ints_at hc.2 kc)) hC λa E=>?_;refine QH E (λw hc=>ae E (hc.1 2 _ rfl)) hC λa E=>?_;rw[ed]at E;refine RH 1 E I hH hC λa E=>?_;refine QH E (λw hc=>ae E (ints_at hc.2 iM)) hC λa E=>?_;refine RH 0 E I hH hC λa E=>?_;refine CL 0 E I (KQ I (eQ _ kc)) λa w E I=>?_;replace hC:=hH.at w ⟨I.ai,I.ai⟩;refine RH 1 E I hH hC λa E=>?_;refine ST 0 E I (λa w E I=>?_) (hlt:=(by rw[di];omega));rw[ints_set,show (λi=>if i=kI (g' cB) then g' bC else g' i)=ck g' (kI (g' cB)) (g' bC) from rfl]at I;refine RN 0 E I λa E=>?_;have fW:eC p fr b g' aU o=(ck g' (kI (g' cB)) (g' bC),aU+1,true):=by
     rw[eC,ag (by omega),ag (by omega),ag (by omega),ak wL,dP,c3,ed,c3]
    rw[fW]at aT;exact⟨200-(n+1),by omega,n+1,aU+1,ck g' (kI (g' cB)) (g' bC),⟨rfl,by omega,by omega,nW eQ (eQ _ iM),aT.symm⟩,E.ab [2,3,4,5,8,10,11,12],I.sub⟩
   refine IF 3 E I (λth a E=>?_) λth a E=>?_
   ·
    refine RN 1 E I λa E=>?_;obtain⟨cB,dP,kc⟩:=kb (by omega) (by omega);obtain⟨bC,ed,iM⟩:=oP (by omega) (by omega) (by omega) (by omega) (by omega);have oR:=eQ _ iM;have EZ:=oR;simp only[du]at EZ;refine RN 5 E I λa E=>?_;rw[ed]at E;refine RN 1 E I λa E=>?_;refine SS E (ae E ((ints_at I.ai iM))) λa E=>?_;refine BY 2 E I (λjg a E=>?_) λjg a E=>?_
    ·
     refine RN 2 E I λa E=>?_;rw[ed]at E;refine RN 1 E I λa E=>?_;refine bu E (cu E rfl (s:=136)) (ae E ((ints_at I.ai iM))) rfl λa E=>?_;refine SX 0 E I (fU (by omega) (by omega)) λa E=>?_;refine IF 4 E I (λyJ a E=>?_) λyJ a E=>?_
     ·
      obtain⟨rn,ni⟩:∃ rn:Nat,g' bC=rn:=⟨(g' bC).toNat,by omega⟩;obtain⟨afR,afS,rfl,rU⟩:=I.bY adT (by omega);obtain⟨Fa,wv⟩:∃ Fa,(ei p.title 0)[rn]?=some Fa:=⟨_,aD (by omega)⟩;refine RN 3 E I λa E=>?_;rw[ed]at E;refine RN 1 E I λa E=>?_;refine SS E (ae E ((ints_at I.ai iM))) λa E=>?_;rw[ni]at E;refine RN 1 E I λa E=>?_;refine SS E (ae E ((rU rn _ (KM wv)))) λa E=>?_;refine RN 1 E I λa E=>?_;have pS:m8 p.title (g' bC)=Fa.1:=by rw[m8,ak (by omega),ni,c3,wv];rfl
      rw[← pS]at E;refine RN 2 E I λa E=>?_;rw[dP]at E;refine ST 2 E I (λa w E I=>?_) (hlt:=(by rw[di];omega));rw[ints_set,show (λi=>if i=cB then m8 p.title (g' bC) else g' i)=ck g' cB (m8 p.title (g' bC)) from rfl]at I;refine RN 0 E I λa E=>?_;have fW:eC p fr b g' aU o=(ck g' cB (m8 p.title (g' bC)),aU+1,true):=by
       rw[eC,ag (by omega),ag (by omega),ag (by omega),ag (by omega),dP,c3,jP,ag (by omega),ag (by omega),ag (by omega),ag (by omega),ak th,ed,c3]
      rw[fW]at aT;exact⟨200-(n+1),by omega,n+1,aU+1,ck g' cB (m8 p.title (g' bC)),⟨rfl,by omega,by omega,nW eQ (Ku _ _),aT.symm⟩,E.ab [2,3,4,5,8,10,11,12],I.sub⟩
     refine RN 0 E I λa E=>?_;have afT:True:=trivial;refine RN 2 E I λa E=>?_;rw[dP]at E;refine ST 2 E I (λa w E I=>?_) (hlt:=(by rw[di];omega));rw[ints_set,show (λi=>if i=cB then 0 else g' i)=ck g' cB 0 from rfl]at I;refine RN 0 E I λa E=>?_;have fW:eC p fr b g' aU o=(ck g' cB 0,aU+1,true):=by
      rw[eC,ag (by omega),ag (by omega),ag (by omega),ag (by omega),dP,c3,jP,ag (by omega),ag (by omega),ag (by omega),ag (by omega),ak th,ed,c3,m8,ak (by omega),iD (by omega)];rfl
     rw[fW]at aT;exact⟨200-(n+1),by omega,n+1,aU+1,ck g' cB 0,⟨rfl,by omega,by omega,nW eQ (by simp[du]),aT.symm⟩,E.ab [2,3,4,5,8,10,11,12],I.sub⟩
    refine RN 12 E I λa E=>?_;rw[dP]at E;refine ST 2 E I (λa w E I=>?_) (hlt:=(by rw[di];omega));rw[ints_set,show (λi=>if i=cB then 0 else g' i)=ck g' cB 0 from rfl]at I;refine RN 0 E I λa E=>?_;have fW:eC p fr b g' aU o=(ck g' cB 0,aU+1,true):=by
     rw[eC,ag (by omega),ag (by omega),ag (by omega),ag (by omega),dP,c3,jP,ag (by omega),ag (by omega),ag (by omega),ag (by omega),ak th,ed,c3,m8,ag (by omega)]
    rw[fW]at aT;exact⟨200-(n+1),by omega,n+1,aU+1,ck g' cB 0,⟨rfl,by omega,by omega,nW eQ (by simp[du]),aT.symm⟩,E.ab [2,3,4,5,8,10,11,12],I.sub⟩
   refine IF 3 E I (λwM a E=>?_) λwM a E=>?_
   ·
    refine RN 0 E I λa E=>?_;obtain⟨cB,dP,kc⟩:=kb (by omega) (by omega);refine a1 0 (λw0 V=>Rd V eT 0 (c6 o)∧Rd V b5 0 (ints .i32 32 g')) [3] [0,2,3001,1003,4,1005] E I λa w E I hH=>?_;have hC:=hH.at w ⟨I.ai,I.ai⟩;refine RH 2 E I hH hC λa E=>?_;refine QH E (λw hc=>ae E (hc.1 1 _ rfl)) hC λa E=>?_;rw[dP]at E;refine RH 0 E I hH hC λa E=>?_;refine CL 0 E I (yU I (by omega) (by omega)) λa w E I=>?_;replace hC:=hH.at w ⟨I.ai,I.ai⟩;refine RH 1 E I hH hC λa E=>?_;refine ST 0 E I (λa w E I=>?_) (hlt:=(by rw[di];omega));rw[ints_set,show (λi=>if i=cB then ig fr else g' i)=ck g' (cB) (ig fr) from rfl]at I;refine RN 0 E I λa E=>?_;have fW:eC p fr b g' aU o=(ck g' (cB) (ig fr),aU+1,true):=by
     rw[eC,ag (by omega),ag (by omega),ag (by omega),ag (by omega),dP,c3,jP,ag (by omega),ag (by omega),ag (by omega),ag (by omega),ag (by omega),ak wM]
    rw[fW]at aT;exact⟨200-(n+1),by omega,n+1,aU+1,ck g' (cB) (ig fr),⟨rfl,by omega,by omega,nW eQ (yA _),aT.symm⟩,E.ab [2,3,4,5,8,10,11,12],I.sub⟩
   refine RN 0 E I λa E=>?_;obtain⟨cB,dP,kc⟩:=kb (by omega) (by omega);obtain⟨bC,ed,iM⟩:=oP (by omega) (by omega) (by omega) (by omega) (by omega);obtain⟨uB,pO,KR⟩:=rR (by omega) (by omega) (by omega) (by omega) (by omega) (by omega) (by omega) (by omega) (by omega) (by omega);refine a1 0 (λw0 V=>Rd V eT 0 (c6 o)∧Rd V b5 0 (ints .i32 32 g')) [3,5,6,7,9,10,11,12] [0,2,4,8,3001,3003,3005,3006,3007,1009,1010,1011,1012,13,1014] E I λa w E I hH=>?_;have hC:=hH.at w ⟨I.ai,I.ai⟩;refine RH 4 E I hH hC λa E=>?_;refine QH E (λw hc=>ae E (hc.1 1 _ rfl)) hC λa E=>?_;rw[dP]at E;refine RH 0 E I hH hC λa E=>?_;refine QH E (λw hc=>ae E (hc.1 0 _ rfl)) hC λa E=>?_;refine QH E (λw hc=>ae E (hc.1 2 _ rfl)) hC λa E=>?_;rw[ed]at E;refine RH 1 E I hH hC λa E=>?_;refine QH E (λw hc=>ae E (ints_at hc.2 iM)) hC λa E=>?_;refine RH 0 E I hH hC λa E=>?_;refine SS E (ae E (hC.1 3 _ rfl)) λa E=>?_;rw[pO]at E;refine RH 1 E I hH hC λa E=>?_;refine SS E (ae E (ints_at hC.2 KR)) λa E=>?_;refine RH 0 E I hH hC λa E=>?_;refine CL 0 E I (XR I (eQ _ iM) (eQ _ KR)) λa w E I=>?_;replace hC:=hH.at w ⟨I.ai,I.ai⟩;refine RH 1 E I hH hC λa E=>?_;refine ST 0 E I (λa w E I=>?_) (hlt:=(by rw[di];omega));rw[ints_set,show (λi=>if i=cB then jf o.code (g' bC) (g' uB) else g' i)=ck g' (cB) (jf o.code (g' bC) (g' uB)) from rfl]at I;refine RN 0 E I λa E=>?_;have fW:eC p fr b g' aU o=(ck g' (cB) (jf o.code (g' bC) (g' uB)),aU+1,true):=by
    rw[eC,ag (by omega),ag (by omega),ag (by omega),ag (by omega),dP,c3,jP,ag (by omega),ag (by omega),ag (by omega),ag (by omega),ag (by omega),ag (by omega),ed,c3,pO,c3]
   rw[fW]at aT;exact⟨200-(n+1),by omega,n+1,aU+1,ck g' (cB) (jf o.code (g' bC) (g' uB)),⟨rfl,by omega,by omega,nW eQ (Kv _ _ _),aT.symm⟩,E.ab [2,3,4,5,8,10,11,12],I.sub⟩
  refine SA 3 E I λa w E I=>?_;refine RT 1 E I ?_;rw[EY (by omega)]at uX;exact⟨_,by rw[← uX],by rw[← uX];exact eQ,I.sub⟩
 refine SA 10 E I λa w E I=>?_;refine RT 1 E I ?_;rw[show 200-n=0 from by omega]at uX;exact⟨_,by rw[← uX];rfl,by rw[← uX];exact eQ,I.sub⟩
theorem XS {P:List (List UInt8)}{zs:List ef}(I:U W w (az W p an cO::L))(a7:dq p)(aE:p.title.size≤1000000000)(hg:dT g)(hP:P.length≤65536∧∀ b∈P,b.length≤1099511627776)(hz:zs.map (·.2.2)=P)(hf:-1099511627776≤fr∧fr≤1099511627776)(hp:∀ V,U W V L→iH V adP zs) :
   Calls prog 116 #[.agg (bx p an cO).toArray,.agg (ints .i32 32 g).toArray,.int .i64 fr,.slice adP P.length cP] w λe V=>e=.returned (.agg (ints .i32 32 (foldI p fr g P)).toArray)∧dT (foldI p fr g P)∧U W V (az W p an cO::L):=by
 have jt:zs.length=P.length:=by rw[← hz,bf]
 have qN:=hP.1;refine EN func116 ntmps116 rfl rfl λa E=>?_;refine BX 1 E I λb4 a w E I=>?_;change U W w (aa b4 45 (bx p an cO)::_) at I;refine BX 0 E I λb5 a w E I=>?_;change U W w (aa b5 49 (ints .i32 32 g)::_) at I;refine AL 0 E I λb8 a w E I=>?_;change U W w (aa b8 49 (ints .i32 32 (λ_=>0))::_) at I;refine RN 3 E I λa E=>?_;refine aQ (λμ a w=>∃ (i:Nat) (g':Nat→Int),(μ=P.length-i∧i≤P.length∧dT g'∧foldI p fr g P=foldI p (fr+i) g' (P.drop i))∧Fr a 33 [(2,.int .i64 fr),(3,.slice adP P.length cP),(4,pt b4),(5,pt b5),(8,pt b8),(9,.int .i64 i)]∧U W w (aa b5 49 (ints .i32 32 g')::aa b4 45 (bx p an cO)::aa b8 49 (ints .i32 32 (λ_=>0))::az W p an cO::L)) (P.length) (⟨0,g,⟨by simp,by simp,hg,by simp⟩,E.ab [2,3,4,5,8,9],I.sub⟩) ?_;clear E I;rintro μ a w ⟨i,g',⟨rfl,hi,eQ,l7⟩,E,I⟩;refine IF 6 E I (λaj a E=>?_) λaj a E=>?_
 ·
  have kM:zs[i]?=some (zs[i]'(by omega)):=aD (by omega);obtain⟨z,qO⟩:∃ z,zs[i]'(by omega)=z:=⟨_,rfl⟩;rw[qO]at kM;have Bm:P[i]?=some z.2.2:=by rw[← hz,bm,kM];rfl
  have eS:=hp _ (I.sub (M:=L));obtain⟨bp,op,gY,dh⟩:=eS.1 (by omega);have cm:∀ V,U W V L→V.cell? ⟨bp,op+i,none⟩=some (aM z):=λV h=>by
   obtain⟨b',o',h1,h2⟩:=(hp V h).1 (by omega);rw[gY]at h1;cases h1;exact h2 i _ (by rw[bm,kM];rfl)
  clear dh eS;have KS:∀ V,U W V L→aL V z.1 z.2.2.length z.2.2:=λV h=>(hp V h).2 z (bH kM);have Fb:foldI p fr g P=foldI p (fr+(i+1:Nat)) (fa p (fr+i) z.2.2 g') (P.drop (i+1)):=by
   rw[l7,kA (by omega),foldI];have:P[i]'(by omega)=z.2.2:=by rw[aD (by omega)]at Bm;exact nX Bm
   rw[this]
   congr 1
   omega
  refine RN 1 E I λa E=>?_;refine cc (M:=λa w=>∃ iJ:Nat,dT (fa p (fr+i) z.2.2 g')∧Fr a 33 [(2,.int .i64 fr),(3,.slice adP P.length cP),(4,pt b4),(5,pt b5),(8,pt b8),(9,.int .i64 i),(10,pt iJ)]∧U W w (aa iJ 49 (ints .i32 32 (fa p (fr+i) z.2.2 g'))::aa b5 49 (ints .i32 32 g')::aa b4 45 (bx p an cO)::aa b8 49 (ints .i32 32 (λ_=>0))::az W p an cO::L)) ?_ ?_
  ·
   refine a1 0 (λw0 V=>Rd V b4 0 (bx p an cO)∧Rd V b5 0 (ints .i32 32 g')∧V.cell? ⟨bp,op+i,none⟩=some (aM z)) [1,8,13] [2,3,4,5,6,7,3000,3001,3008,2009,10,11,12,1013,1014,15] E I λa w E I hH=>?_;have hC:=hH.at w ⟨I.ai,I.ai,cm _ I.sub⟩;refine RH 5 E I hH hC λa E=>?_;rw[gY]at E;refine RH 1 E I hH hC λa E=>?_;refine QH E (λw hc=>bQ E underlying45 rfl Ty.t45 (hc.1)) hC λa E=>?_;refine QH E (λw hc=>bQ E underlying49 rfl Ty.t49 (hc.2.1)) hC λa E=>?_;refine QH E (λw hc=>ae E (hc.2.2)) hC λa E=>?_;refine RH 0 E I hH hC λa E=>?_;refine DN [(9,[10,11,12,1013,1014,15]),(13,[1009,10,11,12,1014,15])] (by kernel_rfl) rfl ⟨⟨_,rfl,?_⟩,⟨_,rfl,?_⟩,trivial⟩
   ·
    refine RH 0 E I hH hC λa E=>?_;refine aW 0 E I (E9 (I.pick (az W p an cO)) a7 aE eQ (hP.2 _ (bH Bm)) (by omega) (λV h=>KS V h.sub)) λtj a w E ⟨bA,I⟩=>?_;refine RN 3 E I λa E=>?_;refine e5 E rfl I Ty.t49 rfl λiJ a w E I ho=>?_;clear ho;replace hC:=hH.at w ⟨I.ai,I.ai,cm _ I.sub⟩;change U W w (aa iJ 49 (ints .i32 32 (λ_=>0))::_) at I;refine RH 0 E I hH hC λa E=>?_;refine SA 0 E I λa w E I=>?_;refine RN 1 E I λa E=>?_;rw[← gY]at E;exact⟨_,bA,E.ab [2,3,4,5,8,9,10],I.sub⟩
   refine RH 0 E I hH hC λa E=>?_;refine e5 E rfl I Ty.t49 rfl λiJ a w E I ho=>?_;clear ho;replace hC:=hH.at w ⟨I.ai,I.ai,cm _ I.sub⟩;change U W w (aa iJ 49 (ints .i32 32 (λ_=>0))::_) at I;refine RH 0 E I hH hC λa E=>?_;refine aW 0 E I (E9 (I.pick (az W p an cO)) a7 aE eQ (hP.2 _ (bH Bm)) (by omega) (λV h=>KS V h.sub)) λtj a w E ⟨bA,I⟩=>?_;refine SA 3 E I λa w E I=>?_;refine RN 1 E I λa E=>?_;rw[← gY]at E;exact⟨_,bA,E.ab [2,3,4,5,8,9,10],I.sub⟩
  clear E;(try clear I);rintro a w ⟨iJ,bA,E,I⟩;refine SA 1 E I λa w E I=>?_;refine RN 3 E I λa E=>?_;exact⟨P.length-(i+1),by omega,i+1,_,⟨rfl,by omega,bA,Fb⟩,E.ab [2,3,4,5,8,9],I.sub⟩
 refine RN 1 E I λa E=>?_;obtain rfl:i=P.length:=by omega
 rw[List.drop_length,foldI]at l7;refine SA 1 E I λa w E I=>?_;refine RT 0 E I ?_;exact⟨by rw[l7],by rw[l7];exact eQ,I.sub⟩
end
end
section
section
variable {P:Program}{a:Act}{w:World}{n:Nat}{l:List (Nat×Value)}
theorem Fc {x y i j t u dst ty ps af g}(E:Fr a n l)[e:Ev l x (.string i)][f:Ev l y (.string j)] :
   (execOp a.eval ⟨dst,.binOp .neq t x y u,ty,ps,af,g⟩).run P w=.ok (.value (.bool (!(i.data.toList==j.data.toList)))) w:=by
 simp[execOp,e.ev a n E,f.ev a n E,eqGuard,binOp,Op.stringOp,ByteArray.toList_eq]
end
def tr (s:ByteArray)(n:Nat):ByteArray:=if n<s.size then s.extract 0 n else s
theorem XT (s:ByteArray)(n:Nat):(tr s n).size≤n:=by
 unfold tr;split
 ·rw[ByteArray.size_extract];omega
 ·omega
def oU (K:Nat)(p:Pr):Pr:=⟨tr p.title 40,p.ops.take K⟩
theorem XU {K:Nat}(wS:K≤1000)(p:Pr):(oU K p).title.size≤1000000000∧(oU K p).ops.length≤1000000000:=by
 refine⟨gC (XT _ _) (by decide),?_⟩;simp only[oU,dH];omega
section
variable {W w:World}{L:List SP}{n cO:Nat}{an:Option Addr}{p:Pr}
theorem XV {s:ByteArray}{n:Nat}(I:U W w L):Calls prog 58 #[.string s,.int .i64 n] w λe V=>e=.returned (.string (tr s n))∧U W V L:=by
 refine EN func58 ntmps58 rfl rfl λa E=>?_;refine IF 8 E I (λaj a E=>?_) λaj a E=>?_
 ·
  refine RN 3 E I λa E=>?_;refine SS E (RJ E underlying9 (by omega)) λa E=>?_;refine RT 1 E I ?_;exact⟨by rw[tr,ak (by omega)],I⟩
 refine RT 3 E I ?_;exact⟨by rw[tr,ag (by omega)],I⟩
theorem XW (K:Nat)(ops:List fZ):(rows c6 ops).take (K*4)=rows c6 (ops.take K):=IY te ops K
theorem XX {K:Nat}(I:U W w (az W p an cO::L)):Calls prog 35 #[.agg (bx p an cO).toArray,.int .i64 K] w λe V=>e=.returned (.agg (bx (oU K p) an cO).toArray)∧U W V (az W (oU K p) an cO::L):=by
 have Bn:=(I.ro an).2;refine EN func35 ntmps35 rfl rfl λa E=>?_;refine BX 1 E I λb2 a w E I=>?_;change U W w (aa b2 45 (bx p an cO)::_) at I;refine AL 0 E I λb4 a w E I=>?_;refine CL 3 E I (XV (n:=40) I) λa w E I=>?_;refine ST 1 E I (λa w E I=>?_) (hlt:=(by simp[bx]));change U W w (aa b2 45 [.string (tr p.title 40),.slice an p.ops.length cO]::_) at I;refine IF 7 E I (λaj a E=>?_) λaj a E=>?_
 ·
  have hl:(oU K p).ops.length=K:=by simp only[oU,dH];omega
  refine RN 4 E I λa E=>?_;rw[pB,Nat.sub_zero,Nat.sub_zero]at E;refine ST 1 E I (λa w E I=>?_);change U W w (aa b2 45 [.string (tr p.title 40),.slice an K cO]::_) at I;refine SA 2 E I λa w E I=>?_;refine RT 0 E I ?_;refine⟨by rw[bx,hl];rfl,?_⟩;have h1:=(I.pick (az W p an cO)).V2 (m:=K) (by omega);rw[XW]at h1;have h2:az W (oU K p) an cO=Ro W 114 4 an K cO (rows c6 (p.ops.take K)):=by rw[az,hl];rfl
  rw[h2];exact h1.sub
 have hl:(oU K p).ops=p.ops:=by simp only[oU];exact fO (by omega)
 refine SA 2 E I λa w E I=>?_;refine RT 0 E I ?_;refine⟨by rw[bx,hl];rfl,?_⟩;have h2:az W (oU K p) an cO=az W p an cO:=by rw[az,az,hl]
 rw[h2];exact I.sub
end
end
section
def pT (k:IntKind)(w:World)(a:Option Addr)(len cap:Nat)(zs:List Int):Prop :=
 (a=none∧len=0∧cap=0∧zs=[]) ∨
 ∃ x,a=some x∧len≤cap∧cap≤maxLen∧zs.length=cap∧(∀ i,i<zs.length→w.cell? (x.add i)=some (.int k (zs.getD i 0)))∧∀ n∈zs,(Lit.int k n).wf=true
theorem KT {w:World}{x:Addr}{v:Value}(h:w.cell? x=some v):x=⟨x.block,x.off,none⟩∧x.block<w.heap.size:=by
 refine⟨?_,World.block_lt_of_cell? _ _ h⟩;obtain⟨b,o,s⟩:=x;cases s with
 | none=>rfl
 | some s =>
  simp only[World.cell?]at h;split at h <;> simp at h
theorem pT.get {k:IntKind}{w:World}{a:Option Addr}{len cap:Nat}{zs:List Int}(h:pT k w a len cap zs)(h0:0<len) :
   ∃ b off,a=some ⟨b,off,none⟩∧b<w.heap.size∧len≤zs.length∧∀ i,i<zs.length→w.cell? ⟨b,off+i*1,none⟩=some (.int k (zs.getD i 0)):=by
 rcases h with ⟨_,h,_,_⟩ | ⟨x,rfl,h1,h2,h3,h4,h5⟩
 ·omega
 ·have h6:=h4 0 (by omega);have h7:x.add 0=x:=by simp[Addr.add]
  rw[h7]at h6;obtain⟨h8,h9⟩:=KT h6;refine⟨x.block,x.off,by rw[← h8],h9,by omega,λi hi=>?_⟩;have:=h4 i hi;rw[h8,jU]at this;rw[fD];exact this
theorem pT.KU {k:IntKind}{w:World}{a:Option Addr}{len cap:Nat}{zs:List Int}(h:pT k w a len cap zs):len≤zs.length∧len≤9223372036854775807:=by
 rcases h with ⟨_,rfl,_,rfl⟩ | ⟨x,rfl,h1,h2,h3,h4,h5⟩
 ·simp
 ·unfold maxLen at h2;omega
theorem XY {H:Type}{enc:TypeId×Value→H}{W:World}{t e sz len cap:Nat}{ad:Option Addr}{d:DataW H}{p:List MemPlace}(ht:prog.underlying t=some (.slice e))(aE:prog.cellsOf e=sz)(h0:0<sz)
   (h:DataW.Trod enc prog W 0 (λ_=>true) true t (.slice ad len cap) d p) :
   len≤9223372036854775807∧(len=0∨∃ b off,ad=some ⟨b,off,none⟩∧b<W.heap.size∧∀ i,i<len→∃ cs m x,cs.length=sz∧Rd W b (off+i*sz) cs∧DataW.trod enc prog W 0 (λ_=>true) true m e cs=some x):=by
 obtain⟨fuel,hf⟩:=h;rcases Go.Deep.open_slice ht hf with ⟨eu,_⟩ | ⟨a,l,c,m,n,D,Pl,eu,_,hl,hc,hm,_,hx⟩
 ·simp[Value.cells]at eu;obtain⟨rfl,rfl,rfl⟩:=eu;exact⟨by omega,.inl rfl⟩
 ·simp[Value.cells]at eu;obtain⟨rfl,rfl,rfl⟩:=eu;unfold maxLen at hc;refine⟨by omega,?_⟩;by_cases hz:len=0
  ·exact .inl hz
  ·right;rw[aE]at hx;simp only[if_true]at hm;obtain⟨cs0,h1,_⟩:=hx 0 (by omega);obtain⟨_,h2,h3⟩:=World.cells?_some h1;have h4:=h3 0 h0;rw[Nat.zero_mul]at h4;have h5:(a.add 0).add 0=a:=by simp[Addr.add]
   rw[h5]at h4;obtain⟨h6,h7⟩:=KT (h4.trans (aD (by omega)));refine⟨a.block,a.off,by rw[← h6],h7,λi hi=>?_⟩;obtain⟨cs,g1,jZ⟩:=hx i (by omega);obtain⟨_,nO,ov⟩:=World.cells?_some g1;refine⟨cs,n,_,nO,λj v hj=>?_,jZ⟩;have ea:j<sz:=by
    rcases gE j cs.length with h | h
    ·omega
    ·rw[iD h]at hj;cases hj
   have:=ov j ea;rw[h6,jU,jU,hj]at this;exact this
end
section
theorem XZ {x:Int}(h:(Lit.int .u8 x).wf=true):x=((UInt8.ofNat x.toNat).toNat:Int):=by
 have hr:=(Lit.wf_int_iff .u8 x).1 h;have h1:IntKind.u8.min=0:=by decide
 have h2:IntKind.u8.max=255:=by decide
 rw[h1,h2]at hr;rw[UInt8.toNat_ofNat'];omega
theorem pT.KV {W:World}{a:Option Addr}{len cap:Nat}{z:List Int}(h:pT .u8 W a len cap z):∃ bs:List UInt8,bs.length=len∧aL W a len bs:=by
 refine⟨(z.take len).map (λn=>UInt8.ofNat n.toNat),?_,?_⟩
 ·have:=h.KU;simp;omega
 ·have hl:=h.KU;have hz:∀ n∈z,(Lit.int .u8 n).wf=true:=by
   rcases h with ⟨_,_,_,rfl⟩ | ⟨x,_,_,_,_,_,hw⟩
   ·intro n hn;cases hn
   ·exact hw
  refine⟨by simp;omega,λe=>?_,λx hx hp=>?_⟩
  ·rcases h with ⟨_,h,_,_⟩ | ⟨x,rfl,_⟩
   ·exact h
   ·cases e
  ·obtain⟨b,off,rfl,hb,_,hc⟩:=h.get hp;refine⟨b,off,by cases hx;rfl,λj v hj=>?_⟩;have oT:=(aZ.1 hj).1;rw[dt,bf,dH]at oT;have:=hc j (by omega);rw[fD]at this;rw[this,← hj];have X0:z.getD j 0∈z:=by rw[bl,aD (by omega),Option.getD_some];exact iI _
   have hw:=hz _ X0;have hu:=XZ hw;simp only[bc,bm,rh];rw[ak (by omega),aD (by omega)];simp only[Option.map_some];have hd:z.getD j 0=z[j]'(by omega):=by rw[bl,aD (by omega),Option.getD_some]
   rw[hd]at hu ⊢;exact dG (λz=>some (Value.int .u8 z)) hu
theorem X1 {α:Type}{P:Nat→α→Prop}:∀ n:Nat,(∀ i,i<n→∃ x,P i x)→∃ l:List α,l.length=n∧∀ i x,l[i]?=some x→P i x:=by
 intro n
 induction n with
 | zero=>exact λ_=>⟨[],rfl,λi x h=>by simp at h⟩
 | succ n ih =>
  intro h;obtain⟨l,h1,h2⟩:=ih (λi hi=>h i (by omega));obtain⟨x,hx⟩:=h n (by omega);refine⟨l++[x],by simp[h1],λi y hy=>?_⟩;rw[List.getElem?_append]at hy;split at hy
  ·exact h2 i y hy
  ·have h4:=(aZ.1 hy).1;simp at h4;obtain rfl:i=n:=by omega
   rw[h1,Nat.sub_self]at hy;simp at hy;exact hy ▸ hx
abbrev afU:=Option Addr×Nat×List ef
end
section
section
theorem X2 {u v:List (List UInt8)}:pH u v=true↔u.take (min u.length v.length)=v.take (min u.length v.length):=by simp[pH]
end
end
section
abbrev Kx:=Wk×Nat
def fc (p:Pr)(an:Option Addr)(cO tq jq sq:Nat)(x:Kx):SP:=aa x.2 247 (cy p an cO tq jq sq x.1)
def gR (ks:List Kx):List Value:=ks.map λx=>pt x.2
theorem KW {ks:List Kx}{i:Nat}{k:Wk}{wb:Nat}(h:ks[i]?=some (k,wb)):(gR ks)[i]?=some (pt wb):=by rw[gR,bm,h];rfl
theorem KX {ks:List Kx}{i:Nat}{k k':Wk}{wb:Nat}(h:ks[i]?=some (k,wb)):gR (ks.set i (k',wb))=gR ks:=by
 have hi:=(aZ.1 h).1;apply ext_getElem?;intro j;simp only[gR,bm,jX];by_cases hj:i=j
 ·subst hj;rw[ak rfl,ak hi,h];rfl
 ·rw[ag hj]
theorem wT {ks:List Kx}{i:Nat}{k k':Wk}{wb:Nat}(h:ks[i]?=some (k,wb)):(ks.map (·.1)).Perm (k::(ks.eraseIdx i).map (·.1))∧((ks.set i (k',wb)).map (·.1)).Perm (k'::(ks.eraseIdx i).map (·.1)):=by
 obtain⟨hi,he⟩:=aZ.1 h;have h1:=(sQ ks hi).map (·.1);rw[map_cons,he]at h1;have h2:=(sQ (ks.set i (k',wb)) (by simpa using hi)).map (·.1);rw[map_cons,ou,eraseIdx_set_eq]at h2;exact⟨h1,h2⟩
section
variable {W w:World}{L:List SP}{tq jq sq r wb i cO n base:Nat}{an:Option Addr}{A:Sn}{T:Tr}{J:Js}{k:Wk}{p:Pr}{x:Br}{px:aC}{ks:List Kx}{t:Nat→Nat}
theorem U.KY (I:U W w (ah (fc p an cO tq jq sq) ks::L))(hk:ks[i]?=some (k,wb)):U W w (aa wb 247 (cy p an cO tq jq sq k)::ah (fc p an cO tq jq sq) (ks.eraseIdx i)::L):=by
 obtain⟨hi,he⟩:=aZ.1 hk;have:=I.fo hi;rw[he]at this;exact this
theorem U.Fe {k':Wk}(I:U W w (aa wb 247 (cy p an cO tq jq sq k')::ah (fc p an cO tq jq sq) (ks.eraseIdx i)::L))(hk:ks[i]?=some (k,wb)):U W w (ah (fc p an cO tq jq sq) (ks.set i (k',wb))::L) :=
 U.kY (f:=fc p an cO tq jq sq) (x:=(k',wb)) (aZ.1 hk).1 I
theorem X3 {F:Int}{g0:Nat→Int}(I:U W w (ah (fc p an cO tq jq sq) ks::Tree tq sq T::ax sq r A::bL jq J::az W p an cO::L))(hk:ks[i]?=some (k,wb))(hI:Inv p F g0 t base A T (ks.map (·.1)))
   (hF:0≤F∧F≤1099511627776) (hp:dq p) (hz:p.title.size≤1000000000) (hn:A.n+1<1099511627776) (kL:J.length≤16) :
   Calls prog 102 #[pt wb] w λe V=>∃ (z:Bool) (A':Sn) (T':Tr) (J':Js) (k':Wk),e=.returned (.bool z)∧(lG p A T J k z A' T' J' k'∧Inv p F g0 t base A' T' ((ks.set i (k',wb)).map (·.1))∧A5 A T J A' T' J') ∧
    U W V (ah (fc p an cO tq jq sq) (ks.set i (k',wb))::Tree tq sq T'::ax sq r A'::bL jq J'::az W p an cO::L):=by
 have hA:=(ax.facts (I.store sq)).1;have hT:=Tree.wt (I.tree tq);have X4:k∈ks.map (·.1):=cV.2 ⟨_,bH hk,rfl⟩;have h1:=I.KY hk;refine (Xz (L:=ah (fc p an cO tq jq sq) (ks.eraseIdx i)::L) (h1.sub (M:=aa wb 247 (cy p an cO tq jq sq k)::Tree tq sq T::ax sq r A::bL jq J::az W p an cO::ah (fc p an cO tq jq sq) (ks.eraseIdx i)::L)) (hI.ready X4 hF hp hz hn kL)).mono λe V ⟨z,A',T',J',k',he,hb,I⟩=>?_;refine⟨z,A',T',J',k',he,⟨hb,((hI.wJ (wT (k':=k') hk).1).bit hA hT hb).wJ (wT (k':=k') hk).2.symm,hb.Ws⟩,?_⟩;have h2:=U.Fe (i:=i) (ks:=ks) (k:=k) (k':=k') (I.sub (M:=aa wb 247 (cy p an cO tq jq sq k')::ah (fc p an cO tq jq sq) (ks.eraseIdx i)::Tree tq sq T'::ax sq r A'::bL jq J'::az W p an cO::L)) hk;exact h2
theorem X5 {F:Int}{g0:Nat→Int}(I:U W w (ah (fc p an cO tq jq sq) ks::ax sq r A::L))(hk:ks[i]?=some (k,wb))(hI:Inv p F g0 t base A T (ks.map (·.1))) :
   Calls prog 145 #[pt wb] w λe V=>∃ (A':Sn) (k':Wk),e=.returned (.bool k.busy)∧(k'.busy=false∧Inv p F g0 t base A' T ((ks.set i (k',wb)).map (·.1))∧A'.room=A.room∧A'.n=A.n) ∧
    U W V (ah (fc p an cO tq jq sq) (ks.set i (k',wb))::ax sq r A'::L):=by
 have hA:=(ax.facts (I.store sq)).1;have h1:=I.KY hk;cases hb:k.busy with
 | false =>
  refine (KD h1 hb).mono λe V ⟨he,I⟩=>⟨A,k,he,⟨hb,(hI.wJ (wT (k':=k) hk).1).wJ (wT (k':=k) hk).2.symm,rfl,rfl⟩,?_⟩;exact U.Fe (i:=i) (ks:=ks) (k:=k) (k':=k) I hk
 | true =>
  refine (yP (L:=ah (fc p an cO tq jq sq) (ks.eraseIdx i)::L) (h1.sub (M:=aa wb 247 (cy p an cO tq jq sq k)::ax sq r A::ah (fc p an cO tq jq sq) (ks.eraseIdx i)::L)) hb).mono λe V ⟨he,I⟩=>?_;refine⟨A.eI k.x,{ k with busy:=false },he,⟨rfl,((hI.wJ (wT (k':={ k with busy:=false }) hk).1).rest (k':={ k with busy:=false }) hA hb rfl rfl).wJ (wT (k':={ k with busy:=false }) hk).2.symm,(oJ A _).1,(oJ A _).2.1⟩,?_⟩;exact U.Fe (i:=i) (ks:=ks) (k:=k) (k':={ k with busy:=false }) (I.sub (M:=aa wb 247 (cy p an cO tq jq sq { k with busy:=false })::ah (fc p an cO tq jq sq) (ks.eraseIdx i)::ax sq r (A.eI k.x)::L)) hk
theorem X6 (I:U W w L):Calls prog 92 #[.agg (bx p an cO).toArray,pt tq,pt jq,pt sq] w λe V =>
   ∃ wb,e=.returned (pt wb)∧U W V (aa wb 247 (cy p an cO tq jq sq la)::L):=by
 refine EN func92 ntmps92 rfl rfl λa E=>?_;refine BX 1 E I λb4 a w E I=>?_;change U W w (aa b4 45 (bx p an cO)::_) at I;refine RN 3 E I λa E=>?_;change Fr a 15 ((9,.agg (List.toArray [.string p.title,.slice an p.ops.length cO]))::_) at E;refine BX 4 E I λeT a w E I=>?_;change U W w (aa eT 247 (cy p an cO tq jq sq la)::_) at I;refine RT 1 E I ?_;exact⟨eT,rfl,I.sub⟩
theorem X7 {frm:Int}{ad2:Option Addr}{c2 id:Nat}{zs:List ef}{P:List (List UInt8)}(I:U W w (Tree tq sq T::ax sq r A::L))(hr:∀ V,U W V L→iH V ad2 zs)(hz:zs.map (·.2.2)=P)(hc:P.length≤c2)(dj:nS P)
   (hx:A.av[i]?=some px) (bX:px.id=id) (hb:A.n+1<1099511627776) (hl:T.last+1<1099511627776) (hm:T.l.length<T.most) :
   Calls prog 306 #[pt tq,.int .i64 frm,.int .i64 id,.slice ad2 P.length c2] w λe V=>∃ (z:Nat) (ok:Bool),e=.returned (.tuple #[.int .i64 z,.bool ok]) ∧
    ((ok=false∧(P=[]∨∃ y∈T.l,y.is frm P)∧U W V (Tree tq sq T::ax sq r A::L)) ∨
     (ok=true∧z=T.last+1∧P≠[]∧(∀ y∈T.l,¬ y.is frm P)∧U W V (Tree tq sq (T.add frm P (A.last+1))::ax sq r (A.add px.g px.p)::L))):=by
 subst bX;rcases lD P.length with h0 | h0
 ·have hP:=hG h0;exact (JX I (.inr h0)).mono λe V ⟨h1,I⟩=>⟨0,false,h1,.inl ⟨rfl,.inl hP,I⟩⟩
 ·have hP:P≠[]:=List.length_pos_iff.1 h0;by_cases hex:∃ y∈T.l,y.is frm P
  ·obtain⟨y,hy,wA⟩:=hex;obtain⟨j,hj⟩:=j5.1 hy;have X8:∀ V,U W V (ax sq r A::L)→k5 V ad2 P.length P:=λV h=>by
    have:=(hr V h.tail).bb;rw[hz]at this
    rwa [show zs.length=P.length from by rw[← hz,bf]]at this
   exact (VM I X8 hc dj hj wA).mono λe V ⟨h1,I⟩=>⟨0,false,h1,.inl ⟨rfl,.inr ⟨y,hy,wA⟩,I⟩⟩
  ·have b6:∀ y∈T.l,¬ y.is frm P:=λy hy h=>hex ⟨y,hy,h⟩;exact (VN I hr hz hc dj hx hb hl b6 hm h0).mono λe V ⟨h1,I⟩=>⟨T.last+1,true,h1,.inr ⟨rfl,rfl,hP,b6,I⟩⟩
end
end
section
set_option linter.constructorNameAsVariable false
set_option maxRecDepth 100000
theorem X9 {W:World}{b off:Nat}{ops:List fZ}(h:∀ i o,ops[i]?=some o→Rd W b (off+i*4) (c6 o)):Rd W b off (rows c6 ops):=by
 intro j v hj;have hlt:=(aZ.1 hj).1;rw[iG te]at hlt;have hi:j/4<ops.length:=by omega
 have h1:=h (j/4) ops[j/4] (aD hi);have hk:j%4<(c6 ops[j/4]).length:=by rw[te];omega
 have h2:=Ao te ops (i:=j/4) (k:=j%4) (v:=(c6 ops[j/4])[j%4]) hi (aD hk);rw[show j/4*4+j%4=j from by omega,hj]at h2;have h3:=h1 (j%4) _ (aD hk);rw[show off+j/4*4+j%4=off+j from by omega]at h3;rw[h3,h2]
theorem okWide_struct {P:Program}{w:World}{base:Nat}{t:TypeId}{fs:Array Field}{v:Value}(ht:P.underlying t=some (.struct fs))(h:Value.okWide P w .any base t v):∃ cs,v=.agg cs∧cs.size=P.cellsOf t:=by
 unfold Value.okWide at h;rw[ht]at h;obtain⟨cs,h1,h2,_⟩:=h;exact⟨cs,h1,h2⟩
def Bo (W:World)(p:Pr)(an:Option Addr)(cO:Nat):Prop:=p.title.size≤9223372036854775807∧p.ops.length≤cO∧cO≤9223372036854775807∧(0<p.ops.length→∃ b off,an=some ⟨b,off,none⟩∧b<W.heap.size∧Rd W b off (rows c6 p.ops))
theorem Ya {H:Type}{enc:TypeId×Value→H}{W:World}{base:Nat}{v:Value}{d:DataW H}{q:List MemPlace}(hv:Value.okWide prog W .any base 45 v)
   (h:DataW.Trod enc prog W 0 (λ_=>true) true 45 v d q):∃ p an cO,v=.agg (bx p an cO).toArray∧Bo W p an cO:=by
 obtain⟨cs,rfl,aE⟩:=okWide_struct underlying45 hv;obtain⟨fuel,hf⟩:=h;obtain⟨y0,Ka,n,_,hl,h0,h1⟩:=Go.ChangeShapes.trod_struct2 underlying45 hf;obtain⟨s,js,_,cI⟩:=DataW.trod_string underlying9 h0;have ay:prog.cellsOf 45=2:=by kernel_rfl
 rw[ay]at aE;rw[show prog.cellsOf 9=1 from by kernel_rfl]at js;rw[show prog.cellsOf 43=1 from by kernel_rfl]at h1;obtain⟨qP,dD,rfl⟩:∃ qP dD,cs=#[qP,dD]:=by
  match cs,aE with
  | ⟨[qP,dD]⟩,_=>exact⟨qP,dD,rfl⟩
 simp[Value.cells]at js h1;subst js;rcases DataW.trod_slice underlying43 h1 with ⟨eu,_⟩ | ⟨a,len,cap,_,_,_,_,eu,_,_,Yb,wU,_⟩
 ·simp at eu;subst eu;exact⟨⟨s,[]⟩,none,0,rfl,by simpa [maxLen] using cI,bh _,by omega,λh=>absurd h (by simp)⟩
 ·simp at eu;subst eu;obtain⟨g1,jZ⟩:=XY (sz:=4) underlying43 (by kernel_rfl) (by decide) (⟨_,h1⟩:DataW.Trod enc prog W 0 (λ_=>true) true 43 (.slice (some a) len cap) _ _);unfold maxLen at wU cI;rcases jZ with jZ | ⟨b,off,nO,ov,ts⟩
  ·subst jZ;exact⟨⟨s,[]⟩,some a,cap,rfl,cI,Nat.zero_le _,by omega,λh=>absurd h (by simp)⟩
  ·obtain ⟨ops, o1, o2⟩ := X1 (α := fZ) (P := fun i o => Rd W b (off + i * 4) (c6 o)) len fun i hi => by
    obtain⟨cs,m,x,e1,e2,e3⟩:=ts i hi;obtain⟨xs,n,_,_,_,hlen,nU⟩:=DataW.trod_struct underlying114 e3;have mw:∀ k,k<4→∃ z,cs[k]?=some (.int .i64 z):=by
     intro k hk;obtain⟨y,hy⟩:∃ y,xs[k]?=some y:=⟨_,aD (by rw[hlen];exact hk)⟩;have ao:prog.cellsOf 3=1:=by kernel_rfl
     have ca:∃ f:Field,f.type=3∧f.offset=k∧prog.underlying 114=prog.underlying 114∧DataW.trod enc prog W 0 (λ_=>true) true n f.type ((cs.drop f.offset).take (prog.cellsOf f.type))=some y:=by
      rcases (by omega:k=0∨k=1∨k=2∨k=3) with rfl | rfl | rfl | rfl
      ·exact⟨_,rfl,rfl,rfl,(nU 0 _ rfl).trans hy⟩
      ·exact⟨_,rfl,rfl,rfl,(nU 1 _ rfl).trans hy⟩
      ·exact⟨_,rfl,rfl,rfl,(nU 2 _ rfl).trans hy⟩
      ·exact⟨_,rfl,rfl,rfl,(nU 3 _ rfl).trans hy⟩
     obtain⟨f,t1,t2,_,t3⟩:=ca;rw[t1,t2,ao]at t3;obtain⟨z,hz,_,_⟩:=DataW.trod_int underlying3 t3;refine⟨z,?_⟩;have h9:((cs.drop k).take 1)[0]?=some (.int .i64 z):=by rw[hz];rfl
     rw[rh,ak (by decide),pj]at h9;exact h9
    obtain⟨z0,q0⟩:=mw 0 (by decide);obtain⟨z1,q1⟩:=mw 1 (by decide);obtain⟨z2,q2⟩:=mw 2 (by decide);obtain⟨z3,wV⟩:=mw 3 (by decide);refine⟨⟨z0,z1,z2,z3⟩,?_⟩;obtain⟨qP,dD,c2,db,rfl⟩:∃ qP dD c2 db,cs=[qP,dD,c2,db]:=by
     match cs,e1 with
     | [qP,dD,c2,db],_=>exact⟨qP,dD,c2,db,rfl⟩
    obtain rfl:qP=_:=nX q0;obtain rfl:dD=_:=nX q1;obtain rfl:c2=_:=nX q2;obtain rfl:db=_:=nX wV;exact e2
   subst o1;exact⟨⟨s,ops⟩,some a,cap,rfl,cI,Yb,by omega,λ_=>⟨b,off,nO,ov,X9 o2⟩⟩
theorem Bo.ro {W w:World}{L:List SP}{p:Pr}{an:Option Addr}{cO:Nat}(h:Bo W p an cO)(I:U W w L):U W w (az W p an cO::L) :=
 I.J6 (iG te _) h.2.1 h.2.2.2
end
section
section
variable {W w:World}{L:List SP}{sq r i:Nat}{A:Sn}{px:aC}
theorem Yc {id:Nat}(I:U W w (ax sq r A::L))(hx:A.av[i]?=some px)(bX:px.id=id) :
   Calls prog 290 #[pt sq,.int .i64 id] w λe V=>e=.returned (.tuple #[.agg (ints .i32 32 px.g).toArray,.bool true])∧U W V (ax sq r A::L):=by
 subst bX;exact Vs I hx
set_option maxHeartbeats 4000000 in
end
end
section
section
variable {P:Program}{ops:Array Oper}{Q:Exit→Act→World→Prop}{a:Act}{w V W:World}{K:Act→World→Prop}{n d:Nat}{l:List (Nat×Value)}{v:Value}{L R:List SP}
theorem g3 {s x t z sz a6 e ad k c ad2 m c2 news ty ps af g}{cs:List Value}(E:Fr a n l)(hw:Region.wanted ⟨some d,.call ⟨.builtin .append,#[s,x],#[t,t]⟩,ty,ps,af,g⟩ (yielded ops a.tmps)=true)(I:U W w L)
   (ht:P.underlying t=some (.slice e)) (hi:TI P e z sz a6) (hf:okB d n l=true) (hz:z.cells.size=sz) (hb:0<a6)
   [e1:Ev l s (.slice ad k c)] [pk:fk L ad k c e sz cs R] [e2:Ev l x (.slice ad2 m c2)] (hr:0<m→∃ b2 gN,ad2=some ⟨b2,gN,none⟩∧Rd w b2 gN news) (hl:news.length=m*sz) (h1:∀ v∈news,v.oneCell'=true)
   (aE:(k+m)*a6≤140737488355328)
   (h:∀ au c' a' V,Fr a' n ((d,.slice au (k+m) c')::l)→U W V (Sl e sz au (k+m) c' (cs++news)::R)→K a' V) :
   cH P ops Q ⟨some d,.call ⟨.builtin .append,#[s,x],#[t,t]⟩,ty,ps,af,g⟩ K a w:=by
 rcases lD m with h0 | h0
 ·subst h0;have rq:=(I.sl ad).2;obtain rfl:news=[]:=hG (by rw[hl,Nat.zero_mul]);refine DF (ad:=ad) (k:=k) (c:=c) (ad2:=ad2) (c2:=c2) E hw ht hi hf rq λa' de=>h ad c a' w de ?_;rw[append_nil];exact I.perm pk.perm
 ·obtain⟨b2,gN,rfl,dh⟩:=hr h0;exact cK E hw I ht hi hz hf dh hl h1 h0 hb aE h
end
theorem U.Ff {W w:World}{L:List SP}{b e n:Nat}{cs:List Value}{l:List UInt8}(I:U W w (aa b e cs::L))(he:e=5)(hl:l.length=n)(h:cs=bc l):U W w (Sl 5 1 (some ⟨b,0,none⟩) n n (bc l)::L):=by
 subst h;subst he;have h2:U W w (aa b 5 ([]++bc l++[])::L):=by simpa using I
 exact U.iY (pre:=[]) (post:=[]) (n:=n) (c:=n) (sz:=1) (cs:=bc l) h2 (by rw[dt,hl,fD]) (bh _) (by simp)
theorem dQ {bs:List UInt8}{i:Nat}(h:i<bs.length):(bc bs)[i]?=some (.int .u8 ((bs[i]).toNat:Int)):=by simp[bc,h]
theorem fR (a b:List UInt8):bc (a++b)=bc a++bc b:=by simp[bc]
theorem aL.get {w:World}{ad:Option Addr}{m:Nat}{bs:List UInt8}(h:aL w ad m bs)(h0:0<m):∃ b o,ad=some ⟨b,o,none⟩∧Rd w b o (bc bs):=by
 obtain⟨_,h2,h3⟩:=h;cases hh:ad with
 | none=>have:=h2 hh;omega
 | some a =>
  obtain⟨b,o,rfl,h1⟩:=h3 a hh h0;exact⟨b,o,rfl,h1⟩
theorem aL.rd {w:World}{b o m:Nat}{bs:List UInt8}(h:aL w (some ⟨b,o,none⟩) m bs)(h0:0<m):Rd w b o (bc bs):=by
 obtain⟨b',o',e,h1⟩:=h.get h0;cases e;exact h1
theorem aL.uY {w:World}{ad:Option Addr}{bs:List UInt8}{c:Nat}(h:aL w ad bs.length bs){lo:Nat}(hl:lo≤bs.length)(hc:bs.length≤c):aL w (e6 ad lo c 1) (bs.drop lo).length (bs.drop lo):=by
 refine⟨rfl,λe=>?_,λx hx h0=>?_⟩
 ·rw[c4];rcases lD (bs.length-lo) with h0 | h0
  ·exact h0
  ·obtain⟨b,o,rfl,_⟩:=h.get (by omega);rw[po (by omega)]at e;cases e
 ·rw[c4]at h0;obtain⟨b,o,rfl,hr⟩:=h.get (by omega);rw[po (by omega)]at hx;cases hx;refine⟨b,o+lo*1,rfl,λj v hj=>?_⟩;have h1:=hr (lo+j) v (by rw[bc,bm,← pj,← bm];exact hj)
  rwa [show o+lo*1+j=o+(lo+j) from by omega]
theorem aL.Bp {w:World}{ad:Option Addr}{bs:List UInt8}{m:Nat}(h:aL w ad m bs){hi:Nat}(hl:hi≤bs.length):aL w ad hi (bs.take hi):=by
 obtain⟨h1,h2,h3⟩:=h;refine⟨by rw[dH];omega,λe=>by have:=h2 e;omega,λx hx h0=>?_⟩;obtain⟨b,o,e,hr⟩:=h3 x hx (by omega);refine⟨b,o,e,λj v hj=>hr j v ?_⟩;rw[bc,map_take,rh]at hj;split at hj
 ·exact hj
 ·cases hj
theorem uZ (x:Nat):BitVec.ofInt IntKind.u32.bits (x:Int)=BitVec.ofNat 32 x:=BitVec.ofInt_natCast 32 x
theorem Bq (x:Nat):BitVec.ofInt IntKind.u64.bits (x:Int)=BitVec.ofNat 64 x:=BitVec.ofInt_natCast 64 x
theorem Bs {x y:Nat}(hx:x<4294967296)(hy:y<4294967296):IntKind.u32.wrap (((BitVec.ofInt IntKind.u32.bits (x:Int) ^^^ BitVec.ofInt IntKind.u32.bits (y:Int)).toNat:Nat):Int)=((x ^^^ y:Nat):Int):=by
 rw[uZ,uZ];show IntKind.u32.wrap (((BitVec.ofNat 32 x ^^^ BitVec.ofNat 32 y).toNat:Nat):Int)=_;rw[BitVec.toNat_xor,BitVec.toNat_ofNat,BitVec.toNat_ofNat,kX (show x<2 ^ 32 from hx),kX (show y<2 ^ 32 from hy),wrap_u32];have:=Nat.xor_lt_two_pow (n:=32) hx hy;omega
theorem Yd {x y:Nat}(hx:x<4294967296)(hy:y<4294967296):IntKind.u32.wrap (((BitVec.ofInt IntKind.u32.bits (x:Int) &&& BitVec.ofInt IntKind.u32.bits (y:Int)).toNat:Nat):Int)=((x &&& y:Nat):Int):=by
 rw[uZ,uZ];show IntKind.u32.wrap (((BitVec.ofNat 32 x &&& BitVec.ofNat 32 y).toNat:Nat):Int)=_;rw[BitVec.toNat_and,BitVec.toNat_ofNat,BitVec.toNat_ofNat,kX (show x<2 ^ 32 from hx),kX (show y<2 ^ 32 from hy),wrap_u32];have:x &&& y≤x:=Nat.and_le_left;omega
theorem KZ {x:Nat}(h:x<4294967296):IntKind.u32.wrap (((BitVec.ofInt IntKind.u32.bits (if IntKind.u32.signed then -1 else IntKind.u32.max) ^^^ BitVec.ofInt IntKind.u32.bits (x:Int)).toNat:Nat):Int)=((4294967295-x:Nat):Int):=by
 have e:BitVec.ofInt IntKind.u32.bits (if IntKind.u32.signed then -1 else IntKind.u32.max)=BitVec.allOnes 32:=by
  show BitVec.ofInt 32 IntKind.u32.max=_;decide
 rw[e,uZ];show IntKind.u32.wrap (((BitVec.allOnes 32 ^^^ BitVec.ofNat 32 x).toNat:Nat):Int)=_;rw[BitVec.allOnes_xor,BitVec.toNat_not,BitVec.toNat_ofNat,wrap_u32];rw[kX (show x<2 ^ 32 from h)];omega
theorem Ye {x y:Nat}(hx:x<18446744073709551616)(hy:y<18446744073709551616):IntKind.u64.wrap (((BitVec.ofInt IntKind.u64.bits (x:Int) ||| BitVec.ofInt IntKind.u64.bits (y:Int)).toNat:Nat):Int)=((x ||| y:Nat):Int):=by
 rw[Bq,Bq];show IntKind.u64.wrap (((BitVec.ofNat 64 x ||| BitVec.ofNat 64 y).toNat:Nat):Int)=_;rw[BitVec.toNat_or,BitVec.toNat_ofNat,BitVec.toNat_ofNat,kX (show x<2 ^ 64 from hx),kX (show y<2 ^ 64 from hy),wrap_u64];have:=Nat.or_lt_two_pow (n:=64) hx hy;omega
theorem Yf {x y:Nat}(hx:x<18446744073709551616)(hy:y<18446744073709551616):IntKind.u64.wrap (((BitVec.ofInt IntKind.u64.bits (x:Int) &&& BitVec.ofInt IntKind.u64.bits (y:Int)).toNat:Nat):Int)=((x &&& y:Nat):Int):=by
 rw[Bq,Bq];show IntKind.u64.wrap (((BitVec.ofNat 64 x &&& BitVec.ofNat 64 y).toNat:Nat):Int)=_;rw[BitVec.toNat_and,BitVec.toNat_ofNat,BitVec.toNat_ofNat,kX (show x<2 ^ 64 from hx),kX (show y<2 ^ 64 from hy),wrap_u64];have:x &&& y≤x:=Nat.and_le_left;omega
theorem lK (b:UInt8):b.toNat<256:=b.toNat_lt
def tt (x:Nat):Nat:=if x%2=1 then x/2 ^^^ 3988292384 else x/2
def mO:Nat→Nat→Nat
 | 0,y=>y
 | k+1,y=>tt (mO k y)
def wW (x:Nat)(b:UInt8):Nat:=mO 8 (x ^^^ b.toNat)
def oV (bs:List UInt8):Nat:=bs.foldl wW 4294967295
def jB (bs:List UInt8):Nat:=4294967295-oV bs
theorem Yg {x:Nat}(h:x<4294967296):tt x<4294967296:=by
 unfold tt;split
 ·exact Nat.xor_lt_two_pow (n:=32) (by show x/2<4294967296;omega) (by decide)
 ·omega
theorem Bt {x:Nat}(h:x<4294967296):∀ k,mO k x<4294967296
 | 0=>h
 | k+1=>Yg (Bt h k)
theorem Yh {x:Nat}(b:UInt8)(h:x<4294967296):wW x b<4294967296:=by
 refine Bt (Nat.xor_lt_two_pow (n:=32) h ?_) 8;have:=lK b;show b.toNat<4294967296;omega
theorem Yi (bs:List UInt8):∀ {x:Nat},x<4294967296→bs.foldl wW x<4294967296:=by
 induction bs with
 | nil=>exact λh=>h
 | cons b bs ih=>exact λh=>ih (Yh b h)
theorem Bu (bs:List UInt8):oV bs<4294967296:=Yi bs (by decide)
theorem Fg (bs:List UInt8):jB bs<4294967296:=by unfold jB;omega
theorem K0 {bs:List UInt8}{i:Nat}(h:i<bs.length):oV (bs.take (i+1))=wW (oV (bs.take i)) bs[i]:=by
 rw[oV,jv h,foldl_append];rfl
theorem Yj {x:Nat}(h:x<4294967296):IntKind.u32.wrap (((BitVec.ofInt IntKind.u32.bits (x:Int) &&& BitVec.ofInt IntKind.u32.bits 1).toNat:Nat):Int)=((x%2:Nat):Int):=by
 have h1:=Yd (y:=1) h (by decide);rw[Nat.and_one_is_mod]at h1;exact h1
theorem Yk {m:Nat}(h:m<2):IntKind.u32.wrap (0-(m:Int))=((if m=1 then 4294967295 else 0:Nat):Int):=by
 rcases (by omega:m=0∨m=1) with rfl | rfl <;> decide
theorem Yl (m:Nat):IntKind.u32.wrap (((BitVec.ofInt IntKind.u32.bits 3988292384 &&& BitVec.ofInt IntKind.u32.bits ((if m=1 then 4294967295 else 0:Nat):Int)).toNat:Nat):Int)=((if m=1 then 3988292384 else 0:Nat):Int):=by
 by_cases h:m=1
 ·rw[ak h,ak h];decide
 ·rw[ag h,ag h];decide
theorem Ym {x m:Nat}(hx:x<4294967296):IntKind.u32.wrap (((BitVec.ofInt IntKind.u32.bits ((x/2:Nat):Int) ^^^ BitVec.ofInt IntKind.u32.bits ((if x%2=1 then 3988292384 else 0:Nat):Int)).toNat:Nat):Int)=((tt x:Nat):Int):=by
 rw[Bs (by omega) (by split <;> decide),tt];split
 ·rfl
 ·rw[Nat.xor_zero]
theorem Yn {x:Nat}(hx:x<4294967296):IntKind.u32.wrap (((BitVec.ofInt IntKind.u32.bits ((x/2:Nat):Int) ^^^ BitVec.ofInt IntKind.u32.bits 3988292384).toNat:Nat):Int)=((x/2 ^^^ 3988292384:Nat):Int):=Bs (y:=3988292384) (by omega) (by decide)
def fq (x:Nat):List UInt8:=[UInt8.ofNat (x/16777216),UInt8.ofNat (x/65536),UInt8.ofNat (x/256),UInt8.ofNat x]
theorem Yo (n:Nat):IntKind.u8.wrap (n:Int)=((UInt8.ofNat n).toNat:Int):=by
 rw[wrap_u8,UInt8.toNat_ofNat'];omega
def pU (x:Int):Nat:=(x%4294967296).toNat
theorem K1 (x:Int):IntKind.u32.wrap x=((pU x:Nat):Int):=by rw[wrap_u32,pU];omega
def gw (g:Nat→Int):List UInt8:=(List.range 32).flatMap λi=>fq (pU (g i))
def mc (g:Nat→Int)(n:Nat):List UInt8:=(List.range n).flatMap λi=>fq (pU (g i))
theorem Fh (g:Nat→Int)(n:Nat):mc g (n+1)=mc g n++fq (pU (g n)):=by simp[mc,range_succ]
theorem rV (g:Nat→Int)(n:Nat):(mc g n).length=4*n:=by
 induction n with
 | zero=>rfl
 | succ n ih=>rw[Fh,aN,ih];simp[fq];omega
theorem u0 (g:Nat→Int):(gw g).length=128:=rV g 32
section
variable {W w:World}{L:List SP}{n c m:Nat}{ad:Option Addr}{bs:List UInt8}
theorem Yp (I:U W w L)(hb:bs.length≤1099511627776)(hp:∀ V,U W V L→aL V ad bs.length bs) :
   Calls prog 205 #[.int .u32 0,.slice ad bs.length c] w λe V=>e=.returned (.int .u32 (jB bs))∧U W V L:=by
 refine EN func205 ntmps205 rfl rfl λa E=>?_;refine RN 6 E I λa E=>?_;rw[show IntKind.u32.wrap ((BitVec.ofInt IntKind.u32.bits (if IntKind.u32.signed then -1 else IntKind.u32.max) ^^^ BitVec.ofInt IntKind.u32.bits 0).toNat:Int)=((oV (bs.take 0):Nat):Int) from rfl]at E;refine RN 5 E I λa E=>?_;refine aQ (λμ a w=>∃ (i:Nat),(μ=bs.length-i∧i≤bs.length)∧Fr a 33 [(5,.int .u32 (oV (bs.take i))),(10,.slice ad bs.length c),(11,.int .i64 bs.length),(12,.int .i64 i)]∧U W w L) (bs.length) (⟨0,⟨rfl,by omega⟩,E.ab [5,10,11,12],I⟩) ?_;clear E I;rintro μ a w ⟨i,⟨rfl,hi⟩,E,I⟩;refine IF 3 E I (λaj a E=>?_) λaj a E=>?_
 ·
  obtain⟨bb,oo,rfl,hr⟩:=(hp _ I).get (by omega);have aF:i<bs.length:=by omega
  have hx:=Bu (bs.take i);have qQ:=lK bs[i];refine RN 3 E I λa E=>?_;refine SS E (ae E (hr i _ (dQ aF))) λa E=>?_;refine SX 4 E I (by rw[wrap_u32];omega) λa E=>?_;refine RN 1 E I λa E=>?_;rw[Bs hx (by omega)]at E;refine RN 3 E I λa E=>?_;have hy:oV (bs.take i) ^^^ bs[i].toNat<4294967296:=Nat.xor_lt_two_pow (n:=32) hx (by show _<4294967296;omega);have eu:=K0 aF;rw[wW]at eu;generalize oV (bs.take i) ^^^ bs[i].toNat=y at E hy eu;refine aQ (λμ a w=>∃ (k:Nat),(μ=8-k∧k≤8)∧Fr a 33 [(5,.int .u32 (mO k y)),(10,.slice (some ⟨bb,oo,none⟩) bs.length c),(11,.int .i64 bs.length),(12,.int .i64 i),(20,.int .i64 k)]∧U W w L) (8) (⟨0,⟨rfl,by omega⟩,E.ab [5,10,11,12,20],I⟩) ?_;clear E I;rintro μ a w ⟨k,⟨rfl,hk⟩,E,I⟩;refine IF 3 E I (λao a E=>?_) λao a E=>?_
  ·
   have Bv:=Bt hy k;refine RN 3 E I λa E=>?_;rw[show ((mO k y:Nat):Int).fdiv (2 ^ 1)=((mO k y/2:Nat):Int) from ld _ 2]at E;refine RN 2 E I λa E=>?_;rw[Yj Bv]at E;refine RN 1 E I λa E=>?_;rw[Yk (Nat.mod_lt _ (by decide))]at E;refine RN 1 E I λa E=>?_;rw[Yl]at E;refine RN 1 E I λa E=>?_;rw[Ym (m:=0) Bv]at E;refine RN 3 E I λa E=>?_;exact⟨8-(k+1),by omega,k+1,⟨rfl,by omega⟩,E.ab [5,10,11,12,20],I⟩
  obtain rfl:k=8:=by omega
  rw[← eu]at E;refine RN 2 E I λa E=>?_;exact⟨bs.length-(i+1),by omega,i+1,⟨rfl,by omega⟩,E.ab [5,10,11,12],I⟩
 obtain rfl:i=bs.length:=by omega
 rw[k0]at E;refine RN 3 E I λa E=>?_;rw[KZ (Bu bs)]at E;refine RT 1 E I ?_;exact⟨rfl,I⟩
theorem K2 (I:U W w L)(hb:bs.length≤1099511627776)(hp:∀ V,U W V L→aL V ad bs.length bs) :
   Calls prog 176 #[.slice ad bs.length c] w λe V=>e=.returned (.int .u32 (jB bs))∧U W V L:=by
 refine EN func176 ntmps176 rfl rfl λa E=>?_;refine CL 4 E I (Yp I hb hp) λa w E I=>?_;refine RT 1 E I ?_;exact⟨rfl,I⟩
theorem K3 (I:U W w L)(hb:bs.length≤1099511627776)(hp:∀ V,U W V L→aL V ad bs.length bs) :
   Calls prog 154 #[.slice ad bs.length c] w λe V=>e=.returned (.int .u32 (jB bs))∧U W V L:=by
 refine EN func154 ntmps154 rfl rfl λa E=>?_;refine RN 7 E I λa E=>?_;refine aQ (λμ a w=>∃ (i:Nat),(μ=bs.length-i∧i≤bs.length)∧Fr a 33 [(0,.slice ad bs.length c),(3,.int .u32 (oV (bs.take i))),(4,.int .i64 i)]∧U W w L) (bs.length) (⟨0,⟨rfl,by omega⟩,E.ab [0,3,4],I⟩) ?_;clear E I;rintro μ a w ⟨i,⟨rfl,hi⟩,E,I⟩;refine IF 6 E I (λaj a E=>?_) λaj a E=>?_
 ·
  obtain⟨bb,oo,rfl,hr⟩:=(hp _ I).get (by omega);have aF:i<bs.length:=by omega
  have hx:=Bu (bs.take i);have qQ:=lK bs[i];refine RN 6 E I λa E=>?_;refine SS E (ae E (hr i _ (dQ aF))) λa E=>?_;refine SX 0 E I (by rw[wrap_u32];omega) λa E=>?_;refine RN 1 E I λa E=>?_;rw[Bs hx (by omega)]at E;refine RN 3 E I λa E=>?_;have hy:oV (bs.take i) ^^^ bs[i].toNat<4294967296:=Nat.xor_lt_two_pow (n:=32) hx (by show _<4294967296;omega);have eu:=K0 aF;rw[wW]at eu;generalize oV (bs.take i) ^^^ bs[i].toNat=y at E hy eu;refine aQ (λμ a w=>∃ (k:Nat),(μ=8-k∧k≤8)∧Fr a 33 [(0,.slice (some ⟨bb,oo,none⟩) bs.length c),(3,.int .u32 (mO k y)),(4,.int .i64 i),(5,.int .i64 k)]∧U W w L) (8) (⟨0,⟨rfl,by omega⟩,E.ab [0,3,4,5],I⟩) ?_;clear E I;rintro μ a w ⟨k,⟨rfl,hk⟩,E,I⟩;refine IF 4 E I (λao a E=>?_) λao a E=>?_
  ·
   have Bv:=Bt hy k;have oL:mO (k+1) y=tt (mO k y):=rfl;refine SX 3 E I (by decide) λa E=>?_;rw[show ((mO k y:Nat):Int).tmod 2=((mO k y%2:Nat):Int) from ot _ 2]at E;refine IF 1 E I (λay a E=>?_) λay a E=>?_
   ·
    rw[tt,ak (by omega)]at oL;refine RN 2 E I λa E=>?_;rw[show ((mO k y:Nat):Int).fdiv (2 ^ 1)=((mO k y/2:Nat):Int) from ld _ 2]at E;refine RN 1 E I λa E=>?_;rw[Yn Bv,← oL]at E;refine RN 4 E I λa E=>?_;exact⟨8-(k+1),by omega,k+1,⟨rfl,by omega⟩,E.ab [0,3,4,5],I⟩
   rw[tt,ag (by omega)]at oL;refine RN 2 E I λa E=>?_;rw[show ((mO k y:Nat):Int).fdiv (2 ^ 1)=((mO k y/2:Nat):Int) from ld _ 2,← oL]at E;refine RN 4 E I λa E=>?_;exact⟨8-(k+1),by omega,k+1,⟨rfl,by omega⟩,E.ab [0,3,4,5],I⟩
  obtain rfl:k=8:=by omega
  rw[← eu]at E;refine RN 3 E I λa E=>?_;exact⟨bs.length-(i+1),by omega,i+1,⟨rfl,by omega⟩,E.ab [0,3,4],I⟩
 obtain rfl:i=bs.length:=by omega
 rw[k0]at E;refine RN 3 E I λa E=>?_;rw[KZ (Bu bs)]at E;refine RT 1 E I ?_;exact⟨rfl,I⟩
theorem Fi {x:Nat}:[[Value.int .u8 (IntKind.u8.wrap ((x/16777216:Nat):Int))],[Value.int .u8 (IntKind.u8.wrap ((x/65536:Nat):Int))],[Value.int .u8 (IntKind.u8.wrap ((x/256:Nat):Int))],[Value.int .u8 (IntKind.u8.wrap ((x:Nat):Int))]].flatten=bc (fq x):=by
 simp only[Yo];rfl
theorem U.Fj {b:Nat}{cs:List Value}{l:List UInt8}{e:Nat}(I:U W w (aa b e cs::L))(he:e=5)(hl:l.length=4)(h:cs=bc l):U W w (Sl 5 1 (some ⟨b,0,none⟩) 4 4 (bc l)::L):=by
 subst h;subst he;have h2:U W w (aa b 5 ([]++bc l++[])::L):=by simpa using I
 exact U.iY (pre:=[]) (post:=[]) (n:=4) (c:=4) (sz:=1) (cs:=bc l) h2 (by rw[dt,hl]) (bh _) (Nat.zero_le _)
theorem K4 {x:Nat}(I:U W w L) :
   Calls prog 337 #[.int .u32 x] w λe V=>∃ ad,e=.returned (.slice ad 4 4)∧U W V (Sl 5 1 ad 4 4 (bc (fq x))::L):=by
 refine EN func337 ntmps337 rfl rfl λa E=>?_;refine RN 5 E I λa E=>?_;rw[show ((x:Nat):Int).fdiv (2 ^ 24)=((x/16777216:Nat):Int) from ld _ 16777216]at E;refine SS E (gr E underlying100 underlying5) λa E=>?_;refine RN 2 E I λa E=>?_;rw[show ((x:Nat):Int).fdiv (2 ^ 16)=((x/65536:Nat):Int) from ld _ 65536]at E;refine SS E (gr E underlying100 underlying5) λa E=>?_;refine RN 2 E I λa E=>?_;rw[show ((x:Nat):Int).fdiv (2 ^ 8)=((x/256:Nat):Int) from ld _ 256]at E;refine SS E (gr E underlying100 underlying5) λa E=>?_;refine RN 1 E I λa E=>?_;refine SS E (gr E underlying100 underlying5) λa E=>?_;refine RN 0 E I λa E=>?_;refine cn E rfl I underlying22 Ty.t5 rfl rfl rfl rfl (by decide) (by decide) λeT a w E I ho=>?_;clear ho;refine RT 1 E I ?_;exact⟨_,rfl,I.Fj rfl rfl Fi⟩
theorem Fk {x:Nat}(I:U W w L) :
   Calls prog 158 #[.int .u32 x] w λe V=>∃ ad,e=.returned (.slice ad 4 4)∧U W V (Sl 5 1 ad 4 4 (bc (fq x))::L):=by
 refine EN func158 ntmps158 rfl rfl λa E=>?_;refine RN 5 E I λa E=>?_;rw[show ((x:Nat):Int).fdiv (2 ^ 24)=((x/16777216:Nat):Int) from ld _ 16777216]at E;refine SS E (gr E underlying100 underlying5) λa E=>?_;refine RN 2 E I λa E=>?_;rw[show ((x:Nat):Int).fdiv (2 ^ 16)=((x/65536:Nat):Int) from ld _ 65536]at E;refine SS E (gr E underlying100 underlying5) λa E=>?_;refine RN 2 E I λa E=>?_;rw[show ((x:Nat):Int).fdiv (2 ^ 8)=((x/256:Nat):Int) from ld _ 256]at E;refine SS E (gr E underlying100 underlying5) λa E=>?_;refine RN 1 E I λa E=>?_;refine SS E (gr E underlying100 underlying5) λa E=>?_;refine RN 0 E I λa E=>?_;refine cn E rfl I underlying22 Ty.t5 rfl rfl rfl rfl (by decide) (by decide) λeT a w E I ho=>?_;clear ho;refine RT 1 E I ?_;exact⟨_,rfl,I.Fj rfl rfl Fi⟩
theorem Yq {x:Int}(I:U W w L) :
   Calls prog 206 #[.int .i32 x] w λe V=>∃ ad,e=.returned (.slice ad 4 4)∧U W V (Sl 5 1 ad 4 4 (bc (fq (pU x)))::L):=by
 refine EN func206 ntmps206 rfl rfl λa E=>?_;refine RN 4 E I λa E=>?_;refine SS E (gr E underlying21 underlying100) λa E=>?_;rw[K1]at E;generalize pU x=x at E ⊢;refine RN 4 E I λa E=>?_;rw[show ((x:Nat):Int).fdiv (2 ^ 24)=((x/16777216:Nat):Int) from ld _ 16777216]at E;refine SS E (gr E underlying100 underlying5) λa E=>?_;refine RN 2 E I λa E=>?_;rw[show ((x:Nat):Int).fdiv (2 ^ 16)=((x/65536:Nat):Int) from ld _ 65536]at E;refine SS E (gr E underlying100 underlying5) λa E=>?_;refine RN 2 E I λa E=>?_;rw[show ((x:Nat):Int).fdiv (2 ^ 8)=((x/256:Nat):Int) from ld _ 256]at E;refine SS E (gr E underlying100 underlying5) λa E=>?_;refine RN 1 E I λa E=>?_;refine SS E (gr E underlying100 underlying5) λa E=>?_;refine RN 0 E I λa E=>?_;refine cn E rfl I underlying22 Ty.t5 rfl rfl rfl rfl (by decide) (by decide) λim a w E I ho=>?_;clear ho;refine RT 1 E I ?_;exact⟨_,rfl,I.Fj rfl rfl Fi⟩
end
end
end Go.Proofs.YteoldcfapaiobaaGreat
