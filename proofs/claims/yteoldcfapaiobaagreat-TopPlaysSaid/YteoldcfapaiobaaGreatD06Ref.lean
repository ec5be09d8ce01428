/- The references' runes, titles, programs: the walks. -/
import Derived.Test.YteoldcfapaiobaaGreatD05Vm
import Derived.Test.YteoldcfapaiobaaGreatD04Job
import Derived.Test.YteoldcfapaiobaaGreatD01Row
import Derived.ProofKit
import Derived.Deep.Slices
import Derived.Deep.Strs
import Derived.ChangeSlices
import Derived.ChangeShapes
import Derived.DataShut
import Derived.Test.YteoldcfapaiobaaGreatD03Snap2
import Derived.Laws.StructEq
import Derived.ChangeKeysEq
import Derived.ChangeSame
namespace Go.Proofs.YteoldcfapaiobaaGreat
open Tryz
open List (all_eq_true getElem?_take getElem?_drop map_cons getElem_set_self eraseIdx_set_eq take_length append_nil ext_getElem? getElem_mem map_take range_succ foldl_append)
open Go.RowKit
set_option linter.unusedVariables false
set_option linter.unusedSimpArgs false
set_option maxRecDepth 10000
set_option synthInstance.maxSize 4000
set_option synthInstance.maxHeartbeats 400000
section
section
variable {W w:World}{L:List SP}{s:ByteArray}{p:Pr}{aq:Option Addr}{cO:Nat}
theorem Wy (s:ByteArray):s.extract 0 s.size=s:=by simp
theorem Wz {s:ByteArray}(h:0<s.size):(s.data.toList==(⟨#[]⟩:ByteArray).data.toList)=false:=by
 rw[lG];intro e;have h2:=congrArg List.length e;have h3:s.data.toList.length=s.size:=Array.length_toList;rw[h3]at h2;have h4:(⟨#[]⟩:ByteArray).data.toList.length=0:=rfl;omega
theorem Ab {s:ByteArray}{j:Nat}(h:j<s.size):(s[j]'h).toNat=j1 s j:=by rw[j1,DP h]
theorem WA (I:U W w L)(h0:0<s.size):Calls prog 187 #[.string s] w λe w'=>e=.returned (.tuple #[.int .i32 (Utf8.decode s 0).1,.int .i64 (Utf8.decode s 0).2])∧U W w' L:=by
 obtain⟨b,hb⟩:∃ b,j1 s 0=b:=⟨_,rfl⟩;have oU:=DS s 0;rw[hb]at oU;refine EN func187 ntmps187 rfl rfl λa E=>?_;refine RN 6 E I λa E=>?_;refine SS E (r5 E) λa E=>?_;rw[Wz h0]at E;refine RN 0 E I λa E=>?_;replace E:=E.aM 10;refine RN 3 E I λa E=>?_;refine SS E (zl E underlying9 (by omega)) λa E=>?_;rw[Ab h0,hb]at E;refine RN 5 E I λa E=>?_;refine b7 (M:=λa w=>∃ n low r:Nat,DR b n low r∧Fr a 92 [(0,.string s),(5,.int .i64 n),(6,.int .i32 low),(7,.int .i32 r)]∧U W w L) ?_ ?_
 ·
  refine IF 4 E I (λao a E=>?_) λao a E=>?_
  ·
   refine SX 2 E I (ia (by omega) (by omega)) λa E=>?_;refine RT 2 E I ?_;exact⟨by rw[Wv hb (by omega)];rfl,I⟩
  refine BY 4 E I (λbD a E=>?_) λbD a E=>?_
  ·
   refine IF 4 E I (λay a E=>?_) λay a E=>?_
   ·
    refine SX 1 E I (ia (by omega) (by omega)) λa E=>?_;refine RN 1 E I λa E=>?_;obtain⟨r,hr⟩:∃ r,b=192+r:=⟨b-192,by omega⟩;rw[show IntKind.i32.wrap ((b:Int)-192)=(r:Nat) from by rw[ia (by omega) (by omega)];omega]at E;refine RN 3 E I λa E=>?_;exact⟨2,128,r,.inl ⟨hr,by omega,rfl,rfl⟩,E.ab [0,5,6,7],I⟩
   refine BY 4 E I (λbD a E=>?_) λbD a E=>?_
   ·
    refine IF 4 E I (λbk a E=>?_) λbk a E=>?_
    ·
     refine SX 1 E I (ia (by omega) (by omega)) λa E=>?_;refine RN 1 E I λa E=>?_;obtain⟨r,hr⟩:∃ r,b=224+r:=⟨b-224,by omega⟩;rw[show IntKind.i32.wrap ((b:Int)-224)=(r:Nat) from by rw[ia (by omega) (by omega)];omega]at E;refine RN 3 E I λa E=>?_;exact⟨3,2048,r,.inr (.inl ⟨hr,by omega,rfl,rfl⟩),E.ab [0,5,6,7],I⟩
    refine BY 4 E I (λbD a E=>?_) λbD a E=>?_
    ·
     refine IF 4 E I (λbL a E=>?_) λbL a E=>?_
     ·
      refine SX 1 E I (ia (by omega) (by omega)) λa E=>?_;refine RN 1 E I λa E=>?_;obtain⟨r,hr⟩:∃ r,b=240+r:=⟨b-240,by omega⟩;rw[show IntKind.i32.wrap ((b:Int)-240)=(r:Nat) from by rw[ia (by omega) (by omega)];omega]at E;refine RN 3 E I λa E=>?_;exact⟨4,65536,r,.inr (.inr ⟨hr,by omega,rfl,rfl⟩),E.ab [0,5,6,7],I⟩
     refine RT 3 E I ?_;exact⟨by rw[sK hb (by omega) (by omega)];rfl,I⟩
    refine RT 8 E I ?_;exact⟨by rw[sK hb (by omega) (by omega)];rfl,I⟩
   refine BY 9 E I (λbD a E=>?_) λbD a E=>?_
   ·
    refine IF 4 E I (λbL a E=>?_) λbL a E=>?_
    ·
     refine SX 1 E I (ia (by omega) (by omega)) λa E=>?_;refine RN 1 E I λa E=>?_;obtain⟨r,hr⟩:∃ r,b=240+r:=⟨b-240,by omega⟩;rw[show IntKind.i32.wrap ((b:Int)-240)=(r:Nat) from by rw[ia (by omega) (by omega)];omega]at E;refine RN 3 E I λa E=>?_;exact⟨4,65536,r,.inr (.inr ⟨hr,by omega,rfl,rfl⟩),E.ab [0,5,6,7],I⟩
    refine RT 3 E I ?_;exact⟨by rw[sK hb (by omega) (by omega)];rfl,I⟩
   refine RT 8 E I ?_;exact⟨by rw[sK hb (by omega) (by omega)];rfl,I⟩
  refine BY 9 E I (λbD a E=>?_) λbD a E=>?_
  ·
   refine IF 4 E I (λbk a E=>?_) λbk a E=>?_
   ·
    refine SX 1 E I (ia (by omega) (by omega)) λa E=>?_;refine RN 1 E I λa E=>?_;obtain⟨r,hr⟩:∃ r,b=224+r:=⟨b-224,by omega⟩;rw[show IntKind.i32.wrap ((b:Int)-224)=(r:Nat) from by rw[ia (by omega) (by omega)];omega]at E;refine RN 3 E I λa E=>?_;exact⟨3,2048,r,.inr (.inl ⟨hr,by omega,rfl,rfl⟩),E.ab [0,5,6,7],I⟩
   refine BY 4 E I (λbD a E=>?_) λbD a E=>?_
   ·
    refine IF 4 E I (λbL a E=>?_) λbL a E=>?_
    ·
     refine SX 1 E I (ia (by omega) (by omega)) λa E=>?_;refine RN 1 E I λa E=>?_;obtain⟨r,hr⟩:∃ r,b=240+r:=⟨b-240,by omega⟩;rw[show IntKind.i32.wrap ((b:Int)-240)=(r:Nat) from by rw[ia (by omega) (by omega)];omega]at E;refine RN 3 E I λa E=>?_;exact⟨4,65536,r,.inr (.inr ⟨hr,by omega,rfl,rfl⟩),E.ab [0,5,6,7],I⟩
    refine RT 3 E I ?_;exact⟨by rw[sK hb (by omega) (by omega)];rfl,I⟩
   refine RT 8 E I ?_;exact⟨by rw[sK hb (by omega) (by omega)];rfl,I⟩
  refine BY 9 E I (λbD a E=>?_) λbD a E=>?_
  ·
   refine IF 4 E I (λbL a E=>?_) λbL a E=>?_
   ·
    refine SX 1 E I (ia (by omega) (by omega)) λa E=>?_;refine RN 1 E I λa E=>?_;obtain⟨r,hr⟩:∃ r,b=240+r:=⟨b-240,by omega⟩;rw[show IntKind.i32.wrap ((b:Int)-240)=(r:Nat) from by rw[ia (by omega) (by omega)];omega]at E;refine RN 3 E I λa E=>?_;exact⟨4,65536,r,.inr (.inr ⟨hr,by omega,rfl,rfl⟩),E.ab [0,5,6,7],I⟩
   refine RT 3 E I ?_;exact⟨by rw[sK hb (by omega) (by omega)];rfl,I⟩
  refine RT 8 E I ?_;exact⟨by rw[sK hb (by omega) (by omega)];rfl,I⟩
 clear E;(try clear I);rintro a w ⟨n,low,r,hd,E,I⟩;refine RN 2 E I λa E=>?_;have pg:2≤n∧n≤4∧r<32:=by rcases hd with h | h | h <;> omega
 refine IF 4 E I (λeO a E=>?_) λeO a E=>?_
 ·
  refine RT 3 E I ?_;exact⟨by rw[DU hb hd (.inl (by omega))];rfl,I⟩
 refine RN 3 E I λa E=>?_;refine aO (λμ a w=>∃ (j:Nat),(μ=n-j∧j+1≤n∧∀ k,1≤k→k<j+1→j1 s k/64=2)∧Fr a 92 [(0,.string s),(5,.int .i64 n),(6,.int .i32 low),(7,.int .i32 (gf s r j:Nat)),(8,.int .i64 ((j+1:Nat):Int))]∧U W w L) (n) (⟨0,⟨by simp,by omega,λk h1 h2=>by omega⟩,E.ab [0,5,6,7,8],I⟩) ?_;clear E I;rintro μ a w ⟨j,⟨rfl,hj,hS⟩,E,I⟩;refine IF 5 E I (λmS a E=>?_) λmS a E=>?_
 ·
  refine RN 3 E I λa E=>?_;have sM:j+1<s.size:=by omega
  have hbj:=DS s (j+1);refine RN 2 E I λa E=>?_;refine SS E (zl E underlying9 (by omega)) λa E=>?_;rw[Ab sM]at E;refine BY 2 E I (λdA a E=>?_) λdA a E=>?_
  ·
   refine RT 9 E I ?_;exact⟨by rw[DU hb hd (.inr ⟨j+1,by omega,by omega,by omega⟩)];rfl,I⟩
  refine RN 2 E I λa E=>?_;refine bt E (cm E rfl (s:=61)) (zl E underlying9 (by omega)) rfl λa E=>?_;rw[Ab sM]at E;refine IF 2 E I (λmj a E=>?_) λmj a E=>?_
  ·
   refine RT 3 E I ?_;exact⟨by rw[DU hb hd (.inr ⟨j+1,by omega,by omega,by omega⟩)];rfl,I⟩
  refine RN 0 E I λa E=>?_;have ck:=DT (s:=s) pg.2.2 j;have om:(64:Nat) ^ j≤64 ^ 2:=Nat.pow_le_pow_right (by omega) (by omega);refine RN 2 E I λa E=>?_;rw[ia (by omega) (by omega)]at E;refine RN 2 E I λa E=>?_;refine SS E (zl E underlying9 (by omega)) λa E=>?_;rw[Ab sM]at E;refine SX 0 E I (ia (by omega) (by omega)) λa E=>?_;refine RN 1 E I λa E=>?_;rw[ia (by omega) (by omega)]at E;refine RN 1 E I λa E=>?_;rw[show IntKind.i32.wrap ((gf s r j:Nat)*64+(j1 s (j+1):Nat)-128:Int)=(gf s r (j+1):Nat) from by rw[ia (by omega) (by omega),gf];omega]at E;refine RN 4 E I λa E=>?_;refine⟨n-(j+1),by omega,j+1,⟨rfl,by omega,λk h1 h2=>?_⟩,E.ab [0,5,6,7,8],I⟩;rcases Nat.lt_or_ge k (j+1) with h3 | h3
  ·exact hS k h1 h3
  ·obtain rfl:k=j+1:=by omega
   omega
 refine RN 2 E I λa E=>?_;obtain rfl:n=j+1:=by omega
 have o7:=Ww hb hd (by omega) hS;simp only[z7,Nat.add_sub_cancel]at o7;refine BY 4 E I (λbW a E=>?_) λbW a E=>?_
 ·
  refine RT 15 E I ?_;exact⟨by rw[o7.1 (by omega)];rfl,I⟩
 refine BY 4 E I (λjC a E=>?_) λjC a E=>?_
 ·
  refine RT 11 E I ?_;exact⟨by rw[o7.1 (by omega)];rfl,I⟩
 refine BY 3 E I (λlI a E=>?_) λlI a E=>?_
 ·
  refine IF 4 E I (λml a E=>?_) λml a E=>?_
  ·
   refine RT 3 E I ?_;exact⟨by rw[o7.1 (by omega)];rfl,I⟩
  refine RT 5 E I ?_;exact⟨by rw[o7.2 (by omega)],I⟩
 refine RT 10 E I ?_;exact⟨by rw[o7.2 (by omega)],I⟩
def RI (l:List (Nat×Nat)):List Value:=l.map λx=>.int .i32 x.1
theorem JK (I:U W w L)(aG:s.size≤1000000000):Calls prog 148 #[.string s] w λe w'=>∃ ad c,e=.returned (.tuple #[.slice ad (dZ s 0).length c,.bool ((dZ s 0).all mf)]) ∧
   U W w' (Sl 21 1 ad (dZ s 0).length c (RI (dZ s 0))::L):=by
 refine EN func148 ntmps148 rfl rfl λa E=>?_;refine RN 6 E I λa E=>?_;replace I:=I.bN 21 1 none;refine RN 2 E I λa E=>?_;refine aO (λμ a w=>∃ (pos:Nat) (dn:List (Nat×Nat)) (ad:Option Addr) (c:Nat),(μ=s.size-pos∧pos≤s.size∧dn.length≤pos∧dZ s 0=dn++dZ s pos)∧Fr a 34 [(0,.string (s.extract pos s.size)),(4,.slice ad dn.length c),(5,.bool (dn.all mf))]∧U W w (Sl 21 1 ad dn.length c (RI dn)::L)) (s.size) (⟨0,[],none,0,⟨by simp,by omega,by simp,rfl⟩,by rw[Wy];exact E.ab [0,4,5],I⟩) ?_;clear E I;rintro μ a w ⟨pos,dn,ad,c,⟨rfl,hp,mi,c6⟩,E,I⟩;refine RN 4 E I λa E=>?_;rw[q9]at E;refine IF 1 E I (λaj a E=>?_) λaj a E=>?_
 ·
  have gB:pos<s.size:=by omega
  have mQ:=q3 gB;have hdp:=tU s pos;have hdi:=I4 s pos gB;have DV:dW s pos=pos+(Utf8.decode s pos).2:=by rw[dW,ak gB]
  refine CL 2 E I (WA I (by rw[q9];omega)) λa w E I=>?_;rw[Wu]at E;refine RN 8 E I λa E=>?_;refine cn E rfl I underlying270 Ty.t21 rfl rfl rfl rfl (by decide) (by decide) λsN a w E I ho=>?_;clear ho;refine RN 0 E I λa E=>?_;refine cK E rfl I underlying270 Ty.t21 rfl rfl I.ai rfl (by simp[Value.oneCell']) (by decide) (by decide) (by omega) λAc Ad a w E I=>?_;refine RN 1 E I λa E=>?_;have ph:U W w (Sl 21 1 Ac (dn++[Utf8.decode s pos]).length Ad (RI (dn++[Utf8.decode s pos]))::L):=by
   have e1:(dn++[Utf8.decode s pos]).length=dn.length+1:=by simp
   have e2:RI (dn++[Utf8.decode s pos])=RI dn++[.int .i32 (Utf8.decode s pos).1]:=by simp[RI]
   rw[e1,e2];change U W w (Sl 21 1 Ac (dn.length+1) Ad (RI dn++[.int .i32 (Utf8.decode s pos).1])::_) at I;exact I.sub
  replace I:=ph;clear ph;refine RN 1 E I λa E=>?_;have qi:(dn++[Utf8.decode s pos]).all mf=(dn.all mf&&z8 (Utf8.decode s pos)):=by rw[Wx];simp
  simp only[z8]at qi;refine BY 2 E I (λmT a E=>?_) λmT a E=>?_
  ·
   refine BY 3 E I (λdA a E=>?_) λdA a E=>?_
   ·
    refine RN 5 E I λa E=>?_;rw[mT,ak (by omega)]at qi;refine RN 2 E I λa E=>?_;refine SS E (CD E underlying9 (by rw[q9];omega)) λa E=>?_;rw[DQ,← DV]at E;refine RN 1 E I λa E=>?_;have xX:(dn++[Utf8.decode s pos]).length=dn.length+1:=by simp
    refine⟨s.size-dW s pos,by omega,dW s pos,dn++[Utf8.decode s pos],_,_,⟨rfl,by omega,by omega,by rw[c6,mQ,du];rfl⟩,?_,I⟩;rw[xX,qi];exact E.ab [0,4,5]
   refine RN 5 E I λa E=>?_;rw[mT,ag (by omega),Bool.true_and,show decide ((Utf8.decode s pos).2=3)=decide (((Utf8.decode s pos).2:Int)=3) from decide_eq_decide.2 (by omega)]at qi;refine RN 2 E I λa E=>?_;refine SS E (CD E underlying9 (by rw[q9];omega)) λa E=>?_;rw[DQ,← DV]at E;refine RN 1 E I λa E=>?_;have xX:(dn++[Utf8.decode s pos]).length=dn.length+1:=by simp
   refine⟨s.size-dW s pos,by omega,dW s pos,dn++[Utf8.decode s pos],_,_,⟨rfl,by omega,by omega,by rw[c6,mQ,du];rfl⟩,?_,I⟩;rw[xX,qi];exact E.ab [0,4,5]
  refine RN 8 E I λa E=>?_;rw[mT,Bool.false_and]at qi;refine RN 2 E I λa E=>?_;refine SS E (CD E underlying9 (by rw[q9];omega)) λa E=>?_;rw[DQ,← DV]at E;refine RN 1 E I λa E=>?_;have xX:(dn++[Utf8.decode s pos]).length=dn.length+1:=by simp
  refine⟨s.size-dW s pos,by omega,dW s pos,dn++[Utf8.decode s pos],_,_,⟨rfl,by omega,by omega,by rw[c6,mQ,du];rfl⟩,?_,I⟩;rw[xX,qi];exact E.ab [0,4,5]
 refine RT 5 E I ?_;obtain rfl:pos=s.size:=by omega
 have lM:=q4 (s:=s) (pos:=s.size) (by omega);rw[lM,append_nil]at c6;rw[c6];exact⟨_,_,rfl,I.sub⟩
theorem JL {l:List (Nat×Nat)}{i:Nat}{x:Nat×Nat}(h:l[i]?=some x):(RI l)[i]?=some (.int .i32 x.1):=by rw[RI,bm,h];rfl
theorem WB (I:U W w L)(aG:s.size≤1000000000):Calls prog 107 #[.string s] w λe w'=>e=.returned (.bool (o8 s))∧U W w' L:=by
 have jh:o8 s=(decide (1≤(dZ s 0).length)&&decide ((dZ s 0).length≤20)&&(dZ s 0).all kr&&(dZ s 0).all mf):=rfl;have gk:=US s s.size 0 (by omega);refine EN func107 ntmps107 rfl rfl λa E=>?_;refine aY 4 E I (JK I aG) λad c a w E I=>?_;generalize (dZ s 0)=l at E I jh gk;refine BY 10 E I (λbD a E=>?_) λbD a E=>?_
 ·
  refine RT 12 E I ?_;exact⟨by rw[jh,bD,Bool.and_false],I.sub⟩
 refine BY 5 E I (λjC a E=>?_) λjC a E=>?_
 ·
  refine RT 7 E I ?_;exact⟨by rw[jh,bn (by omega)];simp,I.sub⟩
 refine IF 4 E I (λaj a E=>?_) λaj a E=>?_
 ·
  refine RT 2 E I ?_;exact⟨by rw[jh,bn (p:=l.length≤20) (by omega)];simp,I.sub⟩
 refine RN 3 E I λa E=>?_;refine aO (λμ a w=>∃ i:Nat,(μ=l.length-i∧i≤l.length∧∀ j x,j<i→l[j]?=some x→kr x=true)∧Fr a 41 [(3,.slice ad l.length c),(5,.int .i64 i)]∧U W w (Sl 21 1 ad l.length c (RI l)::L)) (l.length) (⟨0,⟨by simp,by simp,λj x h=>absurd h (by omega)⟩,E.ab [3,5],I⟩) ?_;clear E I;rintro μ a w ⟨i,⟨rfl,hi,cC⟩,E,I⟩;refine IF 6 E I (λao a E=>?_) λao a E=>?_
 ·
  obtain⟨b,o,rfl,c4⟩:=I.bU ad (by omega);obtain⟨x,hx⟩:∃ x,l[i]?=some x:=⟨_,aD (by omega)⟩;have lf:=c4 i _ (JL hx);refine RN 5 E I λa E=>?_;refine SS E (ae E (lf)) λa E=>?_;refine BY 2 E I (λiP a E=>?_) λiP a E=>?_
  ·
   refine RT 9 E I ?_;refine⟨?_,I.sub⟩;have pj:kr x=false:=by
    simp only[kr,Bool.and_eq_false_iff,decide_eq_false_iff_not];omega
   have hS:l.all kr=false:=by rw[List.all_eq_false];exact⟨x,bG hx,by rw[pj];decide⟩
   rw[jh,hS];simp
  refine RN 3 E I λa E=>?_;refine bt E (cm E rfl (s:=34)) (ae E (lf)) rfl λa E=>?_;refine IF 2 E I (λay a E=>?_) λay a E=>?_
  ·
   refine RT 2 E I ?_;refine⟨?_,I.sub⟩;have pj:kr x=false:=by
    simp only[kr,Bool.and_eq_false_iff,decide_eq_false_iff_not];omega
   have hS:l.all kr=false:=by rw[List.all_eq_false];exact⟨x,bG hx,by rw[pj];decide⟩
   rw[jh,hS];simp
  refine RN 3 E I λa E=>?_;refine⟨l.length-(i+1),by omega,i+1,⟨rfl,by omega,λj y hj hy=>?_⟩,E.ab [3,5],I.sub⟩;rcases Nat.lt_or_ge j i with h | h
  ·exact cC j y h hy
  ·obtain rfl:j=i:=by omega
   rw[hx]at hy;cases hy;simp only[kr,fj,decide_eq_true_eq];omega
 refine RT 2 E I ?_;refine⟨?_,I.sub⟩;have hS:l.all kr=true:=by
  rw[all_eq_true];intro x hx;obtain⟨j,hj⟩:=jR.1 hx;exact cC j x (by have:=(a2.1 hj).1;omega) hj
 rw[jh,hS,bD,dh (p:=1≤l.length) (by omega),dh (p:=l.length≤20) (by omega)];rfl
theorem Ae {x:Int}(I:U W w L):Calls prog 108 #[.int .i64 x] w λe w'=>∃ r:Bool,e=.returned (.bool r)∧(r=true↔dp x)∧U W w' L:=by
 simp only[dp];refine EN func108 ntmps108 rfl rfl λa E=>?_;refine BY 6 E I (λbD a E=>?_) λbD a E=>?_
 ·
  refine RT 4 E I ?_;exact⟨_,rfl,by rw[cp];omega,I⟩
 refine RT 4 E I ?_;exact⟨_,rfl,⟨λh=>(by cases h),λh=>by omega⟩,I⟩
theorem WD {p:Pr}(I:U W w (aA W p aq cO::L))(aG:p.title.size≤1000000000)(dU:p.ops.length≤1000000000) :
   Calls prog 68 #[.agg (bO p aq cO).toArray] w λe w'=>∃ r:Bool,e=.returned (.bool r)∧(r=true↔vL p)∧U W w' (aA W p aq cO::L):=by
 refine EN func68 ntmps68 rfl rfl λa E=>?_;refine BX 1 E I λb1 a w E I=>?_;change U W w (aa b1 45 (bO p aq cO)::_) at I;refine CL 5 E I (WB I aG) λa w E I=>?_;refine BY 2 E I (λdA a E=>?_) λdA a E=>?_
 ·
  refine RT 14 E I ?_;exact⟨false,rfl,⟨λh=>(by cases h),λh=>by rw[h.1]at dA;cases dA⟩,I.sub⟩
 have WE:o8 p.title=true:=by simpa using dA
 refine BY 6 E I (λlI a E=>?_) λlI a E=>?_
 ·
  refine RT 8 E I ?_;exact⟨false,rfl,⟨λh=>(by cases h),λh=>by have:=h.2.1;omega⟩,I.sub⟩
 refine IF 5 E I (λaj a E=>?_) λaj a E=>?_
 ·
  refine RT 2 E I ?_;exact⟨false,rfl,⟨λh=>(by cases h),λh=>by have:=h.2.2.1;omega⟩,I.sub⟩
 refine RN 3 E I λa E=>?_;refine aO (λμ a w=>∃ i:Nat,(μ=p.ops.length-i∧i≤p.ops.length∧∀ j o,j<i→p.ops[j]?=some o→q5 o)∧Fr a 55 [(1,pt b1),(3,.int .i64 i)]∧U W w (aa b1 45 (bO p aq cO)::aA W p aq cO::L)) (p.ops.length) (⟨0,⟨by simp,by simp,λj o h=>absurd h (by omega)⟩,E.ab [1,3],I.sub⟩) ?_;clear E I;rintro μ a w ⟨i,⟨rfl,hi,cC⟩,E,I⟩;refine IF 7 E I (λao a E=>?_) λao a E=>?_
 ·
  obtain⟨o,ho⟩:∃ o,p.ops[i]?=some o:=⟨_,aD (by omega)⟩;obtain⟨kH,oo,rfl,gC⟩:=I.q6 aq (by omega);refine RN 6 E I λa E=>?_;refine SS E (bR E underlying114 rfl Ty.t114 (vM gC ho)) λa E=>?_;refine AL 0 E I λb4 a w E I=>?_;refine SA 0 E I λa w E I=>?_;refine bh 3 E I (Ae I) λr1 a w E ⟨e8,I⟩=>?_;refine BY 2 E I (λdA a E=>?_) λdA a E=>?_
  ·
   have jU:¬ q5 o:=λh=>by rw[e8.2 h.1]at dA;cases dA
   refine RT 20 E I ?_;exact⟨false,rfl,⟨λh=>(by cases h),λh=>absurd (h.2.2.2 o (bG ho)) jU⟩,I.sub⟩
  refine bh 2 E I (Ae I) λr2 a w E ⟨eW,I⟩=>?_;refine BY 3 E I (λlI a E=>?_) λlI a E=>?_
  ·
   have jU:¬ q5 o:=λh=>by rw[eW.2 h.2.1]at lI;cases lI
   refine RT 14 E I ?_;exact⟨false,rfl,⟨λh=>(by cases h),λh=>absurd (h.2.2.2 o (bG ho)) jU⟩,I.sub⟩
  refine bh 2 E I (Ae I) λr3 a w E ⟨j0,I⟩=>?_;refine BY 3 E I (λue a E=>?_) λue a E=>?_
  ·
   have jU:¬ q5 o:=λh=>by rw[j0.2 h.2.2.1]at ue;cases ue
   refine RT 8 E I ?_;exact⟨false,rfl,⟨λh=>(by cases h),λh=>absurd (h.2.2.2 o (bG ho)) jU⟩,I.sub⟩
  refine bh 2 E I (Ae I) λWG a w E ⟨qj,I⟩=>?_;refine IF 2 E I (λay a E=>?_) λay a E=>?_
  ·
   have jU:¬ q5 o:=λh=>by rw[qj.2 h.2.2.2]at ay;cases ay
   refine RT 2 E I ?_;exact⟨false,rfl,⟨λh=>(by cases h),λh=>absurd (h.2.2.2 o (bG ho)) jU⟩,I.sub⟩
  have DX:q5 o:=⟨e8.1 (by simpa using dA),eW.1 (by simpa using lI),j0.1 (by simpa using ue),qj.1 (by simpa using ay)⟩;refine RN 3 E I λa E=>?_;refine⟨p.ops.length-(i+1),by omega,i+1,⟨rfl,by omega,λj o' hj ke=>?_⟩,E.ab [1,3],I.sub⟩;rcases Nat.lt_or_ge j i with h | h
  ·exact cC j o' h ke
  ·obtain rfl:j=i:=by omega
   rw[ho]at ke;cases ke;exact DX
 refine RT 2 E I ?_;refine⟨true,rfl,⟨λ_=>⟨WE,by omega,by omega,λo ho=>?_⟩,λ_=>rfl⟩,I.sub⟩;obtain⟨j,hj⟩:=jR.1 ho;exact cC j o (by have:=(a2.1 hj).1;omega) hj
theorem WH:∀ m:Nat,m≤15→(([[.int .i64 0],[.int .i64 2],[.int .i64 2],[.int .i64 3],[.int .i64 3],[.int .i64 3],[.int .i64 3],[.int .i64 3],[.int .i64 3],[.int .i64 1],[.int .i64 2],[.int .i64 2],[.int .i64 2],[.int .i64 2],[.int .i64 2],[.int .i64 1]].flatten:List Value))[m]?=some (.int .i64 (vX (m:Int)))
 | 0,_=>rfl
 | 1,_=>rfl
 | 2,_=>rfl
 | 3,_=>rfl
 | 4,_=>rfl
 | 5,_=>rfl
 | 6,_=>rfl
 | 7,_=>rfl
 | 8,_=>rfl
 | 9,_=>rfl
 | 10,_=>rfl
 | 11,_=>rfl
 | 12,_=>rfl
 | 13,_=>rfl
 | 14,_=>rfl
 | 15,_=>rfl
 | n+16,h=>absurd h (by omega)
theorem WI {k:Int}(I:U W w L)(hk:0≤k∧k≤15):Calls prog 109 #[.int .i64 k] w λe w'=>e=.returned (.int .i64 (vX k))∧U W w' L:=by
 obtain⟨m,rfl⟩:∃ m:Nat,k=m:=⟨k.toNat,by omega⟩;have hm:m≤15:=by omega
 refine EN func109 ntmps109 rfl rfl λa E=>?_;refine RN 3 E I λa E=>?_;refine cn E rfl I underlying53 Ty.t3 rfl rfl rfl rfl (by decide) (by decide) λb4 a w E I ho=>?_;clear ho;refine RN 5 E I λa E=>?_;refine SS E (ae E ((I.bz (WH m hm)))) λa E=>?_;refine RT 1 E I ?_;exact⟨rfl,I.sub⟩
theorem JM {o:gA}:∀ k:Nat,k<3→([[.int .i64 o.a],[.int .i64 o.b],[.int .i64 o.c]].flatten:List Value)[k]?=some (.int .i64 (Aa o k))
 | 0,_=>rfl
 | 1,_=>rfl
 | 2,_=>rfl
 | n+3,h=>absurd h (by omega)
theorem WJ {n:Nat}{o:gA}(I:U W w L):Calls prog 69 #[.agg (dN o).toArray,.int .i64 n] w λe w'=>∃ r:Bool,e=.returned (.bool r)∧(r=true↔eY n o)∧U W w' L:=by
 refine EN func69 ntmps69 rfl rfl λa E=>?_;refine BX 1 E I λb2 a w E I=>?_;change U W w (aa b2 114 (dN o)::_) at I;refine BY 7 E I (λbW a E=>?_) λbW a E=>?_
 ·
  refine RT 7 E I ?_;exact⟨false,rfl,⟨λh=>(by cases h),λh=>by have:=(xW.1 h).1;omega⟩,I.sub⟩
 refine IF 4 E I (λaj a E=>?_) λaj a E=>?_
 ·
  refine RT 2 E I ?_;exact⟨false,rfl,⟨λh=>(by cases h),λh=>by have:=(xW.1 h).1;omega⟩,I.sub⟩
 refine RN 7 E I λa E=>?_;refine cn E rfl I underlying53 Ty.t3 rfl rfl rfl rfl (by decide) (by decide) λuf a w E I ho=>?_;clear ho;refine RN 4 E I λa E=>?_;refine aO (λμ a w=>∃ k:Nat,(μ=3-k∧k≤3∧∀ j,j<k→ra n o j)∧Fr a 68 [(1,.int .i64 n),(2,pt b2),(5,.slice (some ⟨uf,0,none⟩) 3 3),(6,.int .i64 k)]∧U W w (aa uf 3 [[.int .i64 o.a],[.int .i64 o.b],[.int .i64 o.c]].flatten::aa b2 114 (dN o)::L)) (3) (⟨0,⟨by simp,by simp,λj h=>absurd h (by omega)⟩,E.ab [1,2,5,6],I.sub⟩) ?_;clear E I;rintro μ a w ⟨k,⟨rfl,hk,cC⟩,E,I⟩;refine IF 4 E I (λao a E=>?_) λao a E=>?_
 ·
  refine RN 3 E I λa E=>?_;refine b7 (M:=λa w=>(vX o.code≤k∨¬ (o.code=1∧k=1))∧Fr a 68 [(1,.int .i64 n),(2,pt b2),(5,.slice (some ⟨uf,0,none⟩) 3 3),(6,.int .i64 k),(7,.int .i64 (j2 n o k))]∧U W w (aa uf 3 [[.int .i64 o.a],[.int .i64 o.b],[.int .i64 o.c]].flatten::aa b2 114 (dN o)::L)) ?_ ?_
  ·
   refine CL 4 E I (WI I (by omega)) λa w E I=>?_;refine IF 2 E I (λay a E=>?_) λay a E=>?_
   ·
    refine RN 1 E I λa E=>?_;refine⟨.inl (by omega),?_,I.sub⟩;rw[show j2 n o k=0 from ak (by omega)];exact E.ab [1,2,5,6,7]
   refine BY 5 E I (λbW a E=>?_) λbW a E=>?_
   ·
    refine IF 4 E I (λbk a E=>?_) λbk a E=>?_
    ·
     refine RN 3 E I λa E=>?_;refine⟨3-(k+1),by omega,k+1,⟨rfl,by omega,λj hj=>?_⟩,E.ab [1,2,5,6],I.sub⟩;rcases Nat.lt_or_ge j k with h | h
     ·exact cC j h
     ·obtain rfl:j=k:=by omega
      exact .inl ⟨by omega,by omega,by omega⟩
    refine BY 5 E I (λbW a E=>?_) λbW a E=>?_
    ·
     refine RN 12 E I λa E=>?_;refine⟨.inr (by omega),?_,I.sub⟩;rw[show j2 n o k=n from by rw[j2,ag (by omega),ak (by omega)]];exact E.ab [1,2,5,6,7]
    refine BY 4 E I (λjC a E=>?_) λjC a E=>?_
    ·
     refine IF 5 E I (λbL a E=>?_) λbL a E=>?_
     ·
      refine RN 2 E I λa E=>?_;refine⟨.inr (by omega),?_,I.sub⟩;rw[show j2 n o k=n from by rw[j2,ag (by omega),ak (by omega)]];exact E.ab [1,2,5,6,7]
     refine RN 0 E I λa E=>?_;refine⟨.inr (by omega),?_,I.sub⟩;rw[show j2 n o k=31 from by rw[j2,ag (by omega),ag (by omega)]];exact E.ab [1,2,5,6,7]
    refine RN 6 E I λa E=>?_;refine⟨.inr (by omega),?_,I.sub⟩;rw[show j2 n o k=31 from by rw[j2,ag (by omega),ag (by omega)]];exact E.ab [1,2,5,6,7]
   refine BY 10 E I (λbW a E=>?_) λbW a E=>?_
   ·
    refine RN 12 E I λa E=>?_;refine⟨.inr (by omega),?_,I.sub⟩;rw[show j2 n o k=n from by rw[j2,ag (by omega),ak (by omega)]];exact E.ab [1,2,5,6,7]
   refine BY 4 E I (λjC a E=>?_) λjC a E=>?_
   ·
    refine IF 5 E I (λbL a E=>?_) λbL a E=>?_
    ·
     refine RN 2 E I λa E=>?_;refine⟨.inr (by omega),?_,I.sub⟩;rw[show j2 n o k=n from by rw[j2,ag (by omega),ak (by omega)]];exact E.ab [1,2,5,6,7]
    refine RN 0 E I λa E=>?_;refine⟨.inr (by omega),?_,I.sub⟩;rw[show j2 n o k=31 from by rw[j2,ag (by omega),ag (by omega)]];exact E.ab [1,2,5,6,7]
   refine RN 6 E I λa E=>?_;refine⟨.inr (by omega),?_,I.sub⟩;rw[show j2 n o k=31 from by rw[j2,ag (by omega),ag (by omega)]];exact E.ab [1,2,5,6,7]
  clear E;(try clear I);rintro a w ⟨CT,E,I⟩;refine RN 4 E I λa E=>?_;refine SS E (ae E ((I.bz (JM k (by omega))))) λa E=>?_;refine BY 2 E I (λiP a E=>?_) λiP a E=>?_
  ·
   refine RT 10 E I ?_;refine⟨false,rfl,⟨λh=>(by cases h),λh=>?_⟩,I.sub⟩;have b9:ra n o k:=by
    obtain⟨_,h0,h1,h2⟩:=xW.1 h;rcases (by omega:k=0∨k=1∨k=2) with rfl | rfl | rfl
    ·exact h0
    ·exact h1
    ·exact h2
   simp only[ra]at b9;omega
  refine RN 3 E I λa E=>?_;refine bt E (cm E rfl (s:=60)) (ae E ((I.bz (JM k (by omega))))) rfl λa E=>?_;refine IF 3 E I (λeO a E=>?_) λeO a E=>?_
  ·
   refine RT 2 E I ?_;refine⟨false,rfl,⟨λh=>(by cases h),λh=>?_⟩,I.sub⟩;have b9:ra n o k:=by
    obtain⟨_,h0,h1,h2⟩:=xW.1 h;rcases (by omega:k=0∨k=1∨k=2) with rfl | rfl | rfl
    ·exact h0
    ·exact h1
    ·exact h2
   simp only[ra]at b9;omega
  refine RN 3 E I λa E=>?_;refine⟨3-(k+1),by omega,k+1,⟨rfl,by omega,λj hj=>?_⟩,E.ab [1,2,5,6],I.sub⟩;rcases Nat.lt_or_ge j k with h | h
  ·exact cC j h
  ·obtain rfl:j=k:=by omega
   exact .inr ⟨by omega,by omega⟩
 refine RT 2 E I ?_;exact⟨true,rfl,⟨λ_=>xW.2 ⟨by omega,cC 0 (by omega),cC 1 (by omega),cC 2 (by omega)⟩,λ_=>rfl⟩,I.sub⟩
theorem WK {p:Pr}(I:U W w (aA W p aq cO::L))(aG:p.title.size≤1000000000)(dU:p.ops.length≤1000000000) :
   Calls prog 48 #[.agg (bO p aq cO).toArray] w λe w'=>∃ r:Int,e=.returned (.int .i64 r)∧(r = -1↔di p)∧U W w' (aA W p aq cO::L):=by
 refine EN func48 ntmps48 rfl rfl λa E=>?_;refine BX 1 E I λb1 a w E I=>?_;change U W w (aa b1 45 (bO p aq cO)::_) at I;refine bh 4 E I (WD (I.pick (aA W p aq cO)) aG dU) λr a w E ⟨hr,I⟩=>?_;refine IF 1 E I (λaj a E=>?_) λaj a E=>?_
 ·
  have WL:¬ vL p:=λh=>by rw[hr.2 h]at aj;cases aj
  refine RT 2 E I ?_;exact⟨-2,rfl,⟨λh=>absurd h (by decide),λh=>absurd h.1 WL⟩,I.sub⟩
 have lK:vL p:=hr.1 (by simpa using aj);refine RN 3 E I λa E=>?_;refine aO (λμ a w=>∃ i:Nat,(μ=p.ops.length-i∧i≤p.ops.length∧∀ j o,j<i→p.ops[j]?=some o→eY p.ops.length o)∧Fr a 25 [(1,pt b1),(3,.int .i64 i)]∧U W w (aa b1 45 (bO p aq cO)::aA W p aq cO::L)) (p.ops.length) (⟨0,⟨by simp,by simp,λj o h=>absurd h (by omega)⟩,E.ab [1,3],I.sub⟩) ?_;clear E I;rintro μ a w ⟨i,⟨rfl,hi,cC⟩,E,I⟩;refine IF 7 E I (λao a E=>?_) λao a E=>?_
 ·
  refine RN 2 E I λa E=>?_;obtain⟨o,ho⟩:∃ o,p.ops[i]?=some o:=⟨_,aD (by omega)⟩;obtain⟨kH,oo,rfl,gC⟩:=I.drew.q6 aq (by omega);have fb:=vM gC ho;refine qT 0 (λw'=>Rd w' b1 0 (bO p (some ⟨kH,oo,none⟩) cO)∧Rd w' kH (oo+i*4) (dN o)) [6,7] [0,2,5,3001,3,3004,1006,1007,1008,9] E I λa E=>?_;replace I:=I.drew;generalize w.drew=w at I fb ⊢;have hC:Rd w b1 0 (bO p (some ⟨kH,oo,none⟩) cO)∧Rd w kH (oo+i*4) (dN o):=⟨I.ai,fb⟩;have hH:=Hd.any (λw'=>Rd w' b1 0 (bO p (some ⟨kH,oo,none⟩) cO)∧Rd w' kH (oo+i*4) (dN o));refine RH 3 E I hH hC λa E=>?_;refine QH E (λw hc=>ae E (hc.1 1 _ rfl)) hC λa E=>?_;refine RH 1 E I hH hC λa E=>?_;refine QH E (λw hc=>bR E underlying114 rfl Ty.t114 (hc.2)) hC λa E=>?_;refine RH 0 E I hH hC λa E=>?_;refine SS E (ae E (hC.1 1 _ rfl)) λa E=>?_;refine RH 1 E I hH hC λa E=>?_;refine bh 0 E I (WJ (n:=p.ops.length) (o:=o) I) λr a w E ⟨hr,I⟩=>?_;refine RN 1 E I λa E=>?_;refine IF 0 E I (λay a E=>?_) λay a E=>?_
  ·
   have bQ:¬ eY p.ops.length o:=λh=>by rw[hr.2 h]at ay;cases ay
   refine RT 3 E I ?_;exact⟨i,rfl,⟨λh=>absurd h (by omega),λh=>absurd (h.2 o (bG ho)) bQ⟩,I.sub⟩
  have dm:eY p.ops.length o:=hr.1 (by simpa using ay);refine RN 3 E I λa E=>?_;refine⟨p.ops.length-(i+1),by omega,i+1,⟨rfl,by omega,λj o' hj ke=>?_⟩,E.ab [1,3],I.sub⟩;rcases Nat.lt_or_ge j i with h | h
  ·exact cC j o' h ke
  ·obtain rfl:j=i:=by omega
   rw[ho]at ke;cases ke;exact dm
 refine RT 2 E I ?_;refine⟨-1,rfl,⟨λ_=>⟨lK,λo ho=>?_⟩,λ_=>rfl⟩,I.sub⟩;obtain⟨j,hj⟩:=jR.1 ho;exact cC j o (by have:=(a2.1 hj).1;omega) hj
end
end
section
theorem Af {x y:Int}(h1:-2147483648≤y)(h2:y≤2147483647)(h3:x%4294967296=y%4294967296):hZ x=y:=by
 simp only[hZ,IntKind.wrap,IntKind.signed,IntKind.bits];simp;split <;> omega
section
variable {W w:World}{L:List SP}{p:Pr}{aq adP:Option Addr}{cO cP:Nat}{b:List UInt8}{g:Nat→Int}{fr:Int}
theorem xY {x:Int}(I:U W w L)(h1:-9223372036854775808≤x)(h2:x≤9223372036854775807):Calls prog 151 #[.int .i64 x] w λe w'=>e=.returned (.int .i32 (hZ x))∧U W w' L:=by
 have lN:=Int.tmod_lt_of_pos x (b:=4294967296) (by decide);have ic:=Int.lt_tmod_of_pos x (b:=4294967296) (by decide);have xZ:(x.tmod 4294967296)%4294967296=x%4294967296:=by
  rw[Int.tmod_eq_emod];split <;> omega
 refine EN func151 ntmps151 rfl rfl λa E=>?_;refine IF 10 E I (λaj a E=>?_) λaj a E=>?_
 ·
  refine IF 7 E I (λao a E=>?_) λao a E=>?_
  ·
   refine SX 5 E I (ia (by omega) (by omega)) λa E=>?_;refine RT 1 E I ?_;exact⟨by rw[Af (y:=x.tmod 4294967296+4294967296-4294967296) (by omega) (by omega) (by omega)],I⟩
  refine SX 2 E I (ia (by omega) (by omega)) λa E=>?_;refine RT 1 E I ?_;exact⟨by rw[Af (y:=x.tmod 4294967296+4294967296) (by omega) (by omega) (by omega)],I⟩
 refine IF 4 E I (λao a E=>?_) λao a E=>?_
 ·
  refine SX 5 E I (ia (by omega) (by omega)) λa E=>?_;refine RT 1 E I ?_;exact⟨by rw[Af (y:=x.tmod 4294967296-4294967296) (by omega) (by omega) (by omega)],I⟩
 refine SX 2 E I (ia (by omega) (by omega)) λa E=>?_;refine RT 1 E I ?_;exact⟨by rw[Af (y:=x.tmod 4294967296) (by omega) (by omega) (by omega)],I⟩
theorem JN {x:Int}(I:U W w L)(hx:dp x):Calls prog 150 #[.int .i32 x,.int .i64 32] w λe w'=>e=.returned (.int .i64 (ku x))∧U W w' L:=by
 have h1:=Int.tmod_lt_of_pos x (b:=32) (by decide);have h2:=Int.lt_tmod_of_pos x (b:=32) (by decide);have hm:(ku x:Int)=x%32:=by
  have h1:=Int.emod_nonneg x (show (32:Int)≠0 by decide);show (((x%32).toNat:Nat):Int)=_;omega
 have ht:x.tmod 32=if 0≤x then x%32 else -((-x)%32):=by
  split
  ·exact Int.tmod_eq_emod_of_nonneg (by omega)
  ·rw[← Int.neg_neg (x.tmod 32),← Int.neg_tmod,Int.tmod_eq_emod_of_nonneg (by omega)]
 simp only[dp]at hx;refine EN func150 ntmps150 rfl rfl λa E=>?_;refine RN 6 E I λa E=>?_;replace E:=E.aM 7;refine SX 3 E I (fY (by omega) (by omega)) λa E=>?_;refine IF 7 E I (λao a E=>?_) λao a E=>?_
 ·
  refine RN 4 E I λa E=>?_;rw[show x.tmod 32+32=(ku x:Int) from by rw[hm,ht];split <;> omega]at E;refine RT 3 E I ?_;exact⟨rfl,I⟩
 refine RT 3 E I ?_;exact⟨by rw[hm,show x.tmod 32=x%32 from by rw[ht] at *;split at*<;> omega],I⟩
theorem WM {x:Int}(I:U W w L)(hx:dp x)(hb:b.length≤1099511627776)(hp:∀ w',U W w' L→aT w' adP b.length b) :
   Calls prog 149 #[.slice adP b.length cP,.int .i32 x] w λe w'=>e=.returned (.int .i32 (mg b x))∧U W w' L:=by
 simp only[dp]at hx;refine EN func149 ntmps149 rfl rfl λa E=>?_;refine BY 7 E I (λbD a E=>?_) λbD a E=>?_
 ·
  refine RT 9 E I ?_;exact⟨by rw[mg,ag (by omega)],I⟩
 refine SX 1 E I (by rw[fY (by omega) (by omega)]) λa E=>?_;refine IF 4 E I (λaj a E=>?_) λaj a E=>?_
 ·
  refine RT 2 E I ?_;exact⟨by rw[mg,ag (by omega)],I⟩
 refine RN 1 E I λa E=>?_;obtain⟨k,hk⟩:∃ k:Nat,x=(k:Int):=⟨x.toNat,by omega⟩;obtain⟨_,_,a6⟩:=hp _ I;have xQ:k<b.length:=by omega
 obtain⟨bp,op,gW,c4⟩:∃ bp op,adP=some ⟨bp,op,none⟩∧Rd w bp op (bc b):=by
  cases hh:adP with
  | none =>
   have:=(hp _ I).2.1 hh;omega
  | some a =>
   obtain⟨b1,o1,rfl,h1⟩:=a6 a hh (by omega);exact⟨b1,o1,rfl,h1⟩
 rw[hk]at E;refine RN 1 E I λa E=>?_;rw[gW]at E;refine RN 2 E I λa E=>?_;refine SS E (ae E (c4 k (.int .u8 b[k].toNat) (by simp[bc,xQ]))) λa E=>?_;refine SX 0 E I (by have:=b[k].toNat_lt;exact ia (by omega) (by omega)) λa E=>?_;refine RT 1 E I ?_;refine⟨?_,I⟩;rw[mg,ak (by omega),hk,Int.toNat_natCast,bl,aD xQ];rfl
theorem WN {x y:Int}(I:U W w L)(hx:dp x)(hy:dp y):Calls prog 188 #[.int .i32 x,.int .i32 y] w λe w'=>e=.returned (.int .i32 (if y=0 then 0 else hZ (x.tdiv y)))∧U W w' L:=by
 simp only[dp]at hx hy;have hq:y≠0 → -9223372036854775808≤x.tdiv y∧x.tdiv y≤9223372036854775807:=λh=>by
  have h1:(x.tdiv y).natAbs≤x.natAbs:=by rw[Int.natAbs_tdiv];exact Nat.div_le_self _ _
  omega
 refine EN func188 ntmps188 rfl rfl λa E=>?_;refine IF 6 E I (λaj a E=>?_) λaj a E=>?_
 ·
  refine RT 2 E I ?_;exact⟨by rw[ak aj],I⟩
 refine SX 2 E I (fY (by omega) (by omega)) λa E=>?_;refine SX 1 E I (fY (by omega) (by omega)) λa E=>?_;refine RN 0 E I λa E=>?_;refine SS E (HY E (by omega)) λa E=>?_;rw[fY (hq aj).1 (hq aj).2]at E;refine CL 0 E I (xY I (hq aj).1 (hq aj).2) λa w E I=>?_;refine RT 1 E I ?_;exact⟨by rw[ag aj],I⟩
theorem WO {k x y:Int}(I:U W w L)(hx:dp x)(hy:dp y):Calls prog 152 #[.int .i64 k,.int .i32 x,.int .i32 y] w λe w'=>e=.returned (.int .i32 (iO k x y))∧U W w' L:=by
 have dg:=hx;have iN:=hy;simp only[dp]at dg iN;have hmul:-9223372036854775808≤x*y∧x*y≤9223372036854775807:=by
  have h1:(x*y).natAbs≤2147483648*2147483648:=by rw[Int.natAbs_mul];exact Nat.mul_le_mul (by omega) (by omega)
  omega
 refine EN func152 ntmps152 rfl rfl λa E=>?_;refine IF 10 E I (λaj a E=>?_) λaj a E=>?_
 ·
  refine SX 2 E I (fY (by omega) (by omega)) λa E=>?_;refine SX 1 E I (fY (by omega) (by omega)) λa E=>?_;refine CL 1 E I (xY I (by omega) (by omega)) λa w E I=>?_;refine RT 1 E I ?_;exact⟨by simp[iO,aj],I⟩
 refine IF 3 E I (λao a E=>?_) λao a E=>?_
 ·
  refine SX 2 E I (fY (by omega) (by omega)) λa E=>?_;refine SX 1 E I (fY (by omega) (by omega)) λa E=>?_;refine CL 1 E I (xY I (by omega) (by omega)) λa w E I=>?_;refine RT 1 E I ?_;exact⟨by simp[iO,ao],I⟩
 refine IF 3 E I (λay a E=>?_) λay a E=>?_
 ·
  refine SX 2 E I (fY (by omega) (by omega)) λa E=>?_;refine SX 1 E I (fY (by omega) (by omega)) λa E=>?_;refine SX 0 E I ⟨(by first | exact hmul.1 | exact hmul.2),(by first | exact hmul.1 | exact hmul.2)⟩ λa E=>?_;refine CL 0 E I (xY I hmul.1 hmul.2) λa w E I=>?_;refine RT 1 E I ?_;exact⟨by simp[iO,ay],I⟩
 refine IF 3 E I (λbk a E=>?_) λbk a E=>?_
 ·
  refine CL 3 E I (WN I hx hy) λa w E I=>?_;refine RT 1 E I ?_;exact⟨by simp[iO,bk],I⟩
 refine IF 3 E I (λbL a E=>?_) λbL a E=>?_
 ·
  refine IF 7 E I (λeO a E=>?_) λeO a E=>?_
  ·
   refine RT 2 E I ?_;exact⟨by simp[iO,bL,eO],I⟩
  refine RT 2 E I ?_;exact⟨by simp[iO,bL];omega,I⟩
 refine IF 7 E I (λeO a E=>?_) λeO a E=>?_
 ·
  refine RT 2 E I ?_;exact⟨by simp[iO,aj,ao,ay,bk,bL,eO],I⟩
 refine RT 2 E I ?_;exact⟨by simp[iO,aj,ao,ay,bk,bL];omega,I⟩
theorem ints_at {w:World}{mn j:Nat}{g:Nat→Int}(h:Rd w mn 0 (ints .i32 32 g))(hj:j<32):w.cell? ⟨mn,j,none⟩=some (.int .i32 (g j)):=by
 have:=h j _ (fM g hj)
 rwa [Nat.zero_add]at this
theorem DY (I:U W w (aA W p aq cO::L))(a6:di p)(aG:p.title.size≤1000000000)(hg:dO g)(hb:b.length≤1099511627776)(hf:-4611686018427387904≤fr∧fr≤4611686018427387904)(hp:∀ w',U W w' L→aT w' adP b.length b) :
   Calls prog 104 #[.agg (bO p aq cO).toArray,.agg (ints .i32 32 g).toArray,.int .i64 fr,.slice adP b.length cP] w λe w'=>∃ n:Int,e=.returned (.tuple #[.agg (ints .i32 32 (eZ p fr b g)).toArray,.int .i64 n])∧dO (eZ p fr b g)∧U W w' (aA W p aq cO::L):=by
 have dU:p.ops.length≤64:=a6.1.2.2.1;refine EN func104 ntmps104 rfl rfl λa E=>?_;refine BX 1 E I λb4 a w E I=>?_;change U W w (aa b4 45 (bO p aq cO)::_) at I;refine BX 0 E I λb5 a w E I=>?_;change U W w (aa b5 49 (ints .i32 32 g)::_) at I;refine AL 0 E I λb8 a w E I=>?_;change U W w (aa b8 49 (ints .i32 32 (λ_=>0))::_) at I;refine bh 4 E I (WK (I.pick (aA W p aq cO)) aG (by omega)) λr a w E ⟨hr,I⟩=>?_;obtain rfl:r = -1:=hr.2 a6;refine RN 1 E I λa E=>?_;rw[show decide ((-1:Int) ≠ -1)=false from rfl]at E;replace E:=E.aM 18;refine aY 7 E I (JK I aG) λadT cT a w E I=>?_;refine RN 6 E I λa E=>?_;refine aO (λμ a w=>∃ (n aU:Nat) (g':Nat→Int),(μ=200-n∧n≤200∧aU≤p.ops.length∧dO g'∧qc p fr b (200-n) g' aU=eZ p fr b g)∧Fr a 166 [(2,.int .i64 fr),(3,.slice adP b.length cP),(4,pt b4),(5,pt b5),(8,pt b8),(10,.int .i64 aU),(11,.int .i64 n),(12,.slice adT (dZ p.title 0).length cT)]∧U W w (aa b5 49 (ints .i32 32 g')::aa b4 45 (bO p aq cO)::aa b8 49 (ints .i32 32 (λ_=>0))::Sl 21 1 adT (dZ p.title 0).length cT (RI (dZ p.title 0))::aA W p aq cO::L)) (200) (⟨0,0,g,⟨by simp,by simp,by simp,hg,rfl⟩,E.ab [2,3,4,5,8,10,11,12],I.sub⟩) ?_;clear E I;rintro μ a w ⟨n,aU,g',⟨rfl,hn,e0,eC,ug⟩,E,I⟩;refine BY 5 E I (λbD a E=>?_) λbD a E=>?_
 ·
  refine IF 6 E I (λao a E=>?_) λao a E=>?_
  ·
   obtain⟨o,ho⟩:∃ o,p.ops[aU]?=some o:=⟨_,aD (by omega)⟩;obtain⟨kH,oo,rfl,gC⟩:=I.q6 aq (by omega);have aS:=DK (p:=p) (fr:=fr) (b:=b) (g:=g') (n:=200-(n+1)) ho;rw[show 200-(n+1)+1=200-n from by omega,ug]at aS;have dm:=a6.2 o (bG ho);have qh:=dm;simp only[eY,eX]at qh;have DI:o.code=9→qg o.a p.ops.length:=λh=>qg.of (by omega);have jY:o.code≠9→o.code≠0→lL o.a 32:=λh h2=>lL.of (by omega);have DJ:o.code=10→qg o.b p.ops.length:=λh=>qg.of (by omega);have oe:o.code≠1→o.code≠15→o.code≠9→o.code≠10→o.code≠0→lL o.b 32:=λ_ _ _ _ _=>lL.of (by omega);have q8:o.code≠0→o.code≠1→o.code≠2→o.code≠9→o.code≠10→o.code≠11→o.code≠12→o.code≠13→o.code≠14→o.code≠15→lL o.c 32:=λ_ _ _ _ _ _ _ _ _ _=>lL.of (by omega);clear qh;refine RN 5 E I λa E=>?_;refine SS E (bR E underlying114 rfl Ty.t114 (vM gC ho)) λa E=>?_;refine AL 0 E I λeF a w E I=>?_;refine SA 0 E I λa w E I=>?_;refine IF 14 E I (λay a E=>?_) λay a E=>?_
   ·
    refine SA 3 E I λa w E I=>?_;refine RT 1 E I ?_;rw[show ei p fr b g' aU o=(g',aU+1,false) from by rw[ei,ak ay]]at aS;refine⟨_,by rw[aS];rfl,?_,I.sub⟩;rw[aS];exact eC
   refine IF 3 E I (λbk a E=>?_) λbk a E=>?_
   ·
    obtain⟨cD,dI,jZ⟩:=jY (by omega) (by omega);refine RN 2 E I λa E=>?_;rw[dI]at E;refine RN 2 E I λa E=>?_;refine SS E (gb E underlying3 underlying21) λa E=>?_;refine ST 1 E I (λa w E I=>?_) (hlt:=(by rw[de];omega));rw[ints_set,show (λi=>if i=cD then IntKind.i32.wrap o.b else g' i)=cg g' (cD) (hZ o.b) from rfl]at I;refine RN 0 E I λa E=>?_;have fL:ei p fr b g' aU o=(cg g' (cD) (hZ o.b),aU+1,true):=by
     rw[ei,ag (by omega),ag (by omega),ag (by omega),ag (by omega),dI,Int.toNat_natCast,jA,ak bk]
    rw[fL]at aS;exact⟨200-(n+1),by omega,n+1,aU+1,cg g' (cD) (hZ o.b),⟨rfl,by omega,by omega,nA eC (xF _),aS.symm⟩,E.ab [2,3,4,5,8,10,11,12],I.sub⟩
   refine IF 3 E I (λbL a E=>?_) λbL a E=>?_
   ·
    refine RN 0 E I λa E=>?_;obtain⟨cD,dI,jZ⟩:=jY (by omega) (by omega);obtain⟨bA,dV,iA⟩:=oe (by omega) (by omega) (by omega) (by omega) (by omega);refine aX 0 (λw0 w'=>Rd w' eF 0 (dN o)∧Rd w' b5 0 (ints .i32 32 g')) [3,4,5] [0,2,3001,1003,1004,1005,6,1007] E I λa w E I hH=>?_;have hC:=hH.at w ⟨I.ai,I.ai⟩;refine RH 2 E I hH hC λa E=>?_;refine QH E (λw hc=>ae E (hc.1 1 _ rfl)) hC λa E=>?_;rw[dI]at E;refine RH 0 E I hH hC λa E=>?_;refine SS E (ae E (hC.1 2 _ rfl)) λa E=>?_;rw[dV]at E;refine RH 1 E I hH hC λa E=>?_;refine SS E (ae E (ints_at hC.2 iA)) λa E=>?_;refine RH 1 E I hH hC λa E=>?_;refine ST 0 E I (λa w E I=>?_) (hlt:=(by rw[de];omega));rw[ints_set,show (λi=>if i=cD then g' bA else g' i)=cg g' (cD) (g' bA) from rfl]at I;refine RN 0 E I λa E=>?_;have fL:ei p fr b g' aU o=(cg g' (cD) (g' bA),aU+1,true):=by
     rw[ei,ag (by omega),ag (by omega),ag (by omega),ag (by omega),dI,Int.toNat_natCast,jA,ag (by omega),ak bL,dV,Int.toNat_natCast]
    rw[fL]at aS;exact⟨200-(n+1),by omega,n+1,aU+1,cg g' (cD) (g' bA),⟨rfl,by omega,by omega,nA eC (eC _ iA),aS.symm⟩,E.ab [2,3,4,5,8,10,11,12],I.sub⟩
   refine IF 3 E I (λeO a E=>?_) λeO a E=>?_
   ·
    obtain⟨cD,dI,jZ⟩:=DI eO;refine RN 2 E I λa E=>?_;rw[dI]at E;refine RN 1 E I λa E=>?_;have fL:ei p fr b g' aU o=(g',cD,true):=by
     rw[ei,ag (by omega),ak eO,dI,Int.toNat_natCast]
    rw[fL]at aS;exact⟨200-(n+1),by omega,n+1,cD,g',⟨rfl,by omega,by omega,eC,aS.symm⟩,E.ab [2,3,4,5,8,10,11,12],I.sub⟩
   refine IF 3 E I (λmS a E=>?_) λmS a E=>?_
   ·
    refine RN 1 E I λa E=>?_;obtain⟨cD,dI,jZ⟩:=jY (by omega) (by omega);refine RN 2 E I λa E=>?_;rw[dI]at E;refine RN 1 E I λa E=>?_;refine SS E (ae E ((ints_at I.ai jZ))) λa E=>?_;refine IF 1 E I (λmj a E=>?_) λmj a E=>?_
    ·
     obtain⟨bA,dV,iA⟩:=DJ mS;refine RN 2 E I λa E=>?_;rw[dV]at E;refine RN 1 E I λa E=>?_;have fL:ei p fr b g' aU o=(g',bA,true):=by
      rw[ei,ag (by omega),ag (by omega),ak mS,dI,Int.toNat_natCast,ak mj,dV,Int.toNat_natCast]
     rw[fL]at aS;exact⟨200-(n+1),by omega,n+1,bA,g',⟨rfl,by omega,by omega,eC,aS.symm⟩,E.ab [2,3,4,5,8,10,11,12],I.sub⟩
    refine RN 0 E I λa E=>?_;have fL:ei p fr b g' aU o=(g',aU+1,true):=by
     rw[ei,ag (by omega),ag (by omega),ak mS,dI,Int.toNat_natCast,ag mj]
    rw[fL]at aS;exact⟨200-(n+1),by omega,n+1,aU+1,g',⟨rfl,by omega,by omega,eC,aS.symm⟩,E.ab [2,3,4,5,8,10,11,12],I.sub⟩
   refine IF 3 E I (λml a E=>?_) λml a E=>?_
   ·
    refine RN 0 E I λa E=>?_;obtain⟨cD,dI,jZ⟩:=jY (by omega) (by omega);obtain⟨bA,dV,iA⟩:=oe (by omega) (by omega) (by omega) (by omega) (by omega);refine aX 0 (λw0 w'=>Rd w' eF 0 (dN o)∧Rd w' b5 0 (ints .i32 32 g')) [4,5,6,7] [0,2,3,3001,1004,1005,1006,1007,8,1009] E I λa w E I hH=>?_;have hC:=hH.at w ⟨I.ai,I.ai⟩;refine RH 3 E I hH hC λa E=>?_;refine QH E (λw hc=>ae E (hc.1 1 _ rfl)) hC λa E=>?_;rw[dI]at E;refine RH 0 E I hH hC λa E=>?_;refine SS E (ae E (hC.1 2 _ rfl)) λa E=>?_;rw[dV]at E;refine RH 1 E I hH hC λa E=>?_;refine SS E (ae E (ints_at hC.2 iA)) λa E=>?_;refine RH 0 E I hH hC λa E=>?_;refine CL 0 E I (WM I (eC _ iA) hb (λw' h=>hp w' h.sub)) λa w E I=>?_;replace hC:=hH.at w ⟨I.ai,I.ai⟩;refine RH 1 E I hH hC λa E=>?_;refine ST 0 E I (λa w E I=>?_) (hlt:=(by rw[de];omega));rw[ints_set,show (λi=>if i=cD then mg b (g' bA) else g' i)=cg g' (cD) (mg b (g' bA)) from rfl]at I;refine RN 0 E I λa E=>?_;have fL:ei p fr b g' aU o=(cg g' (cD) (mg b (g' bA)),aU+1,true):=by
     rw[ei,ag (by omega),ag (by omega),ag (by omega),ag (by omega),dI,Int.toNat_natCast,jA,ag (by omega),ag (by omega),ak ml,dV,Int.toNat_natCast]
    rw[fL]at aS;exact⟨200-(n+1),by omega,n+1,aU+1,cg g' (cD) (mg b (g' bA)),⟨rfl,by omega,by omega,nA eC (Ju _ _),aS.symm⟩,E.ab [2,3,4,5,8,10,11,12],I.sub⟩
   refine IF 3 E I (λjW a E=>?_) λjW a E=>?_
   ·
    refine RN 0 E I λa E=>?_;obtain⟨cD,dI,jZ⟩:=jY (by omega) (by omega);obtain⟨bA,dV,iA⟩:=oe (by omega) (by omega) (by omega) (by omega) (by omega);have xR:=xE (g' bA);refine aX 0 (λw0 w'=>Rd w' eF 0 (dN o)∧Rd w' b5 0 (ints .i32 32 g')) [3,4,5,6,7,8] [0,2,3001,1003,1004,1005,1006,1007,1008,9,1010] E I λa w E I hH=>?_;have hC:=hH.at w ⟨I.ai,I.ai⟩;refine RH 2 E I hH hC λa E=>?_;refine QH E (λw hc=>ae E (hc.1 1 _ rfl)) hC λa E=>?_;rw[dI]at E;refine RH 0 E I hH hC λa E=>?_;refine SS E (ae E (hC.1 2 _ rfl)) λa E=>?_;rw[dV]at E;refine RH 1 E I hH hC λa E=>?_;refine SS E (ae E (ints_at hC.2 iA)) λa E=>?_;refine RH 0 E I hH hC λa E=>?_;refine CL 0 E I (JN I (eC _ iA)) λa w E I=>?_;replace hC:=hH.at w ⟨I.ai,I.ai⟩;refine RH 1 E I hH hC λa E=>?_;refine SS E (ae E (ints_at hC.2 xR)) λa E=>?_;refine RH 1 E I hH hC λa E=>?_;refine ST 0 E I (λa w E I=>?_) (hlt:=(by rw[de];omega));rw[ints_set,show (λi=>if i=cD then g' (ku (g' bA)) else g' i)=cg g' (cD) (g' (ku (g' bA))) from rfl]at I;refine RN 0 E I λa E=>?_;have fL:ei p fr b g' aU o=(cg g' (cD) (g' (ku (g' bA))),aU+1,true):=by
     rw[ei,ag (by omega),ag (by omega),ag (by omega),ag (by omega),dI,Int.toNat_natCast,jA,ag (by omega),ag (by omega),ag (by omega),ak jW,dV,Int.toNat_natCast]
    rw[fL]at aS;exact⟨200-(n+1),by omega,n+1,aU+1,cg g' (cD) (g' (ku (g' bA))),⟨rfl,by omega,by omega,nA eC (eC _ xR),aS.symm⟩,E.ab [2,3,4,5,8,10,11,12],I.sub⟩
   refine IF 3 E I (λvS a E=>?_) λvS a E=>?_
   ·
    refine RN 0 E I λa E=>?_;obtain⟨cD,dI,jZ⟩:=jY (by omega) (by omega);obtain⟨bA,dV,iA⟩:=oe (by omega) (by omega) (by omega) (by omega) (by omega);have xR:=xE (g' cD);refine aX 0 (λw0 w'=>Rd w' eF 0 (dN o)∧Rd w' b5 0 (ints .i32 32 g')) [4,6,7,8] [0,5,3001,2,3003,3006,3007,3008,1004,9,1010] E I λa w E I hH=>?_;have hC:=hH.at w ⟨I.ai,I.ai⟩;refine RH 2 E I hH hC λa E=>?_;refine QH E (λw hc=>ae E (hc.1 1 _ rfl)) hC λa E=>?_;rw[dI]at E;refine RH 1 E I hH hC λa E=>?_;refine QH E (λw hc=>ae E (ints_at hc.2 jZ)) hC λa E=>?_;refine QH E (λw hc=>ae E (hc.1 2 _ rfl)) hC λa E=>?_;rw[dV]at E;refine RH 1 E I hH hC λa E=>?_;refine QH E (λw hc=>ae E (ints_at hc.2 iA)) hC λa E=>?_;refine RH 0 E I hH hC λa E=>?_;refine CL 0 E I (JN I (eC _ jZ)) λa w E I=>?_;replace hC:=hH.at w ⟨I.ai,I.ai⟩;refine RH 1 E I hH hC λa E=>?_;refine ST 0 E I (λa w E I=>?_) (hlt:=(by rw[de];omega));rw[ints_set,show (λi=>if i=ku (g' cD) then g' bA else g' i)=cg g' (ku (g' cD)) (g' bA) from rfl]at I;refine RN 0 E I λa E=>?_;have fL:ei p fr b g' aU o=(cg g' (ku (g' cD)) (g' bA),aU+1,true):=by
     rw[ei,ag (by omega),ag (by omega),ag (by omega),ak vS,dI,Int.toNat_natCast,dV,Int.toNat_natCast]
    rw[fL]at aS;exact⟨200-(n+1),by omega,n+1,aU+1,cg g' (ku (g' cD)) (g' bA),⟨rfl,by omega,by omega,nA eC (eC _ iA),aS.symm⟩,E.ab [2,3,4,5,8,10,11,12],I.sub⟩
   refine IF 3 E I (λsF a E=>?_) λsF a E=>?_
   ·
    refine RN 1 E I λa E=>?_;obtain⟨cD,dI,jZ⟩:=jY (by omega) (by omega);obtain⟨bA,dV,iA⟩:=oe (by omega) (by omega) (by omega) (by omega) (by omega);have oh:=eC _ iA;have DM:=oh;simp only[dp]at DM;refine RN 5 E I λa E=>?_;rw[dV]at E;refine RN 1 E I λa E=>?_;refine SS E (ae E ((ints_at I.ai iA))) λa E=>?_;refine BY 2 E I (λiP a E=>?_) λiP a E=>?_
    ·
     refine RN 2 E I λa E=>?_;rw[dV]at E;refine RN 1 E I λa E=>?_;refine bt E (cm E rfl (s:=136)) (ae E ((ints_at I.ai iA))) rfl λa E=>?_;refine SX 0 E I (fY (by omega) (by omega)) λa E=>?_;refine IF 4 E I (λxO a E=>?_) λxO a E=>?_
     ·
      obtain⟨rn,mU⟩:∃ rn:Nat,g' bA=rn:=⟨(g' bA).toNat,by omega⟩;obtain⟨aeX,aeY,rfl,DZ⟩:=I.bU adT (by omega);obtain⟨D0,vD⟩:∃ D0,(dZ p.title 0)[rn]?=some D0:=⟨_,aD (by omega)⟩;refine RN 3 E I λa E=>?_;rw[dV]at E;refine RN 1 E I λa E=>?_;refine SS E (ae E ((ints_at I.ai iA))) λa E=>?_;rw[mU]at E;refine RN 1 E I λa E=>?_;refine SS E (ae E ((DZ rn _ (JL vD)))) λa E=>?_;refine RN 1 E I λa E=>?_;have pn:mO p.title (g' bA)=D0.1:=by rw[mO,ak (by omega),mU,Int.toNat_natCast,vD];rfl
      rw[← pn]at E;refine RN 2 E I λa E=>?_;rw[dI]at E;refine ST 2 E I (λa w E I=>?_) (hlt:=(by rw[de];omega));rw[ints_set,show (λi=>if i=cD then mO p.title (g' bA) else g' i)=cg g' cD (mO p.title (g' bA)) from rfl]at I;refine RN 0 E I λa E=>?_;have fL:ei p fr b g' aU o=(cg g' cD (mO p.title (g' bA)),aU+1,true):=by
       rw[ei,ag (by omega),ag (by omega),ag (by omega),ag (by omega),dI,Int.toNat_natCast,jA,ag (by omega),ag (by omega),ag (by omega),ag (by omega),ak sF,dV,Int.toNat_natCast]
      rw[fL]at aS;exact⟨200-(n+1),by omega,n+1,aU+1,cg g' cD (mO p.title (g' bA)),⟨rfl,by omega,by omega,nA eC (Jr _ _),aS.symm⟩,E.ab [2,3,4,5,8,10,11,12],I.sub⟩
     refine RN 0 E I λa E=>?_;have aeZ:True:=trivial;refine RN 2 E I λa E=>?_;rw[dI]at E;refine ST 2 E I (λa w E I=>?_) (hlt:=(by rw[de];omega));rw[ints_set,show (λi=>if i=cD then 0 else g' i)=cg g' cD 0 from rfl]at I;refine RN 0 E I λa E=>?_;have fL:ei p fr b g' aU o=(cg g' cD 0,aU+1,true):=by
      rw[ei,ag (by omega),ag (by omega),ag (by omega),ag (by omega),dI,Int.toNat_natCast,jA,ag (by omega),ag (by omega),ag (by omega),ag (by omega),ak sF,dV,Int.toNat_natCast,mO,ak (by omega),iU (by omega)];rfl
     rw[fL]at aS;exact⟨200-(n+1),by omega,n+1,aU+1,cg g' cD 0,⟨rfl,by omega,by omega,nA eC (by simp[dp]),aS.symm⟩,E.ab [2,3,4,5,8,10,11,12],I.sub⟩
    refine RN 12 E I λa E=>?_;rw[dI]at E;refine ST 2 E I (λa w E I=>?_) (hlt:=(by rw[de];omega));rw[ints_set,show (λi=>if i=cD then 0 else g' i)=cg g' cD 0 from rfl]at I;refine RN 0 E I λa E=>?_;have fL:ei p fr b g' aU o=(cg g' cD 0,aU+1,true):=by
     rw[ei,ag (by omega),ag (by omega),ag (by omega),ag (by omega),dI,Int.toNat_natCast,jA,ag (by omega),ag (by omega),ag (by omega),ag (by omega),ak sF,dV,Int.toNat_natCast,mO,ag (by omega)]
    rw[fL]at aS;exact⟨200-(n+1),by omega,n+1,aU+1,cg g' cD 0,⟨rfl,by omega,by omega,nA eC (by simp[dp]),aS.symm⟩,E.ab [2,3,4,5,8,10,11,12],I.sub⟩
   refine IF 3 E I (λvT a E=>?_) λvT a E=>?_
   ·
    refine RN 0 E I λa E=>?_;obtain⟨cD,dI,jZ⟩:=jY (by omega) (by omega);refine aX 0 (λw0 w'=>Rd w' eF 0 (dN o)∧Rd w' b5 0 (ints .i32 32 g')) [3] [0,2,3001,1003,4,1005] E I λa w E I hH=>?_;have hC:=hH.at w ⟨I.ai,I.ai⟩;refine RH 2 E I hH hC λa E=>?_;refine QH E (λw hc=>ae E (hc.1 1 _ rfl)) hC λa E=>?_;rw[dI]at E;refine RH 0 E I hH hC λa E=>?_;refine CL 0 E I (xY I (by omega) (by omega)) λa w E I=>?_;replace hC:=hH.at w ⟨I.ai,I.ai⟩;refine RH 1 E I hH hC λa E=>?_;refine ST 0 E I (λa w E I=>?_) (hlt:=(by rw[de];omega));rw[ints_set,show (λi=>if i=cD then hZ fr else g' i)=cg g' (cD) (hZ fr) from rfl]at I;refine RN 0 E I λa E=>?_;have fL:ei p fr b g' aU o=(cg g' (cD) (hZ fr),aU+1,true):=by
     rw[ei,ag (by omega),ag (by omega),ag (by omega),ag (by omega),dI,Int.toNat_natCast,jA,ag (by omega),ag (by omega),ag (by omega),ag (by omega),ag (by omega),ak vT]
    rw[fL]at aS;exact⟨200-(n+1),by omega,n+1,aU+1,cg g' (cD) (hZ fr),⟨rfl,by omega,by omega,nA eC (xF _),aS.symm⟩,E.ab [2,3,4,5,8,10,11,12],I.sub⟩
   refine RN 0 E I λa E=>?_;obtain⟨cD,dI,jZ⟩:=jY (by omega) (by omega);obtain⟨bA,dV,iA⟩:=oe (by omega) (by omega) (by omega) (by omega) (by omega);obtain⟨tI,pf,JO⟩:=q8 (by omega) (by omega) (by omega) (by omega) (by omega) (by omega) (by omega) (by omega) (by omega) (by omega);refine aX 0 (λw0 w'=>Rd w' eF 0 (dN o)∧Rd w' b5 0 (ints .i32 32 g')) [3,5,6,7,9,10,11,12] [0,2,4,8,3001,3003,3005,3006,3007,1009,1010,1011,1012,13,1014] E I λa w E I hH=>?_;have hC:=hH.at w ⟨I.ai,I.ai⟩;refine RH 4 E I hH hC λa E=>?_;refine QH E (λw hc=>ae E (hc.1 1 _ rfl)) hC λa E=>?_;rw[dI]at E;refine RH 0 E I hH hC λa E=>?_;refine QH E (λw hc=>ae E (hc.1 0 _ rfl)) hC λa E=>?_;refine QH E (λw hc=>ae E (hc.1 2 _ rfl)) hC λa E=>?_;rw[dV]at E;refine RH 1 E I hH hC λa E=>?_;refine QH E (λw hc=>ae E (ints_at hc.2 iA)) hC λa E=>?_;refine RH 0 E I hH hC λa E=>?_;refine SS E (ae E (hC.1 3 _ rfl)) λa E=>?_;rw[pf]at E;refine RH 1 E I hH hC λa E=>?_;refine SS E (ae E (ints_at hC.2 JO)) λa E=>?_;refine RH 0 E I hH hC λa E=>?_;refine CL 0 E I (WO I (eC _ iA) (eC _ JO)) λa w E I=>?_;replace hC:=hH.at w ⟨I.ai,I.ai⟩;refine RH 1 E I hH hC λa E=>?_;refine ST 0 E I (λa w E I=>?_) (hlt:=(by rw[de];omega));rw[ints_set,show (λi=>if i=cD then iO o.code (g' bA) (g' tI) else g' i)=cg g' (cD) (iO o.code (g' bA) (g' tI)) from rfl]at I;refine RN 0 E I λa E=>?_;have fL:ei p fr b g' aU o=(cg g' (cD) (iO o.code (g' bA) (g' tI)),aU+1,true):=by
    rw[ei,ag (by omega),ag (by omega),ag (by omega),ag (by omega),dI,Int.toNat_natCast,jA,ag (by omega),ag (by omega),ag (by omega),ag (by omega),ag (by omega),ag (by omega),dV,Int.toNat_natCast,pf,Int.toNat_natCast]
   rw[fL]at aS;exact⟨200-(n+1),by omega,n+1,aU+1,cg g' (cD) (iO o.code (g' bA) (g' tI)),⟨rfl,by omega,by omega,nA eC (Jt _ _ _),aS.symm⟩,E.ab [2,3,4,5,8,10,11,12],I.sub⟩
  refine SA 3 E I λa w E I=>?_;refine RT 1 E I ?_;rw[DL (by omega)]at ug;exact⟨_,by rw[← ug],by rw[← ug];exact eC,I.sub⟩
 refine SA 10 E I λa w E I=>?_;refine RT 1 E I ?_;rw[show 200-n=0 from by omega]at ug;exact⟨_,by rw[← ug];rfl,by rw[← ug];exact eC,I.sub⟩
theorem WQ {P:List (List UInt8)}{zs:List dX}(I:U W w (aA W p aq cO::L))(a6:di p)(aG:p.title.size≤1000000000)(hg:dO g)(hP:P.length≤65536∧∀ b∈P,b.length≤1099511627776)(hz:zs.map (·.2.2)=P)(hf:-1099511627776≤fr∧fr≤1099511627776)(hp:∀ w',U W w' L→hU w' adP zs) :
   Calls prog 116 #[.agg (bO p aq cO).toArray,.agg (ints .i32 32 g).toArray,.int .i64 fr,.slice adP P.length cP] w λe w'=>e=.returned (.agg (ints .i32 32 (foldI p fr g P)).toArray)∧dO (foldI p fr g P)∧U W w' (aA W p aq cO::L):=by
 have iW:zs.length=P.length:=by rw[← hz,a8]
 have re:=hP.1;refine EN func116 ntmps116 rfl rfl λa E=>?_;refine BX 1 E I λb4 a w E I=>?_;change U W w (aa b4 45 (bO p aq cO)::_) at I;refine BX 0 E I λb5 a w E I=>?_;change U W w (aa b5 49 (ints .i32 32 g)::_) at I;refine AL 0 E I λb8 a w E I=>?_;change U W w (aa b8 49 (ints .i32 32 (λ_=>0))::_) at I;refine RN 3 E I λa E=>?_;refine aO (λμ a w=>∃ (i:Nat) (g':Nat→Int),(μ=P.length-i∧i≤P.length∧dO g'∧foldI p fr g P=foldI p (fr+i) g' (P.drop i))∧Fr a 33 [(2,.int .i64 fr),(3,.slice adP P.length cP),(4,pt b4),(5,pt b5),(8,pt b8),(9,.int .i64 i)]∧U W w (aa b5 49 (ints .i32 32 g')::aa b4 45 (bO p aq cO)::aa b8 49 (ints .i32 32 (λ_=>0))::aA W p aq cO::L)) (P.length) (⟨0,g,⟨by simp,by simp,hg,by simp⟩,E.ab [2,3,4,5,8,9],I.sub⟩) ?_;clear E I;rintro μ a w ⟨i,g',⟨rfl,hi,eC,lK⟩,E,I⟩;refine IF 6 E I (λaj a E=>?_) λaj a E=>?_
 ·
  have kx:zs[i]?=some (zs[i]'(by omega)):=aD (by omega);obtain⟨z,qk⟩:∃ z,zs[i]'(by omega)=z:=⟨_,rfl⟩;rw[qk]at kx;have Ag:P[i]?=some z.2.2:=by rw[← hz,bm,kx];rfl
  have fD:=hp _ (I.sub (M:=L));obtain⟨bp,op,gW,c4⟩:=fD.1 (by omega);have ck:∀ w',U W w' L→w'.cell? ⟨bp,op+i,none⟩=some (aK z):=λw' h=>by
   obtain⟨b',o',h1,h2⟩:=(hp w' h).1 (by omega);rw[gW]at h1;cases h1;exact h2 i _ (by rw[bm,kx];rfl)
  clear c4 fD;have JP:∀ w',U W w' L→aT w' z.1 z.2.2.length z.2.2:=λw' h=>(hp w' h).2 z (bG kx);have D1:foldI p fr g P=foldI p (fr+(i+1:Nat)) (eZ p (fr+i) z.2.2 g') (P.drop (i+1)):=by
   rw[lK,ki (by omega),foldI];have:P[i]'(by omega)=z.2.2:=by rw[aD (by omega)]at Ag;exact Option.some.inj Ag
   rw[this]
   congr 1
   omega
  refine RN 1 E I λa E=>?_;refine b7 (M:=λa w=>∃ km:Nat,dO (eZ p (fr+i) z.2.2 g')∧Fr a 33 [(2,.int .i64 fr),(3,.slice adP P.length cP),(4,pt b4),(5,pt b5),(8,pt b8),(9,.int .i64 i),(10,pt km)]∧U W w (aa km 49 (ints .i32 32 (eZ p (fr+i) z.2.2 g'))::aa b5 49 (ints .i32 32 g')::aa b4 45 (bO p aq cO)::aa b8 49 (ints .i32 32 (λ_=>0))::aA W p aq cO::L)) ?_ ?_
  ·
   refine aX 0 (λw0 w'=>Rd w' b4 0 (bO p aq cO)∧Rd w' b5 0 (ints .i32 32 g')∧w'.cell? ⟨bp,op+i,none⟩=some (aK z)) [1,8,13] [2,3,4,5,6,7,3000,3001,3008,2009,10,11,12,1013,1014,15] E I λa w E I hH=>?_;have hC:=hH.at w ⟨I.ai,I.ai,ck _ I.sub⟩;refine RH 5 E I hH hC λa E=>?_;rw[gW]at E;refine RH 1 E I hH hC λa E=>?_;refine QH E (λw hc=>bR E underlying45 rfl Ty.t45 (hc.1)) hC λa E=>?_;refine QH E (λw hc=>bR E underlying49 rfl Ty.t49 (hc.2.1)) hC λa E=>?_;refine QH E (λw hc=>ae E (hc.2.2)) hC λa E=>?_;refine RH 0 E I hH hC λa E=>?_;refine DN [(9,[10,11,12,1013,1014,15]),(13,[1009,10,11,12,1014,15])] (by kernel_rfl) rfl ⟨⟨_,rfl,?_⟩,⟨_,rfl,?_⟩,trivial⟩
   ·
    refine RH 0 E I hH hC λa E=>?_;refine bh 0 E I (DY (I.pick (aA W p aq cO)) a6 aG eC (hP.2 _ (bG Ag)) (by omega) (λw' h=>JP w' h.sub)) λsI a w E ⟨bD,I⟩=>?_;refine RN 3 E I λa E=>?_;refine eU E rfl I Ty.t49 rfl λkm a w E I ho=>?_;clear ho;replace hC:=hH.at w ⟨I.ai,I.ai,ck _ I.sub⟩;change U W w (aa km 49 (ints .i32 32 (λ_=>0))::_) at I;refine RH 0 E I hH hC λa E=>?_;refine SA 0 E I λa w E I=>?_;refine RN 1 E I λa E=>?_;rw[← gW]at E;exact⟨_,bD,E.ab [2,3,4,5,8,9,10],I.sub⟩
   refine RH 0 E I hH hC λa E=>?_;refine eU E rfl I Ty.t49 rfl λkm a w E I ho=>?_;clear ho;replace hC:=hH.at w ⟨I.ai,I.ai,ck _ I.sub⟩;change U W w (aa km 49 (ints .i32 32 (λ_=>0))::_) at I;refine RH 0 E I hH hC λa E=>?_;refine bh 0 E I (DY (I.pick (aA W p aq cO)) a6 aG eC (hP.2 _ (bG Ag)) (by omega) (λw' h=>JP w' h.sub)) λsI a w E ⟨bD,I⟩=>?_;refine SA 3 E I λa w E I=>?_;refine RN 1 E I λa E=>?_;rw[← gW]at E;exact⟨_,bD,E.ab [2,3,4,5,8,9,10],I.sub⟩
  clear E;(try clear I);rintro a w ⟨km,bD,E,I⟩;refine SA 1 E I λa w E I=>?_;refine RN 3 E I λa E=>?_;exact⟨P.length-(i+1),by omega,i+1,_,⟨rfl,by omega,bD,D1⟩,E.ab [2,3,4,5,8,9],I.sub⟩
 refine RN 1 E I λa E=>?_;obtain rfl:i=P.length:=by omega
 rw[List.drop_length,foldI]at lK;refine SA 1 E I λa w E I=>?_;refine RT 0 E I ?_;exact⟨by rw[lK],by rw[lK];exact eC,I.sub⟩
end
end
section
section
variable {P:Program}{a:Act}{w:World}{n:Nat}{l:List (Nat×Value)}
theorem JQ {x y i j t u dst ty ps af g}(E:Fr a n l)[e:Ev l x (.string i)][f:Ev l y (.string j)] :
   (execOp a.eval ⟨dst,.binOp .neq t x y u,ty,ps,af,g⟩).run P w=.ok (.value (.bool (!(i.data.toList==j.data.toList)))) w:=by
 simp[execOp,e.ev a n E,f.ev a n E,eqGuard,binOp,Op.stringOp,ByteArray.toList_eq]
end
end
section
def sO (k:IntKind)(w:World)(a:Option Addr)(len cap:Nat)(zs:List Int):Prop :=
 (a=none∧len=0∧cap=0∧zs=[]) ∨
 ∃ x,a=some x∧len≤cap∧cap≤maxLen∧zs.length=cap∧(∀ i,i<zs.length→w.cell? (x.add i)=some (.int k (zs.getD i 0)))∧∀ n∈zs,(Lit.int k n).wf=true
theorem WR {w:World}{x:Addr}{v:Value}(h:w.cell? x=some v):x=⟨x.block,x.off,none⟩∧x.block<w.heap.size:=by
 refine⟨?_,World.block_lt_of_cell? _ _ h⟩;obtain⟨b,o,s⟩:=x;cases s with
 | none=>rfl
 | some s =>
  simp only[World.cell?]at h;split at h <;> simp at h
theorem sO.get {k:IntKind}{w:World}{a:Option Addr}{len cap:Nat}{zs:List Int}(h:sO k w a len cap zs)(h0:0<len) :
   ∃ b off,a=some ⟨b,off,none⟩∧b<w.heap.size∧len≤zs.length∧∀ i,i<zs.length→w.cell? ⟨b,off+i*1,none⟩=some (.int k (zs.getD i 0)):=by
 rcases h with ⟨_,h,_,_⟩ | ⟨x,rfl,h1,h2,h3,h4,h5⟩
 ·omega
 ·have h6:=h4 0 (by omega);have h7:x.add 0=x:=by simp[Addr.add]
  rw[h7]at h6;obtain⟨h8,h9⟩:=WR h6;refine⟨x.block,x.off,by rw[← h8],h9,by omega,λi hi=>?_⟩;have:=h4 i hi;rw[h8,kE]at this;rw[Nat.mul_one];exact this
theorem sO.D2 {k:IntKind}{w:World}{a:Option Addr}{len cap:Nat}{zs:List Int}(h:sO k w a len cap zs):len≤zs.length∧len≤9223372036854775807:=by
 rcases h with ⟨_,rfl,_,rfl⟩ | ⟨x,rfl,h1,h2,h3,h4,h5⟩
 ·simp
 ·unfold maxLen at h2;omega
end
section
theorem WS {x:Int}(h:(Lit.int .u8 x).wf=true):x=((UInt8.ofNat x.toNat).toNat:Int):=by
 have hr:=(Lit.wf_int_iff .u8 x).1 h;have h1:IntKind.u8.min=0:=by decide
 have h2:IntKind.u8.max=255:=by decide
 rw[h1,h2]at hr;rw[UInt8.toNat_ofNat'];omega
theorem sO.WU {W:World}{a:Option Addr}{len cap:Nat}{z:List Int}(h:sO .u8 W a len cap z):∃ bs:List UInt8,bs.length=len∧aT W a len bs:=by
 refine⟨(z.take len).map (λn=>UInt8.ofNat n.toNat),?_,?_⟩
 ·have:=h.D2;simp;omega
 ·have hl:=h.D2;have hz:∀ n∈z,(Lit.int .u8 n).wf=true:=by
   rcases h with ⟨_,_,_,rfl⟩ | ⟨x,_,_,_,_,_,hw⟩
   ·intro n hn;cases hn
   ·exact hw
  refine⟨by simp;omega,λe=>?_,λx hx hp=>?_⟩
  ·rcases h with ⟨_,h,_,_⟩ | ⟨x,rfl,_⟩
   ·exact h
   ·cases e
  ·obtain⟨b,off,rfl,hb,_,hc⟩:=h.get hp;refine⟨b,off,by cases hx;rfl,λj v hj=>?_⟩;have om:=(a2.1 hj).1;rw[dk,a8,ef]at om;have:=hc j (by omega);rw[Nat.mul_one]at this;rw[this,← hj];have WV:z.getD j 0∈z:=by rw[bl,aD (by omega),Option.getD_some];exact getElem_mem _
   have hw:=hz _ WV;have hu:=WS hw;simp only[bc,bm,getElem?_take];rw[ak (by omega),aD (by omega)];simp only[Option.map_some];have hd:z.getD j 0=z[j]'(by omega):=by rw[bl,aD (by omega),Option.getD_some]
   rw[hd]at hu ⊢;exact congrArg (λz=>some (Value.int .u8 z)) hu
abbrev ae0:=Option Addr×Nat×List dX
end
section
section
theorem WW {u v:List (List UInt8)}:o6 u v=true↔u.take (min u.length v.length)=v.take (min u.length v.length):=by simp[o6]
end
end
section
abbrev Kx:=Wk×Nat
def e4 (p:Pr)(aq:Option Addr)(cO tq jq sq:Nat)(x:Kx):SP:=aa x.2 247 (cw p aq cO tq jq sq x.1)
def gO (ks:List Kx):List Value:=ks.map λx=>pt x.2
theorem JR {ks:List Kx}{i:Nat}{k:Wk}{wb:Nat}(h:ks[i]?=some (k,wb)):(gO ks)[i]?=some (pt wb):=by rw[gO,bm,h];rfl
theorem JS {ks:List Kx}{i:Nat}{k k':Wk}{wb:Nat}(h:ks[i]?=some (k,wb)):gO (ks.set i (k',wb))=gO ks:=by
 have hi:=(a2.1 h).1;apply ext_getElem?;intro j;simp only[gO,bm,jK];by_cases hj:i=j
 ·subst hj;rw[ak rfl,ak hi,h];rfl
 ·rw[ag hj]
theorem vY {ks:List Kx}{i:Nat}{k k':Wk}{wb:Nat}(h:ks[i]?=some (k,wb)):(ks.map (·.1)).Perm (k::(ks.eraseIdx i).map (·.1))∧((ks.set i (k',wb)).map (·.1)).Perm (k'::(ks.eraseIdx i).map (·.1)):=by
 obtain⟨hi,he⟩:=a2.1 h;have h1:=(r8 ks hi).map (·.1);rw[map_cons,he]at h1;have h2:=(r8 (ks.set i (k',wb)) (by simpa using hi)).map (·.1);rw[map_cons,getElem_set_self,eraseIdx_set_eq]at h2;exact⟨h1,h2⟩
section
variable {W w:World}{L:List SP}{tq jq sq r wb i cO n base:Nat}{aq:Option Addr}{A:Sn}{T:Tr}{J:Js}{k:Wk}{p:Pr}{x:Br}{px:aC}{ks:List Kx}{t:Nat→Nat}
theorem U.JT (I:U W w (ah (e4 p aq cO tq jq sq) ks::L))(hk:ks[i]?=some (k,wb)):U W w (aa wb 247 (cw p aq cO tq jq sq k)::ah (e4 p aq cO tq jq sq) (ks.eraseIdx i)::L):=by
 obtain⟨hi,he⟩:=a2.1 hk;have:=I.fq hi;rw[he]at this;exact this
theorem U.D3 {k':Wk}(I:U W w (aa wb 247 (cw p aq cO tq jq sq k')::ah (e4 p aq cO tq jq sq) (ks.eraseIdx i)::L))(hk:ks[i]?=some (k,wb)):U W w (ah (e4 p aq cO tq jq sq) (ks.set i (k',wb))::L) :=
 U.kG (f:=e4 p aq cO tq jq sq) (x:=(k',wb)) (a2.1 hk).1 I
theorem WX {F:Int}{g0:Nat→Int}(I:U W w (ah (e4 p aq cO tq jq sq) ks::Tree tq sq T::ax sq r A::bH jq J::aA W p aq cO::L))(hk:ks[i]?=some (k,wb))(hI:Inv p F g0 t base A T (ks.map (·.1)))
   (hF:0≤F∧F≤1099511627776) (hp:di p) (hz:p.title.size≤1000000000) (hn:A.n+1<1099511627776) (kv:J.length≤16) :
   Calls prog 102 #[pt wb] w λe w'=>∃ (z:Bool) (A':Sn) (T':Tr) (J':Js) (k':Wk),e=.returned (.bool z)∧(lh p A T J k z A' T' J' k'∧Inv p F g0 t base A' T' ((ks.set i (k',wb)).map (·.1))∧zT A T J A' T' J') ∧
    U W w' (ah (e4 p aq cO tq jq sq) (ks.set i (k',wb))::Tree tq sq T'::ax sq r A'::bH jq J'::aA W p aq cO::L):=by
 have hA:=(ax.facts (I.store sq)).1;have hT:=Tree.wt (I.tree tq);have WY:k∈ks.map (·.1):=cV.2 ⟨_,bG hk,rfl⟩;have h1:=I.JT hk;refine (Ws (L:=ah (e4 p aq cO tq jq sq) (ks.eraseIdx i)::L) (h1.sub (M:=aa wb 247 (cw p aq cO tq jq sq k)::Tree tq sq T::ax sq r A::bH jq J::aA W p aq cO::ah (e4 p aq cO tq jq sq) (ks.eraseIdx i)::L)) (hI.ready WY hF hp hz hn kv)).mono λe w' ⟨z,A',T',J',k',he,hb,I⟩=>?_;refine⟨z,A',T',J',k',he,⟨hb,((hI.vQ (vY (k':=k') hk).1).bit hA hT hb).vQ (vY (k':=k') hk).2.symm,hb.Vo⟩,?_⟩;have h2:=U.D3 (i:=i) (ks:=ks) (k:=k) (k':=k') (I.sub (M:=aa wb 247 (cw p aq cO tq jq sq k')::ah (e4 p aq cO tq jq sq) (ks.eraseIdx i)::Tree tq sq T'::ax sq r A'::bH jq J'::aA W p aq cO::L)) hk;exact h2
theorem WZ {F:Int}{g0:Nat→Int}(I:U W w (ah (e4 p aq cO tq jq sq) ks::ax sq r A::L))(hk:ks[i]?=some (k,wb))(hI:Inv p F g0 t base A T (ks.map (·.1))) :
   Calls prog 145 #[pt wb] w λe w'=>∃ (A':Sn) (k':Wk),e=.returned (.bool k.busy)∧(k'.busy=false∧Inv p F g0 t base A' T ((ks.set i (k',wb)).map (·.1))∧A'.room=A.room∧A'.n=A.n) ∧
    U W w' (ah (e4 p aq cO tq jq sq) (ks.set i (k',wb))::ax sq r A'::L):=by
 have hA:=(ax.facts (I.store sq)).1;have h1:=I.JT hk;cases hb:k.busy with
 | false =>
  refine (JC h1 hb).mono λe w' ⟨he,I⟩=>⟨A,k,he,⟨hb,(hI.vQ (vY (k':=k) hk).1).vQ (vY (k':=k) hk).2.symm,rfl,rfl⟩,?_⟩;exact U.D3 (i:=i) (ks:=ks) (k:=k) (k':=k) I hk
 | true =>
  refine (xU (L:=ah (e4 p aq cO tq jq sq) (ks.eraseIdx i)::L) (h1.sub (M:=aa wb 247 (cw p aq cO tq jq sq k)::ax sq r A::ah (e4 p aq cO tq jq sq) (ks.eraseIdx i)::L)) hb).mono λe w' ⟨he,I⟩=>?_;refine⟨A.eo k.x,{ k with busy:=false },he,⟨rfl,((hI.vQ (vY (k':={ k with busy:=false }) hk).1).rest (k':={ k with busy:=false }) hA hb rfl rfl).vQ (vY (k':={ k with busy:=false }) hk).2.symm,(n3 A _).1,(n3 A _).2.1⟩,?_⟩;exact U.D3 (i:=i) (ks:=ks) (k:=k) (k':={ k with busy:=false }) (I.sub (M:=aa wb 247 (cw p aq cO tq jq sq { k with busy:=false })::ah (e4 p aq cO tq jq sq) (ks.eraseIdx i)::ax sq r (A.eo k.x)::L)) hk
theorem W0 (I:U W w L):Calls prog 92 #[.agg (bO p aq cO).toArray,pt tq,pt jq,pt sq] w λe w' =>
   ∃ wb,e=.returned (pt wb)∧U W w' (aa wb 247 (cw p aq cO tq jq sq kP)::L):=by
 refine EN func92 ntmps92 rfl rfl λa E=>?_;refine BX 1 E I λb4 a w E I=>?_;change U W w (aa b4 45 (bO p aq cO)::_) at I;refine RN 3 E I λa E=>?_;change Fr a 15 ((9,.agg (List.toArray [.string p.title,.slice aq p.ops.length cO]))::_) at E;refine BX 4 E I λeF a w E I=>?_;change U W w (aa eF 247 (cw p aq cO tq jq sq kP)::_) at I;refine RT 1 E I ?_;exact⟨eF,rfl,I.sub⟩
theorem W1 {frm:Int}{ad2:Option Addr}{c2 id:Nat}{zs:List dX}{P:List (List UInt8)}(I:U W w (Tree tq sq T::ax sq r A::L))(hr:∀ w',U W w' L→hU w' ad2 zs)(hz:zs.map (·.2.2)=P)(hc:P.length≤c2)(dm:nv P)
   (hx:A.ar[i]?=some px) (bZ:px.id=id) (hb:A.n+1<1099511627776) (hl:T.last+1<1099511627776) (hm:T.l.length<T.most) :
   Calls prog 306 #[pt tq,.int .i64 frm,.int .i64 id,.slice ad2 P.length c2] w λe w'=>∃ (z:Nat) (ok:Bool),e=.returned (.tuple #[.int .i64 z,.bool ok]) ∧
    ((ok=false∧(P=[]∨∃ y∈T.l,y.is frm P)∧U W w' (Tree tq sq T::ax sq r A::L)) ∨
     (ok=true∧z=T.last+1∧P≠[]∧(∀ y∈T.l,¬ y.is frm P)∧U W w' (Tree tq sq (T.add frm P (A.last+1))::ax sq r (A.add px.g px.p)::L))):=by
 subst bZ;rcases Nat.eq_zero_or_pos P.length with h0 | h0
 ·have hP:=gT h0;exact (IX I (.inr h0)).mono λe w' ⟨h1,I⟩=>⟨0,false,h1,.inl ⟨rfl,.inl hP,I⟩⟩
 ·have hP:P≠[]:=List.length_pos_iff.1 h0;by_cases hex:∃ y∈T.l,y.is frm P
  ·obtain⟨y,hy,vH⟩:=hex;obtain⟨j,hj⟩:=jR.1 hy;have W3:∀ w',U W w' (ax sq r A::L)→kJ w' ad2 P.length P:=λw' h=>by
    have:=(hr w' h.tail).bb;rw[hz]at this
    rwa [show zs.length=P.length from by rw[← hz,a8]]at this
   exact (UD I W3 hc dm hj vH).mono λe w' ⟨h1,I⟩=>⟨0,false,h1,.inl ⟨rfl,.inr ⟨y,hy,vH⟩,I⟩⟩
  ·have bQ:∀ y∈T.l,¬ y.is frm P:=λy hy h=>hex ⟨y,hy,h⟩;exact (UE I hr hz hc dm hx hb hl bQ hm h0).mono λe w' ⟨h1,I⟩=>⟨T.last+1,true,h1,.inr ⟨rfl,rfl,hP,bQ,I⟩⟩
end
end
section
section
variable {W w:World}{L:List SP}{sq r i:Nat}{A:Sn}{px:aC}
theorem W4 {id:Nat}(I:U W w (ax sq r A::L))(hx:A.ar[i]?=some px)(bZ:px.id=id) :
   Calls prog 290 #[pt sq,.int .i64 id] w λe w'=>e=.returned (.tuple #[.agg (ints .i32 32 px.g).toArray,.bool true])∧U W w' (ax sq r A::L):=by
 subst bZ;exact Uj I hx
set_option maxHeartbeats 4000000 in
end
end
section
section
variable {P:Program}{ops:Array Oper}{Q:Exit→Act→World→Prop}{a:Act}{w w' W:World}{K:Act→World→Prop}{n d:Nat}{l:List (Nat×Value)}{v:Value}{L R:List SP}
theorem gY {s x t z sz a1 e ad k c ad2 m c2 news ty ps af g}{cs:List Value}(E:Fr a n l)(hw:Region.wanted ⟨some d,.call ⟨.builtin .append,#[s,x],#[t,t]⟩,ty,ps,af,g⟩ (yielded ops a.tmps)=true)(I:U W w L)
   (ht:P.underlying t=some (.slice e)) (hi:TI P e z sz a1) (hf:okB d n l=true) (hz:z.cells.size=sz) (hb:0<a1)
   [e1:Ev l s (.slice ad k c)] [pk:fJ L ad k c e sz cs R] [e2:Ev l x (.slice ad2 m c2)] (hr:0<m→∃ b2 gK,ad2=some ⟨b2,gK,none⟩∧Rd w b2 gK news) (hl:news.length=m*sz) (h1:∀ v∈news,v.oneCell'=true)
   (aG:(k+m)*a1≤140737488355328)
   (h:∀ av c' a' w',Fr a' n ((d,.slice av (k+m) c')::l)→U W w' (Sl e sz av (k+m) c' (cs++news)::R)→K a' w') :
   cI P ops Q ⟨some d,.call ⟨.builtin .append,#[s,x],#[t,t]⟩,ty,ps,af,g⟩ K a w:=by
 rcases Nat.eq_zero_or_pos m with h0 | h0
 ·subst h0;have qM:=(I.sl ad).2;obtain rfl:news=[]:=gT (by rw[hl,Nat.zero_mul]);refine Cq (ad:=ad) (k:=k) (c:=c) (ad2:=ad2) (c2:=c2) E hw ht hi hf qM λa' db=>h ad c a' w db ?_;rw[append_nil];exact I.perm pk.perm
 ·obtain⟨b2,gK,rfl,c4⟩:=hr h0;exact cK E hw I ht hi hz hf c4 hl h1 h0 hb aG h
end
theorem U.D4 {W w:World}{L:List SP}{b e n:Nat}{cs:List Value}{l:List UInt8}(I:U W w (aa b e cs::L))(he:e=5)(hl:l.length=n)(h:cs=bc l):U W w (Sl 5 1 (some ⟨b,0,none⟩) n n (bc l)::L):=by
 subst h;subst he;have h2:U W w (aa b 5 ([]++bc l++[])::L):=by simpa using I
 exact U.iJ (pre:=[]) (post:=[]) (n:=n) (c:=n) (sz:=1) (cs:=bc l) h2 (by rw[dk,hl,Nat.mul_one]) (bd _) (by simp)
theorem dJ {bs:List UInt8}{i:Nat}(h:i<bs.length):(bc bs)[i]?=some (.int .u8 ((bs[i]).toNat:Int)):=by simp[bc,h]
theorem fF (a b:List UInt8):bc (a++b)=bc a++bc b:=by simp[bc]
theorem aT.get {w:World}{ad:Option Addr}{m:Nat}{bs:List UInt8}(h:aT w ad m bs)(h0:0<m):∃ b o,ad=some ⟨b,o,none⟩∧Rd w b o (bc bs):=by
 obtain⟨_,h2,h3⟩:=h;cases hh:ad with
 | none=>have:=h2 hh;omega
 | some a =>
  obtain⟨b,o,rfl,h1⟩:=h3 a hh h0;exact⟨b,o,rfl,h1⟩
theorem aT.rd {w:World}{b o m:Nat}{bs:List UInt8}(h:aT w (some ⟨b,o,none⟩) m bs)(h0:0<m):Rd w b o (bc bs):=by
 obtain⟨b',o',e,h1⟩:=h.get h0;cases e;exact h1
theorem aT.uh {w:World}{ad:Option Addr}{bs:List UInt8}{c:Nat}(h:aT w ad bs.length bs){lo:Nat}(hl:lo≤bs.length)(hc:bs.length≤c):aT w (fk ad lo c 1) (bs.drop lo).length (bs.drop lo):=by
 refine⟨rfl,λe=>?_,λx hx h0=>?_⟩
 ·rw[c3];rcases Nat.eq_zero_or_pos (bs.length-lo) with h0 | h0
  ·exact h0
  ·obtain⟨b,o,rfl,_⟩:=h.get (by omega);rw[oT (by omega)]at e;cases e
 ·rw[c3]at h0;obtain⟨b,o,rfl,hr⟩:=h.get (by omega);rw[oT (by omega)]at hx;cases hx;refine⟨b,o+lo*1,rfl,λj v hj=>?_⟩;have h1:=hr (lo+j) v (by rw[bc,bm,← getElem?_drop,← bm];exact hj)
  rwa [show o+lo*1+j=o+(lo+j) from by omega]
theorem aT.D5 {w:World}{ad:Option Addr}{bs:List UInt8}{m:Nat}(h:aT w ad m bs){hi:Nat}(hl:hi≤bs.length):aT w ad hi (bs.take hi):=by
 obtain⟨h1,h2,h3⟩:=h;refine⟨by rw[ef];omega,λe=>by have:=h2 e;omega,λx hx h0=>?_⟩;obtain⟨b,o,e,hr⟩:=h3 x hx (by omega);refine⟨b,o,e,λj v hj=>hr j v ?_⟩;rw[bc,map_take,getElem?_take]at hj;split at hj
 ·exact hj
 ·cases hj
theorem ui (x:Nat):BitVec.ofInt IntKind.u32.bits (x:Int)=BitVec.ofNat 32 x:=BitVec.ofInt_natCast 32 x
theorem Ah (x:Nat):BitVec.ofInt IntKind.u64.bits (x:Int)=BitVec.ofNat 64 x:=BitVec.ofInt_natCast 64 x
theorem Ai {x y:Nat}(hx:x<4294967296)(hy:y<4294967296):IntKind.u32.wrap (((BitVec.ofInt IntKind.u32.bits (x:Int) ^^^ BitVec.ofInt IntKind.u32.bits (y:Int)).toNat:Nat):Int)=((x ^^^ y:Nat):Int):=by
 rw[ui,ui];show IntKind.u32.wrap (((BitVec.ofNat 32 x ^^^ BitVec.ofNat 32 y).toNat:Nat):Int)=_;rw[BitVec.toNat_xor,BitVec.toNat_ofNat,BitVec.toNat_ofNat,Nat.mod_eq_of_lt (show x<2 ^ 32 from hx),Nat.mod_eq_of_lt (show y<2 ^ 32 from hy),wrap_u32];have:=Nat.xor_lt_two_pow (n:=32) hx hy;omega
theorem W5 {x y:Nat}(hx:x<4294967296)(hy:y<4294967296):IntKind.u32.wrap (((BitVec.ofInt IntKind.u32.bits (x:Int) &&& BitVec.ofInt IntKind.u32.bits (y:Int)).toNat:Nat):Int)=((x &&& y:Nat):Int):=by
 rw[ui,ui];show IntKind.u32.wrap (((BitVec.ofNat 32 x &&& BitVec.ofNat 32 y).toNat:Nat):Int)=_;rw[BitVec.toNat_and,BitVec.toNat_ofNat,BitVec.toNat_ofNat,Nat.mod_eq_of_lt (show x<2 ^ 32 from hx),Nat.mod_eq_of_lt (show y<2 ^ 32 from hy),wrap_u32];have:x &&& y≤x:=Nat.and_le_left;omega
theorem JU {x:Nat}(h:x<4294967296):IntKind.u32.wrap (((BitVec.ofInt IntKind.u32.bits (if IntKind.u32.signed then -1 else IntKind.u32.max) ^^^ BitVec.ofInt IntKind.u32.bits (x:Int)).toNat:Nat):Int)=((4294967295-x:Nat):Int):=by
 have e:BitVec.ofInt IntKind.u32.bits (if IntKind.u32.signed then -1 else IntKind.u32.max)=BitVec.allOnes 32:=by
  show BitVec.ofInt 32 IntKind.u32.max=_;decide
 rw[e,ui];show IntKind.u32.wrap (((BitVec.allOnes 32 ^^^ BitVec.ofNat 32 x).toNat:Nat):Int)=_;rw[BitVec.allOnes_xor,BitVec.toNat_not,BitVec.toNat_ofNat,wrap_u32];rw[Nat.mod_eq_of_lt (show x<2 ^ 32 from h)];omega
theorem W6 {x y:Nat}(hx:x<18446744073709551616)(hy:y<18446744073709551616):IntKind.u64.wrap (((BitVec.ofInt IntKind.u64.bits (x:Int) ||| BitVec.ofInt IntKind.u64.bits (y:Int)).toNat:Nat):Int)=((x ||| y:Nat):Int):=by
 rw[Ah,Ah];show IntKind.u64.wrap (((BitVec.ofNat 64 x ||| BitVec.ofNat 64 y).toNat:Nat):Int)=_;rw[BitVec.toNat_or,BitVec.toNat_ofNat,BitVec.toNat_ofNat,Nat.mod_eq_of_lt (show x<2 ^ 64 from hx),Nat.mod_eq_of_lt (show y<2 ^ 64 from hy),wrap_u64];have:=Nat.or_lt_two_pow (n:=64) hx hy;omega
theorem W7 {x y:Nat}(hx:x<18446744073709551616)(hy:y<18446744073709551616):IntKind.u64.wrap (((BitVec.ofInt IntKind.u64.bits (x:Int) &&& BitVec.ofInt IntKind.u64.bits (y:Int)).toNat:Nat):Int)=((x &&& y:Nat):Int):=by
 rw[Ah,Ah];show IntKind.u64.wrap (((BitVec.ofNat 64 x &&& BitVec.ofNat 64 y).toNat:Nat):Int)=_;rw[BitVec.toNat_and,BitVec.toNat_ofNat,BitVec.toNat_ofNat,Nat.mod_eq_of_lt (show x<2 ^ 64 from hx),Nat.mod_eq_of_lt (show y<2 ^ 64 from hy),wrap_u64];have:x &&& y≤x:=Nat.and_le_left;omega
theorem lp (b:UInt8):b.toNat<256:=b.toNat_lt
def sP (x:Nat):Nat:=if x%2=1 then x/2 ^^^ 3988292384 else x/2
def mo:Nat→Nat→Nat
 | 0,y=>y
 | k+1,y=>sP (mo k y)
def vZ (x:Nat)(b:UInt8):Nat:=mo 8 (x ^^^ b.toNat)
def oq (bs:List UInt8):Nat:=bs.foldl vZ 4294967295
def ji (bs:List UInt8):Nat:=4294967295-oq bs
theorem W8 {x:Nat}(h:x<4294967296):sP x<4294967296:=by
 unfold sP;split
 ·exact Nat.xor_lt_two_pow (n:=32) (by show x/2<4294967296;omega) (by decide)
 ·omega
theorem Aj {x:Nat}(h:x<4294967296):∀ k,mo k x<4294967296
 | 0=>h
 | k+1=>W8 (Aj h k)
theorem W9 {x:Nat}(b:UInt8)(h:x<4294967296):vZ x b<4294967296:=by
 refine Aj (Nat.xor_lt_two_pow (n:=32) h ?_) 8;have:=lp b;show b.toNat<4294967296;omega
theorem Xa (bs:List UInt8):∀ {x:Nat},x<4294967296→bs.foldl vZ x<4294967296:=by
 induction bs with
 | nil=>exact λh=>h
 | cons b bs ih=>exact λh=>ih (W9 b h)
theorem Ak (bs:List UInt8):oq bs<4294967296:=Xa bs (by decide)
theorem D6 (bs:List UInt8):ji bs<4294967296:=by unfold ji;omega
theorem JV {bs:List UInt8}{i:Nat}(h:i<bs.length):oq (bs.take (i+1))=vZ (oq (bs.take i)) bs[i]:=by
 rw[oq,iZ h,foldl_append];rfl
theorem Xb {x:Nat}(h:x<4294967296):IntKind.u32.wrap (((BitVec.ofInt IntKind.u32.bits (x:Int) &&& BitVec.ofInt IntKind.u32.bits 1).toNat:Nat):Int)=((x%2:Nat):Int):=by
 have h1:=W5 (y:=1) h (by decide);rw[Nat.and_one_is_mod]at h1;exact h1
theorem Xc {m:Nat}(h:m<2):IntKind.u32.wrap (0-(m:Int))=((if m=1 then 4294967295 else 0:Nat):Int):=by
 rcases (by omega:m=0∨m=1) with rfl | rfl <;> decide
theorem Xd (m:Nat):IntKind.u32.wrap (((BitVec.ofInt IntKind.u32.bits 3988292384 &&& BitVec.ofInt IntKind.u32.bits ((if m=1 then 4294967295 else 0:Nat):Int)).toNat:Nat):Int)=((if m=1 then 3988292384 else 0:Nat):Int):=by
 by_cases h:m=1
 ·rw[ak h,ak h];decide
 ·rw[ag h,ag h];decide
theorem Xe {x m:Nat}(hx:x<4294967296):IntKind.u32.wrap (((BitVec.ofInt IntKind.u32.bits ((x/2:Nat):Int) ^^^ BitVec.ofInt IntKind.u32.bits ((if x%2=1 then 3988292384 else 0:Nat):Int)).toNat:Nat):Int)=((sP x:Nat):Int):=by
 rw[Ai (by omega) (by split <;> decide),sP];split
 ·rfl
 ·rw[Nat.xor_zero]
theorem Xf {x:Nat}(hx:x<4294967296):IntKind.u32.wrap (((BitVec.ofInt IntKind.u32.bits ((x/2:Nat):Int) ^^^ BitVec.ofInt IntKind.u32.bits 3988292384).toNat:Nat):Int)=((x/2 ^^^ 3988292384:Nat):Int):=Ai (y:=3988292384) (by omega) (by decide)
def fc (x:Nat):List UInt8:=[UInt8.ofNat (x/16777216),UInt8.ofNat (x/65536),UInt8.ofNat (x/256),UInt8.ofNat x]
theorem Xg (n:Nat):IntKind.u8.wrap (n:Int)=((UInt8.ofNat n).toNat:Int):=by
 rw[wrap_u8,UInt8.toNat_ofNat'];omega
def po (x:Int):Nat:=(x%4294967296).toNat
theorem JW (x:Int):IntKind.u32.wrap x=((po x:Nat):Int):=by rw[wrap_u32,po];omega
def gm (g:Nat→Int):List UInt8:=(List.range 32).flatMap λi=>fc (po (g i))
def lO (g:Nat→Int)(n:Nat):List UInt8:=(List.range n).flatMap λi=>fc (po (g i))
theorem D7 (g:Nat→Int)(n:Nat):lO g (n+1)=lO g n++fc (po (g n)):=by simp[lO,range_succ]
theorem rf (g:Nat→Int)(n:Nat):(lO g n).length=4*n:=by
 induction n with
 | zero=>rfl
 | succ n ih=>rw[D7,aL,ih];simp[fc];omega
theorem uj (g:Nat→Int):(gm g).length=128:=rf g 32
section
variable {W w:World}{L:List SP}{n c m:Nat}{ad:Option Addr}{bs:List UInt8}
theorem Xh (I:U W w L)(hb:bs.length≤1099511627776)(hp:∀ w',U W w' L→aT w' ad bs.length bs) :
   Calls prog 205 #[.int .u32 0,.slice ad bs.length c] w λe w'=>e=.returned (.int .u32 (ji bs))∧U W w' L:=by
 refine EN func205 ntmps205 rfl rfl λa E=>?_;refine RN 6 E I λa E=>?_;rw[show IntKind.u32.wrap ((BitVec.ofInt IntKind.u32.bits (if IntKind.u32.signed then -1 else IntKind.u32.max) ^^^ BitVec.ofInt IntKind.u32.bits 0).toNat:Int)=((oq (bs.take 0):Nat):Int) from rfl]at E;refine RN 5 E I λa E=>?_;refine aO (λμ a w=>∃ (i:Nat),(μ=bs.length-i∧i≤bs.length)∧Fr a 33 [(5,.int .u32 (oq (bs.take i))),(10,.slice ad bs.length c),(11,.int .i64 bs.length),(12,.int .i64 i)]∧U W w L) (bs.length) (⟨0,⟨rfl,by omega⟩,E.ab [5,10,11,12],I⟩) ?_;clear E I;rintro μ a w ⟨i,⟨rfl,hi⟩,E,I⟩;refine IF 3 E I (λaj a E=>?_) λaj a E=>?_
 ·
  obtain⟨bb,oo,rfl,hr⟩:=(hp _ I).get (by omega);have aH:i<bs.length:=by omega
  have hx:=Ak (bs.take i);have ql:=lp bs[i];refine RN 3 E I λa E=>?_;refine SS E (ae E (hr i _ (dJ aH))) λa E=>?_;refine SX 4 E I (by rw[wrap_u32];omega) λa E=>?_;refine RN 1 E I λa E=>?_;rw[Ai hx (by omega)]at E;refine RN 3 E I λa E=>?_;have hy:oq (bs.take i) ^^^ bs[i].toNat<4294967296:=Nat.xor_lt_two_pow (n:=32) hx (by show _<4294967296;omega);have hR:=JV aH;rw[vZ]at hR;generalize oq (bs.take i) ^^^ bs[i].toNat=y at E hy hR;refine aO (λμ a w=>∃ (k:Nat),(μ=8-k∧k≤8)∧Fr a 33 [(5,.int .u32 (mo k y)),(10,.slice (some ⟨bb,oo,none⟩) bs.length c),(11,.int .i64 bs.length),(12,.int .i64 i),(20,.int .i64 k)]∧U W w L) (8) (⟨0,⟨rfl,by omega⟩,E.ab [5,10,11,12,20],I⟩) ?_;clear E I;rintro μ a w ⟨k,⟨rfl,hk⟩,E,I⟩;refine IF 3 E I (λao a E=>?_) λao a E=>?_
  ·
   have Al:=Aj hy k;refine RN 3 E I λa E=>?_;rw[show ((mo k y:Nat):Int).fdiv (2 ^ 1)=((mo k y/2:Nat):Int) from kQ _ 2]at E;refine RN 2 E I λa E=>?_;rw[Xb Al]at E;refine RN 1 E I λa E=>?_;rw[Xc (Nat.mod_lt _ (by decide))]at E;refine RN 1 E I λa E=>?_;rw[Xd]at E;refine RN 1 E I λa E=>?_;rw[Xe (m:=0) Al]at E;refine RN 3 E I λa E=>?_;exact⟨8-(k+1),by omega,k+1,⟨rfl,by omega⟩,E.ab [5,10,11,12,20],I⟩
  obtain rfl:k=8:=by omega
  rw[← hR]at E;refine RN 2 E I λa E=>?_;exact⟨bs.length-(i+1),by omega,i+1,⟨rfl,by omega⟩,E.ab [5,10,11,12],I⟩
 obtain rfl:i=bs.length:=by omega
 rw[take_length]at E;refine RN 3 E I λa E=>?_;rw[JU (Ak bs)]at E;refine RT 1 E I ?_;exact⟨rfl,I⟩
theorem JX (I:U W w L)(hb:bs.length≤1099511627776)(hp:∀ w',U W w' L→aT w' ad bs.length bs) :
   Calls prog 176 #[.slice ad bs.length c] w λe w'=>e=.returned (.int .u32 (ji bs))∧U W w' L:=by
 refine EN func176 ntmps176 rfl rfl λa E=>?_;refine CL 4 E I (Xh I hb hp) λa w E I=>?_;refine RT 1 E I ?_;exact⟨rfl,I⟩
theorem JY (I:U W w L)(hb:bs.length≤1099511627776)(hp:∀ w',U W w' L→aT w' ad bs.length bs) :
   Calls prog 154 #[.slice ad bs.length c] w λe w'=>e=.returned (.int .u32 (ji bs))∧U W w' L:=by
 refine EN func154 ntmps154 rfl rfl λa E=>?_;refine RN 7 E I λa E=>?_;refine aO (λμ a w=>∃ (i:Nat),(μ=bs.length-i∧i≤bs.length)∧Fr a 33 [(0,.slice ad bs.length c),(3,.int .u32 (oq (bs.take i))),(4,.int .i64 i)]∧U W w L) (bs.length) (⟨0,⟨rfl,by omega⟩,E.ab [0,3,4],I⟩) ?_;clear E I;rintro μ a w ⟨i,⟨rfl,hi⟩,E,I⟩;refine IF 6 E I (λaj a E=>?_) λaj a E=>?_
 ·
  obtain⟨bb,oo,rfl,hr⟩:=(hp _ I).get (by omega);have aH:i<bs.length:=by omega
  have hx:=Ak (bs.take i);have ql:=lp bs[i];refine RN 6 E I λa E=>?_;refine SS E (ae E (hr i _ (dJ aH))) λa E=>?_;refine SX 0 E I (by rw[wrap_u32];omega) λa E=>?_;refine RN 1 E I λa E=>?_;rw[Ai hx (by omega)]at E;refine RN 3 E I λa E=>?_;have hy:oq (bs.take i) ^^^ bs[i].toNat<4294967296:=Nat.xor_lt_two_pow (n:=32) hx (by show _<4294967296;omega);have hR:=JV aH;rw[vZ]at hR;generalize oq (bs.take i) ^^^ bs[i].toNat=y at E hy hR;refine aO (λμ a w=>∃ (k:Nat),(μ=8-k∧k≤8)∧Fr a 33 [(0,.slice (some ⟨bb,oo,none⟩) bs.length c),(3,.int .u32 (mo k y)),(4,.int .i64 i),(5,.int .i64 k)]∧U W w L) (8) (⟨0,⟨rfl,by omega⟩,E.ab [0,3,4,5],I⟩) ?_;clear E I;rintro μ a w ⟨k,⟨rfl,hk⟩,E,I⟩;refine IF 4 E I (λao a E=>?_) λao a E=>?_
  ·
   have Al:=Aj hy k;have n4:mo (k+1) y=sP (mo k y):=rfl;refine SX 3 E I (by decide) λa E=>?_;rw[show ((mo k y:Nat):Int).tmod 2=((mo k y%2:Nat):Int) from nS _ 2]at E;refine IF 1 E I (λay a E=>?_) λay a E=>?_
   ·
    rw[sP,ak (by omega)]at n4;refine RN 2 E I λa E=>?_;rw[show ((mo k y:Nat):Int).fdiv (2 ^ 1)=((mo k y/2:Nat):Int) from kQ _ 2]at E;refine RN 1 E I λa E=>?_;rw[Xf Al,← n4]at E;refine RN 4 E I λa E=>?_;exact⟨8-(k+1),by omega,k+1,⟨rfl,by omega⟩,E.ab [0,3,4,5],I⟩
   rw[sP,ag (by omega)]at n4;refine RN 2 E I λa E=>?_;rw[show ((mo k y:Nat):Int).fdiv (2 ^ 1)=((mo k y/2:Nat):Int) from kQ _ 2,← n4]at E;refine RN 4 E I λa E=>?_;exact⟨8-(k+1),by omega,k+1,⟨rfl,by omega⟩,E.ab [0,3,4,5],I⟩
  obtain rfl:k=8:=by omega
  rw[← hR]at E;refine RN 3 E I λa E=>?_;exact⟨bs.length-(i+1),by omega,i+1,⟨rfl,by omega⟩,E.ab [0,3,4],I⟩
 obtain rfl:i=bs.length:=by omega
 rw[take_length]at E;refine RN 3 E I λa E=>?_;rw[JU (Ak bs)]at E;refine RT 1 E I ?_;exact⟨rfl,I⟩
theorem D8 {x:Nat}:[[Value.int .u8 (IntKind.u8.wrap ((x/16777216:Nat):Int))],[Value.int .u8 (IntKind.u8.wrap ((x/65536:Nat):Int))],[Value.int .u8 (IntKind.u8.wrap ((x/256:Nat):Int))],[Value.int .u8 (IntKind.u8.wrap ((x:Nat):Int))]].flatten=bc (fc x):=by
 simp only[Xg];rfl
theorem U.D9 {b:Nat}{cs:List Value}{l:List UInt8}{e:Nat}(I:U W w (aa b e cs::L))(he:e=5)(hl:l.length=4)(h:cs=bc l):U W w (Sl 5 1 (some ⟨b,0,none⟩) 4 4 (bc l)::L):=by
 subst h;subst he;have h2:U W w (aa b 5 ([]++bc l++[])::L):=by simpa using I
 exact U.iJ (pre:=[]) (post:=[]) (n:=4) (c:=4) (sz:=1) (cs:=bc l) h2 (by rw[dk,hl]) (bd _) (Nat.zero_le _)
theorem JZ {x:Nat}(I:U W w L) :
   Calls prog 337 #[.int .u32 x] w λe w'=>∃ ad,e=.returned (.slice ad 4 4)∧U W w' (Sl 5 1 ad 4 4 (bc (fc x))::L):=by
 refine EN func337 ntmps337 rfl rfl λa E=>?_;refine RN 5 E I λa E=>?_;rw[show ((x:Nat):Int).fdiv (2 ^ 24)=((x/16777216:Nat):Int) from kQ _ 16777216]at E;refine SS E (gb E underlying100 underlying5) λa E=>?_;refine RN 2 E I λa E=>?_;rw[show ((x:Nat):Int).fdiv (2 ^ 16)=((x/65536:Nat):Int) from kQ _ 65536]at E;refine SS E (gb E underlying100 underlying5) λa E=>?_;refine RN 2 E I λa E=>?_;rw[show ((x:Nat):Int).fdiv (2 ^ 8)=((x/256:Nat):Int) from kQ _ 256]at E;refine SS E (gb E underlying100 underlying5) λa E=>?_;refine RN 1 E I λa E=>?_;refine SS E (gb E underlying100 underlying5) λa E=>?_;refine RN 0 E I λa E=>?_;refine cn E rfl I underlying22 Ty.t5 rfl rfl rfl rfl (by decide) (by decide) λeF a w E I ho=>?_;clear ho;refine RT 1 E I ?_;exact⟨_,rfl,I.D9 rfl rfl D8⟩
theorem Ea {x:Nat}(I:U W w L) :
   Calls prog 158 #[.int .u32 x] w λe w'=>∃ ad,e=.returned (.slice ad 4 4)∧U W w' (Sl 5 1 ad 4 4 (bc (fc x))::L):=by
 refine EN func158 ntmps158 rfl rfl λa E=>?_;refine RN 5 E I λa E=>?_;rw[show ((x:Nat):Int).fdiv (2 ^ 24)=((x/16777216:Nat):Int) from kQ _ 16777216]at E;refine SS E (gb E underlying100 underlying5) λa E=>?_;refine RN 2 E I λa E=>?_;rw[show ((x:Nat):Int).fdiv (2 ^ 16)=((x/65536:Nat):Int) from kQ _ 65536]at E;refine SS E (gb E underlying100 underlying5) λa E=>?_;refine RN 2 E I λa E=>?_;rw[show ((x:Nat):Int).fdiv (2 ^ 8)=((x/256:Nat):Int) from kQ _ 256]at E;refine SS E (gb E underlying100 underlying5) λa E=>?_;refine RN 1 E I λa E=>?_;refine SS E (gb E underlying100 underlying5) λa E=>?_;refine RN 0 E I λa E=>?_;refine cn E rfl I underlying22 Ty.t5 rfl rfl rfl rfl (by decide) (by decide) λeF a w E I ho=>?_;clear ho;refine RT 1 E I ?_;exact⟨_,rfl,I.D9 rfl rfl D8⟩
theorem Xi {x:Int}(I:U W w L) :
   Calls prog 206 #[.int .i32 x] w λe w'=>∃ ad,e=.returned (.slice ad 4 4)∧U W w' (Sl 5 1 ad 4 4 (bc (fc (po x)))::L):=by
 refine EN func206 ntmps206 rfl rfl λa E=>?_;refine RN 4 E I λa E=>?_;refine SS E (gb E underlying21 underlying100) λa E=>?_;rw[JW]at E;generalize po x=x at E ⊢;refine RN 4 E I λa E=>?_;rw[show ((x:Nat):Int).fdiv (2 ^ 24)=((x/16777216:Nat):Int) from kQ _ 16777216]at E;refine SS E (gb E underlying100 underlying5) λa E=>?_;refine RN 2 E I λa E=>?_;rw[show ((x:Nat):Int).fdiv (2 ^ 16)=((x/65536:Nat):Int) from kQ _ 65536]at E;refine SS E (gb E underlying100 underlying5) λa E=>?_;refine RN 2 E I λa E=>?_;rw[show ((x:Nat):Int).fdiv (2 ^ 8)=((x/256:Nat):Int) from kQ _ 256]at E;refine SS E (gb E underlying100 underlying5) λa E=>?_;refine RN 1 E I λa E=>?_;refine SS E (gb E underlying100 underlying5) λa E=>?_;refine RN 0 E I λa E=>?_;refine cn E rfl I underlying22 Ty.t5 rfl rfl rfl rfl (by decide) (by decide) λie a w E I ho=>?_;clear ho;refine RT 1 E I ?_;exact⟨_,rfl,I.D9 rfl rfl D8⟩
end
end
end Go.Proofs.YteoldcfapaiobaaGreat
