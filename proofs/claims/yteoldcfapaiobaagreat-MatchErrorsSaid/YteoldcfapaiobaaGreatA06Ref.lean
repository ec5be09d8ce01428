/- The references' runes, titles, programs: the walks. -/
import Derived.Test.YteoldcfapaiobaaGreatA05Vm
import Derived.Test.YteoldcfapaiobaaGreatA04Job
import Derived.Test.YteoldcfapaiobaaGreatA01Row
import Derived.ProofKit
import Derived.Deep.Slices
import Derived.Deep.Strs
import Derived.ChangeSlices
import Derived.ChangeShapes
import Derived.DataShut
import Derived.Test.YteoldcfapaiobaaGreatA03Snap2
import Derived.Laws.StructEq
import Derived.ChangeKeysEq
import Derived.ChangeSame
namespace Go.Proofs.YteoldcfapaiobaaGreat
open Tryz
open List (all_eq_true getElem?_take getElem?_drop map_cons getElem_set_self eraseIdx_set_eq take_length append_nil ext_getElem? map_take range_succ foldl_append)
open Go.RowKit
set_option linter.unusedVariables false
set_option linter.unusedSimpArgs false
set_option maxRecDepth 10000
set_option synthInstance.maxSize 4000
set_option synthInstance.maxHeartbeats 400000
section
section
variable {W w:World}{L:List SP}{s:ByteArray}{p:Pr}{ao:Option Addr}{cO:Nat}
theorem VD (s:ByteArray):s.extract 0 s.size=s:=by simp
theorem VE {s:ByteArray}(h:0<s.size):(s.data.toList==(⟨#[]⟩:ByteArray).data.toList)=false:=by
 rw[lp];intro e;have h2:=congrArg List.length e;have h3:s.data.toList.length=s.size:=Array.length_toList;rw[h3]at h2;have h4:(⟨#[]⟩:ByteArray).data.toList.length=0:=rfl;omega
theorem zu {s:ByteArray}{j:Nat}(h:j<s.size):(s[j]'h).toNat=jQ s j:=by rw[jQ,C4 h]
theorem VF (I:V W w L)(h0:0<s.size):Calls prog 187 #[.string s] w λe w'=>e=.returned (.tuple #[.int .i32 (Utf8.decode s 0).1,.int .i64 (Utf8.decode s 0).2])∧V W w' L:=by
 obtain⟨b,hb⟩:∃ b,jQ s 0=b:=⟨_,rfl⟩;have oH:=C7 s 0;rw[hb]at oH;refine EN func187 ntmps187 rfl rfl λa E=>?_;refine RN 6 E I λa E=>?_;refine SS E (rH E) λa E=>?_;rw[VE h0]at E;refine RN 0 E I λa E=>?_;replace E:=E.aN 10;refine RN 3 E I λa E=>?_;refine SS E (yN E underlying9 (by omega)) λa E=>?_;rw[zu h0,hb]at E;refine RN 5 E I λa E=>?_;refine bZ (M:=λa w=>∃ n low r:Nat,C6 b n low r∧Fr a 92 [(0,.string s),(5,.int .i64 n),(6,.int .i32 low),(7,.int .i32 r)]∧V W w L) ?_ ?_
 ·
  refine IF 4 E I (λan a E=>?_) λan a E=>?_
  ·
   refine SX 2 E I (hW (by omega) (by omega)) λa E=>?_;refine RT 2 E I ?_;exact⟨by rw[VA hb (by omega)];rfl,I⟩
  refine BY 4 E I (λbw a E=>?_) λbw a E=>?_
  ·
   refine IF 4 E I (λay a E=>?_) λay a E=>?_
   ·
    refine SX 1 E I (hW (by omega) (by omega)) λa E=>?_;refine RN 1 E I λa E=>?_;obtain⟨r,hr⟩:∃ r,b=192+r:=⟨b-192,by omega⟩;rw[show IntKind.i32.wrap ((b:Int)-192)=(r:Nat) from by rw[hW (by omega) (by omega)];omega]at E;refine RN 3 E I λa E=>?_;exact⟨2,128,r,.inl ⟨hr,by omega,rfl,rfl⟩,E.ab [0,5,6,7],I⟩
   refine BY 4 E I (λbw a E=>?_) λbw a E=>?_
   ·
    refine IF 4 E I (λbg a E=>?_) λbg a E=>?_
    ·
     refine SX 1 E I (hW (by omega) (by omega)) λa E=>?_;refine RN 1 E I λa E=>?_;obtain⟨r,hr⟩:∃ r,b=224+r:=⟨b-224,by omega⟩;rw[show IntKind.i32.wrap ((b:Int)-224)=(r:Nat) from by rw[hW (by omega) (by omega)];omega]at E;refine RN 3 E I λa E=>?_;exact⟨3,2048,r,.inr (.inl ⟨hr,by omega,rfl,rfl⟩),E.ab [0,5,6,7],I⟩
    refine BY 4 E I (λbw a E=>?_) λbw a E=>?_
    ·
     refine IF 4 E I (λbM a E=>?_) λbM a E=>?_
     ·
      refine SX 1 E I (hW (by omega) (by omega)) λa E=>?_;refine RN 1 E I λa E=>?_;obtain⟨r,hr⟩:∃ r,b=240+r:=⟨b-240,by omega⟩;rw[show IntKind.i32.wrap ((b:Int)-240)=(r:Nat) from by rw[hW (by omega) (by omega)];omega]at E;refine RN 3 E I λa E=>?_;exact⟨4,65536,r,.inr (.inr ⟨hr,by omega,rfl,rfl⟩),E.ab [0,5,6,7],I⟩
     refine RT 3 E I ?_;exact⟨by rw[sg hb (by omega) (by omega)];rfl,I⟩
    refine RT 8 E I ?_;exact⟨by rw[sg hb (by omega) (by omega)];rfl,I⟩
   refine BY 9 E I (λbw a E=>?_) λbw a E=>?_
   ·
    refine IF 4 E I (λbM a E=>?_) λbM a E=>?_
    ·
     refine SX 1 E I (hW (by omega) (by omega)) λa E=>?_;refine RN 1 E I λa E=>?_;obtain⟨r,hr⟩:∃ r,b=240+r:=⟨b-240,by omega⟩;rw[show IntKind.i32.wrap ((b:Int)-240)=(r:Nat) from by rw[hW (by omega) (by omega)];omega]at E;refine RN 3 E I λa E=>?_;exact⟨4,65536,r,.inr (.inr ⟨hr,by omega,rfl,rfl⟩),E.ab [0,5,6,7],I⟩
    refine RT 3 E I ?_;exact⟨by rw[sg hb (by omega) (by omega)];rfl,I⟩
   refine RT 8 E I ?_;exact⟨by rw[sg hb (by omega) (by omega)];rfl,I⟩
  refine BY 9 E I (λbw a E=>?_) λbw a E=>?_
  ·
   refine IF 4 E I (λbg a E=>?_) λbg a E=>?_
   ·
    refine SX 1 E I (hW (by omega) (by omega)) λa E=>?_;refine RN 1 E I λa E=>?_;obtain⟨r,hr⟩:∃ r,b=224+r:=⟨b-224,by omega⟩;rw[show IntKind.i32.wrap ((b:Int)-224)=(r:Nat) from by rw[hW (by omega) (by omega)];omega]at E;refine RN 3 E I λa E=>?_;exact⟨3,2048,r,.inr (.inl ⟨hr,by omega,rfl,rfl⟩),E.ab [0,5,6,7],I⟩
   refine BY 4 E I (λbw a E=>?_) λbw a E=>?_
   ·
    refine IF 4 E I (λbM a E=>?_) λbM a E=>?_
    ·
     refine SX 1 E I (hW (by omega) (by omega)) λa E=>?_;refine RN 1 E I λa E=>?_;obtain⟨r,hr⟩:∃ r,b=240+r:=⟨b-240,by omega⟩;rw[show IntKind.i32.wrap ((b:Int)-240)=(r:Nat) from by rw[hW (by omega) (by omega)];omega]at E;refine RN 3 E I λa E=>?_;exact⟨4,65536,r,.inr (.inr ⟨hr,by omega,rfl,rfl⟩),E.ab [0,5,6,7],I⟩
    refine RT 3 E I ?_;exact⟨by rw[sg hb (by omega) (by omega)];rfl,I⟩
   refine RT 8 E I ?_;exact⟨by rw[sg hb (by omega) (by omega)];rfl,I⟩
  refine BY 9 E I (λbw a E=>?_) λbw a E=>?_
  ·
   refine IF 4 E I (λbM a E=>?_) λbM a E=>?_
   ·
    refine SX 1 E I (hW (by omega) (by omega)) λa E=>?_;refine RN 1 E I λa E=>?_;obtain⟨r,hr⟩:∃ r,b=240+r:=⟨b-240,by omega⟩;rw[show IntKind.i32.wrap ((b:Int)-240)=(r:Nat) from by rw[hW (by omega) (by omega)];omega]at E;refine RN 3 E I λa E=>?_;exact⟨4,65536,r,.inr (.inr ⟨hr,by omega,rfl,rfl⟩),E.ab [0,5,6,7],I⟩
   refine RT 3 E I ?_;exact⟨by rw[sg hb (by omega) (by omega)];rfl,I⟩
  refine RT 8 E I ?_;exact⟨by rw[sg hb (by omega) (by omega)];rfl,I⟩
 clear E;(try clear I);rintro a w ⟨n,low,r,hd,E,I⟩;refine RN 2 E I λa E=>?_;have o0:2≤n∧n≤4∧r<32:=by rcases hd with h | h | h <;> omega
 refine IF 4 E I (λeP a E=>?_) λeP a E=>?_
 ·
  refine RT 3 E I ?_;exact⟨by rw[C9 hb hd (.inl (by omega))];rfl,I⟩
 refine RN 3 E I λa E=>?_;refine aS (λμ a w=>∃ (j:Nat),(μ=n-j∧j+1≤n∧∀ k,1≤k→k<j+1→jQ s k/64=2)∧Fr a 92 [(0,.string s),(5,.int .i64 n),(6,.int .i32 low),(7,.int .i32 (fZ s r j:Nat)),(8,.int .i64 ((j+1:Nat):Int))]∧V W w L) (n) (⟨0,⟨by simp,by omega,λk h1 h2=>by omega⟩,E.ab [0,5,6,7,8],I⟩) ?_;clear E I;rintro μ a w ⟨j,⟨rfl,hj,hO⟩,E,I⟩;refine IF 5 E I (λmK a E=>?_) λmK a E=>?_
 ·
  refine RN 3 E I λa E=>?_;have sj:j+1<s.size:=by omega
  have hbj:=C7 s (j+1);refine RN 2 E I λa E=>?_;refine SS E (yN E underlying9 (by omega)) λa E=>?_;rw[zu sj]at E;refine BY 2 E I (λdE a E=>?_) λdE a E=>?_
  ·
   refine RT 9 E I ?_;exact⟨by rw[C9 hb hd (.inr ⟨j+1,by omega,by omega,by omega⟩)];rfl,I⟩
  refine RN 2 E I λa E=>?_;refine bz E (cW E rfl (s:=61)) (yN E underlying9 (by omega)) rfl λa E=>?_;rw[zu sj]at E;refine IF 2 E I (λl6 a E=>?_) λl6 a E=>?_
  ·
   refine RT 3 E I ?_;exact⟨by rw[C9 hb hd (.inr ⟨j+1,by omega,by omega,by omega⟩)];rfl,I⟩
  refine RN 0 E I λa E=>?_;have cd:=C8 (s:=s) o0.2.2 j;have sk:(64:Nat) ^ j≤64 ^ 2:=Nat.pow_le_pow_right (by omega) (by omega);refine RN 2 E I λa E=>?_;rw[hW (by omega) (by omega)]at E;refine RN 2 E I λa E=>?_;refine SS E (yN E underlying9 (by omega)) λa E=>?_;rw[zu sj]at E;refine SX 0 E I (hW (by omega) (by omega)) λa E=>?_;refine RN 1 E I λa E=>?_;rw[hW (by omega) (by omega)]at E;refine RN 1 E I λa E=>?_;rw[show IntKind.i32.wrap ((fZ s r j:Nat)*64+(jQ s (j+1):Nat)-128:Int)=(fZ s r (j+1):Nat) from by rw[hW (by omega) (by omega),fZ];omega]at E;refine RN 4 E I λa E=>?_;refine⟨n-(j+1),by omega,j+1,⟨rfl,by omega,λk h1 h2=>?_⟩,E.ab [0,5,6,7,8],I⟩;rcases Nat.lt_or_ge k (j+1) with h3 | h3
  ·exact hO k h1 h3
  ·obtain rfl:k=j+1:=by omega
   omega
 refine RN 2 E I λa E=>?_;obtain rfl:n=j+1:=by omega
 have oS:=VB hb hd (by omega) hO;simp only[zq,Nat.add_sub_cancel]at oS;refine BY 4 E I (λbP a E=>?_) λbP a E=>?_
 ·
  refine RT 15 E I ?_;exact⟨by rw[oS.1 (by omega)];rfl,I⟩
 refine BY 4 E I (λjr a E=>?_) λjr a E=>?_
 ·
  refine RT 11 E I ?_;exact⟨by rw[oS.1 (by omega)];rfl,I⟩
 refine BY 3 E I (λlr a E=>?_) λlr a E=>?_
 ·
  refine IF 4 E I (λl7 a E=>?_) λl7 a E=>?_
  ·
   refine RT 3 E I ?_;exact⟨by rw[oS.1 (by omega)];rfl,I⟩
  refine RT 5 E I ?_;exact⟨by rw[oS.2 (by omega)],I⟩
 refine RT 10 E I ?_;exact⟨by rw[oS.2 (by omega)],I⟩
def RI (l:List (Nat×Nat)):List Value:=l.map λx=>.int .i32 x.1
theorem I3 (I:V W w L)(aE:s.size≤1000000000):Calls prog 148 #[.string s] w λe w'=>∃ ad c,e=.returned (.tuple #[.slice ad (eb s 0).length c,.bool ((eb s 0).all lZ)]) ∧
   V W w' (Sl 21 1 ad (eb s 0).length c (RI (eb s 0))::L):=by
 refine EN func148 ntmps148 rfl rfl λa E=>?_;refine RN 6 E I λa E=>?_;replace I:=I.bH 21 1 none;refine RN 2 E I λa E=>?_;refine aS (λμ a w=>∃ (pos:Nat) (dn:List (Nat×Nat)) (ad:Option Addr) (c:Nat),(μ=s.size-pos∧pos≤s.size∧dn.length≤pos∧eb s 0=dn++eb s pos)∧Fr a 34 [(0,.string (s.extract pos s.size)),(4,.slice ad dn.length c),(5,.bool (dn.all lZ))]∧V W w (Sl 21 1 ad dn.length c (RI dn)::L)) (s.size) (⟨0,[],none,0,⟨by simp,by omega,by simp,rfl⟩,by rw[VD];exact E.ab [0,4,5],I⟩) ?_;clear E I;rintro μ a w ⟨pos,dn,ad,c,⟨rfl,hp,l5,da⟩,E,I⟩;refine RN 4 E I λa E=>?_;rw[qM]at E;refine IF 1 E I (λaj a E=>?_) λaj a E=>?_
 ·
  have gz:pos<s.size:=by omega
  have mI:=qE gz;have hdp:=tu s pos;have hdi:=Io s pos gz;have Da:dZ s pos=pos+(Utf8.decode s pos).2:=by rw[dZ,al gz]
  refine CL 2 E I (VF I (by rw[qM];omega)) λa w E I=>?_;rw[Vz]at E;refine RN 8 E I λa E=>?_;refine cm E rfl I underlying270 Ty.t21 rfl rfl rfl rfl (by decide) (by decide) λsm a w E I ho=>?_;clear ho;refine RN 0 E I λa E=>?_;refine cJ E rfl I underlying270 Ty.t21 rfl rfl I.ai rfl (by simp[Value.oneCell']) (by decide) (by decide) (by omega) λzw zx a w E I=>?_;refine RN 1 E I λa E=>?_;have o2:V W w (Sl 21 1 zw (dn++[Utf8.decode s pos]).length zx (RI (dn++[Utf8.decode s pos]))::L):=by
   have e1:(dn++[Utf8.decode s pos]).length=dn.length+1:=by simp
   have e2:RI (dn++[Utf8.decode s pos])=RI dn++[.int .i32 (Utf8.decode s pos).1]:=by simp[RI]
   rw[e1,e2];change V W w (Sl 21 1 zw (dn.length+1) zx (RI dn++[.int .i32 (Utf8.decode s pos).1])::_) at I;exact I.sub
  replace I:=o2;clear o2;refine RN 1 E I λa E=>?_;have pZ:(dn++[Utf8.decode s pos]).all lZ=(dn.all lZ&&zr (Utf8.decode s pos)):=by rw[VC];simp
  simp only[zr]at pZ;refine BY 2 E I (λmM a E=>?_) λmM a E=>?_
  ·
   refine BY 3 E I (λdE a E=>?_) λdE a E=>?_
   ·
    refine RN 5 E I λa E=>?_;rw[mM,al (by omega)]at pZ;refine RN 2 E I λa E=>?_;refine SS E (BT E underlying9 (by rw[qM];omega)) λa E=>?_;rw[C5,← Da]at E;refine RN 1 E I λa E=>?_;have xq:(dn++[Utf8.decode s pos]).length=dn.length+1:=by simp
    refine⟨s.size-dZ s pos,by omega,dZ s pos,dn++[Utf8.decode s pos],_,_,⟨rfl,by omega,by omega,by rw[da,mI,dw];rfl⟩,?_,I⟩;rw[xq,pZ];exact E.ab [0,4,5]
   refine RN 5 E I λa E=>?_;rw[mM,ae (by omega),Bool.true_and,show decide ((Utf8.decode s pos).2=3)=decide (((Utf8.decode s pos).2:Int)=3) from decide_eq_decide.2 (by omega)]at pZ;refine RN 2 E I λa E=>?_;refine SS E (BT E underlying9 (by rw[qM];omega)) λa E=>?_;rw[C5,← Da]at E;refine RN 1 E I λa E=>?_;have xq:(dn++[Utf8.decode s pos]).length=dn.length+1:=by simp
   refine⟨s.size-dZ s pos,by omega,dZ s pos,dn++[Utf8.decode s pos],_,_,⟨rfl,by omega,by omega,by rw[da,mI,dw];rfl⟩,?_,I⟩;rw[xq,pZ];exact E.ab [0,4,5]
  refine RN 8 E I λa E=>?_;rw[mM,Bool.false_and]at pZ;refine RN 2 E I λa E=>?_;refine SS E (BT E underlying9 (by rw[qM];omega)) λa E=>?_;rw[C5,← Da]at E;refine RN 1 E I λa E=>?_;have xq:(dn++[Utf8.decode s pos]).length=dn.length+1:=by simp
  refine⟨s.size-dZ s pos,by omega,dZ s pos,dn++[Utf8.decode s pos],_,_,⟨rfl,by omega,by omega,by rw[da,mI,dw];rfl⟩,?_,I⟩;rw[xq,pZ];exact E.ab [0,4,5]
 refine RT 5 E I ?_;obtain rfl:pos=s.size:=by omega
 have n1:=qF (s:=s) (pos:=s.size) (by omega);rw[n1,append_nil]at da;rw[da];exact⟨_,_,rfl,I.sub⟩
theorem I4 {l:List (Nat×Nat)}{i:Nat}{x:Nat×Nat}(h:l[i]?=some x):(RI l)[i]?=some (.int .i32 x.1):=by rw[RI,bn,h];rfl
theorem VG (I:V W w L)(aE:s.size≤1000000000):Calls prog 107 #[.string s] w λe w'=>e=.returned (.bool (oT s))∧V W w' L:=by
 have nT:oT s=(decide (1≤(eb s 0).length)&&decide ((eb s 0).length≤20)&&(eb s 0).all kc&&(eb s 0).all lZ):=rfl;have iK:=TW s s.size 0 (by omega);refine EN func107 ntmps107 rfl rfl λa E=>?_;refine a2 4 E I (I3 I aE) λad c a w E I=>?_;generalize (eb s 0)=l at E I nT iK;refine BY 10 E I (λbw a E=>?_) λbw a E=>?_
 ·
  refine RT 12 E I ?_;exact⟨by rw[nT,bw,Bool.and_false],I.sub⟩
 refine BY 5 E I (λjr a E=>?_) λjr a E=>?_
 ·
  refine RT 7 E I ?_;exact⟨by rw[nT,bq (by omega)];simp,I.sub⟩
 refine IF 4 E I (λaj a E=>?_) λaj a E=>?_
 ·
  refine RT 2 E I ?_;exact⟨by rw[nT,bq (p:=l.length≤20) (by omega)];simp,I.sub⟩
 refine RN 3 E I λa E=>?_;refine aS (λμ a w=>∃ i:Nat,(μ=l.length-i∧i≤l.length∧∀ j x,j<i→l[j]?=some x→kc x=true)∧Fr a 41 [(3,.slice ad l.length c),(5,.int .i64 i)]∧V W w (Sl 21 1 ad l.length c (RI l)::L)) (l.length) (⟨0,⟨by simp,by simp,λj x h=>absurd h (by omega)⟩,E.ab [3,5],I⟩) ?_;clear E I;rintro μ a w ⟨i,⟨rfl,hi,cD⟩,E,I⟩;refine IF 6 E I (λan a E=>?_) λan a E=>?_
 ·
  obtain⟨b,o,rfl,cK⟩:=I.bY ad (by omega);obtain⟨x,hx⟩:∃ x,l[i]?=some x:=⟨_,aO (by omega)⟩;have lT:=cK i _ (I4 hx);refine RN 5 E I λa E=>?_;refine SS E (ag E (lT)) λa E=>?_;refine BY 2 E I (λiM a E=>?_) λiM a E=>?_
  ·
   refine RT 9 E I ?_;refine⟨?_,I.sub⟩;have o3:kc x=false:=by
    simp only[kc,Bool.and_eq_false_iff,decide_eq_false_iff_not];omega
   have hO:l.all kc=false:=by rw[List.all_eq_false];exact⟨x,bE hx,by rw[o3];decide⟩
   rw[nT,hO];simp
  refine RN 3 E I λa E=>?_;refine bz E (cW E rfl (s:=34)) (ag E (lT)) rfl λa E=>?_;refine IF 2 E I (λay a E=>?_) λay a E=>?_
  ·
   refine RT 2 E I ?_;refine⟨?_,I.sub⟩;have o3:kc x=false:=by
    simp only[kc,Bool.and_eq_false_iff,decide_eq_false_iff_not];omega
   have hO:l.all kc=false:=by rw[List.all_eq_false];exact⟨x,bE hx,by rw[o3];decide⟩
   rw[nT,hO];simp
  refine RN 3 E I λa E=>?_;refine⟨l.length-(i+1),by omega,i+1,⟨rfl,by omega,λj y hj hy=>?_⟩,E.ab [3,5],I.sub⟩;rcases Nat.lt_or_ge j i with h | h
  ·exact cD j y h hy
  ·obtain rfl:j=i:=by omega
   rw[hx]at hy;cases hy;simp only[kc,fB,decide_eq_true_eq];omega
 refine RT 2 E I ?_;refine⟨?_,I.sub⟩;have hO:l.all kc=true:=by
  rw[all_eq_true];intro x hx;obtain⟨j,hj⟩:=jH.1 hx;exact cD j x (by have:=(a1.1 hj).1;omega) hj
 rw[nT,hO,bw,dd (p:=1≤l.length) (by omega),dd (p:=l.length≤20) (by omega)];rfl
theorem zy {x:Int}(I:V W w L):Calls prog 108 #[.int .i64 x] w λe w'=>∃ r:Bool,e=.returned (.bool r)∧(r=true↔dp x)∧V W w' L:=by
 simp only[dp];refine EN func108 ntmps108 rfl rfl λa E=>?_;refine BY 6 E I (λbw a E=>?_) λbw a E=>?_
 ·
  refine RT 4 E I ?_;exact⟨_,rfl,by rw[cn];omega,I⟩
 refine RT 4 E I ?_;exact⟨_,rfl,⟨λh=>(by cases h),λh=>by omega⟩,I⟩
theorem VH {p:Pr}(I:V W w (aA W p ao cO::L))(aE:p.title.size≤1000000000)(dX:p.ops.length≤1000000000) :
   Calls prog 68 #[.agg (bJ p ao cO).toArray] w λe w'=>∃ r:Bool,e=.returned (.bool r)∧(r=true↔vd p)∧V W w' (aA W p ao cO::L):=by
 refine EN func68 ntmps68 rfl rfl λa E=>?_;refine BX 1 E I λb1 a w E I=>?_;change V W w (aa b1 45 (bJ p ao cO)::_) at I;refine CL 5 E I (VG I aE) λa w E I=>?_;refine BY 2 E I (λdE a E=>?_) λdE a E=>?_
 ·
  refine RT 14 E I ?_;exact⟨false,rfl,⟨λh=>(by cases h),λh=>by rw[h.1]at dE;cases dE⟩,I.sub⟩
 have VI:oT p.title=true:=by simpa using dE
 refine BY 6 E I (λlr a E=>?_) λlr a E=>?_
 ·
  refine RT 8 E I ?_;exact⟨false,rfl,⟨λh=>(by cases h),λh=>by have:=h.2.1;omega⟩,I.sub⟩
 refine IF 5 E I (λaj a E=>?_) λaj a E=>?_
 ·
  refine RT 2 E I ?_;exact⟨false,rfl,⟨λh=>(by cases h),λh=>by have:=h.2.2.1;omega⟩,I.sub⟩
 refine RN 3 E I λa E=>?_;refine aS (λμ a w=>∃ i:Nat,(μ=p.ops.length-i∧i≤p.ops.length∧∀ j o,j<i→p.ops[j]?=some o→qG o)∧Fr a 55 [(1,pt b1),(3,.int .i64 i)]∧V W w (aa b1 45 (bJ p ao cO)::aA W p ao cO::L)) (p.ops.length) (⟨0,⟨by simp,by simp,λj o h=>absurd h (by omega)⟩,E.ab [1,3],I.sub⟩) ?_;clear E I;rintro μ a w ⟨i,⟨rfl,hi,cD⟩,E,I⟩;refine IF 7 E I (λan a E=>?_) λan a E=>?_
 ·
  obtain⟨o,ho⟩:∃ o,p.ops[i]?=some o:=⟨_,aO (by omega)⟩;obtain⟨kq,oo,rfl,gA⟩:=I.qH ao (by omega);refine RN 6 E I λa E=>?_;refine SS E (bO E underlying114 rfl Ty.t114 (ve gA ho)) λa E=>?_;refine AL 0 E I λb4 a w E I=>?_;refine SA 0 E I λa w E I=>?_;refine bd 3 E I (zy I) λr1 a w E ⟨fa,I⟩=>?_;refine BY 2 E I (λdE a E=>?_) λdE a E=>?_
  ·
   have jL:¬ qG o:=λh=>by rw[fa.2 h.1]at dE;cases dE
   refine RT 20 E I ?_;exact⟨false,rfl,⟨λh=>(by cases h),λh=>absurd (h.2.2.2 o (bE ho)) jL⟩,I.sub⟩
  refine bd 2 E I (zy I) λr2 a w E ⟨eU,I⟩=>?_;refine BY 3 E I (λlr a E=>?_) λlr a E=>?_
  ·
   have jL:¬ qG o:=λh=>by rw[eU.2 h.2.1]at lr;cases lr
   refine RT 14 E I ?_;exact⟨false,rfl,⟨λh=>(by cases h),λh=>absurd (h.2.2.2 o (bE ho)) jL⟩,I.sub⟩
  refine bd 2 E I (zy I) λr3 a w E ⟨jP,I⟩=>?_;refine BY 3 E I (λtD a E=>?_) λtD a E=>?_
  ·
   have jL:¬ qG o:=λh=>by rw[jP.2 h.2.2.1]at tD;cases tD
   refine RT 8 E I ?_;exact⟨false,rfl,⟨λh=>(by cases h),λh=>absurd (h.2.2.2 o (bE ho)) jL⟩,I.sub⟩
  refine bd 2 E I (zy I) λVJ a w E ⟨p0,I⟩=>?_;refine IF 2 E I (λay a E=>?_) λay a E=>?_
  ·
   have jL:¬ qG o:=λh=>by rw[p0.2 h.2.2.2]at ay;cases ay
   refine RT 2 E I ?_;exact⟨false,rfl,⟨λh=>(by cases h),λh=>absurd (h.2.2.2 o (bE ho)) jL⟩,I.sub⟩
  have Db:qG o:=⟨fa.1 (by simpa using dE),eU.1 (by simpa using lr),jP.1 (by simpa using tD),p0.1 (by simpa using ay)⟩;refine RN 3 E I λa E=>?_;refine⟨p.ops.length-(i+1),by omega,i+1,⟨rfl,by omega,λj o' hj j2=>?_⟩,E.ab [1,3],I.sub⟩;rcases Nat.lt_or_ge j i with h | h
  ·exact cD j o' h j2
  ·obtain rfl:j=i:=by omega
   rw[ho]at j2;cases j2;exact Db
 refine RT 2 E I ?_;refine⟨true,rfl,⟨λ_=>⟨VI,by omega,by omega,λo ho=>?_⟩,λ_=>rfl⟩,I.sub⟩;obtain⟨j,hj⟩:=jH.1 ho;exact cD j o (by have:=(a1.1 hj).1;omega) hj
theorem VK:∀ m:Nat,m≤15→(([[.int .i64 0],[.int .i64 2],[.int .i64 2],[.int .i64 3],[.int .i64 3],[.int .i64 3],[.int .i64 3],[.int .i64 3],[.int .i64 3],[.int .i64 1],[.int .i64 2],[.int .i64 2],[.int .i64 2],[.int .i64 2],[.int .i64 2],[.int .i64 1]].flatten:List Value))[m]?=some (.int .i64 (vr (m:Int)))
 | 0,_=>rfl
 | 1,_=>rfl
 | 2,_=>rfl
 | 3,_=>rfl
 | 4,_=>rfl
 | 5,_=>rfl
 | 6,_=>rfl
 | 7,_=>rfl
 | 8,_=>rfl
 | 9,_=>rfl
 | 10,_=>rfl
 | 11,_=>rfl
 | 12,_=>rfl
 | 13,_=>rfl
 | 14,_=>rfl
 | 15,_=>rfl
 | n+16,h=>absurd h (by omega)
theorem VL {k:Int}(I:V W w L)(hk:0≤k∧k≤15):Calls prog 109 #[.int .i64 k] w λe w'=>e=.returned (.int .i64 (vr k))∧V W w' L:=by
 obtain⟨m,rfl⟩:∃ m:Nat,k=m:=⟨k.toNat,by omega⟩;have hm:m≤15:=by omega
 refine EN func109 ntmps109 rfl rfl λa E=>?_;refine RN 3 E I λa E=>?_;refine cm E rfl I underlying53 Ty.t3 rfl rfl rfl rfl (by decide) (by decide) λb4 a w E I ho=>?_;clear ho;refine RN 5 E I λa E=>?_;refine SS E (ag E ((I.bu (VK m hm)))) λa E=>?_;refine RT 1 E I ?_;exact⟨rfl,I.sub⟩
theorem I5 {o:gy}:∀ k:Nat,k<3→([[.int .i64 o.a],[.int .i64 o.b],[.int .i64 o.c]].flatten:List Value)[k]?=some (.int .i64 (zt o k))
 | 0,_=>rfl
 | 1,_=>rfl
 | 2,_=>rfl
 | n+3,h=>absurd h (by omega)
theorem VM {n:Nat}{o:gy}(I:V W w L):Calls prog 69 #[.agg (dO o).toArray,.int .i64 n] w λe w'=>∃ r:Bool,e=.returned (.bool r)∧(r=true↔eX n o)∧V W w' L:=by
 refine EN func69 ntmps69 rfl rfl λa E=>?_;refine BX 1 E I λb2 a w E I=>?_;change V W w (aa b2 114 (dO o)::_) at I;refine BY 7 E I (λbP a E=>?_) λbP a E=>?_
 ·
  refine RT 7 E I ?_;exact⟨false,rfl,⟨λh=>(by cases h),λh=>by have:=(xp.1 h).1;omega⟩,I.sub⟩
 refine IF 4 E I (λaj a E=>?_) λaj a E=>?_
 ·
  refine RT 2 E I ?_;exact⟨false,rfl,⟨λh=>(by cases h),λh=>by have:=(xp.1 h).1;omega⟩,I.sub⟩
 refine RN 7 E I λa E=>?_;refine cm E rfl I underlying53 Ty.t3 rfl rfl rfl rfl (by decide) (by decide) λtE a w E I ho=>?_;clear ho;refine RN 4 E I λa E=>?_;refine aS (λμ a w=>∃ k:Nat,(μ=3-k∧k≤3∧∀ j,j<k→qN n o j)∧Fr a 68 [(1,.int .i64 n),(2,pt b2),(5,.slice (some ⟨tE,0,none⟩) 3 3),(6,.int .i64 k)]∧V W w (aa tE 3 [[.int .i64 o.a],[.int .i64 o.b],[.int .i64 o.c]].flatten::aa b2 114 (dO o)::L)) (3) (⟨0,⟨by simp,by simp,λj h=>absurd h (by omega)⟩,E.ab [1,2,5,6],I.sub⟩) ?_;clear E I;rintro μ a w ⟨k,⟨rfl,hk,cD⟩,E,I⟩;refine IF 4 E I (λan a E=>?_) λan a E=>?_
 ·
  refine RN 3 E I λa E=>?_;refine bZ (M:=λa w=>(vr o.code≤k∨¬ (o.code=1∧k=1))∧Fr a 68 [(1,.int .i64 n),(2,pt b2),(5,.slice (some ⟨tE,0,none⟩) 3 3),(6,.int .i64 k),(7,.int .i64 (jR n o k))]∧V W w (aa tE 3 [[.int .i64 o.a],[.int .i64 o.b],[.int .i64 o.c]].flatten::aa b2 114 (dO o)::L)) ?_ ?_
  ·
   refine CL 4 E I (VL I (by omega)) λa w E I=>?_;refine IF 2 E I (λay a E=>?_) λay a E=>?_
   ·
    refine RN 1 E I λa E=>?_;refine⟨.inl (by omega),?_,I.sub⟩;rw[show jR n o k=0 from al (by omega)];exact E.ab [1,2,5,6,7]
   refine BY 5 E I (λbP a E=>?_) λbP a E=>?_
   ·
    refine IF 4 E I (λbg a E=>?_) λbg a E=>?_
    ·
     refine RN 3 E I λa E=>?_;refine⟨3-(k+1),by omega,k+1,⟨rfl,by omega,λj hj=>?_⟩,E.ab [1,2,5,6],I.sub⟩;rcases Nat.lt_or_ge j k with h | h
     ·exact cD j h
     ·obtain rfl:j=k:=by omega
      exact .inl ⟨by omega,by omega,by omega⟩
    refine BY 5 E I (λbP a E=>?_) λbP a E=>?_
    ·
     refine RN 12 E I λa E=>?_;refine⟨.inr (by omega),?_,I.sub⟩;rw[show jR n o k=n from by rw[jR,ae (by omega),al (by omega)]];exact E.ab [1,2,5,6,7]
    refine BY 4 E I (λjr a E=>?_) λjr a E=>?_
    ·
     refine IF 5 E I (λbM a E=>?_) λbM a E=>?_
     ·
      refine RN 2 E I λa E=>?_;refine⟨.inr (by omega),?_,I.sub⟩;rw[show jR n o k=n from by rw[jR,ae (by omega),al (by omega)]];exact E.ab [1,2,5,6,7]
     refine RN 0 E I λa E=>?_;refine⟨.inr (by omega),?_,I.sub⟩;rw[show jR n o k=31 from by rw[jR,ae (by omega),ae (by omega)]];exact E.ab [1,2,5,6,7]
    refine RN 6 E I λa E=>?_;refine⟨.inr (by omega),?_,I.sub⟩;rw[show jR n o k=31 from by rw[jR,ae (by omega),ae (by omega)]];exact E.ab [1,2,5,6,7]
   refine BY 10 E I (λbP a E=>?_) λbP a E=>?_
   ·
    refine RN 12 E I λa E=>?_;refine⟨.inr (by omega),?_,I.sub⟩;rw[show jR n o k=n from by rw[jR,ae (by omega),al (by omega)]];exact E.ab [1,2,5,6,7]
   refine BY 4 E I (λjr a E=>?_) λjr a E=>?_
   ·
    refine IF 5 E I (λbM a E=>?_) λbM a E=>?_
    ·
     refine RN 2 E I λa E=>?_;refine⟨.inr (by omega),?_,I.sub⟩;rw[show jR n o k=n from by rw[jR,ae (by omega),al (by omega)]];exact E.ab [1,2,5,6,7]
    refine RN 0 E I λa E=>?_;refine⟨.inr (by omega),?_,I.sub⟩;rw[show jR n o k=31 from by rw[jR,ae (by omega),ae (by omega)]];exact E.ab [1,2,5,6,7]
   refine RN 6 E I λa E=>?_;refine⟨.inr (by omega),?_,I.sub⟩;rw[show jR n o k=31 from by rw[jR,ae (by omega),ae (by omega)]];exact E.ab [1,2,5,6,7]
  clear E;(try clear I);rintro a w ⟨B8,E,I⟩;refine RN 4 E I λa E=>?_;refine SS E (ag E ((I.bu (I5 k (by omega))))) λa E=>?_;refine BY 2 E I (λiM a E=>?_) λiM a E=>?_
  ·
   refine RT 10 E I ?_;refine⟨false,rfl,⟨λh=>(by cases h),λh=>?_⟩,I.sub⟩;have cc:qN n o k:=by
    obtain⟨_,h0,h1,h2⟩:=xp.1 h;rcases (by omega:k=0∨k=1∨k=2) with rfl | rfl | rfl
    ·exact h0
    ·exact h1
    ·exact h2
   simp only[qN]at cc;omega
  refine RN 3 E I λa E=>?_;refine bz E (cW E rfl (s:=60)) (ag E ((I.bu (I5 k (by omega))))) rfl λa E=>?_;refine IF 3 E I (λeP a E=>?_) λeP a E=>?_
  ·
   refine RT 2 E I ?_;refine⟨false,rfl,⟨λh=>(by cases h),λh=>?_⟩,I.sub⟩;have cc:qN n o k:=by
    obtain⟨_,h0,h1,h2⟩:=xp.1 h;rcases (by omega:k=0∨k=1∨k=2) with rfl | rfl | rfl
    ·exact h0
    ·exact h1
    ·exact h2
   simp only[qN]at cc;omega
  refine RN 3 E I λa E=>?_;refine⟨3-(k+1),by omega,k+1,⟨rfl,by omega,λj hj=>?_⟩,E.ab [1,2,5,6],I.sub⟩;rcases Nat.lt_or_ge j k with h | h
  ·exact cD j h
  ·obtain rfl:j=k:=by omega
   exact .inr ⟨by omega,by omega⟩
 refine RT 2 E I ?_;exact⟨true,rfl,⟨λ_=>xp.2 ⟨by omega,cD 0 (by omega),cD 1 (by omega),cD 2 (by omega)⟩,λ_=>rfl⟩,I.sub⟩
theorem VN {p:Pr}(I:V W w (aA W p ao cO::L))(aE:p.title.size≤1000000000)(dX:p.ops.length≤1000000000) :
   Calls prog 48 #[.agg (bJ p ao cO).toArray] w λe w'=>∃ r:Int,e=.returned (.int .i64 r)∧(r = -1↔dj p)∧V W w' (aA W p ao cO::L):=by
 refine EN func48 ntmps48 rfl rfl λa E=>?_;refine BX 1 E I λb1 a w E I=>?_;change V W w (aa b1 45 (bJ p ao cO)::_) at I;refine bd 4 E I (VH (I.pick (aA W p ao cO)) aE dX) λr a w E ⟨hr,I⟩=>?_;refine IF 1 E I (λaj a E=>?_) λaj a E=>?_
 ·
  have VO:¬ vd p:=λh=>by rw[hr.2 h]at aj;cases aj
  refine RT 2 E I ?_;exact⟨-2,rfl,⟨λh=>absurd h (by decide),λh=>absurd h.1 VO⟩,I.sub⟩
 have lv:vd p:=hr.1 (by simpa using aj);refine RN 3 E I λa E=>?_;refine aS (λμ a w=>∃ i:Nat,(μ=p.ops.length-i∧i≤p.ops.length∧∀ j o,j<i→p.ops[j]?=some o→eX p.ops.length o)∧Fr a 25 [(1,pt b1),(3,.int .i64 i)]∧V W w (aa b1 45 (bJ p ao cO)::aA W p ao cO::L)) (p.ops.length) (⟨0,⟨by simp,by simp,λj o h=>absurd h (by omega)⟩,E.ab [1,3],I.sub⟩) ?_;clear E I;rintro μ a w ⟨i,⟨rfl,hi,cD⟩,E,I⟩;refine IF 7 E I (λan a E=>?_) λan a E=>?_
 ·
  refine RN 2 E I λa E=>?_;obtain⟨o,ho⟩:∃ o,p.ops[i]?=some o:=⟨_,aO (by omega)⟩;obtain⟨kq,oo,rfl,gA⟩:=I.drew.qH ao (by omega);have fc:=ve gA ho;refine qv 0 (λw'=>Rd w' b1 0 (bJ p (some ⟨kq,oo,none⟩) cO)∧Rd w' kq (oo+i*4) (dO o)) [6,7] [0,2,5,3001,3,3004,1006,1007,1008,9] E I λa E=>?_;replace I:=I.drew;generalize w.drew=w at I fc ⊢;have U:Rd w b1 0 (bJ p (some ⟨kq,oo,none⟩) cO)∧Rd w kq (oo+i*4) (dO o):=⟨I.ai,fc⟩;have hH:=Hd.any (λw'=>Rd w' b1 0 (bJ p (some ⟨kq,oo,none⟩) cO)∧Rd w' kq (oo+i*4) (dO o));refine RH 3 E I hH U λa E=>?_;refine QH E (λw hc=>ag E (hc.1 1 _ rfl)) U λa E=>?_;refine RH 1 E I hH U λa E=>?_;refine QH E (λw hc=>bO E underlying114 rfl Ty.t114 (hc.2)) U λa E=>?_;refine RH 0 E I hH U λa E=>?_;refine SS E (ag E (U.1 1 _ rfl)) λa E=>?_;refine RH 1 E I hH U λa E=>?_;refine bd 0 E I (VM (n:=p.ops.length) (o:=o) I) λr a w E ⟨hr,I⟩=>?_;refine RN 1 E I λa E=>?_;refine IF 0 E I (λay a E=>?_) λay a E=>?_
  ·
   have bQ:¬ eX p.ops.length o:=λh=>by rw[hr.2 h]at ay;cases ay
   refine RT 3 E I ?_;exact⟨i,rfl,⟨λh=>absurd h (by omega),λh=>absurd (h.2 o (bE ho)) bQ⟩,I.sub⟩
  have dm:eX p.ops.length o:=hr.1 (by simpa using ay);refine RN 3 E I λa E=>?_;refine⟨p.ops.length-(i+1),by omega,i+1,⟨rfl,by omega,λj o' hj j2=>?_⟩,E.ab [1,3],I.sub⟩;rcases Nat.lt_or_ge j i with h | h
  ·exact cD j o' h j2
  ·obtain rfl:j=i:=by omega
   rw[ho]at j2;cases j2;exact dm
 refine RT 2 E I ?_;refine⟨-1,rfl,⟨λ_=>⟨lv,λo ho=>?_⟩,λ_=>rfl⟩,I.sub⟩;obtain⟨j,hj⟩:=jH.1 ho;exact cD j o (by have:=(a1.1 hj).1;omega) hj
end
end
section
theorem zA {x y:Int}(h1:-2147483648≤y)(h2:y≤2147483647)(h3:x%4294967296=y%4294967296):hV x=y:=by
 simp only[hV,IntKind.wrap,IntKind.signed,IntKind.bits];simp;split <;> omega
section
variable {W w:World}{L:List SP}{p:Pr}{ao adP:Option Addr}{cO cP:Nat}{b:List UInt8}{g:Nat→Int}{fr:Int}
theorem xr {x:Int}(I:V W w L)(h1:-9223372036854775808≤x)(h2:x≤9223372036854775807):Calls prog 151 #[.int .i64 x] w λe w'=>e=.returned (.int .i32 (hV x))∧V W w' L:=by
 have ly:=Int.tmod_lt_of_pos x (b:=4294967296) (by decide);have hY:=Int.lt_tmod_of_pos x (b:=4294967296) (by decide);have xt:(x.tmod 4294967296)%4294967296=x%4294967296:=by
  rw[Int.tmod_eq_emod];split <;> omega
 refine EN func151 ntmps151 rfl rfl λa E=>?_;refine IF 10 E I (λaj a E=>?_) λaj a E=>?_
 ·
  refine IF 7 E I (λan a E=>?_) λan a E=>?_
  ·
   refine SX 5 E I (hW (by omega) (by omega)) λa E=>?_;refine RT 1 E I ?_;exact⟨by rw[zA (y:=x.tmod 4294967296+4294967296-4294967296) (by omega) (by omega) (by omega)],I⟩
  refine SX 2 E I (hW (by omega) (by omega)) λa E=>?_;refine RT 1 E I ?_;exact⟨by rw[zA (y:=x.tmod 4294967296+4294967296) (by omega) (by omega) (by omega)],I⟩
 refine IF 4 E I (λan a E=>?_) λan a E=>?_
 ·
  refine SX 5 E I (hW (by omega) (by omega)) λa E=>?_;refine RT 1 E I ?_;exact⟨by rw[zA (y:=x.tmod 4294967296-4294967296) (by omega) (by omega) (by omega)],I⟩
 refine SX 2 E I (hW (by omega) (by omega)) λa E=>?_;refine RT 1 E I ?_;exact⟨by rw[zA (y:=x.tmod 4294967296) (by omega) (by omega) (by omega)],I⟩
theorem I6 {x:Int}(I:V W w L)(hx:dp x):Calls prog 150 #[.int .i32 x,.int .i64 32] w λe w'=>e=.returned (.int .i64 (ke x))∧V W w' L:=by
 have h1:=Int.tmod_lt_of_pos x (b:=32) (by decide);have h2:=Int.lt_tmod_of_pos x (b:=32) (by decide);have hm:(ke x:Int)=x%32:=by
  have h1:=Int.emod_nonneg x (show (32:Int)≠0 by decide);show (((x%32).toNat:Nat):Int)=_;omega
 have ht:x.tmod 32=if 0≤x then x%32 else -((-x)%32):=by
  split
  ·exact Int.tmod_eq_emod_of_nonneg (by omega)
  ·rw[← Int.neg_neg (x.tmod 32),← Int.neg_tmod,Int.tmod_eq_emod_of_nonneg (by omega)]
 simp only[dp]at hx;refine EN func150 ntmps150 rfl rfl λa E=>?_;refine RN 6 E I λa E=>?_;replace E:=E.aN 7;refine SX 3 E I (gr (by omega) (by omega)) λa E=>?_;refine IF 7 E I (λan a E=>?_) λan a E=>?_
 ·
  refine RN 4 E I λa E=>?_;rw[show x.tmod 32+32=(ke x:Int) from by rw[hm,ht];split <;> omega]at E;refine RT 3 E I ?_;exact⟨rfl,I⟩
 refine RT 3 E I ?_;exact⟨by rw[hm,show x.tmod 32=x%32 from by rw[ht] at *;split at*<;> omega],I⟩
theorem VP {x:Int}(I:V W w L)(hx:dp x)(hb:b.length≤1099511627776)(hp:∀ w',V W w' L→a6 w' adP b.length b) :
   Calls prog 149 #[.slice adP b.length cP,.int .i32 x] w λe w'=>e=.returned (.int .i32 (l3 b x))∧V W w' L:=by
 simp only[dp]at hx;refine EN func149 ntmps149 rfl rfl λa E=>?_;refine BY 7 E I (λbw a E=>?_) λbw a E=>?_
 ·
  refine RT 9 E I ?_;exact⟨by rw[l3,ae (by omega)],I⟩
 refine SX 1 E I (by rw[gr (by omega) (by omega)]) λa E=>?_;refine IF 4 E I (λaj a E=>?_) λaj a E=>?_
 ·
  refine RT 2 E I ?_;exact⟨by rw[l3,ae (by omega)],I⟩
 refine RN 1 E I λa E=>?_;obtain⟨k,hk⟩:∃ k:Nat,x=(k:Int):=⟨x.toNat,by omega⟩;obtain⟨_,_,aZ⟩:=hp _ I;have xi:k<b.length:=by omega
 obtain⟨bp,op,gU,cK⟩:∃ bp op,adP=some ⟨bp,op,none⟩∧Rd w bp op (bc b):=by
  cases hh:adP with
  | none =>
   have:=(hp _ I).2.1 hh;omega
  | some a =>
   obtain⟨b1,o1,rfl,h1⟩:=aZ a hh (by omega);exact⟨b1,o1,rfl,h1⟩
 rw[hk]at E;refine RN 1 E I λa E=>?_;rw[gU]at E;refine RN 2 E I λa E=>?_;refine SS E (ag E (cK k (.int .u8 b[k].toNat) (by simp[bc,xi]))) λa E=>?_;refine SX 0 E I (by have:=b[k].toNat_lt;exact hW (by omega) (by omega)) λa E=>?_;refine RT 1 E I ?_;refine⟨?_,I⟩;rw[l3,al (by omega),hk,Int.toNat_natCast,bl,aO xi];rfl
theorem VQ {x y:Int}(I:V W w L)(hx:dp x)(hy:dp y):Calls prog 188 #[.int .i32 x,.int .i32 y] w λe w'=>e=.returned (.int .i32 (if y=0 then 0 else hV (x.tdiv y)))∧V W w' L:=by
 simp only[dp]at hx hy;have hq:y≠0 → -9223372036854775808≤x.tdiv y∧x.tdiv y≤9223372036854775807:=λh=>by
  have h1:(x.tdiv y).natAbs≤x.natAbs:=by rw[Int.natAbs_tdiv];exact Nat.div_le_self _ _
  omega
 refine EN func188 ntmps188 rfl rfl λa E=>?_;refine IF 6 E I (λaj a E=>?_) λaj a E=>?_
 ·
  refine RT 2 E I ?_;exact⟨by rw[al aj],I⟩
 refine SX 2 E I (gr (by omega) (by omega)) λa E=>?_;refine SX 1 E I (gr (by omega) (by omega)) λa E=>?_;refine RN 0 E I λa E=>?_;refine SS E (Hj E (by omega)) λa E=>?_;rw[gr (hq aj).1 (hq aj).2]at E;refine CL 0 E I (xr I (hq aj).1 (hq aj).2) λa w E I=>?_;refine RT 1 E I ?_;exact⟨by rw[ae aj],I⟩
theorem VR {k x y:Int}(I:V W w L)(hx:dp x)(hy:dp y):Calls prog 152 #[.int .i64 k,.int .i32 x,.int .i32 y] w λe w'=>e=.returned (.int .i32 (iL k x y))∧V W w' L:=by
 have dc:=hx;have lX:=hy;simp only[dp]at dc lX;have hmul:-9223372036854775808≤x*y∧x*y≤9223372036854775807:=by
  have h1:(x*y).natAbs≤2147483648*2147483648:=by rw[Int.natAbs_mul];exact Nat.mul_le_mul (by omega) (by omega)
  omega
 refine EN func152 ntmps152 rfl rfl λa E=>?_;refine IF 10 E I (λaj a E=>?_) λaj a E=>?_
 ·
  refine SX 2 E I (gr (by omega) (by omega)) λa E=>?_;refine SX 1 E I (gr (by omega) (by omega)) λa E=>?_;refine CL 1 E I (xr I (by omega) (by omega)) λa w E I=>?_;refine RT 1 E I ?_;exact⟨by simp[iL,aj],I⟩
 refine IF 3 E I (λan a E=>?_) λan a E=>?_
 ·
  refine SX 2 E I (gr (by omega) (by omega)) λa E=>?_;refine SX 1 E I (gr (by omega) (by omega)) λa E=>?_;refine CL 1 E I (xr I (by omega) (by omega)) λa w E I=>?_;refine RT 1 E I ?_;exact⟨by simp[iL,an],I⟩
 refine IF 3 E I (λay a E=>?_) λay a E=>?_
 ·
  refine SX 2 E I (gr (by omega) (by omega)) λa E=>?_;refine SX 1 E I (gr (by omega) (by omega)) λa E=>?_;refine SX 0 E I ⟨(by first | exact hmul.1 | exact hmul.2),(by first | exact hmul.1 | exact hmul.2)⟩ λa E=>?_;refine CL 0 E I (xr I hmul.1 hmul.2) λa w E I=>?_;refine RT 1 E I ?_;exact⟨by simp[iL,ay],I⟩
 refine IF 3 E I (λbg a E=>?_) λbg a E=>?_
 ·
  refine CL 3 E I (VQ I hx hy) λa w E I=>?_;refine RT 1 E I ?_;exact⟨by simp[iL,bg],I⟩
 refine IF 3 E I (λbM a E=>?_) λbM a E=>?_
 ·
  refine IF 7 E I (λeP a E=>?_) λeP a E=>?_
  ·
   refine RT 2 E I ?_;exact⟨by simp[iL,bM,eP],I⟩
  refine RT 2 E I ?_;exact⟨by simp[iL,bM];omega,I⟩
 refine IF 7 E I (λeP a E=>?_) λeP a E=>?_
 ·
  refine RT 2 E I ?_;exact⟨by simp[iL,aj,an,ay,bg,bM,eP],I⟩
 refine RT 2 E I ?_;exact⟨by simp[iL,aj,an,ay,bg,bM];omega,I⟩
theorem ints_at {w:World}{l9 j:Nat}{g:Nat→Int}(h:Rd w l9 0 (ints .i32 32 g))(hj:j<32):w.cell? ⟨l9,j,none⟩=some (.int .i32 (g j)):=by
 have:=h j _ (fO g hj)
 rwa [Nat.zero_add]at this
theorem Dc (I:V W w (aA W p ao cO::L))(aZ:dj p)(aE:p.title.size≤1000000000)(hg:dP g)(hb:b.length≤1099511627776)(hf:-4611686018427387904≤fr∧fr≤4611686018427387904)(hp:∀ w',V W w' L→a6 w' adP b.length b) :
   Calls prog 104 #[.agg (bJ p ao cO).toArray,.agg (ints .i32 32 g).toArray,.int .i64 fr,.slice adP b.length cP] w λe w'=>∃ n:Int,e=.returned (.tuple #[.agg (ints .i32 32 (eY p fr b g)).toArray,.int .i64 n])∧dP (eY p fr b g)∧V W w' (aA W p ao cO::L):=by
 have dX:p.ops.length≤64:=aZ.1.2.2.1;refine EN func104 ntmps104 rfl rfl λa E=>?_;refine BX 1 E I λb4 a w E I=>?_;change V W w (aa b4 45 (bJ p ao cO)::_) at I;refine BX 0 E I λb5 a w E I=>?_;change V W w (aa b5 49 (ints .i32 32 g)::_) at I;refine AL 0 E I λb8 a w E I=>?_;change V W w (aa b8 49 (ints .i32 32 (λ_=>0))::_) at I;refine bd 4 E I (VN (I.pick (aA W p ao cO)) aE (by omega)) λr a w E ⟨hr,I⟩=>?_;obtain rfl:r = -1:=hr.2 aZ;refine RN 1 E I λa E=>?_;rw[show decide ((-1:Int) ≠ -1)=false from rfl]at E;replace E:=E.aN 18;refine a2 7 E I (I3 I aE) λadT cT a w E I=>?_;refine RN 6 E I λa E=>?_;refine aS (λμ a w=>∃ (n aT:Nat) (g':Nat→Int),(μ=200-n∧n≤200∧aT≤p.ops.length∧dP g'∧pT p fr b (200-n) g' aT=eY p fr b g)∧Fr a 166 [(2,.int .i64 fr),(3,.slice adP b.length cP),(4,pt b4),(5,pt b5),(8,pt b8),(10,.int .i64 aT),(11,.int .i64 n),(12,.slice adT (eb p.title 0).length cT)]∧V W w (aa b5 49 (ints .i32 32 g')::aa b4 45 (bJ p ao cO)::aa b8 49 (ints .i32 32 (λ_=>0))::Sl 21 1 adT (eb p.title 0).length cT (RI (eb p.title 0))::aA W p ao cO::L)) (200) (⟨0,0,g,⟨by simp,by simp,by simp,hg,rfl⟩,E.ab [2,3,4,5,8,10,11,12],I.sub⟩) ?_;clear E I;rintro μ a w ⟨n,aT,g',⟨rfl,hn,eZ,eI,tF⟩,E,I⟩;refine BY 5 E I (λbw a E=>?_) λbw a E=>?_
 ·
  refine IF 6 E I (λan a E=>?_) λan a E=>?_
  ·
   obtain⟨o,ho⟩:∃ o,p.ops[aT]?=some o:=⟨_,aO (by omega)⟩;obtain⟨kq,oo,rfl,gA⟩:=I.qH ao (by omega);have aQ:=C0 (p:=p) (fr:=fr) (b:=b) (g:=g') (n:=200-(n+1)) ho;rw[show 200-(n+1)+1=200-n from by omega,tF]at aQ;have dm:=aZ.2 o (bE ho);have pY:=dm;simp only[eX,eW]at pY;have CY:o.code=9→pX o.a p.ops.length:=λh=>pX.of (by omega);have jN:o.code≠9→o.code≠0→lx o.a 32:=λh h2=>lx.of (by omega);have CZ:o.code=10→pX o.b p.ops.length:=λh=>pX.of (by omega);have nX:o.code≠1→o.code≠15→o.code≠9→o.code≠10→o.code≠0→lx o.b 32:=λ_ _ _ _ _=>lx.of (by omega);have qL:o.code≠0→o.code≠1→o.code≠2→o.code≠9→o.code≠10→o.code≠11→o.code≠12→o.code≠13→o.code≠14→o.code≠15→lx o.c 32:=λ_ _ _ _ _ _ _ _ _ _=>lx.of (by omega);clear pY;refine RN 5 E I λa E=>?_;refine SS E (bO E underlying114 rfl Ty.t114 (ve gA ho)) λa E=>?_;refine AL 0 E I λbV a w E I=>?_;refine SA 0 E I λa w E I=>?_;refine IF 14 E I (λay a E=>?_) λay a E=>?_
   ·
    refine SA 3 E I λa w E I=>?_;refine RT 1 E I ?_;rw[show eh p fr b g' aT o=(g',aT+1,false) from by rw[eh,al ay]]at aQ;refine⟨_,by rw[aQ];rfl,?_,I.sub⟩;rw[aQ];exact eI
   refine IF 3 E I (λbg a E=>?_) λbg a E=>?_
   ·
    obtain⟨cA,dL,jO⟩:=jN (by omega) (by omega);refine RN 2 E I λa E=>?_;rw[dL]at E;refine RN 2 E I λa E=>?_;refine SS E (gd E underlying3 underlying21) λa E=>?_;refine ST 1 E I (λa w E I=>?_) (hlt:=(by rw[di];omega));rw[ints_set,show (λi=>if i=cA then IntKind.i32.wrap o.b else g' i)=ca g' (cA) (hV o.b) from rfl]at I;refine RN 0 E I λa E=>?_;have fN:eh p fr b g' aT o=(ca g' (cA) (hV o.b),aT+1,true):=by
     rw[eh,ae (by omega),ae (by omega),ae (by omega),ae (by omega),dL,Int.toNat_natCast,jm,al bg]
    rw[fN]at aQ;exact⟨200-(n+1),by omega,n+1,aT+1,ca g' (cA) (hV o.b),⟨rfl,by omega,by omega,ni eI (w5 _),aQ.symm⟩,E.ab [2,3,4,5,8,10,11,12],I.sub⟩
   refine IF 3 E I (λbM a E=>?_) λbM a E=>?_
   ·
    refine RN 0 E I λa E=>?_;obtain⟨cA,dL,jO⟩:=jN (by omega) (by omega);obtain⟨bx,dY,iw⟩:=nX (by omega) (by omega) (by omega) (by omega) (by omega);refine aY 0 (λw0 w'=>Rd w' bV 0 (dO o)∧Rd w' b5 0 (ints .i32 32 g')) [3,4,5] [0,2,3001,1003,1004,1005,6,1007] E I λa w E I hH=>?_;have U:=hH.at w ⟨I.ai,I.ai⟩;refine RH 2 E I hH U λa E=>?_;refine QH E (λw hc=>ag E (hc.1 1 _ rfl)) U λa E=>?_;rw[dL]at E;refine RH 0 E I hH U λa E=>?_;refine SS E (ag E (U.1 2 _ rfl)) λa E=>?_;rw[dY]at E;refine RH 1 E I hH U λa E=>?_;refine SS E (ag E (ints_at U.2 iw)) λa E=>?_;refine RH 1 E I hH U λa E=>?_;refine ST 0 E I (λa w E I=>?_) (hlt:=(by rw[di];omega));rw[ints_set,show (λi=>if i=cA then g' bx else g' i)=ca g' (cA) (g' bx) from rfl]at I;refine RN 0 E I λa E=>?_;have fN:eh p fr b g' aT o=(ca g' (cA) (g' bx),aT+1,true):=by
     rw[eh,ae (by omega),ae (by omega),ae (by omega),ae (by omega),dL,Int.toNat_natCast,jm,ae (by omega),al bM,dY,Int.toNat_natCast]
    rw[fN]at aQ;exact⟨200-(n+1),by omega,n+1,aT+1,ca g' (cA) (g' bx),⟨rfl,by omega,by omega,ni eI (eI _ iw),aQ.symm⟩,E.ab [2,3,4,5,8,10,11,12],I.sub⟩
   refine IF 3 E I (λeP a E=>?_) λeP a E=>?_
   ·
    obtain⟨cA,dL,jO⟩:=CY eP;refine RN 2 E I λa E=>?_;rw[dL]at E;refine RN 1 E I λa E=>?_;have fN:eh p fr b g' aT o=(g',cA,true):=by
     rw[eh,ae (by omega),al eP,dL,Int.toNat_natCast]
    rw[fN]at aQ;exact⟨200-(n+1),by omega,n+1,cA,g',⟨rfl,by omega,by omega,eI,aQ.symm⟩,E.ab [2,3,4,5,8,10,11,12],I.sub⟩
   refine IF 3 E I (λmK a E=>?_) λmK a E=>?_
   ·
    refine RN 1 E I λa E=>?_;obtain⟨cA,dL,jO⟩:=jN (by omega) (by omega);refine RN 2 E I λa E=>?_;rw[dL]at E;refine RN 1 E I λa E=>?_;refine SS E (ag E ((ints_at I.ai jO))) λa E=>?_;refine IF 1 E I (λl6 a E=>?_) λl6 a E=>?_
    ·
     obtain⟨bx,dY,iw⟩:=CZ mK;refine RN 2 E I λa E=>?_;rw[dY]at E;refine RN 1 E I λa E=>?_;have fN:eh p fr b g' aT o=(g',bx,true):=by
      rw[eh,ae (by omega),ae (by omega),al mK,dL,Int.toNat_natCast,al l6,dY,Int.toNat_natCast]
     rw[fN]at aQ;exact⟨200-(n+1),by omega,n+1,bx,g',⟨rfl,by omega,by omega,eI,aQ.symm⟩,E.ab [2,3,4,5,8,10,11,12],I.sub⟩
    refine RN 0 E I λa E=>?_;have fN:eh p fr b g' aT o=(g',aT+1,true):=by
     rw[eh,ae (by omega),ae (by omega),al mK,dL,Int.toNat_natCast,ae l6]
    rw[fN]at aQ;exact⟨200-(n+1),by omega,n+1,aT+1,g',⟨rfl,by omega,by omega,eI,aQ.symm⟩,E.ab [2,3,4,5,8,10,11,12],I.sub⟩
   refine IF 3 E I (λl7 a E=>?_) λl7 a E=>?_
   ·
    refine RN 0 E I λa E=>?_;obtain⟨cA,dL,jO⟩:=jN (by omega) (by omega);obtain⟨bx,dY,iw⟩:=nX (by omega) (by omega) (by omega) (by omega) (by omega);refine aY 0 (λw0 w'=>Rd w' bV 0 (dO o)∧Rd w' b5 0 (ints .i32 32 g')) [4,5,6,7] [0,2,3,3001,1004,1005,1006,1007,8,1009] E I λa w E I hH=>?_;have U:=hH.at w ⟨I.ai,I.ai⟩;refine RH 3 E I hH U λa E=>?_;refine QH E (λw hc=>ag E (hc.1 1 _ rfl)) U λa E=>?_;rw[dL]at E;refine RH 0 E I hH U λa E=>?_;refine SS E (ag E (U.1 2 _ rfl)) λa E=>?_;rw[dY]at E;refine RH 1 E I hH U λa E=>?_;refine SS E (ag E (ints_at U.2 iw)) λa E=>?_;refine RH 0 E I hH U λa E=>?_;refine CL 0 E I (VP I (eI _ iw) hb (λw' h=>hp w' h.sub)) λa w E I=>?_;replace U:=hH.at w ⟨I.ai,I.ai⟩;refine RH 1 E I hH U λa E=>?_;refine ST 0 E I (λa w E I=>?_) (hlt:=(by rw[di];omega));rw[ints_set,show (λi=>if i=cA then l3 b (g' bx) else g' i)=ca g' (cA) (l3 b (g' bx)) from rfl]at I;refine RN 0 E I λa E=>?_;have fN:eh p fr b g' aT o=(ca g' (cA) (l3 b (g' bx)),aT+1,true):=by
     rw[eh,ae (by omega),ae (by omega),ae (by omega),ae (by omega),dL,Int.toNat_natCast,jm,ae (by omega),ae (by omega),al l7,dY,Int.toNat_natCast]
    rw[fN]at aQ;exact⟨200-(n+1),by omega,n+1,aT+1,ca g' (cA) (l3 b (g' bx)),⟨rfl,by omega,by omega,ni eI (IP _ _),aQ.symm⟩,E.ab [2,3,4,5,8,10,11,12],I.sub⟩
   refine IF 3 E I (λk0 a E=>?_) λk0 a E=>?_
   ·
    refine RN 0 E I λa E=>?_;obtain⟨cA,dL,jO⟩:=jN (by omega) (by omega);obtain⟨bx,dY,iw⟩:=nX (by omega) (by omega) (by omega) (by omega) (by omega);have xj:=w4 (g' bx);refine aY 0 (λw0 w'=>Rd w' bV 0 (dO o)∧Rd w' b5 0 (ints .i32 32 g')) [3,4,5,6,7,8] [0,2,3001,1003,1004,1005,1006,1007,1008,9,1010] E I λa w E I hH=>?_;have U:=hH.at w ⟨I.ai,I.ai⟩;refine RH 2 E I hH U λa E=>?_;refine QH E (λw hc=>ag E (hc.1 1 _ rfl)) U λa E=>?_;rw[dL]at E;refine RH 0 E I hH U λa E=>?_;refine SS E (ag E (U.1 2 _ rfl)) λa E=>?_;rw[dY]at E;refine RH 1 E I hH U λa E=>?_;refine SS E (ag E (ints_at U.2 iw)) λa E=>?_;refine RH 0 E I hH U λa E=>?_;refine CL 0 E I (I6 I (eI _ iw)) λa w E I=>?_;replace U:=hH.at w ⟨I.ai,I.ai⟩;refine RH 1 E I hH U λa E=>?_;refine SS E (ag E (ints_at U.2 xj)) λa E=>?_;refine RH 1 E I hH U λa E=>?_;refine ST 0 E I (λa w E I=>?_) (hlt:=(by rw[di];omega));rw[ints_set,show (λi=>if i=cA then g' (ke (g' bx)) else g' i)=ca g' (cA) (g' (ke (g' bx))) from rfl]at I;refine RN 0 E I λa E=>?_;have fN:eh p fr b g' aT o=(ca g' (cA) (g' (ke (g' bx))),aT+1,true):=by
     rw[eh,ae (by omega),ae (by omega),ae (by omega),ae (by omega),dL,Int.toNat_natCast,jm,ae (by omega),ae (by omega),ae (by omega),al k0,dY,Int.toNat_natCast]
    rw[fN]at aQ;exact⟨200-(n+1),by omega,n+1,aT+1,ca g' (cA) (g' (ke (g' bx))),⟨rfl,by omega,by omega,ni eI (eI _ xj),aQ.symm⟩,E.ab [2,3,4,5,8,10,11,12],I.sub⟩
   refine IF 3 E I (λvk a E=>?_) λvk a E=>?_
   ·
    refine RN 0 E I λa E=>?_;obtain⟨cA,dL,jO⟩:=jN (by omega) (by omega);obtain⟨bx,dY,iw⟩:=nX (by omega) (by omega) (by omega) (by omega) (by omega);have xj:=w4 (g' cA);refine aY 0 (λw0 w'=>Rd w' bV 0 (dO o)∧Rd w' b5 0 (ints .i32 32 g')) [4,6,7,8] [0,5,3001,2,3003,3006,3007,3008,1004,9,1010] E I λa w E I hH=>?_;have U:=hH.at w ⟨I.ai,I.ai⟩;refine RH 2 E I hH U λa E=>?_;refine QH E (λw hc=>ag E (hc.1 1 _ rfl)) U λa E=>?_;rw[dL]at E;refine RH 1 E I hH U λa E=>?_;refine QH E (λw hc=>ag E (ints_at hc.2 jO)) U λa E=>?_;refine QH E (λw hc=>ag E (hc.1 2 _ rfl)) U λa E=>?_;rw[dY]at E;refine RH 1 E I hH U λa E=>?_;refine QH E (λw hc=>ag E (ints_at hc.2 iw)) U λa E=>?_;refine RH 0 E I hH U λa E=>?_;refine CL 0 E I (I6 I (eI _ jO)) λa w E I=>?_;replace U:=hH.at w ⟨I.ai,I.ai⟩;refine RH 1 E I hH U λa E=>?_;refine ST 0 E I (λa w E I=>?_) (hlt:=(by rw[di];omega));rw[ints_set,show (λi=>if i=ke (g' cA) then g' bx else g' i)=ca g' (ke (g' cA)) (g' bx) from rfl]at I;refine RN 0 E I λa E=>?_;have fN:eh p fr b g' aT o=(ca g' (ke (g' cA)) (g' bx),aT+1,true):=by
     rw[eh,ae (by omega),ae (by omega),ae (by omega),al vk,dL,Int.toNat_natCast,dY,Int.toNat_natCast]
    rw[fN]at aQ;exact⟨200-(n+1),by omega,n+1,aT+1,ca g' (ke (g' cA)) (g' bx),⟨rfl,by omega,by omega,ni eI (eI _ iw),aQ.symm⟩,E.ab [2,3,4,5,8,10,11,12],I.sub⟩
   refine IF 3 E I (λsb a E=>?_) λsb a E=>?_
   ·
    refine RN 1 E I λa E=>?_;obtain⟨cA,dL,jO⟩:=jN (by omega) (by omega);obtain⟨bx,dY,iw⟩:=nX (by omega) (by omega) (by omega) (by omega) (by omega);have nZ:=eI _ iw;have C3:=nZ;simp only[dp]at C3;refine RN 5 E I λa E=>?_;rw[dY]at E;refine RN 1 E I λa E=>?_;refine SS E (ag E ((ints_at I.ai iw))) λa E=>?_;refine BY 2 E I (λiM a E=>?_) λiM a E=>?_
    ·
     refine RN 2 E I λa E=>?_;rw[dY]at E;refine RN 1 E I λa E=>?_;refine bz E (cW E rfl (s:=136)) (ag E ((ints_at I.ai iw))) rfl λa E=>?_;refine SX 0 E I (gr (by omega) (by omega)) λa E=>?_;refine IF 4 E I (λxg a E=>?_) λxg a E=>?_
     ·
      obtain⟨rn,mN⟩:∃ rn:Nat,g' bx=rn:=⟨(g' bx).toNat,by omega⟩;obtain⟨adR,adS,rfl,Dd⟩:=I.bY adT (by omega);obtain⟨De,Ck⟩:∃ De,(eb p.title 0)[rn]?=some De:=⟨_,aO (by omega)⟩;refine RN 3 E I λa E=>?_;rw[dY]at E;refine RN 1 E I λa E=>?_;refine SS E (ag E ((ints_at I.ai iw))) λa E=>?_;rw[mN]at E;refine RN 1 E I λa E=>?_;refine SS E (ag E ((Dd rn _ (I4 Ck)))) λa E=>?_;refine RN 1 E I λa E=>?_;have o4:mG p.title (g' bx)=De.1:=by rw[mG,al (by omega),mN,Int.toNat_natCast,Ck];rfl
      rw[← o4]at E;refine RN 2 E I λa E=>?_;rw[dL]at E;refine ST 2 E I (λa w E I=>?_) (hlt:=(by rw[di];omega));rw[ints_set,show (λi=>if i=cA then mG p.title (g' bx) else g' i)=ca g' cA (mG p.title (g' bx)) from rfl]at I;refine RN 0 E I λa E=>?_;have fN:eh p fr b g' aT o=(ca g' cA (mG p.title (g' bx)),aT+1,true):=by
       rw[eh,ae (by omega),ae (by omega),ae (by omega),ae (by omega),dL,Int.toNat_natCast,jm,ae (by omega),ae (by omega),ae (by omega),ae (by omega),al sb,dY,Int.toNat_natCast]
      rw[fN]at aQ;exact⟨200-(n+1),by omega,n+1,aT+1,ca g' cA (mG p.title (g' bx)),⟨rfl,by omega,by omega,ni eI (IM _ _),aQ.symm⟩,E.ab [2,3,4,5,8,10,11,12],I.sub⟩
     refine RN 0 E I λa E=>?_;have adU:True:=trivial;refine RN 2 E I λa E=>?_;rw[dL]at E;refine ST 2 E I (λa w E I=>?_) (hlt:=(by rw[di];omega));rw[ints_set,show (λi=>if i=cA then 0 else g' i)=ca g' cA 0 from rfl]at I;refine RN 0 E I λa E=>?_;have fN:eh p fr b g' aT o=(ca g' cA 0,aT+1,true):=by
      rw[eh,ae (by omega),ae (by omega),ae (by omega),ae (by omega),dL,Int.toNat_natCast,jm,ae (by omega),ae (by omega),ae (by omega),ae (by omega),al sb,dY,Int.toNat_natCast,mG,al (by omega),iP (by omega)];rfl
     rw[fN]at aQ;exact⟨200-(n+1),by omega,n+1,aT+1,ca g' cA 0,⟨rfl,by omega,by omega,ni eI (by simp[dp]),aQ.symm⟩,E.ab [2,3,4,5,8,10,11,12],I.sub⟩
    refine RN 12 E I λa E=>?_;rw[dL]at E;refine ST 2 E I (λa w E I=>?_) (hlt:=(by rw[di];omega));rw[ints_set,show (λi=>if i=cA then 0 else g' i)=ca g' cA 0 from rfl]at I;refine RN 0 E I λa E=>?_;have fN:eh p fr b g' aT o=(ca g' cA 0,aT+1,true):=by
     rw[eh,ae (by omega),ae (by omega),ae (by omega),ae (by omega),dL,Int.toNat_natCast,jm,ae (by omega),ae (by omega),ae (by omega),ae (by omega),al sb,dY,Int.toNat_natCast,mG,ae (by omega)]
    rw[fN]at aQ;exact⟨200-(n+1),by omega,n+1,aT+1,ca g' cA 0,⟨rfl,by omega,by omega,ni eI (by simp[dp]),aQ.symm⟩,E.ab [2,3,4,5,8,10,11,12],I.sub⟩
   refine IF 3 E I (λvl a E=>?_) λvl a E=>?_
   ·
    refine RN 0 E I λa E=>?_;obtain⟨cA,dL,jO⟩:=jN (by omega) (by omega);refine aY 0 (λw0 w'=>Rd w' bV 0 (dO o)∧Rd w' b5 0 (ints .i32 32 g')) [3] [0,2,3001,1003,4,1005] E I λa w E I hH=>?_;have U:=hH.at w ⟨I.ai,I.ai⟩;refine RH 2 E I hH U λa E=>?_;refine QH E (λw hc=>ag E (hc.1 1 _ rfl)) U λa E=>?_;rw[dL]at E;refine RH 0 E I hH U λa E=>?_;refine CL 0 E I (xr I (by omega) (by omega)) λa w E I=>?_;replace U:=hH.at w ⟨I.ai,I.ai⟩;refine RH 1 E I hH U λa E=>?_;refine ST 0 E I (λa w E I=>?_) (hlt:=(by rw[di];omega));rw[ints_set,show (λi=>if i=cA then hV fr else g' i)=ca g' (cA) (hV fr) from rfl]at I;refine RN 0 E I λa E=>?_;have fN:eh p fr b g' aT o=(ca g' (cA) (hV fr),aT+1,true):=by
     rw[eh,ae (by omega),ae (by omega),ae (by omega),ae (by omega),dL,Int.toNat_natCast,jm,ae (by omega),ae (by omega),ae (by omega),ae (by omega),ae (by omega),al vl]
    rw[fN]at aQ;exact⟨200-(n+1),by omega,n+1,aT+1,ca g' (cA) (hV fr),⟨rfl,by omega,by omega,ni eI (w5 _),aQ.symm⟩,E.ab [2,3,4,5,8,10,11,12],I.sub⟩
   refine RN 0 E I λa E=>?_;obtain⟨cA,dL,jO⟩:=jN (by omega) (by omega);obtain⟨bx,dY,iw⟩:=nX (by omega) (by omega) (by omega) (by omega) (by omega);obtain⟨tg,oZ,I7⟩:=qL (by omega) (by omega) (by omega) (by omega) (by omega) (by omega) (by omega) (by omega) (by omega) (by omega);refine aY 0 (λw0 w'=>Rd w' bV 0 (dO o)∧Rd w' b5 0 (ints .i32 32 g')) [3,5,6,7,9,10,11,12] [0,2,4,8,3001,3003,3005,3006,3007,1009,1010,1011,1012,13,1014] E I λa w E I hH=>?_;have U:=hH.at w ⟨I.ai,I.ai⟩;refine RH 4 E I hH U λa E=>?_;refine QH E (λw hc=>ag E (hc.1 1 _ rfl)) U λa E=>?_;rw[dL]at E;refine RH 0 E I hH U λa E=>?_;refine QH E (λw hc=>ag E (hc.1 0 _ rfl)) U λa E=>?_;refine QH E (λw hc=>ag E (hc.1 2 _ rfl)) U λa E=>?_;rw[dY]at E;refine RH 1 E I hH U λa E=>?_;refine QH E (λw hc=>ag E (ints_at hc.2 iw)) U λa E=>?_;refine RH 0 E I hH U λa E=>?_;refine SS E (ag E (U.1 3 _ rfl)) λa E=>?_;rw[oZ]at E;refine RH 1 E I hH U λa E=>?_;refine SS E (ag E (ints_at U.2 I7)) λa E=>?_;refine RH 0 E I hH U λa E=>?_;refine CL 0 E I (VR I (eI _ iw) (eI _ I7)) λa w E I=>?_;replace U:=hH.at w ⟨I.ai,I.ai⟩;refine RH 1 E I hH U λa E=>?_;refine ST 0 E I (λa w E I=>?_) (hlt:=(by rw[di];omega));rw[ints_set,show (λi=>if i=cA then iL o.code (g' bx) (g' tg) else g' i)=ca g' (cA) (iL o.code (g' bx) (g' tg)) from rfl]at I;refine RN 0 E I λa E=>?_;have fN:eh p fr b g' aT o=(ca g' (cA) (iL o.code (g' bx) (g' tg)),aT+1,true):=by
    rw[eh,ae (by omega),ae (by omega),ae (by omega),ae (by omega),dL,Int.toNat_natCast,jm,ae (by omega),ae (by omega),ae (by omega),ae (by omega),ae (by omega),ae (by omega),dY,Int.toNat_natCast,oZ,Int.toNat_natCast]
   rw[fN]at aQ;exact⟨200-(n+1),by omega,n+1,aT+1,ca g' (cA) (iL o.code (g' bx) (g' tg)),⟨rfl,by omega,by omega,ni eI (IN _ _ _),aQ.symm⟩,E.ab [2,3,4,5,8,10,11,12],I.sub⟩
  refine SA 3 E I λa w E I=>?_;refine RT 1 E I ?_;rw[C1 (by omega)]at tF;exact⟨_,by rw[← tF],by rw[← tF];exact eI,I.sub⟩
 refine SA 10 E I λa w E I=>?_;refine RT 1 E I ?_;rw[show 200-n=0 from by omega]at tF;exact⟨_,by rw[← tF];rfl,by rw[← tF];exact eI,I.sub⟩
theorem VS {P:List (List UInt8)}{zs:List ea}(I:V W w (aA W p ao cO::L))(aZ:dj p)(aE:p.title.size≤1000000000)(hg:dP g)(hP:P.length≤65536∧∀ b∈P,b.length≤1099511627776)(hz:zs.map (·.2.2)=P)(hf:-1099511627776≤fr∧fr≤1099511627776)(hp:∀ w',V W w' L→iH w' adP zs) :
   Calls prog 116 #[.agg (bJ p ao cO).toArray,.agg (ints .i32 32 g).toArray,.int .i64 fr,.slice adP P.length cP] w λe w'=>e=.returned (.agg (ints .i32 32 (foldI p fr g P)).toArray)∧dP (foldI p fr g P)∧V W w' (aA W p ao cO::L):=by
 have iR:zs.length=P.length:=by rw[← hz,bf]
 have so:=hP.1;refine EN func116 ntmps116 rfl rfl λa E=>?_;refine BX 1 E I λb4 a w E I=>?_;change V W w (aa b4 45 (bJ p ao cO)::_) at I;refine BX 0 E I λb5 a w E I=>?_;change V W w (aa b5 49 (ints .i32 32 g)::_) at I;refine AL 0 E I λb8 a w E I=>?_;change V W w (aa b8 49 (ints .i32 32 (λ_=>0))::_) at I;refine RN 3 E I λa E=>?_;refine aS (λμ a w=>∃ (i:Nat) (g':Nat→Int),(μ=P.length-i∧i≤P.length∧dP g'∧foldI p fr g P=foldI p (fr+i) g' (P.drop i))∧Fr a 33 [(2,.int .i64 fr),(3,.slice adP P.length cP),(4,pt b4),(5,pt b5),(8,pt b8),(9,.int .i64 i)]∧V W w (aa b5 49 (ints .i32 32 g')::aa b4 45 (bJ p ao cO)::aa b8 49 (ints .i32 32 (λ_=>0))::aA W p ao cO::L)) (P.length) (⟨0,g,⟨by simp,by simp,hg,by simp⟩,E.ab [2,3,4,5,8,9],I.sub⟩) ?_;clear E I;rintro μ a w ⟨i,g',⟨rfl,hi,eI,lv⟩,E,I⟩;refine IF 6 E I (λaj a E=>?_) λaj a E=>?_
 ·
  have kg:zs[i]?=some (zs[i]'(by omega)):=aO (by omega);obtain⟨z,tG⟩:∃ z,zs[i]'(by omega)=z:=⟨_,rfl⟩;rw[tG]at kg;have zB:P[i]?=some z.2.2:=by rw[← hz,bn,kg];rfl
  have fG:=hp _ (I.sub (M:=L));obtain⟨bp,op,gU,cK⟩:=fG.1 (by omega);have cd:∀ w',V W w' L→w'.cell? ⟨bp,op+i,none⟩=some (aI z):=λw' h=>by
   obtain⟨b',o',h1,h2⟩:=(hp w' h).1 (by omega);rw[gU]at h1;cases h1;exact h2 i _ (by rw[bn,kg];rfl)
  clear cK fG;have I8:∀ w',V W w' L→a6 w' z.1 z.2.2.length z.2.2:=λw' h=>(hp w' h).2 z (bE kg);have Df:foldI p fr g P=foldI p (fr+(i+1:Nat)) (eY p (fr+i) z.2.2 g') (P.drop (i+1)):=by
   rw[lv,j6 (by omega),foldI];have:P[i]'(by omega)=z.2.2:=by rw[aO (by omega)]at zB;exact Option.some.inj zB
   rw[this]
   congr 1
   omega
  refine RN 1 E I λa E=>?_;refine bZ (M:=λa w=>∃ j9:Nat,dP (eY p (fr+i) z.2.2 g')∧Fr a 33 [(2,.int .i64 fr),(3,.slice adP P.length cP),(4,pt b4),(5,pt b5),(8,pt b8),(9,.int .i64 i),(10,pt j9)]∧V W w (aa j9 49 (ints .i32 32 (eY p (fr+i) z.2.2 g'))::aa b5 49 (ints .i32 32 g')::aa b4 45 (bJ p ao cO)::aa b8 49 (ints .i32 32 (λ_=>0))::aA W p ao cO::L)) ?_ ?_
  ·
   refine aY 0 (λw0 w'=>Rd w' b4 0 (bJ p ao cO)∧Rd w' b5 0 (ints .i32 32 g')∧w'.cell? ⟨bp,op+i,none⟩=some (aI z)) [1,8,13] [2,3,4,5,6,7,3000,3001,3008,2009,10,11,12,1013,1014,15] E I λa w E I hH=>?_;have U:=hH.at w ⟨I.ai,I.ai,cd _ I.sub⟩;refine RH 5 E I hH U λa E=>?_;rw[gU]at E;refine RH 1 E I hH U λa E=>?_;refine QH E (λw hc=>bO E underlying45 rfl Ty.t45 (hc.1)) U λa E=>?_;refine QH E (λw hc=>bO E underlying49 rfl Ty.t49 (hc.2.1)) U λa E=>?_;refine QH E (λw hc=>ag E (hc.2.2)) U λa E=>?_;refine RH 0 E I hH U λa E=>?_;refine DN [(9,[10,11,12,1013,1014,15]),(13,[1009,10,11,12,1014,15])] (by kernel_rfl) rfl ⟨⟨_,rfl,?_⟩,⟨_,rfl,?_⟩,trivial⟩
   ·
    refine RH 0 E I hH U λa E=>?_;refine bd 0 E I (Dc (I.pick (aA W p ao cO)) aZ aE eI (hP.2 _ (bE zB)) (by omega) (λw' h=>I8 w' h.sub)) λse a w E ⟨bw,I⟩=>?_;refine RN 3 E I λa E=>?_;refine eS E rfl I Ty.t49 rfl λj9 a w E I ho=>?_;clear ho;replace U:=hH.at w ⟨I.ai,I.ai,cd _ I.sub⟩;change V W w (aa j9 49 (ints .i32 32 (λ_=>0))::_) at I;refine RH 0 E I hH U λa E=>?_;refine SA 0 E I λa w E I=>?_;refine RN 1 E I λa E=>?_;rw[← gU]at E;exact⟨_,bw,E.ab [2,3,4,5,8,9,10],I.sub⟩
   refine RH 0 E I hH U λa E=>?_;refine eS E rfl I Ty.t49 rfl λj9 a w E I ho=>?_;clear ho;replace U:=hH.at w ⟨I.ai,I.ai,cd _ I.sub⟩;change V W w (aa j9 49 (ints .i32 32 (λ_=>0))::_) at I;refine RH 0 E I hH U λa E=>?_;refine bd 0 E I (Dc (I.pick (aA W p ao cO)) aZ aE eI (hP.2 _ (bE zB)) (by omega) (λw' h=>I8 w' h.sub)) λse a w E ⟨bw,I⟩=>?_;refine SA 3 E I λa w E I=>?_;refine RN 1 E I λa E=>?_;rw[← gU]at E;exact⟨_,bw,E.ab [2,3,4,5,8,9,10],I.sub⟩
  clear E;(try clear I);rintro a w ⟨j9,bw,E,I⟩;refine SA 1 E I λa w E I=>?_;refine RN 3 E I λa E=>?_;exact⟨P.length-(i+1),by omega,i+1,_,⟨rfl,by omega,bw,Df⟩,E.ab [2,3,4,5,8,9],I.sub⟩
 refine RN 1 E I λa E=>?_;obtain rfl:i=P.length:=by omega
 rw[List.drop_length,foldI]at lv;refine SA 1 E I λa w E I=>?_;refine RT 0 E I ?_;exact⟨by rw[lv],by rw[lv];exact eI,I.sub⟩
end
end
section
section
variable {P:Program}{a:Act}{w:World}{n:Nat}{l:List (Nat×Value)}
theorem VT {x y i j t u dst ty ps af g}(E:Fr a n l)[e:Ev l x (.string i)][f:Ev l y (.string j)] :
   (execOp a.eval ⟨dst,.binOp .neq t x y u,ty,ps,af,g⟩).run P w=.ok (.value (.bool (!(i.data.toList==j.data.toList)))) w:=by
 simp[execOp,e.ev a n E,f.ev a n E,eqGuard,binOp,Op.stringOp,ByteArray.toList_eq]
end
end
section
abbrev adV:=Option Addr×Nat×List ea
end
section
section
theorem VU {u v:List (List UInt8)}:oR u v=true↔u.take (min u.length v.length)=v.take (min u.length v.length):=by simp[oR]
end
end
section
abbrev Kx:=Wk×Nat
def e0 (p:Pr)(ao:Option Addr)(cO tq jq sq:Nat)(x:Kx):SP:=aa x.2 247 (ct p ao cO tq jq sq x.1)
def gK (ks:List Kx):List Value:=ks.map λx=>pt x.2
theorem I9 {ks:List Kx}{i:Nat}{k:Wk}{wb:Nat}(h:ks[i]?=some (k,wb)):(gK ks)[i]?=some (pt wb):=by rw[gK,bn,h];rfl
theorem Ja {ks:List Kx}{i:Nat}{k k':Wk}{wb:Nat}(h:ks[i]?=some (k,wb)):gK (ks.set i (k',wb))=gK ks:=by
 have hi:=(a1.1 h).1;apply ext_getElem?;intro j;simp only[gK,bn,jA];by_cases hj:i=j
 ·subst hj;rw[al rfl,al hi,h];rfl
 ·rw[ae hj]
theorem vt {ks:List Kx}{i:Nat}{k k':Wk}{wb:Nat}(h:ks[i]?=some (k,wb)):(ks.map (·.1)).Perm (k::(ks.eraseIdx i).map (·.1))∧((ks.set i (k',wb)).map (·.1)).Perm (k'::(ks.eraseIdx i).map (·.1)):=by
 obtain⟨hi,he⟩:=a1.1 h;have h1:=(rJ ks hi).map (·.1);rw[map_cons,he]at h1;have h2:=(rJ (ks.set i (k',wb)) (by simpa using hi)).map (·.1);rw[map_cons,getElem_set_self,eraseIdx_set_eq]at h2;exact⟨h1,h2⟩
section
variable {W w:World}{L:List SP}{tq jq sq r wb i cO n base:Nat}{ao:Option Addr}{A:Sn}{T:Tr}{J:Js}{k:Wk}{p:Pr}{x:Br}{px:aC}{ks:List Kx}{t:Nat→Nat}
theorem V.Jb (I:V W w (ah (e0 p ao cO tq jq sq) ks::L))(hk:ks[i]?=some (k,wb)):V W w (aa wb 247 (ct p ao cO tq jq sq k)::ah (e0 p ao cO tq jq sq) (ks.eraseIdx i)::L):=by
 obtain⟨hi,he⟩:=a1.1 hk;have:=I.fE hi;rw[he]at this;exact this
theorem V.Dg {k':Wk}(I:V W w (aa wb 247 (ct p ao cO tq jq sq k')::ah (e0 p ao cO tq jq sq) (ks.eraseIdx i)::L))(hk:ks[i]?=some (k,wb)):V W w (ah (e0 p ao cO tq jq sq) (ks.set i (k',wb))::L) :=
 V.ko (f:=e0 p ao cO tq jq sq) (x:=(k',wb)) (a1.1 hk).1 I
theorem VV {F:Int}{g0:Nat→Int}(I:V W w (ah (e0 p ao cO tq jq sq) ks::Tree tq sq T::aw sq r A::bC jq J::aA W p ao cO::L))(hk:ks[i]?=some (k,wb))(hI:Inv p F g0 t base A T (ks.map (·.1)))
   (hF:0≤F∧F≤1099511627776) (hp:dj p) (hz:p.title.size≤1000000000) (hn:A.n+1<1099511627776) (kf:J.length≤16) :
   Calls prog 102 #[pt wb] w λe w'=>∃ (z:Bool) (A':Sn) (T':Tr) (J':Js) (k':Wk),e=.returned (.bool z)∧(kW p A T J k z A' T' J' k'∧Inv p F g0 t base A' T' ((ks.set i (k',wb)).map (·.1))∧zi A T J A' T' J') ∧
    V W w' (ah (e0 p ao cO tq jq sq) (ks.set i (k',wb))::Tree tq sq T'::aw sq r A'::bC jq J'::aA W p ao cO::L):=by
 have hA:=(aw.facts (I.store sq)).1;have hT:=Tree.wt (I.tree tq);have VW:k∈ks.map (·.1):=c8.2 ⟨_,bE hk,rfl⟩;have h1:=I.Jb hk;refine (Vx (L:=ah (e0 p ao cO tq jq sq) (ks.eraseIdx i)::L) (h1.sub (M:=aa wb 247 (ct p ao cO tq jq sq k)::Tree tq sq T::aw sq r A::bC jq J::aA W p ao cO::ah (e0 p ao cO tq jq sq) (ks.eraseIdx i)::L)) (hI.ready VW hF hp hz hn kf)).mono λe w' ⟨z,A',T',J',k',he,hb,I⟩=>?_;refine⟨z,A',T',J',k',he,⟨hb,((hI.vi (vt (k':=k') hk).1).bit hA hT hb).vi (vt (k':=k') hk).2.symm,hb.Un⟩,?_⟩;have h2:=V.Dg (i:=i) (ks:=ks) (k:=k) (k':=k') (I.sub (M:=aa wb 247 (ct p ao cO tq jq sq k')::ah (e0 p ao cO tq jq sq) (ks.eraseIdx i)::Tree tq sq T'::aw sq r A'::bC jq J'::aA W p ao cO::L)) hk;exact h2
theorem VX {F:Int}{g0:Nat→Int}(I:V W w (ah (e0 p ao cO tq jq sq) ks::aw sq r A::L))(hk:ks[i]?=some (k,wb))(hI:Inv p F g0 t base A T (ks.map (·.1))) :
   Calls prog 145 #[pt wb] w λe w'=>∃ (A':Sn) (k':Wk),e=.returned (.bool k.busy)∧(k'.busy=false∧Inv p F g0 t base A' T ((ks.set i (k',wb)).map (·.1))∧A'.room=A.room∧A'.n=A.n) ∧
    V W w' (ah (e0 p ao cO tq jq sq) (ks.set i (k',wb))::aw sq r A'::L):=by
 have hA:=(aw.facts (I.store sq)).1;have h1:=I.Jb hk;cases hb:k.busy with
 | false =>
  refine (IW h1 hb).mono λe w' ⟨he,I⟩=>⟨A,k,he,⟨hb,(hI.vi (vt (k':=k) hk).1).vi (vt (k':=k) hk).2.symm,rfl,rfl⟩,?_⟩;exact V.Dg (i:=i) (ks:=ks) (k:=k) (k':=k) I hk
 | true =>
  refine (xm (L:=ah (e0 p ao cO tq jq sq) (ks.eraseIdx i)::L) (h1.sub (M:=aa wb 247 (ct p ao cO tq jq sq k)::aw sq r A::ah (e0 p ao cO tq jq sq) (ks.eraseIdx i)::L)) hb).mono λe w' ⟨he,I⟩=>?_;refine⟨A.et k.x,{ k with busy:=false },he,⟨rfl,((hI.vi (vt (k':={ k with busy:=false }) hk).1).rest (k':={ k with busy:=false }) hA hb rfl rfl).vi (vt (k':={ k with busy:=false }) hk).2.symm,(nS A _).1,(nS A _).2.1⟩,?_⟩;exact V.Dg (i:=i) (ks:=ks) (k:=k) (k':={ k with busy:=false }) (I.sub (M:=aa wb 247 (ct p ao cO tq jq sq { k with busy:=false })::ah (e0 p ao cO tq jq sq) (ks.eraseIdx i)::aw sq r (A.et k.x)::L)) hk
theorem VY (I:V W w L):Calls prog 92 #[.agg (bJ p ao cO).toArray,pt tq,pt jq,pt sq] w λe w' =>
   ∃ wb,e=.returned (pt wb)∧V W w' (aa wb 247 (ct p ao cO tq jq sq kB)::L):=by
 refine EN func92 ntmps92 rfl rfl λa E=>?_;refine BX 1 E I λb4 a w E I=>?_;change V W w (aa b4 45 (bJ p ao cO)::_) at I;refine RN 3 E I λa E=>?_;change Fr a 15 ((9,.agg (List.toArray [.string p.title,.slice ao p.ops.length cO]))::_) at E;refine BX 4 E I λbV a w E I=>?_;change V W w (aa bV 247 (ct p ao cO tq jq sq kB)::_) at I;refine RT 1 E I ?_;exact⟨bV,rfl,I.sub⟩
theorem VZ {frm:Int}{ad2:Option Addr}{c2 id:Nat}{zs:List ea}{P:List (List UInt8)}(I:V W w (Tree tq sq T::aw sq r A::L))(hr:∀ w',V W w' L→iH w' ad2 zs)(hz:zs.map (·.2.2)=P)(hc:P.length≤c2)(dm:nf P)
   (hx:A.ar[i]?=some px) (bU:px.id=id) (hb:A.n+1<1099511627776) (hl:T.last+1<1099511627776) (hm:T.l.length<T.most) :
   Calls prog 306 #[pt tq,.int .i64 frm,.int .i64 id,.slice ad2 P.length c2] w λe w'=>∃ (z:Nat) (ok:Bool),e=.returned (.tuple #[.int .i64 z,.bool ok]) ∧
    ((ok=false∧(P=[]∨∃ y∈T.l,y.is frm P)∧V W w' (Tree tq sq T::aw sq r A::L)) ∨
     (ok=true∧z=T.last+1∧P≠[]∧(∀ y∈T.l,¬ y.is frm P)∧V W w' (Tree tq sq (T.add frm P (A.last+1))::aw sq r (A.add px.g px.p)::L))):=by
 subst bU;rcases Nat.eq_zero_or_pos P.length with h0 | h0
 ·have hP:=g6 h0;exact (Ig I (.inr h0)).mono λe w' ⟨h1,I⟩=>⟨0,false,h1,.inl ⟨rfl,.inl hP,I⟩⟩
 ·have hP:P≠[]:=List.length_pos_iff.1 h0;by_cases hex:∃ y∈T.l,y.is frm P
  ·obtain⟨y,hy,u9⟩:=hex;obtain⟨j,hj⟩:=jH.1 hy;have V0:∀ w',V W w' (aw sq r A::L)→ku w' ad2 P.length P:=λw' h=>by
    have:=(hr w' h.tail).bb;rw[hz]at this
    rwa [show zs.length=P.length from by rw[← hz,bf]]at this
   exact (TD I V0 hc dm hj u9).mono λe w' ⟨h1,I⟩=>⟨0,false,h1,.inl ⟨rfl,.inr ⟨y,hy,u9⟩,I⟩⟩
  ·have bQ:∀ y∈T.l,¬ y.is frm P:=λy hy h=>hex ⟨y,hy,h⟩;exact (TF I hr hz hc dm hx hb hl bQ hm h0).mono λe w' ⟨h1,I⟩=>⟨T.last+1,true,h1,.inr ⟨rfl,rfl,hP,bQ,I⟩⟩
end
end
section
set_option linter.constructorNameAsVariable false
set_option maxRecDepth 100000
theorem okWide_struct {P:Program}{w:World}{base:Nat}{t:TypeId}{fs:Array Field}{v:Value}(ht:P.underlying t=some (.struct fs))(h:Value.okWide P w .any base t v):∃ cs,v=.agg cs∧cs.size=P.cellsOf t:=by
 unfold Value.okWide at h;rw[ht]at h;obtain⟨cs,h1,h2,_⟩:=h;exact⟨cs,h1,h2⟩
end
section
section
variable {W w:World}{L:List SP}{sq r i:Nat}{A:Sn}{px:aC}
theorem V1 {id:Nat}(I:V W w (aw sq r A::L))(hx:A.ar[i]?=some px)(bU:px.id=id) :
   Calls prog 290 #[pt sq,.int .i64 id] w λe w'=>e=.returned (.tuple #[.agg (ints .i32 32 px.g).toArray,.bool true])∧V W w' (aw sq r A::L):=by
 subst bU;exact Tg I hx
set_option maxHeartbeats 4000000 in
end
end
section
section
variable {P:Program}{ops:Array Oper}{Q:Exit→Act→World→Prop}{a:Act}{w w' W:World}{K:Act→World→Prop}{n d:Nat}{l:List (Nat×Value)}{v:Value}{L R:List SP}
theorem gW {s x t z sz aX e ad k c ad2 m c2 news ty ps af g}{cs:List Value}(E:Fr a n l)(hw:Region.wanted ⟨some d,.call ⟨.builtin .append,#[s,x],#[t,t]⟩,ty,ps,af,g⟩ (yielded ops a.tmps)=true)(I:V W w L)
   (ht:P.underlying t=some (.slice e)) (hi:TI P e z sz aX) (hf:okB d n l=true) (hz:z.cells.size=sz) (hb:0<aX)
   [e1:Ev l s (.slice ad k c)] [pk:fL L ad k c e sz cs R] [e2:Ev l x (.slice ad2 m c2)] (hr:0<m→∃ b2 gG,ad2=some ⟨b2,gG,none⟩∧Rd w b2 gG news) (hl:news.length=m*sz) (h1:∀ v∈news,v.oneCell'=true)
   (aE:(k+m)*aX≤140737488355328)
   (h:∀ av c' a' w',Fr a' n ((d,.slice av (k+m) c')::l)→V W w' (Sl e sz av (k+m) c' (cs++news)::R)→K a' w') :
   cI P ops Q ⟨some d,.call ⟨.builtin .append,#[s,x],#[t,t]⟩,ty,ps,af,g⟩ K a w:=by
 rcases Nat.eq_zero_or_pos m with h0 | h0
 ·subst h0;have qm:=(I.sl ad).2;obtain rfl:news=[]:=g6 (by rw[hl,Nat.zero_mul]);refine BE (ad:=ad) (k:=k) (c:=c) (ad2:=ad2) (c2:=c2) E hw ht hi hf qm λa' dg=>h ad c a' w dg ?_;rw[append_nil];exact I.perm pk.perm
 ·obtain⟨b2,gG,rfl,cK⟩:=hr h0;exact cJ E hw I ht hi hz hf cK hl h1 h0 hb aE h
end
theorem V.Dh {W w:World}{L:List SP}{b e n:Nat}{cs:List Value}{l:List UInt8}(I:V W w (aa b e cs::L))(he:e=5)(hl:l.length=n)(h:cs=bc l):V W w (Sl 5 1 (some ⟨b,0,none⟩) n n (bc l)::L):=by
 subst h;subst he;have h2:V W w (aa b 5 ([]++bc l++[])::L):=by simpa using I
 exact V.iF (pre:=[]) (post:=[]) (n:=n) (c:=n) (sz:=1) (cs:=bc l) h2 (by rw[dx,hl,Nat.mul_one]) (bh _) (by simp)
theorem dR {bs:List UInt8}{i:Nat}(h:i<bs.length):(bc bs)[i]?=some (.int .u8 ((bs[i]).toNat:Int)):=by simp[bc,h]
theorem fI (a b:List UInt8):bc (a++b)=bc a++bc b:=by simp[bc]
theorem a6.get {w:World}{ad:Option Addr}{m:Nat}{bs:List UInt8}(h:a6 w ad m bs)(h0:0<m):∃ b o,ad=some ⟨b,o,none⟩∧Rd w b o (bc bs):=by
 obtain⟨_,h2,h3⟩:=h;cases hh:ad with
 | none=>have:=h2 hh;omega
 | some a =>
  obtain⟨b,o,rfl,h1⟩:=h3 a hh h0;exact⟨b,o,rfl,h1⟩
theorem a6.rd {w:World}{b o m:Nat}{bs:List UInt8}(h:a6 w (some ⟨b,o,none⟩) m bs)(h0:0<m):Rd w b o (bc bs):=by
 obtain⟨b',o',e,h1⟩:=h.get h0;cases e;exact h1
theorem a6.tH {w:World}{ad:Option Addr}{bs:List UInt8}{c:Nat}(h:a6 w ad bs.length bs){lo:Nat}(hl:lo≤bs.length)(hc:bs.length≤c):a6 w (fm ad lo c 1) (bs.drop lo).length (bs.drop lo):=by
 refine⟨rfl,λe=>?_,λx hx h0=>?_⟩
 ·rw[c7];rcases Nat.eq_zero_or_pos (bs.length-lo) with h0 | h0
  ·exact h0
  ·obtain⟨b,o,rfl,_⟩:=h.get (by omega);rw[oG (by omega)]at e;cases e
 ·rw[c7]at h0;obtain⟨b,o,rfl,hr⟩:=h.get (by omega);rw[oG (by omega)]at hx;cases hx;refine⟨b,o+lo*1,rfl,λj v hj=>?_⟩;have h1:=hr (lo+j) v (by rw[bc,bn,← getElem?_drop,← bn];exact hj)
  rwa [show o+lo*1+j=o+(lo+j) from by omega]
theorem a6.Di {w:World}{ad:Option Addr}{bs:List UInt8}{m:Nat}(h:a6 w ad m bs){hi:Nat}(hl:hi≤bs.length):a6 w ad hi (bs.take hi):=by
 obtain⟨h1,h2,h3⟩:=h;refine⟨by rw[en];omega,λe=>by have:=h2 e;omega,λx hx h0=>?_⟩;obtain⟨b,o,e,hr⟩:=h3 x hx (by omega);refine⟨b,o,e,λj v hj=>hr j v ?_⟩;rw[bc,map_take,getElem?_take]at hj;split at hj
 ·exact hj
 ·cases hj
theorem tI (x:Nat):BitVec.ofInt IntKind.u32.bits (x:Int)=BitVec.ofNat 32 x:=BitVec.ofInt_natCast 32 x
theorem zC (x:Nat):BitVec.ofInt IntKind.u64.bits (x:Int)=BitVec.ofNat 64 x:=BitVec.ofInt_natCast 64 x
theorem zD {x y:Nat}(hx:x<4294967296)(hy:y<4294967296):IntKind.u32.wrap (((BitVec.ofInt IntKind.u32.bits (x:Int) ^^^ BitVec.ofInt IntKind.u32.bits (y:Int)).toNat:Nat):Int)=((x ^^^ y:Nat):Int):=by
 rw[tI,tI];show IntKind.u32.wrap (((BitVec.ofNat 32 x ^^^ BitVec.ofNat 32 y).toNat:Nat):Int)=_;rw[BitVec.toNat_xor,BitVec.toNat_ofNat,BitVec.toNat_ofNat,Nat.mod_eq_of_lt (show x<2 ^ 32 from hx),Nat.mod_eq_of_lt (show y<2 ^ 32 from hy),wrap_u32];have:=Nat.xor_lt_two_pow (n:=32) hx hy;omega
theorem V2 {x y:Nat}(hx:x<4294967296)(hy:y<4294967296):IntKind.u32.wrap (((BitVec.ofInt IntKind.u32.bits (x:Int) &&& BitVec.ofInt IntKind.u32.bits (y:Int)).toNat:Nat):Int)=((x &&& y:Nat):Int):=by
 rw[tI,tI];show IntKind.u32.wrap (((BitVec.ofNat 32 x &&& BitVec.ofNat 32 y).toNat:Nat):Int)=_;rw[BitVec.toNat_and,BitVec.toNat_ofNat,BitVec.toNat_ofNat,Nat.mod_eq_of_lt (show x<2 ^ 32 from hx),Nat.mod_eq_of_lt (show y<2 ^ 32 from hy),wrap_u32];have:x &&& y≤x:=Nat.and_le_left;omega
theorem Jc {x:Nat}(h:x<4294967296):IntKind.u32.wrap (((BitVec.ofInt IntKind.u32.bits (if IntKind.u32.signed then -1 else IntKind.u32.max) ^^^ BitVec.ofInt IntKind.u32.bits (x:Int)).toNat:Nat):Int)=((4294967295-x:Nat):Int):=by
 have e:BitVec.ofInt IntKind.u32.bits (if IntKind.u32.signed then -1 else IntKind.u32.max)=BitVec.allOnes 32:=by
  show BitVec.ofInt 32 IntKind.u32.max=_;decide
 rw[e,tI];show IntKind.u32.wrap (((BitVec.allOnes 32 ^^^ BitVec.ofNat 32 x).toNat:Nat):Int)=_;rw[BitVec.allOnes_xor,BitVec.toNat_not,BitVec.toNat_ofNat,wrap_u32];rw[Nat.mod_eq_of_lt (show x<2 ^ 32 from h)];omega
theorem V3 {x y:Nat}(hx:x<18446744073709551616)(hy:y<18446744073709551616):IntKind.u64.wrap (((BitVec.ofInt IntKind.u64.bits (x:Int) ||| BitVec.ofInt IntKind.u64.bits (y:Int)).toNat:Nat):Int)=((x ||| y:Nat):Int):=by
 rw[zC,zC];show IntKind.u64.wrap (((BitVec.ofNat 64 x ||| BitVec.ofNat 64 y).toNat:Nat):Int)=_;rw[BitVec.toNat_or,BitVec.toNat_ofNat,BitVec.toNat_ofNat,Nat.mod_eq_of_lt (show x<2 ^ 64 from hx),Nat.mod_eq_of_lt (show y<2 ^ 64 from hy),wrap_u64];have:=Nat.or_lt_two_pow (n:=64) hx hy;omega
theorem V4 {x y:Nat}(hx:x<18446744073709551616)(hy:y<18446744073709551616):IntKind.u64.wrap (((BitVec.ofInt IntKind.u64.bits (x:Int) &&& BitVec.ofInt IntKind.u64.bits (y:Int)).toNat:Nat):Int)=((x &&& y:Nat):Int):=by
 rw[zC,zC];show IntKind.u64.wrap (((BitVec.ofNat 64 x &&& BitVec.ofNat 64 y).toNat:Nat):Int)=_;rw[BitVec.toNat_and,BitVec.toNat_ofNat,BitVec.toNat_ofNat,Nat.mod_eq_of_lt (show x<2 ^ 64 from hx),Nat.mod_eq_of_lt (show y<2 ^ 64 from hy),wrap_u64];have:x &&& y≤x:=Nat.and_le_left;omega
theorem lz (b:UInt8):b.toNat<256:=b.toNat_lt
def sr (x:Nat):Nat:=if x%2=1 then x/2 ^^^ 3988292384 else x/2
def ma:Nat→Nat→Nat
 | 0,y=>y
 | k+1,y=>sr (ma k y)
def vu (x:Nat)(b:UInt8):Nat:=ma 8 (x ^^^ b.toNat)
def n2 (bs:List UInt8):Nat:=bs.foldl vu 4294967295
def iZ (bs:List UInt8):Nat:=4294967295-n2 bs
theorem V5 {x:Nat}(h:x<4294967296):sr x<4294967296:=by
 unfold sr;split
 ·exact Nat.xor_lt_two_pow (n:=32) (by show x/2<4294967296;omega) (by decide)
 ·omega
theorem zE {x:Nat}(h:x<4294967296):∀ k,ma k x<4294967296
 | 0=>h
 | k+1=>V5 (zE h k)
theorem V6 {x:Nat}(b:UInt8)(h:x<4294967296):vu x b<4294967296:=by
 refine zE (Nat.xor_lt_two_pow (n:=32) h ?_) 8;have:=lz b;show b.toNat<4294967296;omega
theorem V7 (bs:List UInt8):∀ {x:Nat},x<4294967296→bs.foldl vu x<4294967296:=by
 induction bs with
 | nil=>exact λh=>h
 | cons b bs ih=>exact λh=>ih (V6 b h)
theorem zF (bs:List UInt8):n2 bs<4294967296:=V7 bs (by decide)
theorem Dk (bs:List UInt8):iZ bs<4294967296:=by unfold iZ;omega
theorem Jd {bs:List UInt8}{i:Nat}(h:i<bs.length):n2 (bs.take (i+1))=vu (n2 (bs.take i)) bs[i]:=by
 rw[n2,iU h,foldl_append];rfl
theorem V8 {x:Nat}(h:x<4294967296):IntKind.u32.wrap (((BitVec.ofInt IntKind.u32.bits (x:Int) &&& BitVec.ofInt IntKind.u32.bits 1).toNat:Nat):Int)=((x%2:Nat):Int):=by
 have h1:=V2 (y:=1) h (by decide);rw[Nat.and_one_is_mod]at h1;exact h1
theorem V9 {m:Nat}(h:m<2):IntKind.u32.wrap (0-(m:Int))=((if m=1 then 4294967295 else 0:Nat):Int):=by
 rcases (by omega:m=0∨m=1) with rfl | rfl <;> decide
theorem Wa (m:Nat):IntKind.u32.wrap (((BitVec.ofInt IntKind.u32.bits 3988292384 &&& BitVec.ofInt IntKind.u32.bits ((if m=1 then 4294967295 else 0:Nat):Int)).toNat:Nat):Int)=((if m=1 then 3988292384 else 0:Nat):Int):=by
 by_cases h:m=1
 ·rw[al h,al h];decide
 ·rw[ae h,ae h];decide
theorem Wb {x m:Nat}(hx:x<4294967296):IntKind.u32.wrap (((BitVec.ofInt IntKind.u32.bits ((x/2:Nat):Int) ^^^ BitVec.ofInt IntKind.u32.bits ((if x%2=1 then 3988292384 else 0:Nat):Int)).toNat:Nat):Int)=((sr x:Nat):Int):=by
 rw[zD (by omega) (by split <;> decide),sr];split
 ·rfl
 ·rw[Nat.xor_zero]
theorem We {x:Nat}(hx:x<4294967296):IntKind.u32.wrap (((BitVec.ofInt IntKind.u32.bits ((x/2:Nat):Int) ^^^ BitVec.ofInt IntKind.u32.bits 3988292384).toNat:Nat):Int)=((x/2 ^^^ 3988292384:Nat):Int):=zD (y:=3988292384) (by omega) (by decide)
def fe (x:Nat):List UInt8:=[UInt8.ofNat (x/16777216),UInt8.ofNat (x/65536),UInt8.ofNat (x/256),UInt8.ofNat x]
theorem Wf (n:Nat):IntKind.u8.wrap (n:Int)=((UInt8.ofNat n).toNat:Int):=by
 rw[wrap_u8,UInt8.toNat_ofNat'];omega
def o5 (x:Int):Nat:=(x%4294967296).toNat
theorem Je (x:Int):IntKind.u32.wrap x=((o5 x:Nat):Int):=by rw[wrap_u32,o5];omega
def gh (g:Nat→Int):List UInt8:=(List.range 32).flatMap λi=>fe (o5 (g i))
def lA (g:Nat→Int)(n:Nat):List UInt8:=(List.range n).flatMap λi=>fe (o5 (g i))
theorem Dm (g:Nat→Int)(n:Nat):lA g (n+1)=lA g n++fe (o5 (g n)):=by simp[lA,range_succ]
theorem qO (g:Nat→Int)(n:Nat):(lA g n).length=4*n:=by
 induction n with
 | zero=>rfl
 | succ n ih=>rw[Dm,aK,ih];simp[fe];omega
theorem tJ (g:Nat→Int):(gh g).length=128:=qO g 32
section
variable {W w:World}{L:List SP}{n c m:Nat}{ad:Option Addr}{bs:List UInt8}
theorem Wg (I:V W w L)(hb:bs.length≤1099511627776)(hp:∀ w',V W w' L→a6 w' ad bs.length bs) :
   Calls prog 205 #[.int .u32 0,.slice ad bs.length c] w λe w'=>e=.returned (.int .u32 (iZ bs))∧V W w' L:=by
 refine EN func205 ntmps205 rfl rfl λa E=>?_;refine RN 6 E I λa E=>?_;rw[show IntKind.u32.wrap ((BitVec.ofInt IntKind.u32.bits (if IntKind.u32.signed then -1 else IntKind.u32.max) ^^^ BitVec.ofInt IntKind.u32.bits 0).toNat:Int)=((n2 (bs.take 0):Nat):Int) from rfl]at E;refine RN 5 E I λa E=>?_;refine aS (λμ a w=>∃ (i:Nat),(μ=bs.length-i∧i≤bs.length)∧Fr a 33 [(5,.int .u32 (n2 (bs.take i))),(10,.slice ad bs.length c),(11,.int .i64 bs.length),(12,.int .i64 i)]∧V W w L) (bs.length) (⟨0,⟨rfl,by omega⟩,E.ab [5,10,11,12],I⟩) ?_;clear E I;rintro μ a w ⟨i,⟨rfl,hi⟩,E,I⟩;refine IF 3 E I (λaj a E=>?_) λaj a E=>?_
 ·
  obtain⟨bb,oo,rfl,hr⟩:=(hp _ I).get (by omega);have aJ:i<bs.length:=by omega
  have hx:=zF (bs.take i);have p1:=lz bs[i];refine RN 3 E I λa E=>?_;refine SS E (ag E (hr i _ (dR aJ))) λa E=>?_;refine SX 4 E I (by rw[wrap_u32];omega) λa E=>?_;refine RN 1 E I λa E=>?_;rw[zD hx (by omega)]at E;refine RN 3 E I λa E=>?_;have hy:n2 (bs.take i) ^^^ bs[i].toNat<4294967296:=Nat.xor_lt_two_pow (n:=32) hx (by show _<4294967296;omega);have j0:=Jd aJ;rw[vu]at j0;generalize n2 (bs.take i) ^^^ bs[i].toNat=y at E hy j0;refine aS (λμ a w=>∃ (k:Nat),(μ=8-k∧k≤8)∧Fr a 33 [(5,.int .u32 (ma k y)),(10,.slice (some ⟨bb,oo,none⟩) bs.length c),(11,.int .i64 bs.length),(12,.int .i64 i),(20,.int .i64 k)]∧V W w L) (8) (⟨0,⟨rfl,by omega⟩,E.ab [5,10,11,12,20],I⟩) ?_;clear E I;rintro μ a w ⟨k,⟨rfl,hk⟩,E,I⟩;refine IF 3 E I (λan a E=>?_) λan a E=>?_
  ·
   have zG:=zE hy k;refine RN 3 E I λa E=>?_;rw[show ((ma k y:Nat):Int).fdiv (2 ^ 1)=((ma k y/2:Nat):Int) from kC _ 2]at E;refine RN 2 E I λa E=>?_;rw[V8 zG]at E;refine RN 1 E I λa E=>?_;rw[V9 (Nat.mod_lt _ (by decide))]at E;refine RN 1 E I λa E=>?_;rw[Wa]at E;refine RN 1 E I λa E=>?_;rw[Wb (m:=0) zG]at E;refine RN 3 E I λa E=>?_;exact⟨8-(k+1),by omega,k+1,⟨rfl,by omega⟩,E.ab [5,10,11,12,20],I⟩
  obtain rfl:k=8:=by omega
  rw[← j0]at E;refine RN 2 E I λa E=>?_;exact⟨bs.length-(i+1),by omega,i+1,⟨rfl,by omega⟩,E.ab [5,10,11,12],I⟩
 obtain rfl:i=bs.length:=by omega
 rw[take_length]at E;refine RN 3 E I λa E=>?_;rw[Jc (zF bs)]at E;refine RT 1 E I ?_;exact⟨rfl,I⟩
theorem Jf (I:V W w L)(hb:bs.length≤1099511627776)(hp:∀ w',V W w' L→a6 w' ad bs.length bs) :
   Calls prog 176 #[.slice ad bs.length c] w λe w'=>e=.returned (.int .u32 (iZ bs))∧V W w' L:=by
 refine EN func176 ntmps176 rfl rfl λa E=>?_;refine CL 4 E I (Wg I hb hp) λa w E I=>?_;refine RT 1 E I ?_;exact⟨rfl,I⟩
theorem Jg (I:V W w L)(hb:bs.length≤1099511627776)(hp:∀ w',V W w' L→a6 w' ad bs.length bs) :
   Calls prog 154 #[.slice ad bs.length c] w λe w'=>e=.returned (.int .u32 (iZ bs))∧V W w' L:=by
 refine EN func154 ntmps154 rfl rfl λa E=>?_;refine RN 7 E I λa E=>?_;refine aS (λμ a w=>∃ (i:Nat),(μ=bs.length-i∧i≤bs.length)∧Fr a 33 [(0,.slice ad bs.length c),(3,.int .u32 (n2 (bs.take i))),(4,.int .i64 i)]∧V W w L) (bs.length) (⟨0,⟨rfl,by omega⟩,E.ab [0,3,4],I⟩) ?_;clear E I;rintro μ a w ⟨i,⟨rfl,hi⟩,E,I⟩;refine IF 6 E I (λaj a E=>?_) λaj a E=>?_
 ·
  obtain⟨bb,oo,rfl,hr⟩:=(hp _ I).get (by omega);have aJ:i<bs.length:=by omega
  have hx:=zF (bs.take i);have p1:=lz bs[i];refine RN 6 E I λa E=>?_;refine SS E (ag E (hr i _ (dR aJ))) λa E=>?_;refine SX 0 E I (by rw[wrap_u32];omega) λa E=>?_;refine RN 1 E I λa E=>?_;rw[zD hx (by omega)]at E;refine RN 3 E I λa E=>?_;have hy:n2 (bs.take i) ^^^ bs[i].toNat<4294967296:=Nat.xor_lt_two_pow (n:=32) hx (by show _<4294967296;omega);have j0:=Jd aJ;rw[vu]at j0;generalize n2 (bs.take i) ^^^ bs[i].toNat=y at E hy j0;refine aS (λμ a w=>∃ (k:Nat),(μ=8-k∧k≤8)∧Fr a 33 [(0,.slice (some ⟨bb,oo,none⟩) bs.length c),(3,.int .u32 (ma k y)),(4,.int .i64 i),(5,.int .i64 k)]∧V W w L) (8) (⟨0,⟨rfl,by omega⟩,E.ab [0,3,4,5],I⟩) ?_;clear E I;rintro μ a w ⟨k,⟨rfl,hk⟩,E,I⟩;refine IF 4 E I (λan a E=>?_) λan a E=>?_
  ·
   have zG:=zE hy k;have nU:ma (k+1) y=sr (ma k y):=rfl;refine SX 3 E I (by decide) λa E=>?_;rw[show ((ma k y:Nat):Int).tmod 2=((ma k y%2:Nat):Int) from nH _ 2]at E;refine IF 1 E I (λay a E=>?_) λay a E=>?_
   ·
    rw[sr,al (by omega)]at nU;refine RN 2 E I λa E=>?_;rw[show ((ma k y:Nat):Int).fdiv (2 ^ 1)=((ma k y/2:Nat):Int) from kC _ 2]at E;refine RN 1 E I λa E=>?_;rw[We zG,← nU]at E;refine RN 4 E I λa E=>?_;exact⟨8-(k+1),by omega,k+1,⟨rfl,by omega⟩,E.ab [0,3,4,5],I⟩
   rw[sr,ae (by omega)]at nU;refine RN 2 E I λa E=>?_;rw[show ((ma k y:Nat):Int).fdiv (2 ^ 1)=((ma k y/2:Nat):Int) from kC _ 2,← nU]at E;refine RN 4 E I λa E=>?_;exact⟨8-(k+1),by omega,k+1,⟨rfl,by omega⟩,E.ab [0,3,4,5],I⟩
  obtain rfl:k=8:=by omega
  rw[← j0]at E;refine RN 3 E I λa E=>?_;exact⟨bs.length-(i+1),by omega,i+1,⟨rfl,by omega⟩,E.ab [0,3,4],I⟩
 obtain rfl:i=bs.length:=by omega
 rw[take_length]at E;refine RN 3 E I λa E=>?_;rw[Jc (zF bs)]at E;refine RT 1 E I ?_;exact⟨rfl,I⟩
theorem Dn {x:Nat}:[[Value.int .u8 (IntKind.u8.wrap ((x/16777216:Nat):Int))],[Value.int .u8 (IntKind.u8.wrap ((x/65536:Nat):Int))],[Value.int .u8 (IntKind.u8.wrap ((x/256:Nat):Int))],[Value.int .u8 (IntKind.u8.wrap ((x:Nat):Int))]].flatten=bc (fe x):=by
 simp only[Wf];rfl
theorem V.Dp {b:Nat}{cs:List Value}{l:List UInt8}{e:Nat}(I:V W w (aa b e cs::L))(he:e=5)(hl:l.length=4)(h:cs=bc l):V W w (Sl 5 1 (some ⟨b,0,none⟩) 4 4 (bc l)::L):=by
 subst h;subst he;have h2:V W w (aa b 5 ([]++bc l++[])::L):=by simpa using I
 exact V.iF (pre:=[]) (post:=[]) (n:=4) (c:=4) (sz:=1) (cs:=bc l) h2 (by rw[dx,hl]) (bh _) (Nat.zero_le _)
theorem Jh {x:Nat}(I:V W w L) :
   Calls prog 337 #[.int .u32 x] w λe w'=>∃ ad,e=.returned (.slice ad 4 4)∧V W w' (Sl 5 1 ad 4 4 (bc (fe x))::L):=by
 refine EN func337 ntmps337 rfl rfl λa E=>?_;refine RN 5 E I λa E=>?_;rw[show ((x:Nat):Int).fdiv (2 ^ 24)=((x/16777216:Nat):Int) from kC _ 16777216]at E;refine SS E (gd E underlying100 underlying5) λa E=>?_;refine RN 2 E I λa E=>?_;rw[show ((x:Nat):Int).fdiv (2 ^ 16)=((x/65536:Nat):Int) from kC _ 65536]at E;refine SS E (gd E underlying100 underlying5) λa E=>?_;refine RN 2 E I λa E=>?_;rw[show ((x:Nat):Int).fdiv (2 ^ 8)=((x/256:Nat):Int) from kC _ 256]at E;refine SS E (gd E underlying100 underlying5) λa E=>?_;refine RN 1 E I λa E=>?_;refine SS E (gd E underlying100 underlying5) λa E=>?_;refine RN 0 E I λa E=>?_;refine cm E rfl I underlying22 Ty.t5 rfl rfl rfl rfl (by decide) (by decide) λbV a w E I ho=>?_;clear ho;refine RT 1 E I ?_;exact⟨_,rfl,I.Dp rfl rfl Dn⟩
theorem Dq {x:Nat}(I:V W w L) :
   Calls prog 158 #[.int .u32 x] w λe w'=>∃ ad,e=.returned (.slice ad 4 4)∧V W w' (Sl 5 1 ad 4 4 (bc (fe x))::L):=by
 refine EN func158 ntmps158 rfl rfl λa E=>?_;refine RN 5 E I λa E=>?_;rw[show ((x:Nat):Int).fdiv (2 ^ 24)=((x/16777216:Nat):Int) from kC _ 16777216]at E;refine SS E (gd E underlying100 underlying5) λa E=>?_;refine RN 2 E I λa E=>?_;rw[show ((x:Nat):Int).fdiv (2 ^ 16)=((x/65536:Nat):Int) from kC _ 65536]at E;refine SS E (gd E underlying100 underlying5) λa E=>?_;refine RN 2 E I λa E=>?_;rw[show ((x:Nat):Int).fdiv (2 ^ 8)=((x/256:Nat):Int) from kC _ 256]at E;refine SS E (gd E underlying100 underlying5) λa E=>?_;refine RN 1 E I λa E=>?_;refine SS E (gd E underlying100 underlying5) λa E=>?_;refine RN 0 E I λa E=>?_;refine cm E rfl I underlying22 Ty.t5 rfl rfl rfl rfl (by decide) (by decide) λbV a w E I ho=>?_;clear ho;refine RT 1 E I ?_;exact⟨_,rfl,I.Dp rfl rfl Dn⟩
theorem Wh {x:Int}(I:V W w L) :
   Calls prog 206 #[.int .i32 x] w λe w'=>∃ ad,e=.returned (.slice ad 4 4)∧V W w' (Sl 5 1 ad 4 4 (bc (fe (o5 x)))::L):=by
 refine EN func206 ntmps206 rfl rfl λa E=>?_;refine RN 4 E I λa E=>?_;refine SS E (gd E underlying21 underlying100) λa E=>?_;rw[Je]at E;generalize o5 x=x at E ⊢;refine RN 4 E I λa E=>?_;rw[show ((x:Nat):Int).fdiv (2 ^ 24)=((x/16777216:Nat):Int) from kC _ 16777216]at E;refine SS E (gd E underlying100 underlying5) λa E=>?_;refine RN 2 E I λa E=>?_;rw[show ((x:Nat):Int).fdiv (2 ^ 16)=((x/65536:Nat):Int) from kC _ 65536]at E;refine SS E (gd E underlying100 underlying5) λa E=>?_;refine RN 2 E I λa E=>?_;rw[show ((x:Nat):Int).fdiv (2 ^ 8)=((x/256:Nat):Int) from kC _ 256]at E;refine SS E (gd E underlying100 underlying5) λa E=>?_;refine RN 1 E I λa E=>?_;refine SS E (gd E underlying100 underlying5) λa E=>?_;refine RN 0 E I λa E=>?_;refine cm E rfl I underlying22 Ty.t5 rfl rfl rfl rfl (by decide) (by decide) λcV a w E I ho=>?_;clear ho;refine RT 1 E I ?_;exact⟨_,rfl,I.Dp rfl rfl Dn⟩
end
end
end Go.Proofs.YteoldcfapaiobaaGreat
