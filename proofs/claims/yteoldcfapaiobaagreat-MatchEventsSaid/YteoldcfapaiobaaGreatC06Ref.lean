/- The references' runes, titles, programs: the walks. -/
import Derived.Test.YteoldcfapaiobaaGreatC05Vm
import Derived.Test.YteoldcfapaiobaaGreatC04Job
import Derived.Test.YteoldcfapaiobaaGreatC01Row
import Derived.ProofKit
import Derived.Deep.Slices
import Derived.Deep.Strs
import Derived.ChangeSlices
import Derived.ChangeShapes
import Derived.DataShut
import Derived.Test.YteoldcfapaiobaaGreatC03Snap2
import Derived.Laws.StructEq
import Derived.ChangeKeysEq
import Derived.ChangeSame
namespace Go.Proofs.YteoldcfapaiobaaGreat
open Tryz
open List (all_eq_true getElem?_take getElem?_drop map_cons getElem_set_self eraseIdx_set_eq take_length append_nil ext_getElem? map_take range_succ foldl_append)
open Go.RowKit
set_option linter.unusedVariables false
set_option linter.unusedSimpArgs false
set_option maxRecDepth 10000
set_option synthInstance.maxSize 4000
set_option synthInstance.maxHeartbeats 400000
section
section
variable {W w:World}{L:List SP}{s:ByteArray}{p:Pr}{aq:Option Addr}{cO:Nat}
theorem V9 (s:ByteArray):s.extract 0 s.size=s:=by simp
theorem Wa {s:ByteArray}(h:0<s.size):(s.data.toList==(⟨#[]⟩:ByteArray).data.toList)=false:=by
 rw[lx];intro e;have h2:=congrArg List.length e;have h3:s.data.toList.length=s.size:=Array.length_toList;rw[h3]at h2;have h4:(⟨#[]⟩:ByteArray).data.toList.length=0:=rfl;omega
theorem zL {s:ByteArray}{j:Nat}(h:j<s.size):(s[j]'h).toNat=jW s j:=by rw[jW,Dp h]
theorem Wb (I:U W w L)(h0:0<s.size):Calls prog 187 #[.string s] w λe V=>e=.returned (.tuple #[.int .i32 (Utf8.decode s 0).1,.int .i64 (Utf8.decode s 0).2])∧U W V L:=by
 obtain⟨b,hb⟩:∃ b,jW s 0=b:=⟨_,rfl⟩;have nM:=Ds s 0;rw[hb]at nM;refine EN func187 ntmps187 rfl rfl λa E=>?_;refine RN 6 E I λa E=>?_;refine SS E (rL E) λa E=>?_;rw[Wa h0]at E;refine RN 0 E I λa E=>?_;replace E:=E.aN 10;refine RN 3 E I λa E=>?_;refine SS E (y2 E underlying9 (by omega)) λa E=>?_;rw[zL h0,hb]at E;refine RN 5 E I λa E=>?_;refine b7 (M:=λa w=>∃ n low r:Nat,Dr b n low r∧Fr a 92 [(0,.string s),(5,.int .i64 n),(6,.int .i32 low),(7,.int .i32 r)]∧U W w L) ?_ ?_
 ·
  refine IF 4 E I (λao a E=>?_) λao a E=>?_
  ·
   refine SX 2 E I (hW (by omega) (by omega)) λa E=>?_;refine RT 2 E I ?_;exact⟨by rw[V6 hb (by omega)];rfl,I⟩
  refine BY 4 E I (λbA a E=>?_) λbA a E=>?_
  ·
   refine IF 4 E I (λay a E=>?_) λay a E=>?_
   ·
    refine SX 1 E I (hW (by omega) (by omega)) λa E=>?_;refine RN 1 E I λa E=>?_;obtain⟨r,hr⟩:∃ r,b=192+r:=⟨b-192,by omega⟩;rw[show IntKind.i32.wrap ((b:Int)-192)=(r:Nat) from by rw[hW (by omega) (by omega)];omega]at E;refine RN 3 E I λa E=>?_;exact⟨2,128,r,.inl ⟨hr,by omega,rfl,rfl⟩,E.ab [0,5,6,7],I⟩
   refine BY 4 E I (λbA a E=>?_) λbA a E=>?_
   ·
    refine IF 4 E I (λbh a E=>?_) λbh a E=>?_
    ·
     refine SX 1 E I (hW (by omega) (by omega)) λa E=>?_;refine RN 1 E I λa E=>?_;obtain⟨r,hr⟩:∃ r,b=224+r:=⟨b-224,by omega⟩;rw[show IntKind.i32.wrap ((b:Int)-224)=(r:Nat) from by rw[hW (by omega) (by omega)];omega]at E;refine RN 3 E I λa E=>?_;exact⟨3,2048,r,.inr (.inl ⟨hr,by omega,rfl,rfl⟩),E.ab [0,5,6,7],I⟩
    refine BY 4 E I (λbA a E=>?_) λbA a E=>?_
    ·
     refine IF 4 E I (λbR a E=>?_) λbR a E=>?_
     ·
      refine SX 1 E I (hW (by omega) (by omega)) λa E=>?_;refine RN 1 E I λa E=>?_;obtain⟨r,hr⟩:∃ r,b=240+r:=⟨b-240,by omega⟩;rw[show IntKind.i32.wrap ((b:Int)-240)=(r:Nat) from by rw[hW (by omega) (by omega)];omega]at E;refine RN 3 E I λa E=>?_;exact⟨4,65536,r,.inr (.inr ⟨hr,by omega,rfl,rfl⟩),E.ab [0,5,6,7],I⟩
     refine RT 3 E I ?_;exact⟨by rw[so hb (by omega) (by omega)];rfl,I⟩
    refine RT 8 E I ?_;exact⟨by rw[so hb (by omega) (by omega)];rfl,I⟩
   refine BY 9 E I (λbA a E=>?_) λbA a E=>?_
   ·
    refine IF 4 E I (λbR a E=>?_) λbR a E=>?_
    ·
     refine SX 1 E I (hW (by omega) (by omega)) λa E=>?_;refine RN 1 E I λa E=>?_;obtain⟨r,hr⟩:∃ r,b=240+r:=⟨b-240,by omega⟩;rw[show IntKind.i32.wrap ((b:Int)-240)=(r:Nat) from by rw[hW (by omega) (by omega)];omega]at E;refine RN 3 E I λa E=>?_;exact⟨4,65536,r,.inr (.inr ⟨hr,by omega,rfl,rfl⟩),E.ab [0,5,6,7],I⟩
    refine RT 3 E I ?_;exact⟨by rw[so hb (by omega) (by omega)];rfl,I⟩
   refine RT 8 E I ?_;exact⟨by rw[so hb (by omega) (by omega)];rfl,I⟩
  refine BY 9 E I (λbA a E=>?_) λbA a E=>?_
  ·
   refine IF 4 E I (λbh a E=>?_) λbh a E=>?_
   ·
    refine SX 1 E I (hW (by omega) (by omega)) λa E=>?_;refine RN 1 E I λa E=>?_;obtain⟨r,hr⟩:∃ r,b=224+r:=⟨b-224,by omega⟩;rw[show IntKind.i32.wrap ((b:Int)-224)=(r:Nat) from by rw[hW (by omega) (by omega)];omega]at E;refine RN 3 E I λa E=>?_;exact⟨3,2048,r,.inr (.inl ⟨hr,by omega,rfl,rfl⟩),E.ab [0,5,6,7],I⟩
   refine BY 4 E I (λbA a E=>?_) λbA a E=>?_
   ·
    refine IF 4 E I (λbR a E=>?_) λbR a E=>?_
    ·
     refine SX 1 E I (hW (by omega) (by omega)) λa E=>?_;refine RN 1 E I λa E=>?_;obtain⟨r,hr⟩:∃ r,b=240+r:=⟨b-240,by omega⟩;rw[show IntKind.i32.wrap ((b:Int)-240)=(r:Nat) from by rw[hW (by omega) (by omega)];omega]at E;refine RN 3 E I λa E=>?_;exact⟨4,65536,r,.inr (.inr ⟨hr,by omega,rfl,rfl⟩),E.ab [0,5,6,7],I⟩
    refine RT 3 E I ?_;exact⟨by rw[so hb (by omega) (by omega)];rfl,I⟩
   refine RT 8 E I ?_;exact⟨by rw[so hb (by omega) (by omega)];rfl,I⟩
  refine BY 9 E I (λbA a E=>?_) λbA a E=>?_
  ·
   refine IF 4 E I (λbR a E=>?_) λbR a E=>?_
   ·
    refine SX 1 E I (hW (by omega) (by omega)) λa E=>?_;refine RN 1 E I λa E=>?_;obtain⟨r,hr⟩:∃ r,b=240+r:=⟨b-240,by omega⟩;rw[show IntKind.i32.wrap ((b:Int)-240)=(r:Nat) from by rw[hW (by omega) (by omega)];omega]at E;refine RN 3 E I λa E=>?_;exact⟨4,65536,r,.inr (.inr ⟨hr,by omega,rfl,rfl⟩),E.ab [0,5,6,7],I⟩
   refine RT 3 E I ?_;exact⟨by rw[so hb (by omega) (by omega)];rfl,I⟩
  refine RT 8 E I ?_;exact⟨by rw[so hb (by omega) (by omega)];rfl,I⟩
 clear E;(try clear I);rintro a w ⟨n,low,r,hd,E,I⟩;refine RN 2 E I λa E=>?_;have lD:2≤n∧n≤4∧r<32:=by rcases hd with h | h | h <;> omega
 refine IF 4 E I (λeE a E=>?_) λeE a E=>?_
 ·
  refine RT 3 E I ?_;exact⟨by rw[Du hb hd (.inl (by omega))];rfl,I⟩
 refine RN 3 E I λa E=>?_;refine aR (λμ a w=>∃ (j:Nat),(μ=n-j∧j+1≤n∧∀ k,1≤k→k<j+1→jW s k/64=2)∧Fr a 92 [(0,.string s),(5,.int .i64 n),(6,.int .i32 low),(7,.int .i32 (fZ s r j:Nat)),(8,.int .i64 ((j+1:Nat):Int))]∧U W w L) (n) (⟨0,⟨by simp,by omega,λk h1 h2=>by omega⟩,E.ab [0,5,6,7,8],I⟩) ?_;clear E I;rintro μ a w ⟨j,⟨rfl,hj,hO⟩,E,I⟩;refine IF 5 E I (λmS a E=>?_) λmS a E=>?_
 ·
  refine RN 3 E I λa E=>?_;have su:j+1<s.size:=by omega
  have hbj:=Ds s (j+1);refine RN 2 E I λa E=>?_;refine SS E (y2 E underlying9 (by omega)) λa E=>?_;rw[zL su]at E;refine BY 2 E I (λdp a E=>?_) λdp a E=>?_
  ·
   refine RT 9 E I ?_;exact⟨by rw[Du hb hd (.inr ⟨j+1,by omega,by omega,by omega⟩)];rfl,I⟩
  refine RN 2 E I λa E=>?_;refine bE E (cS E rfl (s:=61)) (y2 E underlying9 (by omega)) rfl λa E=>?_;rw[zL su]at E;refine IF 2 E I (λki a E=>?_) λki a E=>?_
  ·
   refine RT 3 E I ?_;exact⟨by rw[Du hb hd (.inr ⟨j+1,by omega,by omega,by omega⟩)];rfl,I⟩
  refine RN 0 E I λa E=>?_;have cg:=Dt (s:=s) lD.2.2 j;have sw:(64:Nat) ^ j≤64 ^ 2:=Nat.pow_le_pow_right (by omega) (by omega);refine RN 2 E I λa E=>?_;rw[hW (by omega) (by omega)]at E;refine RN 2 E I λa E=>?_;refine SS E (y2 E underlying9 (by omega)) λa E=>?_;rw[zL su]at E;refine SX 0 E I (hW (by omega) (by omega)) λa E=>?_;refine RN 1 E I λa E=>?_;rw[hW (by omega) (by omega)]at E;refine RN 1 E I λa E=>?_;rw[show IntKind.i32.wrap ((fZ s r j:Nat)*64+(jW s (j+1):Nat)-128:Int)=(fZ s r (j+1):Nat) from by rw[hW (by omega) (by omega),fZ];omega]at E;refine RN 4 E I λa E=>?_;refine⟨n-(j+1),by omega,j+1,⟨rfl,by omega,λk h1 h2=>?_⟩,E.ab [0,5,6,7,8],I⟩;rcases Nat.lt_or_ge k (j+1) with h3 | h3
  ·exact hO k h1 h3
  ·obtain rfl:k=j+1:=by omega
   omega
 refine RN 2 E I λa E=>?_;obtain rfl:n=j+1:=by omega
 have o0:=V7 hb hd (by omega) hO;simp only[zI,Nat.add_sub_cancel]at o0;refine BY 4 E I (λbS a E=>?_) λbS a E=>?_
 ·
  refine RT 15 E I ?_;exact⟨by rw[o0.1 (by omega)];rfl,I⟩
 refine BY 4 E I (λjv a E=>?_) λjv a E=>?_
 ·
  refine RT 11 E I ?_;exact⟨by rw[o0.1 (by omega)];rfl,I⟩
 refine BY 3 E I (λlz a E=>?_) λlz a E=>?_
 ·
  refine IF 4 E I (λmc a E=>?_) λmc a E=>?_
  ·
   refine RT 3 E I ?_;exact⟨by rw[o0.1 (by omega)];rfl,I⟩
  refine RT 5 E I ?_;exact⟨by rw[o0.2 (by omega)],I⟩
 refine RT 10 E I ?_;exact⟨by rw[o0.2 (by omega)],I⟩
def RI (l:List (Nat×Nat)):List Value:=l.map λx=>.int .i32 x.1
theorem Jf (I:U W w L)(aE:s.size≤1000000000):Calls prog 148 #[.string s] w λe V=>∃ ad c,e=.returned (.tuple #[.slice ad (eb s 0).length c,.bool ((eb s 0).all l7)]) ∧
   U W V (Sl 21 1 ad (eb s 0).length c (RI (eb s 0))::L):=by
 refine EN func148 ntmps148 rfl rfl λa E=>?_;refine RN 6 E I λa E=>?_;replace I:=I.bM 21 1 none;refine RN 2 E I λa E=>?_;refine aR (λμ a w=>∃ (pos:Nat) (dn:List (Nat×Nat)) (ad:Option Addr) (c:Nat),(μ=s.size-pos∧pos≤s.size∧dn.length≤pos∧eb s 0=dn++eb s pos)∧Fr a 34 [(0,.string (s.extract pos s.size)),(4,.slice ad dn.length c),(5,.bool (dn.all l7))]∧U W w (Sl 21 1 ad dn.length c (RI dn)::L)) (s.size) (⟨0,[],none,0,⟨by simp,by omega,by simp,rfl⟩,by rw[V9];exact E.ab [0,4,5],I⟩) ?_;clear E I;rintro μ a w ⟨pos,dn,ad,c,⟨rfl,hp,ma,c8⟩,E,I⟩;refine RN 4 E I λa E=>?_;rw[qU]at E;refine IF 1 E I (λaj a E=>?_) λaj a E=>?_
 ·
  have gz:pos<s.size:=by omega
  have mQ:=qN gz;have hdp:=tH s pos;have hdi:=IA s pos gz;have Dv:dZ s pos=pos+(Utf8.decode s pos).2:=by rw[dZ,ak gz]
  refine CL 2 E I (Wb I (by rw[qU];omega)) λa w E I=>?_;rw[V5]at E;refine RN 8 E I λa E=>?_;refine cn E rfl I underlying270 Ty.t21 rfl rfl rfl rfl (by decide) (by decide) λsx a w E I ho=>?_;clear ho;refine RN 0 E I λa E=>?_;refine cI E rfl I underlying270 Ty.t21 rfl rfl I.ai rfl (by simp[Value.oneCell']) (by decide) (by decide) (by omega) λzM zN a w E I=>?_;refine RN 1 E I λa E=>?_;have o8:U W w (Sl 21 1 zM (dn++[Utf8.decode s pos]).length zN (RI (dn++[Utf8.decode s pos]))::L):=by
   have e1:(dn++[Utf8.decode s pos]).length=dn.length+1:=by simp
   have e2:RI (dn++[Utf8.decode s pos])=RI dn++[.int .i32 (Utf8.decode s pos).1]:=by simp[RI]
   rw[e1,e2];change U W w (Sl 21 1 zM (dn.length+1) zN (RI dn++[.int .i32 (Utf8.decode s pos).1])::_) at I;exact I.sub
  replace I:=o8;clear o8;refine RN 1 E I λa E=>?_;have qc:(dn++[Utf8.decode s pos]).all l7=(dn.all l7&&zJ (Utf8.decode s pos)):=by rw[V8];simp
  simp only[zJ]at qc;refine BY 2 E I (λmT a E=>?_) λmT a E=>?_
  ·
   refine BY 3 E I (λdp a E=>?_) λdp a E=>?_
   ·
    refine RN 5 E I λa E=>?_;rw[mT,ak (by omega)]at qc;refine RN 2 E I λa E=>?_;refine SS E (Cg E underlying9 (by rw[qU];omega)) λa E=>?_;rw[Dq,← Dv]at E;refine RN 1 E I λa E=>?_;have xF:(dn++[Utf8.decode s pos]).length=dn.length+1:=by simp
    refine⟨s.size-dZ s pos,by omega,dZ s pos,dn++[Utf8.decode s pos],_,_,⟨rfl,by omega,by omega,by rw[c8,mQ,dv];rfl⟩,?_,I⟩;rw[xF,qc];exact E.ab [0,4,5]
   refine RN 5 E I λa E=>?_;rw[mT,ae (by omega),Bool.true_and,show decide ((Utf8.decode s pos).2=3)=decide (((Utf8.decode s pos).2:Int)=3) from decide_eq_decide.2 (by omega)]at qc;refine RN 2 E I λa E=>?_;refine SS E (Cg E underlying9 (by rw[qU];omega)) λa E=>?_;rw[Dq,← Dv]at E;refine RN 1 E I λa E=>?_;have xF:(dn++[Utf8.decode s pos]).length=dn.length+1:=by simp
   refine⟨s.size-dZ s pos,by omega,dZ s pos,dn++[Utf8.decode s pos],_,_,⟨rfl,by omega,by omega,by rw[c8,mQ,dv];rfl⟩,?_,I⟩;rw[xF,qc];exact E.ab [0,4,5]
  refine RN 8 E I λa E=>?_;rw[mT,Bool.false_and]at qc;refine RN 2 E I λa E=>?_;refine SS E (Cg E underlying9 (by rw[qU];omega)) λa E=>?_;rw[Dq,← Dv]at E;refine RN 1 E I λa E=>?_;have xF:(dn++[Utf8.decode s pos]).length=dn.length+1:=by simp
  refine⟨s.size-dZ s pos,by omega,dZ s pos,dn++[Utf8.decode s pos],_,_,⟨rfl,by omega,by omega,by rw[c8,mQ,dv];rfl⟩,?_,I⟩;rw[xF,qc];exact E.ab [0,4,5]
 refine RT 5 E I ?_;obtain rfl:pos=s.size:=by omega
 have og:=qO (s:=s) (pos:=s.size) (by omega);rw[og,append_nil]at c8;rw[c8];exact⟨_,_,rfl,I.sub⟩
theorem Jg {l:List (Nat×Nat)}{i:Nat}{x:Nat×Nat}(h:l[i]?=some x):(RI l)[i]?=some (.int .i32 x.1):=by rw[RI,bm,h];rfl
theorem We (I:U W w L)(aE:s.size≤1000000000):Calls prog 107 #[.string s] w λe V=>e=.returned (.bool (o2 s))∧U W V L:=by
 have n2:o2 s=(decide (1≤(eb s 0).length)&&decide ((eb s 0).length≤20)&&(eb s 0).all kg&&(eb s 0).all l7):=rfl;have iM:=Uu s s.size 0 (by omega);refine EN func107 ntmps107 rfl rfl λa E=>?_;refine aY 4 E I (Jf I aE) λad c a w E I=>?_;generalize (eb s 0)=l at E I n2 iM;refine BY 10 E I (λbA a E=>?_) λbA a E=>?_
 ·
  refine RT 12 E I ?_;exact⟨by rw[n2,bA,Bool.and_false],I.sub⟩
 refine BY 5 E I (λjv a E=>?_) λjv a E=>?_
 ·
  refine RT 7 E I ?_;exact⟨by rw[n2,bn (by omega)];simp,I.sub⟩
 refine IF 4 E I (λaj a E=>?_) λaj a E=>?_
 ·
  refine RT 2 E I ?_;exact⟨by rw[n2,bn (p:=l.length≤20) (by omega)];simp,I.sub⟩
 refine RN 3 E I λa E=>?_;refine aR (λμ a w=>∃ i:Nat,(μ=l.length-i∧i≤l.length∧∀ j x,j<i→l[j]?=some x→kg x=true)∧Fr a 41 [(3,.slice ad l.length c),(5,.int .i64 i)]∧U W w (Sl 21 1 ad l.length c (RI l)::L)) (l.length) (⟨0,⟨by simp,by simp,λj x h=>absurd h (by omega)⟩,E.ab [3,5],I⟩) ?_;clear E I;rintro μ a w ⟨i,⟨rfl,hi,cD⟩,E,I⟩;refine IF 6 E I (λao a E=>?_) λao a E=>?_
 ·
  obtain⟨b,o,rfl,de⟩:=I.bY ad (by omega);obtain⟨x,hx⟩:∃ x,l[i]?=some x:=⟨_,aI (by omega)⟩;have k0:=de i _ (Jg hx);refine RN 5 E I λa E=>?_;refine SS E (ag E (k0)) λa E=>?_;refine BY 2 E I (λiO a E=>?_) λiO a E=>?_
  ·
   refine RT 9 E I ?_;refine⟨?_,I.sub⟩;have o9:kg x=false:=by
    simp only[kg,Bool.and_eq_false_iff,decide_eq_false_iff_not];omega
   have hO:l.all kg=false:=by rw[List.all_eq_false];exact⟨x,bK hx,by rw[o9];decide⟩
   rw[n2,hO];simp
  refine RN 3 E I λa E=>?_;refine bE E (cS E rfl (s:=34)) (ag E (k0)) rfl λa E=>?_;refine IF 2 E I (λay a E=>?_) λay a E=>?_
  ·
   refine RT 2 E I ?_;refine⟨?_,I.sub⟩;have o9:kg x=false:=by
    simp only[kg,Bool.and_eq_false_iff,decide_eq_false_iff_not];omega
   have hO:l.all kg=false:=by rw[List.all_eq_false];exact⟨x,bK hx,by rw[o9];decide⟩
   rw[n2,hO];simp
  refine RN 3 E I λa E=>?_;refine⟨l.length-(i+1),by omega,i+1,⟨rfl,by omega,λj y hj hy=>?_⟩,E.ab [3,5],I.sub⟩;rcases Nat.lt_or_ge j i with h | h
  ·exact cD j y h hy
  ·obtain rfl:j=i:=by omega
   rw[hx]at hy;cases hy;simp only[kg,fB,decide_eq_true_eq];omega
 refine RT 2 E I ?_;refine⟨?_,I.sub⟩;have hO:l.all kg=true:=by
  rw[all_eq_true];intro x hx;obtain⟨j,hj⟩:=jN.1 hx;exact cD j x (by have:=(a2.1 hj).1;omega) hj
 rw[n2,hO,bA,dk (p:=1≤l.length) (by omega),dk (p:=l.length≤20) (by omega)];rfl
theorem zO {x:Int}(I:U W w L):Calls prog 108 #[.int .i64 x] w λe V=>∃ r:Bool,e=.returned (.bool r)∧(r=true↔dq x)∧U W V L:=by
 simp only[dq];refine EN func108 ntmps108 rfl rfl λa E=>?_;refine BY 6 E I (λbA a E=>?_) λbA a E=>?_
 ·
  refine RT 4 E I ?_;exact⟨_,rfl,by rw[cp];omega,I⟩
 refine RT 4 E I ?_;exact⟨_,rfl,⟨λh=>(by cases h),λh=>by omega⟩,I⟩
theorem Wf {p:Pr}(I:U W w (aA W p aq cO::L))(aE:p.title.size≤1000000000)(dW:p.ops.length≤1000000000) :
   Calls prog 68 #[.agg (bP p aq cO).toArray] w λe V=>∃ r:Bool,e=.returned (.bool r)∧(r=true↔vu p)∧U W V (aA W p aq cO::L):=by
 refine EN func68 ntmps68 rfl rfl λa E=>?_;refine BX 1 E I λb1 a w E I=>?_;change U W w (aa b1 45 (bP p aq cO)::_) at I;refine CL 5 E I (We I aE) λa w E I=>?_;refine BY 2 E I (λdp a E=>?_) λdp a E=>?_
 ·
  refine RT 14 E I ?_;exact⟨false,rfl,⟨λh=>(by cases h),λh=>by rw[h.1]at dp;cases dp⟩,I.sub⟩
 have Wg:o2 p.title=true:=by simpa using dp
 refine BY 6 E I (λlz a E=>?_) λlz a E=>?_
 ·
  refine RT 8 E I ?_;exact⟨false,rfl,⟨λh=>(by cases h),λh=>by have:=h.2.1;omega⟩,I.sub⟩
 refine IF 5 E I (λaj a E=>?_) λaj a E=>?_
 ·
  refine RT 2 E I ?_;exact⟨false,rfl,⟨λh=>(by cases h),λh=>by have:=h.2.2.1;omega⟩,I.sub⟩
 refine RN 3 E I λa E=>?_;refine aR (λμ a w=>∃ i:Nat,(μ=p.ops.length-i∧i≤p.ops.length∧∀ j o,j<i→p.ops[j]?=some o→qP o)∧Fr a 55 [(1,pt b1),(3,.int .i64 i)]∧U W w (aa b1 45 (bP p aq cO)::aA W p aq cO::L)) (p.ops.length) (⟨0,⟨by simp,by simp,λj o h=>absurd h (by omega)⟩,E.ab [1,3],I.sub⟩) ?_;clear E I;rintro μ a w ⟨i,⟨rfl,hi,cD⟩,E,I⟩;refine IF 7 E I (λao a E=>?_) λao a E=>?_
 ·
  obtain⟨o,ho⟩:∃ o,p.ops[i]?=some o:=⟨_,aI (by omega)⟩;obtain⟨kz,oo,rfl,gA⟩:=I.qQ aq (by omega);refine RN 6 E I λa E=>?_;refine SS E (bT E underlying114 rfl Ty.t114 (vv gA ho)) λa E=>?_;refine AL 0 E I λb4 a w E I=>?_;refine SA 0 E I λa w E I=>?_;refine bg 3 E I (zO I) λr1 a w E ⟨e8,I⟩=>?_;refine BY 2 E I (λdp a E=>?_) λdp a E=>?_
  ·
   have jR:¬ qP o:=λh=>by rw[e8.2 h.1]at dp;cases dp
   refine RT 20 E I ?_;exact⟨false,rfl,⟨λh=>(by cases h),λh=>absurd (h.2.2.2 o (bK ho)) jR⟩,I.sub⟩
  refine bg 2 E I (zO I) λr2 a w E ⟨eT,I⟩=>?_;refine BY 3 E I (λlz a E=>?_) λlz a E=>?_
  ·
   have jR:¬ qP o:=λh=>by rw[eT.2 h.2.1]at lz;cases lz
   refine RT 14 E I ?_;exact⟨false,rfl,⟨λh=>(by cases h),λh=>absurd (h.2.2.2 o (bK ho)) jR⟩,I.sub⟩
  refine bg 2 E I (zO I) λr3 a w E ⟨jV,I⟩=>?_;refine BY 3 E I (λtS a E=>?_) λtS a E=>?_
  ·
   have jR:¬ qP o:=λh=>by rw[jV.2 h.2.2.1]at tS;cases tS
   refine RT 8 E I ?_;exact⟨false,rfl,⟨λh=>(by cases h),λh=>absurd (h.2.2.2 o (bK ho)) jR⟩,I.sub⟩
  refine bg 2 E I (zO I) λWh a w E ⟨qd,I⟩=>?_;refine IF 2 E I (λay a E=>?_) λay a E=>?_
  ·
   have jR:¬ qP o:=λh=>by rw[qd.2 h.2.2.2]at ay;cases ay
   refine RT 2 E I ?_;exact⟨false,rfl,⟨λh=>(by cases h),λh=>absurd (h.2.2.2 o (bK ho)) jR⟩,I.sub⟩
  have Dw:qP o:=⟨e8.1 (by simpa using dp),eT.1 (by simpa using lz),jV.1 (by simpa using tS),qd.1 (by simpa using ay)⟩;refine RN 3 E I λa E=>?_;refine⟨p.ops.length-(i+1),by omega,i+1,⟨rfl,by omega,λj o' hj j6=>?_⟩,E.ab [1,3],I.sub⟩;rcases Nat.lt_or_ge j i with h | h
  ·exact cD j o' h j6
  ·obtain rfl:j=i:=by omega
   rw[ho]at j6;cases j6;exact Dw
 refine RT 2 E I ?_;refine⟨true,rfl,⟨λ_=>⟨Wg,by omega,by omega,λo ho=>?_⟩,λ_=>rfl⟩,I.sub⟩;obtain⟨j,hj⟩:=jN.1 ho;exact cD j o (by have:=(a2.1 hj).1;omega) hj
theorem Wi:∀ m:Nat,m≤15→(([[.int .i64 0],[.int .i64 2],[.int .i64 2],[.int .i64 3],[.int .i64 3],[.int .i64 3],[.int .i64 3],[.int .i64 3],[.int .i64 3],[.int .i64 1],[.int .i64 2],[.int .i64 2],[.int .i64 2],[.int .i64 2],[.int .i64 2],[.int .i64 1]].flatten:List Value))[m]?=some (.int .i64 (vG (m:Int)))
 | 0,_=>rfl
 | 1,_=>rfl
 | 2,_=>rfl
 | 3,_=>rfl
 | 4,_=>rfl
 | 5,_=>rfl
 | 6,_=>rfl
 | 7,_=>rfl
 | 8,_=>rfl
 | 9,_=>rfl
 | 10,_=>rfl
 | 11,_=>rfl
 | 12,_=>rfl
 | 13,_=>rfl
 | 14,_=>rfl
 | 15,_=>rfl
 | n+16,h=>absurd h (by omega)
theorem Wj {k:Int}(I:U W w L)(hk:0≤k∧k≤15):Calls prog 109 #[.int .i64 k] w λe V=>e=.returned (.int .i64 (vG k))∧U W V L:=by
 obtain⟨m,rfl⟩:∃ m:Nat,k=m:=⟨k.toNat,by omega⟩;have hm:m≤15:=by omega
 refine EN func109 ntmps109 rfl rfl λa E=>?_;refine RN 3 E I λa E=>?_;refine cn E rfl I underlying53 Ty.t3 rfl rfl rfl rfl (by decide) (by decide) λb4 a w E I ho=>?_;clear ho;refine RN 5 E I λa E=>?_;refine SS E (ag E ((I.bB (Wi m hm)))) λa E=>?_;refine RT 1 E I ?_;exact⟨rfl,I.sub⟩
theorem Jh {o:gy}:∀ k:Nat,k<3→([[.int .i64 o.a],[.int .i64 o.b],[.int .i64 o.c]].flatten:List Value)[k]?=some (.int .i64 (zK o k))
 | 0,_=>rfl
 | 1,_=>rfl
 | 2,_=>rfl
 | n+3,h=>absurd h (by omega)
theorem Wl {n:Nat}{o:gy}(I:U W w L):Calls prog 69 #[.agg (dL o).toArray,.int .i64 n] w λe V=>∃ r:Bool,e=.returned (.bool r)∧(r=true↔eV n o)∧U W V L:=by
 refine EN func69 ntmps69 rfl rfl λa E=>?_;refine BX 1 E I λb2 a w E I=>?_;change U W w (aa b2 114 (dL o)::_) at I;refine BY 7 E I (λbS a E=>?_) λbS a E=>?_
 ·
  refine RT 7 E I ?_;exact⟨false,rfl,⟨λh=>(by cases h),λh=>by have:=(xE.1 h).1;omega⟩,I.sub⟩
 refine IF 4 E I (λaj a E=>?_) λaj a E=>?_
 ·
  refine RT 2 E I ?_;exact⟨false,rfl,⟨λh=>(by cases h),λh=>by have:=(xE.1 h).1;omega⟩,I.sub⟩
 refine RN 7 E I λa E=>?_;refine cn E rfl I underlying53 Ty.t3 rfl rfl rfl rfl (by decide) (by decide) λtT a w E I ho=>?_;clear ho;refine RN 4 E I λa E=>?_;refine aR (λμ a w=>∃ k:Nat,(μ=3-k∧k≤3∧∀ j,j<k→qV n o j)∧Fr a 68 [(1,.int .i64 n),(2,pt b2),(5,.slice (some ⟨tT,0,none⟩) 3 3),(6,.int .i64 k)]∧U W w (aa tT 3 [[.int .i64 o.a],[.int .i64 o.b],[.int .i64 o.c]].flatten::aa b2 114 (dL o)::L)) (3) (⟨0,⟨by simp,by simp,λj h=>absurd h (by omega)⟩,E.ab [1,2,5,6],I.sub⟩) ?_;clear E I;rintro μ a w ⟨k,⟨rfl,hk,cD⟩,E,I⟩;refine IF 4 E I (λao a E=>?_) λao a E=>?_
 ·
  refine RN 3 E I λa E=>?_;refine b7 (M:=λa w=>(vG o.code≤k∨¬ (o.code=1∧k=1))∧Fr a 68 [(1,.int .i64 n),(2,pt b2),(5,.slice (some ⟨tT,0,none⟩) 3 3),(6,.int .i64 k),(7,.int .i64 (jX n o k))]∧U W w (aa tT 3 [[.int .i64 o.a],[.int .i64 o.b],[.int .i64 o.c]].flatten::aa b2 114 (dL o)::L)) ?_ ?_
  ·
   refine CL 4 E I (Wj I (by omega)) λa w E I=>?_;refine IF 2 E I (λay a E=>?_) λay a E=>?_
   ·
    refine RN 1 E I λa E=>?_;refine⟨.inl (by omega),?_,I.sub⟩;rw[show jX n o k=0 from ak (by omega)];exact E.ab [1,2,5,6,7]
   refine BY 5 E I (λbS a E=>?_) λbS a E=>?_
   ·
    refine IF 4 E I (λbh a E=>?_) λbh a E=>?_
    ·
     refine RN 3 E I λa E=>?_;refine⟨3-(k+1),by omega,k+1,⟨rfl,by omega,λj hj=>?_⟩,E.ab [1,2,5,6],I.sub⟩;rcases Nat.lt_or_ge j k with h | h
     ·exact cD j h
     ·obtain rfl:j=k:=by omega
      exact .inl ⟨by omega,by omega,by omega⟩
    refine BY 5 E I (λbS a E=>?_) λbS a E=>?_
    ·
     refine RN 12 E I λa E=>?_;refine⟨.inr (by omega),?_,I.sub⟩;rw[show jX n o k=n from by rw[jX,ae (by omega),ak (by omega)]];exact E.ab [1,2,5,6,7]
    refine BY 4 E I (λjv a E=>?_) λjv a E=>?_
    ·
     refine IF 5 E I (λbR a E=>?_) λbR a E=>?_
     ·
      refine RN 2 E I λa E=>?_;refine⟨.inr (by omega),?_,I.sub⟩;rw[show jX n o k=n from by rw[jX,ae (by omega),ak (by omega)]];exact E.ab [1,2,5,6,7]
     refine RN 0 E I λa E=>?_;refine⟨.inr (by omega),?_,I.sub⟩;rw[show jX n o k=31 from by rw[jX,ae (by omega),ae (by omega)]];exact E.ab [1,2,5,6,7]
    refine RN 6 E I λa E=>?_;refine⟨.inr (by omega),?_,I.sub⟩;rw[show jX n o k=31 from by rw[jX,ae (by omega),ae (by omega)]];exact E.ab [1,2,5,6,7]
   refine BY 10 E I (λbS a E=>?_) λbS a E=>?_
   ·
    refine RN 12 E I λa E=>?_;refine⟨.inr (by omega),?_,I.sub⟩;rw[show jX n o k=n from by rw[jX,ae (by omega),ak (by omega)]];exact E.ab [1,2,5,6,7]
   refine BY 4 E I (λjv a E=>?_) λjv a E=>?_
   ·
    refine IF 5 E I (λbR a E=>?_) λbR a E=>?_
    ·
     refine RN 2 E I λa E=>?_;refine⟨.inr (by omega),?_,I.sub⟩;rw[show jX n o k=n from by rw[jX,ae (by omega),ak (by omega)]];exact E.ab [1,2,5,6,7]
    refine RN 0 E I λa E=>?_;refine⟨.inr (by omega),?_,I.sub⟩;rw[show jX n o k=31 from by rw[jX,ae (by omega),ae (by omega)]];exact E.ab [1,2,5,6,7]
   refine RN 6 E I λa E=>?_;refine⟨.inr (by omega),?_,I.sub⟩;rw[show jX n o k=31 from by rw[jX,ae (by omega),ae (by omega)]];exact E.ab [1,2,5,6,7]
  clear E;(try clear I);rintro a w ⟨Ct,E,I⟩;refine RN 4 E I λa E=>?_;refine SS E (ag E ((I.bB (Jh k (by omega))))) λa E=>?_;refine BY 2 E I (λiO a E=>?_) λiO a E=>?_
  ·
   refine RT 10 E I ?_;refine⟨false,rfl,⟨λh=>(by cases h),λh=>?_⟩,I.sub⟩;have ch:qV n o k:=by
    obtain⟨_,h0,h1,h2⟩:=xE.1 h;rcases (by omega:k=0∨k=1∨k=2) with rfl | rfl | rfl
    ·exact h0
    ·exact h1
    ·exact h2
   simp only[qV]at ch;omega
  refine RN 3 E I λa E=>?_;refine bE E (cS E rfl (s:=60)) (ag E ((I.bB (Jh k (by omega))))) rfl λa E=>?_;refine IF 3 E I (λeE a E=>?_) λeE a E=>?_
  ·
   refine RT 2 E I ?_;refine⟨false,rfl,⟨λh=>(by cases h),λh=>?_⟩,I.sub⟩;have ch:qV n o k:=by
    obtain⟨_,h0,h1,h2⟩:=xE.1 h;rcases (by omega:k=0∨k=1∨k=2) with rfl | rfl | rfl
    ·exact h0
    ·exact h1
    ·exact h2
   simp only[qV]at ch;omega
  refine RN 3 E I λa E=>?_;refine⟨3-(k+1),by omega,k+1,⟨rfl,by omega,λj hj=>?_⟩,E.ab [1,2,5,6],I.sub⟩;rcases Nat.lt_or_ge j k with h | h
  ·exact cD j h
  ·obtain rfl:j=k:=by omega
   exact .inr ⟨by omega,by omega⟩
 refine RT 2 E I ?_;exact⟨true,rfl,⟨λ_=>xE.2 ⟨by omega,cD 0 (by omega),cD 1 (by omega),cD 2 (by omega)⟩,λ_=>rfl⟩,I.sub⟩
theorem Wm {p:Pr}(I:U W w (aA W p aq cO::L))(aE:p.title.size≤1000000000)(dW:p.ops.length≤1000000000) :
   Calls prog 48 #[.agg (bP p aq cO).toArray] w λe V=>∃ r:Int,e=.returned (.int .i64 r)∧(r = -1↔dg p)∧U W V (aA W p aq cO::L):=by
 refine EN func48 ntmps48 rfl rfl λa E=>?_;refine BX 1 E I λb1 a w E I=>?_;change U W w (aa b1 45 (bP p aq cO)::_) at I;refine bg 4 E I (Wf (I.pick (aA W p aq cO)) aE dW) λr a w E ⟨hr,I⟩=>?_;refine IF 1 E I (λaj a E=>?_) λaj a E=>?_
 ·
  have Wn:¬ vu p:=λh=>by rw[hr.2 h]at aj;cases aj
  refine RT 2 E I ?_;exact⟨-2,rfl,⟨λh=>absurd h (by decide),λh=>absurd h.1 Wn⟩,I.sub⟩
 have lB:vu p:=hr.1 (by simpa using aj);refine RN 3 E I λa E=>?_;refine aR (λμ a w=>∃ i:Nat,(μ=p.ops.length-i∧i≤p.ops.length∧∀ j o,j<i→p.ops[j]?=some o→eV p.ops.length o)∧Fr a 25 [(1,pt b1),(3,.int .i64 i)]∧U W w (aa b1 45 (bP p aq cO)::aA W p aq cO::L)) (p.ops.length) (⟨0,⟨by simp,by simp,λj o h=>absurd h (by omega)⟩,E.ab [1,3],I.sub⟩) ?_;clear E I;rintro μ a w ⟨i,⟨rfl,hi,cD⟩,E,I⟩;refine IF 7 E I (λao a E=>?_) λao a E=>?_
 ·
  refine RN 2 E I λa E=>?_;obtain⟨o,ho⟩:∃ o,p.ops[i]?=some o:=⟨_,aI (by omega)⟩;obtain⟨kz,oo,rfl,gA⟩:=I.drew.qQ aq (by omega);have fb:=vv gA ho;refine qF 0 (λV=>Rd V b1 0 (bP p (some ⟨kz,oo,none⟩) cO)∧Rd V kz (oo+i*4) (dL o)) [6,7] [0,2,5,3001,3,3004,1006,1007,1008,9] E I λa E=>?_;replace I:=I.drew;generalize w.drew=w at I fb ⊢;have hC:Rd w b1 0 (bP p (some ⟨kz,oo,none⟩) cO)∧Rd w kz (oo+i*4) (dL o):=⟨I.ai,fb⟩;have hH:=Hd.any (λV=>Rd V b1 0 (bP p (some ⟨kz,oo,none⟩) cO)∧Rd V kz (oo+i*4) (dL o));refine RH 3 E I hH hC λa E=>?_;refine QH E (λw hc=>ag E (hc.1 1 _ rfl)) hC λa E=>?_;refine RH 1 E I hH hC λa E=>?_;refine QH E (λw hc=>bT E underlying114 rfl Ty.t114 (hc.2)) hC λa E=>?_;refine RH 0 E I hH hC λa E=>?_;refine SS E (ag E (hC.1 1 _ rfl)) λa E=>?_;refine RH 1 E I hH hC λa E=>?_;refine bg 0 E I (Wl (n:=p.ops.length) (o:=o) I) λr a w E ⟨hr,I⟩=>?_;refine RN 1 E I λa E=>?_;refine IF 0 E I (λay a E=>?_) λay a E=>?_
  ·
   have bU:¬ eV p.ops.length o:=λh=>by rw[hr.2 h]at ay;cases ay
   refine RT 3 E I ?_;exact⟨i,rfl,⟨λh=>absurd h (by omega),λh=>absurd (h.2 o (bK ho)) bU⟩,I.sub⟩
  have dm:eV p.ops.length o:=hr.1 (by simpa using ay);refine RN 3 E I λa E=>?_;refine⟨p.ops.length-(i+1),by omega,i+1,⟨rfl,by omega,λj o' hj j6=>?_⟩,E.ab [1,3],I.sub⟩;rcases Nat.lt_or_ge j i with h | h
  ·exact cD j o' h j6
  ·obtain rfl:j=i:=by omega
   rw[ho]at j6;cases j6;exact dm
 refine RT 2 E I ?_;refine⟨-1,rfl,⟨λ_=>⟨lB,λo ho=>?_⟩,λ_=>rfl⟩,I.sub⟩;obtain⟨j,hj⟩:=jN.1 ho;exact cD j o (by have:=(a2.1 hj).1;omega) hj
end
end
section
theorem zP {x y:Int}(h1:-2147483648≤y)(h2:y≤2147483647)(h3:x%4294967296=y%4294967296):hV x=y:=by
 simp only[hV,IntKind.wrap,IntKind.signed,IntKind.bits];simp;split <;> omega
section
variable {W w:World}{L:List SP}{p:Pr}{aq adP:Option Addr}{cO cP:Nat}{b:List UInt8}{g:Nat→Int}{fr:Int}
theorem xG {x:Int}(I:U W w L)(h1:-9223372036854775808≤x)(h2:x≤9223372036854775807):Calls prog 151 #[.int .i64 x] w λe V=>e=.returned (.int .i32 (hV x))∧U W V L:=by
 have lE:=Int.tmod_lt_of_pos x (b:=4294967296) (by decide);have hY:=Int.lt_tmod_of_pos x (b:=4294967296) (by decide);have xH:(x.tmod 4294967296)%4294967296=x%4294967296:=by
  rw[Int.tmod_eq_emod];split <;> omega
 refine EN func151 ntmps151 rfl rfl λa E=>?_;refine IF 10 E I (λaj a E=>?_) λaj a E=>?_
 ·
  refine IF 7 E I (λao a E=>?_) λao a E=>?_
  ·
   refine SX 5 E I (hW (by omega) (by omega)) λa E=>?_;refine RT 1 E I ?_;exact⟨by rw[zP (y:=x.tmod 4294967296+4294967296-4294967296) (by omega) (by omega) (by omega)],I⟩
  refine SX 2 E I (hW (by omega) (by omega)) λa E=>?_;refine RT 1 E I ?_;exact⟨by rw[zP (y:=x.tmod 4294967296+4294967296) (by omega) (by omega) (by omega)],I⟩
 refine IF 4 E I (λao a E=>?_) λao a E=>?_
 ·
  refine SX 5 E I (hW (by omega) (by omega)) λa E=>?_;refine RT 1 E I ?_;exact⟨by rw[zP (y:=x.tmod 4294967296-4294967296) (by omega) (by omega) (by omega)],I⟩
 refine SX 2 E I (hW (by omega) (by omega)) λa E=>?_;refine RT 1 E I ?_;exact⟨by rw[zP (y:=x.tmod 4294967296) (by omega) (by omega) (by omega)],I⟩
theorem Ji {x:Int}(I:U W w L)(hx:dq x):Calls prog 150 #[.int .i32 x,.int .i64 32] w λe V=>e=.returned (.int .i64 (kh x))∧U W V L:=by
 have h1:=Int.tmod_lt_of_pos x (b:=32) (by decide);have h2:=Int.lt_tmod_of_pos x (b:=32) (by decide);have hm:(kh x:Int)=x%32:=by
  have h1:=Int.emod_nonneg x (show (32:Int)≠0 by decide);show (((x%32).toNat:Nat):Int)=_;omega
 have ht:x.tmod 32=if 0≤x then x%32 else -((-x)%32):=by
  split
  ·exact Int.tmod_eq_emod_of_nonneg (by omega)
  ·rw[← Int.neg_neg (x.tmod 32),← Int.neg_tmod,Int.tmod_eq_emod_of_nonneg (by omega)]
 simp only[dq]at hx;refine EN func150 ntmps150 rfl rfl λa E=>?_;refine RN 6 E I λa E=>?_;replace E:=E.aN 7;refine SX 3 E I (gr (by omega) (by omega)) λa E=>?_;refine IF 7 E I (λao a E=>?_) λao a E=>?_
 ·
  refine RN 4 E I λa E=>?_;rw[show x.tmod 32+32=(kh x:Int) from by rw[hm,ht];split <;> omega]at E;refine RT 3 E I ?_;exact⟨rfl,I⟩
 refine RT 3 E I ?_;exact⟨by rw[hm,show x.tmod 32=x%32 from by rw[ht] at *;split at*<;> omega],I⟩
theorem Wo {x:Int}(I:U W w L)(hx:dq x)(hb:b.length≤1099511627776)(hp:∀ V,U W V L→a6 V adP b.length b) :
   Calls prog 149 #[.slice adP b.length cP,.int .i32 x] w λe V=>e=.returned (.int .i32 (l8 b x))∧U W V L:=by
 simp only[dq]at hx;refine EN func149 ntmps149 rfl rfl λa E=>?_;refine BY 7 E I (λbA a E=>?_) λbA a E=>?_
 ·
  refine RT 9 E I ?_;exact⟨by rw[l8,ae (by omega)],I⟩
 refine SX 1 E I (by rw[gr (by omega) (by omega)]) λa E=>?_;refine IF 4 E I (λaj a E=>?_) λaj a E=>?_
 ·
  refine RT 2 E I ?_;exact⟨by rw[l8,ae (by omega)],I⟩
 refine RN 1 E I λa E=>?_;obtain⟨k,hk⟩:∃ k:Nat,x=(k:Int):=⟨x.toNat,by omega⟩;obtain⟨_,_,a1⟩:=hp _ I;have xy:k<b.length:=by omega
 obtain⟨bp,op,gT,de⟩:∃ bp op,adP=some ⟨bp,op,none⟩∧Rd w bp op (bc b):=by
  cases hh:adP with
  | none =>
   have:=(hp _ I).2.1 hh;omega
  | some a =>
   obtain⟨b1,o1,rfl,h1⟩:=a1 a hh (by omega);exact⟨b1,o1,rfl,h1⟩
 rw[hk]at E;refine RN 1 E I λa E=>?_;rw[gT]at E;refine RN 2 E I λa E=>?_;refine SS E (ag E (de k (.int .u8 b[k].toNat) (by simp[bc,xy]))) λa E=>?_;refine SX 0 E I (by have:=b[k].toNat_lt;exact hW (by omega) (by omega)) λa E=>?_;refine RT 1 E I ?_;refine⟨?_,I⟩;rw[l8,ak (by omega),hk,Int.toNat_natCast,bl,aI xy];rfl
theorem Wp {x y:Int}(I:U W w L)(hx:dq x)(hy:dq y):Calls prog 188 #[.int .i32 x,.int .i32 y] w λe V=>e=.returned (.int .i32 (if y=0 then 0 else hV (x.tdiv y)))∧U W V L:=by
 simp only[dq]at hx hy;have hq:y≠0 → -9223372036854775808≤x.tdiv y∧x.tdiv y≤9223372036854775807:=λh=>by
  have h1:(x.tdiv y).natAbs≤x.natAbs:=by rw[Int.natAbs_tdiv];exact Nat.div_le_self _ _
  omega
 refine EN func188 ntmps188 rfl rfl λa E=>?_;refine IF 6 E I (λaj a E=>?_) λaj a E=>?_
 ·
  refine RT 2 E I ?_;exact⟨by rw[ak aj],I⟩
 refine SX 2 E I (gr (by omega) (by omega)) λa E=>?_;refine SX 1 E I (gr (by omega) (by omega)) λa E=>?_;refine RN 0 E I λa E=>?_;refine SS E (Hw E (by omega)) λa E=>?_;rw[gr (hq aj).1 (hq aj).2]at E;refine CL 0 E I (xG I (hq aj).1 (hq aj).2) λa w E I=>?_;refine RT 1 E I ?_;exact⟨by rw[ae aj],I⟩
theorem Wq {k x y:Int}(I:U W w L)(hx:dq x)(hy:dq y):Calls prog 152 #[.int .i64 k,.int .i32 x,.int .i32 y] w λe V=>e=.returned (.int .i32 (iN k x y))∧U W V L:=by
 have c3:=hx;have l5:=hy;simp only[dq]at c3 l5;have hmul:-9223372036854775808≤x*y∧x*y≤9223372036854775807:=by
  have h1:(x*y).natAbs≤2147483648*2147483648:=by rw[Int.natAbs_mul];exact Nat.mul_le_mul (by omega) (by omega)
  omega
 refine EN func152 ntmps152 rfl rfl λa E=>?_;refine IF 10 E I (λaj a E=>?_) λaj a E=>?_
 ·
  refine SX 2 E I (gr (by omega) (by omega)) λa E=>?_;refine SX 1 E I (gr (by omega) (by omega)) λa E=>?_;refine CL 1 E I (xG I (by omega) (by omega)) λa w E I=>?_;refine RT 1 E I ?_;exact⟨by simp[iN,aj],I⟩
 refine IF 3 E I (λao a E=>?_) λao a E=>?_
 ·
  refine SX 2 E I (gr (by omega) (by omega)) λa E=>?_;refine SX 1 E I (gr (by omega) (by omega)) λa E=>?_;refine CL 1 E I (xG I (by omega) (by omega)) λa w E I=>?_;refine RT 1 E I ?_;exact⟨by simp[iN,ao],I⟩
 refine IF 3 E I (λay a E=>?_) λay a E=>?_
 ·
  refine SX 2 E I (gr (by omega) (by omega)) λa E=>?_;refine SX 1 E I (gr (by omega) (by omega)) λa E=>?_;refine SX 0 E I ⟨(by first | exact hmul.1 | exact hmul.2),(by first | exact hmul.1 | exact hmul.2)⟩ λa E=>?_;refine CL 0 E I (xG I hmul.1 hmul.2) λa w E I=>?_;refine RT 1 E I ?_;exact⟨by simp[iN,ay],I⟩
 refine IF 3 E I (λbh a E=>?_) λbh a E=>?_
 ·
  refine CL 3 E I (Wp I hx hy) λa w E I=>?_;refine RT 1 E I ?_;exact⟨by simp[iN,bh],I⟩
 refine IF 3 E I (λbR a E=>?_) λbR a E=>?_
 ·
  refine IF 7 E I (λeE a E=>?_) λeE a E=>?_
  ·
   refine RT 2 E I ?_;exact⟨by simp[iN,bR,eE],I⟩
  refine RT 2 E I ?_;exact⟨by simp[iN,bR];omega,I⟩
 refine IF 7 E I (λeE a E=>?_) λeE a E=>?_
 ·
  refine RT 2 E I ?_;exact⟨by simp[iN,aj,ao,ay,bh,bR,eE],I⟩
 refine RT 2 E I ?_;exact⟨by simp[iN,aj,ao,ay,bh,bR];omega,I⟩
theorem ints_at {w:World}{mg j:Nat}{g:Nat→Int}(h:Rd w mg 0 (ints .i32 32 g))(hj:j<32):w.cell? ⟨mg,j,none⟩=some (.int .i32 (g j)):=by
 have:=h j _ (fO g hj)
 rwa [Nat.zero_add]at this
theorem Dx (I:U W w (aA W p aq cO::L))(a1:dg p)(aE:p.title.size≤1000000000)(hg:dM g)(hb:b.length≤1099511627776)(hf:-4611686018427387904≤fr∧fr≤4611686018427387904)(hp:∀ V,U W V L→a6 V adP b.length b) :
   Calls prog 104 #[.agg (bP p aq cO).toArray,.agg (ints .i32 32 g).toArray,.int .i64 fr,.slice adP b.length cP] w λe V=>∃ n:Int,e=.returned (.tuple #[.agg (ints .i32 32 (eW p fr b g)).toArray,.int .i64 n])∧dM (eW p fr b g)∧U W V (aA W p aq cO::L):=by
 have dW:p.ops.length≤64:=a1.1.2.2.1;refine EN func104 ntmps104 rfl rfl λa E=>?_;refine BX 1 E I λb4 a w E I=>?_;change U W w (aa b4 45 (bP p aq cO)::_) at I;refine BX 0 E I λb5 a w E I=>?_;change U W w (aa b5 49 (ints .i32 32 g)::_) at I;refine AL 0 E I λb8 a w E I=>?_;change U W w (aa b8 49 (ints .i32 32 (λ_=>0))::_) at I;refine bg 4 E I (Wm (I.pick (aA W p aq cO)) aE (by omega)) λr a w E ⟨hr,I⟩=>?_;obtain rfl:r = -1:=hr.2 a1;refine RN 1 E I λa E=>?_;rw[show decide ((-1:Int) ≠ -1)=false from rfl]at E;replace E:=E.aN 18;refine aY 7 E I (Jf I aE) λadT cT a w E I=>?_;refine RN 6 E I λa E=>?_;refine aR (λμ a w=>∃ (n aT:Nat) (g':Nat→Int),(μ=200-n∧n≤200∧aT≤p.ops.length∧dM g'∧p5 p fr b (200-n) g' aT=eW p fr b g)∧Fr a 166 [(2,.int .i64 fr),(3,.slice adP b.length cP),(4,pt b4),(5,pt b5),(8,pt b8),(10,.int .i64 aT),(11,.int .i64 n),(12,.slice adT (eb p.title 0).length cT)]∧U W w (aa b5 49 (ints .i32 32 g')::aa b4 45 (bP p aq cO)::aa b8 49 (ints .i32 32 (λ_=>0))::Sl 21 1 adT (eb p.title 0).length cT (RI (eb p.title 0))::aA W p aq cO::L)) (200) (⟨0,0,g,⟨by simp,by simp,by simp,hg,rfl⟩,E.ab [2,3,4,5,8,10,11,12],I.sub⟩) ?_;clear E I;rintro μ a w ⟨n,aT,g',⟨rfl,hn,eX,eF,tU⟩,E,I⟩;refine BY 5 E I (λbA a E=>?_) λbA a E=>?_
 ·
  refine IF 6 E I (λao a E=>?_) λao a E=>?_
  ·
   obtain⟨o,ho⟩:∃ o,p.ops[aT]?=some o:=⟨_,aI (by omega)⟩;obtain⟨kz,oo,rfl,gA⟩:=I.qQ aq (by omega);have aQ:=Di (p:=p) (fr:=fr) (b:=b) (g:=g') (n:=200-(n+1)) ho;rw[show 200-(n+1)+1=200-n from by omega,tU]at aQ;have dm:=a1.2 o (bK ho);have qa:=dm;simp only[eV,eU]at qa;have Dg:o.code=9→p9 o.a p.ops.length:=λh=>p9.of (by omega);have jT:o.code≠9→o.code≠0→lC o.a 32:=λh h2=>lC.of (by omega);have Dh:o.code=10→p9 o.b p.ops.length:=λh=>p9.of (by omega);have oa:o.code≠1→o.code≠15→o.code≠9→o.code≠10→o.code≠0→lC o.b 32:=λ_ _ _ _ _=>lC.of (by omega);have qT:o.code≠0→o.code≠1→o.code≠2→o.code≠9→o.code≠10→o.code≠11→o.code≠12→o.code≠13→o.code≠14→o.code≠15→lC o.c 32:=λ_ _ _ _ _ _ _ _ _ _=>lC.of (by omega);clear qa;refine RN 5 E I λa E=>?_;refine SS E (bT E underlying114 rfl Ty.t114 (vv gA ho)) λa E=>?_;refine AL 0 E I λeI a w E I=>?_;refine SA 0 E I λa w E I=>?_;refine IF 14 E I (λay a E=>?_) λay a E=>?_
   ·
    refine SA 3 E I λa w E I=>?_;refine RT 1 E I ?_;rw[show ej p fr b g' aT o=(g',aT+1,false) from by rw[ej,ak ay]]at aQ;refine⟨_,by rw[aQ];rfl,?_,I.sub⟩;rw[aQ];exact eF
   refine IF 3 E I (λbh a E=>?_) λbh a E=>?_
   ·
    obtain⟨cz,dH,jU⟩:=jT (by omega) (by omega);refine RN 2 E I λa E=>?_;rw[dH]at E;refine RN 2 E I λa E=>?_;refine SS E (gg E underlying3 underlying21) λa E=>?_;refine ST 1 E I (λa w E I=>?_) (hlt:=(by rw[df];omega));rw[ints_set,show (λi=>if i=cz then IntKind.i32.wrap o.b else g' i)=cd g' (cz) (hV o.b) from rfl]at I;refine RN 0 E I λa E=>?_;have fN:ej p fr b g' aT o=(cd g' (cz) (hV o.b),aT+1,true):=by
     rw[ej,ae (by omega),ae (by omega),ae (by omega),ae (by omega),dH,Int.toNat_natCast,jt,ak bh]
    rw[fN]at aQ;exact⟨200-(n+1),by omega,n+1,aT+1,cd g' (cz) (hV o.b),⟨rfl,by omega,by omega,nv eF (xl _),aQ.symm⟩,E.ab [2,3,4,5,8,10,11,12],I.sub⟩
   refine IF 3 E I (λbR a E=>?_) λbR a E=>?_
   ·
    refine RN 0 E I λa E=>?_;obtain⟨cz,dH,jU⟩:=jT (by omega) (by omega);obtain⟨bC,dX,iy⟩:=oa (by omega) (by omega) (by omega) (by omega) (by omega);refine aZ 0 (λw0 V=>Rd V eI 0 (dL o)∧Rd V b5 0 (ints .i32 32 g')) [3,4,5] [0,2,3001,1003,1004,1005,6,1007] E I λa w E I hH=>?_;have hC:=hH.at w ⟨I.ai,I.ai⟩;refine RH 2 E I hH hC λa E=>?_;refine QH E (λw hc=>ag E (hc.1 1 _ rfl)) hC λa E=>?_;rw[dH]at E;refine RH 0 E I hH hC λa E=>?_;refine SS E (ag E (hC.1 2 _ rfl)) λa E=>?_;rw[dX]at E;refine RH 1 E I hH hC λa E=>?_;refine SS E (ag E (ints_at hC.2 iy)) λa E=>?_;refine RH 1 E I hH hC λa E=>?_;refine ST 0 E I (λa w E I=>?_) (hlt:=(by rw[df];omega));rw[ints_set,show (λi=>if i=cz then g' bC else g' i)=cd g' (cz) (g' bC) from rfl]at I;refine RN 0 E I λa E=>?_;have fN:ej p fr b g' aT o=(cd g' (cz) (g' bC),aT+1,true):=by
     rw[ej,ae (by omega),ae (by omega),ae (by omega),ae (by omega),dH,Int.toNat_natCast,jt,ae (by omega),ak bR,dX,Int.toNat_natCast]
    rw[fN]at aQ;exact⟨200-(n+1),by omega,n+1,aT+1,cd g' (cz) (g' bC),⟨rfl,by omega,by omega,nv eF (eF _ iy),aQ.symm⟩,E.ab [2,3,4,5,8,10,11,12],I.sub⟩
   refine IF 3 E I (λeE a E=>?_) λeE a E=>?_
   ·
    obtain⟨cz,dH,jU⟩:=Dg eE;refine RN 2 E I λa E=>?_;rw[dH]at E;refine RN 1 E I λa E=>?_;have fN:ej p fr b g' aT o=(g',cz,true):=by
     rw[ej,ae (by omega),ak eE,dH,Int.toNat_natCast]
    rw[fN]at aQ;exact⟨200-(n+1),by omega,n+1,cz,g',⟨rfl,by omega,by omega,eF,aQ.symm⟩,E.ab [2,3,4,5,8,10,11,12],I.sub⟩
   refine IF 3 E I (λmS a E=>?_) λmS a E=>?_
   ·
    refine RN 1 E I λa E=>?_;obtain⟨cz,dH,jU⟩:=jT (by omega) (by omega);refine RN 2 E I λa E=>?_;rw[dH]at E;refine RN 1 E I λa E=>?_;refine SS E (ag E ((ints_at I.ai jU))) λa E=>?_;refine IF 1 E I (λki a E=>?_) λki a E=>?_
    ·
     obtain⟨bC,dX,iy⟩:=Dh mS;refine RN 2 E I λa E=>?_;rw[dX]at E;refine RN 1 E I λa E=>?_;have fN:ej p fr b g' aT o=(g',bC,true):=by
      rw[ej,ae (by omega),ae (by omega),ak mS,dH,Int.toNat_natCast,ak ki,dX,Int.toNat_natCast]
     rw[fN]at aQ;exact⟨200-(n+1),by omega,n+1,bC,g',⟨rfl,by omega,by omega,eF,aQ.symm⟩,E.ab [2,3,4,5,8,10,11,12],I.sub⟩
    refine RN 0 E I λa E=>?_;have fN:ej p fr b g' aT o=(g',aT+1,true):=by
     rw[ej,ae (by omega),ae (by omega),ak mS,dH,Int.toNat_natCast,ae ki]
    rw[fN]at aQ;exact⟨200-(n+1),by omega,n+1,aT+1,g',⟨rfl,by omega,by omega,eF,aQ.symm⟩,E.ab [2,3,4,5,8,10,11,12],I.sub⟩
   refine IF 3 E I (λmc a E=>?_) λmc a E=>?_
   ·
    refine RN 0 E I λa E=>?_;obtain⟨cz,dH,jU⟩:=jT (by omega) (by omega);obtain⟨bC,dX,iy⟩:=oa (by omega) (by omega) (by omega) (by omega) (by omega);refine aZ 0 (λw0 V=>Rd V eI 0 (dL o)∧Rd V b5 0 (ints .i32 32 g')) [4,5,6,7] [0,2,3,3001,1004,1005,1006,1007,8,1009] E I λa w E I hH=>?_;have hC:=hH.at w ⟨I.ai,I.ai⟩;refine RH 3 E I hH hC λa E=>?_;refine QH E (λw hc=>ag E (hc.1 1 _ rfl)) hC λa E=>?_;rw[dH]at E;refine RH 0 E I hH hC λa E=>?_;refine SS E (ag E (hC.1 2 _ rfl)) λa E=>?_;rw[dX]at E;refine RH 1 E I hH hC λa E=>?_;refine SS E (ag E (ints_at hC.2 iy)) λa E=>?_;refine RH 0 E I hH hC λa E=>?_;refine CL 0 E I (Wo I (eF _ iy) hb (λV h=>hp V h.sub)) λa w E I=>?_;replace hC:=hH.at w ⟨I.ai,I.ai⟩;refine RH 1 E I hH hC λa E=>?_;refine ST 0 E I (λa w E I=>?_) (hlt:=(by rw[df];omega));rw[ints_set,show (λi=>if i=cz then l8 b (g' bC) else g' i)=cd g' (cz) (l8 b (g' bC)) from rfl]at I;refine RN 0 E I λa E=>?_;have fN:ej p fr b g' aT o=(cd g' (cz) (l8 b (g' bC)),aT+1,true):=by
     rw[ej,ae (by omega),ae (by omega),ae (by omega),ae (by omega),dH,Int.toNat_natCast,jt,ae (by omega),ae (by omega),ak mc,dX,Int.toNat_natCast]
    rw[fN]at aQ;exact⟨200-(n+1),by omega,n+1,aT+1,cd g' (cz) (l8 b (g' bC)),⟨rfl,by omega,by omega,nv eF (I2 _ _),aQ.symm⟩,E.ab [2,3,4,5,8,10,11,12],I.sub⟩
   refine IF 3 E I (λk9 a E=>?_) λk9 a E=>?_
   ·
    refine RN 0 E I λa E=>?_;obtain⟨cz,dH,jU⟩:=jT (by omega) (by omega);obtain⟨bC,dX,iy⟩:=oa (by omega) (by omega) (by omega) (by omega) (by omega);have xz:=xk (g' bC);refine aZ 0 (λw0 V=>Rd V eI 0 (dL o)∧Rd V b5 0 (ints .i32 32 g')) [3,4,5,6,7,8] [0,2,3001,1003,1004,1005,1006,1007,1008,9,1010] E I λa w E I hH=>?_;have hC:=hH.at w ⟨I.ai,I.ai⟩;refine RH 2 E I hH hC λa E=>?_;refine QH E (λw hc=>ag E (hc.1 1 _ rfl)) hC λa E=>?_;rw[dH]at E;refine RH 0 E I hH hC λa E=>?_;refine SS E (ag E (hC.1 2 _ rfl)) λa E=>?_;rw[dX]at E;refine RH 1 E I hH hC λa E=>?_;refine SS E (ag E (ints_at hC.2 iy)) λa E=>?_;refine RH 0 E I hH hC λa E=>?_;refine CL 0 E I (Ji I (eF _ iy)) λa w E I=>?_;replace hC:=hH.at w ⟨I.ai,I.ai⟩;refine RH 1 E I hH hC λa E=>?_;refine SS E (ag E (ints_at hC.2 xz)) λa E=>?_;refine RH 1 E I hH hC λa E=>?_;refine ST 0 E I (λa w E I=>?_) (hlt:=(by rw[df];omega));rw[ints_set,show (λi=>if i=cz then g' (kh (g' bC)) else g' i)=cd g' (cz) (g' (kh (g' bC))) from rfl]at I;refine RN 0 E I λa E=>?_;have fN:ej p fr b g' aT o=(cd g' (cz) (g' (kh (g' bC))),aT+1,true):=by
     rw[ej,ae (by omega),ae (by omega),ae (by omega),ae (by omega),dH,Int.toNat_natCast,jt,ae (by omega),ae (by omega),ae (by omega),ak k9,dX,Int.toNat_natCast]
    rw[fN]at aQ;exact⟨200-(n+1),by omega,n+1,aT+1,cd g' (cz) (g' (kh (g' bC))),⟨rfl,by omega,by omega,nv eF (eF _ xz),aQ.symm⟩,E.ab [2,3,4,5,8,10,11,12],I.sub⟩
   refine IF 3 E I (λvB a E=>?_) λvB a E=>?_
   ·
    refine RN 0 E I λa E=>?_;obtain⟨cz,dH,jU⟩:=jT (by omega) (by omega);obtain⟨bC,dX,iy⟩:=oa (by omega) (by omega) (by omega) (by omega) (by omega);have xz:=xk (g' cz);refine aZ 0 (λw0 V=>Rd V eI 0 (dL o)∧Rd V b5 0 (ints .i32 32 g')) [4,6,7,8] [0,5,3001,2,3003,3006,3007,3008,1004,9,1010] E I λa w E I hH=>?_;have hC:=hH.at w ⟨I.ai,I.ai⟩;refine RH 2 E I hH hC λa E=>?_;refine QH E (λw hc=>ag E (hc.1 1 _ rfl)) hC λa E=>?_;rw[dH]at E;refine RH 1 E I hH hC λa E=>?_;refine QH E (λw hc=>ag E (ints_at hc.2 jU)) hC λa E=>?_;refine QH E (λw hc=>ag E (hc.1 2 _ rfl)) hC λa E=>?_;rw[dX]at E;refine RH 1 E I hH hC λa E=>?_;refine QH E (λw hc=>ag E (ints_at hc.2 iy)) hC λa E=>?_;refine RH 0 E I hH hC λa E=>?_;refine CL 0 E I (Ji I (eF _ jU)) λa w E I=>?_;replace hC:=hH.at w ⟨I.ai,I.ai⟩;refine RH 1 E I hH hC λa E=>?_;refine ST 0 E I (λa w E I=>?_) (hlt:=(by rw[df];omega));rw[ints_set,show (λi=>if i=kh (g' cz) then g' bC else g' i)=cd g' (kh (g' cz)) (g' bC) from rfl]at I;refine RN 0 E I λa E=>?_;have fN:ej p fr b g' aT o=(cd g' (kh (g' cz)) (g' bC),aT+1,true):=by
     rw[ej,ae (by omega),ae (by omega),ae (by omega),ak vB,dH,Int.toNat_natCast,dX,Int.toNat_natCast]
    rw[fN]at aQ;exact⟨200-(n+1),by omega,n+1,aT+1,cd g' (kh (g' cz)) (g' bC),⟨rfl,by omega,by omega,nv eF (eF _ iy),aQ.symm⟩,E.ab [2,3,4,5,8,10,11,12],I.sub⟩
   refine IF 3 E I (λsg a E=>?_) λsg a E=>?_
   ·
    refine RN 1 E I λa E=>?_;obtain⟨cz,dH,jU⟩:=jT (by omega) (by omega);obtain⟨bC,dX,iy⟩:=oa (by omega) (by omega) (by omega) (by omega) (by omega);have oc:=eF _ iy;have Dm:=oc;simp only[dq]at Dm;refine RN 5 E I λa E=>?_;rw[dX]at E;refine RN 1 E I λa E=>?_;refine SS E (ag E ((ints_at I.ai iy))) λa E=>?_;refine BY 2 E I (λiO a E=>?_) λiO a E=>?_
    ·
     refine RN 2 E I λa E=>?_;rw[dX]at E;refine RN 1 E I λa E=>?_;refine bE E (cS E rfl (s:=136)) (ag E ((ints_at I.ai iy))) rfl λa E=>?_;refine SX 0 E I (gr (by omega) (by omega)) λa E=>?_;refine IF 4 E I (λxw a E=>?_) λxw a E=>?_
     ·
      obtain⟨rn,mU⟩:∃ rn:Nat,g' bC=rn:=⟨(g' bC).toNat,by omega⟩;obtain⟨aep,aeq,rfl,Dy⟩:=I.bY adT (by omega);obtain⟨Dz,xd⟩:∃ Dz,(eb p.title 0)[rn]?=some Dz:=⟨_,aI (by omega)⟩;refine RN 3 E I λa E=>?_;rw[dX]at E;refine RN 1 E I λa E=>?_;refine SS E (ag E ((ints_at I.ai iy))) λa E=>?_;rw[mU]at E;refine RN 1 E I λa E=>?_;refine SS E (ag E ((Dy rn _ (Jg xd)))) λa E=>?_;refine RN 1 E I λa E=>?_;have pa:mN p.title (g' bC)=Dz.1:=by rw[mN,ak (by omega),mU,Int.toNat_natCast,xd];rfl
      rw[← pa]at E;refine RN 2 E I λa E=>?_;rw[dH]at E;refine ST 2 E I (λa w E I=>?_) (hlt:=(by rw[df];omega));rw[ints_set,show (λi=>if i=cz then mN p.title (g' bC) else g' i)=cd g' cz (mN p.title (g' bC)) from rfl]at I;refine RN 0 E I λa E=>?_;have fN:ej p fr b g' aT o=(cd g' cz (mN p.title (g' bC)),aT+1,true):=by
       rw[ej,ae (by omega),ae (by omega),ae (by omega),ae (by omega),dH,Int.toNat_natCast,jt,ae (by omega),ae (by omega),ae (by omega),ae (by omega),ak sg,dX,Int.toNat_natCast]
      rw[fN]at aQ;exact⟨200-(n+1),by omega,n+1,aT+1,cd g' cz (mN p.title (g' bC)),⟨rfl,by omega,by omega,nv eF (I0 _ _),aQ.symm⟩,E.ab [2,3,4,5,8,10,11,12],I.sub⟩
     refine RN 0 E I λa E=>?_;have aer:True:=trivial;refine RN 2 E I λa E=>?_;rw[dH]at E;refine ST 2 E I (λa w E I=>?_) (hlt:=(by rw[df];omega));rw[ints_set,show (λi=>if i=cz then 0 else g' i)=cd g' cz 0 from rfl]at I;refine RN 0 E I λa E=>?_;have fN:ej p fr b g' aT o=(cd g' cz 0,aT+1,true):=by
      rw[ej,ae (by omega),ae (by omega),ae (by omega),ae (by omega),dH,Int.toNat_natCast,jt,ae (by omega),ae (by omega),ae (by omega),ae (by omega),ak sg,dX,Int.toNat_natCast,mN,ak (by omega),iH (by omega)];rfl
     rw[fN]at aQ;exact⟨200-(n+1),by omega,n+1,aT+1,cd g' cz 0,⟨rfl,by omega,by omega,nv eF (by simp[dq]),aQ.symm⟩,E.ab [2,3,4,5,8,10,11,12],I.sub⟩
    refine RN 12 E I λa E=>?_;rw[dH]at E;refine ST 2 E I (λa w E I=>?_) (hlt:=(by rw[df];omega));rw[ints_set,show (λi=>if i=cz then 0 else g' i)=cd g' cz 0 from rfl]at I;refine RN 0 E I λa E=>?_;have fN:ej p fr b g' aT o=(cd g' cz 0,aT+1,true):=by
     rw[ej,ae (by omega),ae (by omega),ae (by omega),ae (by omega),dH,Int.toNat_natCast,jt,ae (by omega),ae (by omega),ae (by omega),ae (by omega),ak sg,dX,Int.toNat_natCast,mN,ae (by omega)]
    rw[fN]at aQ;exact⟨200-(n+1),by omega,n+1,aT+1,cd g' cz 0,⟨rfl,by omega,by omega,nv eF (by simp[dq]),aQ.symm⟩,E.ab [2,3,4,5,8,10,11,12],I.sub⟩
   refine IF 3 E I (λvC a E=>?_) λvC a E=>?_
   ·
    refine RN 0 E I λa E=>?_;obtain⟨cz,dH,jU⟩:=jT (by omega) (by omega);refine aZ 0 (λw0 V=>Rd V eI 0 (dL o)∧Rd V b5 0 (ints .i32 32 g')) [3] [0,2,3001,1003,4,1005] E I λa w E I hH=>?_;have hC:=hH.at w ⟨I.ai,I.ai⟩;refine RH 2 E I hH hC λa E=>?_;refine QH E (λw hc=>ag E (hc.1 1 _ rfl)) hC λa E=>?_;rw[dH]at E;refine RH 0 E I hH hC λa E=>?_;refine CL 0 E I (xG I (by omega) (by omega)) λa w E I=>?_;replace hC:=hH.at w ⟨I.ai,I.ai⟩;refine RH 1 E I hH hC λa E=>?_;refine ST 0 E I (λa w E I=>?_) (hlt:=(by rw[df];omega));rw[ints_set,show (λi=>if i=cz then hV fr else g' i)=cd g' (cz) (hV fr) from rfl]at I;refine RN 0 E I λa E=>?_;have fN:ej p fr b g' aT o=(cd g' (cz) (hV fr),aT+1,true):=by
     rw[ej,ae (by omega),ae (by omega),ae (by omega),ae (by omega),dH,Int.toNat_natCast,jt,ae (by omega),ae (by omega),ae (by omega),ae (by omega),ae (by omega),ak vC]
    rw[fN]at aQ;exact⟨200-(n+1),by omega,n+1,aT+1,cd g' (cz) (hV fr),⟨rfl,by omega,by omega,nv eF (xl _),aQ.symm⟩,E.ab [2,3,4,5,8,10,11,12],I.sub⟩
   refine RN 0 E I λa E=>?_;obtain⟨cz,dH,jU⟩:=jT (by omega) (by omega);obtain⟨bC,dX,iy⟩:=oa (by omega) (by omega) (by omega) (by omega) (by omega);obtain⟨tu,o7,Jj⟩:=qT (by omega) (by omega) (by omega) (by omega) (by omega) (by omega) (by omega) (by omega) (by omega) (by omega);refine aZ 0 (λw0 V=>Rd V eI 0 (dL o)∧Rd V b5 0 (ints .i32 32 g')) [3,5,6,7,9,10,11,12] [0,2,4,8,3001,3003,3005,3006,3007,1009,1010,1011,1012,13,1014] E I λa w E I hH=>?_;have hC:=hH.at w ⟨I.ai,I.ai⟩;refine RH 4 E I hH hC λa E=>?_;refine QH E (λw hc=>ag E (hc.1 1 _ rfl)) hC λa E=>?_;rw[dH]at E;refine RH 0 E I hH hC λa E=>?_;refine QH E (λw hc=>ag E (hc.1 0 _ rfl)) hC λa E=>?_;refine QH E (λw hc=>ag E (hc.1 2 _ rfl)) hC λa E=>?_;rw[dX]at E;refine RH 1 E I hH hC λa E=>?_;refine QH E (λw hc=>ag E (ints_at hc.2 iy)) hC λa E=>?_;refine RH 0 E I hH hC λa E=>?_;refine SS E (ag E (hC.1 3 _ rfl)) λa E=>?_;rw[o7]at E;refine RH 1 E I hH hC λa E=>?_;refine SS E (ag E (ints_at hC.2 Jj)) λa E=>?_;refine RH 0 E I hH hC λa E=>?_;refine CL 0 E I (Wq I (eF _ iy) (eF _ Jj)) λa w E I=>?_;replace hC:=hH.at w ⟨I.ai,I.ai⟩;refine RH 1 E I hH hC λa E=>?_;refine ST 0 E I (λa w E I=>?_) (hlt:=(by rw[df];omega));rw[ints_set,show (λi=>if i=cz then iN o.code (g' bC) (g' tu) else g' i)=cd g' (cz) (iN o.code (g' bC) (g' tu)) from rfl]at I;refine RN 0 E I λa E=>?_;have fN:ej p fr b g' aT o=(cd g' (cz) (iN o.code (g' bC) (g' tu)),aT+1,true):=by
    rw[ej,ae (by omega),ae (by omega),ae (by omega),ae (by omega),dH,Int.toNat_natCast,jt,ae (by omega),ae (by omega),ae (by omega),ae (by omega),ae (by omega),ae (by omega),dX,Int.toNat_natCast,o7,Int.toNat_natCast]
   rw[fN]at aQ;exact⟨200-(n+1),by omega,n+1,aT+1,cd g' (cz) (iN o.code (g' bC) (g' tu)),⟨rfl,by omega,by omega,nv eF (I1 _ _ _),aQ.symm⟩,E.ab [2,3,4,5,8,10,11,12],I.sub⟩
  refine SA 3 E I λa w E I=>?_;refine RT 1 E I ?_;rw[Dk (by omega)]at tU;exact⟨_,by rw[← tU],by rw[← tU];exact eF,I.sub⟩
 refine SA 10 E I λa w E I=>?_;refine RT 1 E I ?_;rw[show 200-n=0 from by omega]at tU;exact⟨_,by rw[← tU];rfl,by rw[← tU];exact eF,I.sub⟩
theorem Wr {P:List (List UInt8)}{zs:List ea}(I:U W w (aA W p aq cO::L))(a1:dg p)(aE:p.title.size≤1000000000)(hg:dM g)(hP:P.length≤65536∧∀ b∈P,b.length≤1099511627776)(hz:zs.map (·.2.2)=P)(hf:-1099511627776≤fr∧fr≤1099511627776)(hp:∀ V,U W V L→iJ V adP zs) :
   Calls prog 116 #[.agg (bP p aq cO).toArray,.agg (ints .i32 32 g).toArray,.int .i64 fr,.slice adP P.length cP] w λe V=>e=.returned (.agg (ints .i32 32 (foldI p fr g P)).toArray)∧dM (foldI p fr g P)∧U W V (aA W p aq cO::L):=by
 have iU:zs.length=P.length:=by rw[← hz,bd]
 have sy:=hP.1;refine EN func116 ntmps116 rfl rfl λa E=>?_;refine BX 1 E I λb4 a w E I=>?_;change U W w (aa b4 45 (bP p aq cO)::_) at I;refine BX 0 E I λb5 a w E I=>?_;change U W w (aa b5 49 (ints .i32 32 g)::_) at I;refine AL 0 E I λb8 a w E I=>?_;change U W w (aa b8 49 (ints .i32 32 (λ_=>0))::_) at I;refine RN 3 E I λa E=>?_;refine aR (λμ a w=>∃ (i:Nat) (g':Nat→Int),(μ=P.length-i∧i≤P.length∧dM g'∧foldI p fr g P=foldI p (fr+i) g' (P.drop i))∧Fr a 33 [(2,.int .i64 fr),(3,.slice adP P.length cP),(4,pt b4),(5,pt b5),(8,pt b8),(9,.int .i64 i)]∧U W w (aa b5 49 (ints .i32 32 g')::aa b4 45 (bP p aq cO)::aa b8 49 (ints .i32 32 (λ_=>0))::aA W p aq cO::L)) (P.length) (⟨0,g,⟨by simp,by simp,hg,by simp⟩,E.ab [2,3,4,5,8,9],I.sub⟩) ?_;clear E I;rintro μ a w ⟨i,g',⟨rfl,hi,eF,lB⟩,E,I⟩;refine IF 6 E I (λaj a E=>?_) λaj a E=>?_
 ·
  have kl:zs[i]?=some (zs[i]'(by omega)):=aI (by omega);obtain⟨z,tV⟩:∃ z,zs[i]'(by omega)=z:=⟨_,rfl⟩;rw[tV]at kl;have zQ:P[i]?=some z.2.2:=by rw[← hz,bm,kl];rfl
  have e9:=hp _ (I.sub (M:=L));obtain⟨bp,op,gT,de⟩:=e9.1 (by omega);have cg:∀ V,U W V L→V.cell? ⟨bp,op+i,none⟩=some (aM z):=λV h=>by
   obtain⟨b',o',h1,h2⟩:=(hp V h).1 (by omega);rw[gT]at h1;cases h1;exact h2 i _ (by rw[bm,kl];rfl)
  clear de e9;have Jk:∀ V,U W V L→a6 V z.1 z.2.2.length z.2.2:=λV h=>(hp V h).2 z (bK kl);have DA:foldI p fr g P=foldI p (fr+(i+1:Nat)) (eW p (fr+i) z.2.2 g') (P.drop (i+1)):=by
   rw[lB,ka (by omega),foldI];have:P[i]'(by omega)=z.2.2:=by rw[aI (by omega)]at zQ;exact Option.some.inj zQ
   rw[this]
   congr 1
   omega
  refine RN 1 E I λa E=>?_;refine b7 (M:=λa w=>∃ kc:Nat,dM (eW p (fr+i) z.2.2 g')∧Fr a 33 [(2,.int .i64 fr),(3,.slice adP P.length cP),(4,pt b4),(5,pt b5),(8,pt b8),(9,.int .i64 i),(10,pt kc)]∧U W w (aa kc 49 (ints .i32 32 (eW p (fr+i) z.2.2 g'))::aa b5 49 (ints .i32 32 g')::aa b4 45 (bP p aq cO)::aa b8 49 (ints .i32 32 (λ_=>0))::aA W p aq cO::L)) ?_ ?_
  ·
   refine aZ 0 (λw0 V=>Rd V b4 0 (bP p aq cO)∧Rd V b5 0 (ints .i32 32 g')∧V.cell? ⟨bp,op+i,none⟩=some (aM z)) [1,8,13] [2,3,4,5,6,7,3000,3001,3008,2009,10,11,12,1013,1014,15] E I λa w E I hH=>?_;have hC:=hH.at w ⟨I.ai,I.ai,cg _ I.sub⟩;refine RH 5 E I hH hC λa E=>?_;rw[gT]at E;refine RH 1 E I hH hC λa E=>?_;refine QH E (λw hc=>bT E underlying45 rfl Ty.t45 (hc.1)) hC λa E=>?_;refine QH E (λw hc=>bT E underlying49 rfl Ty.t49 (hc.2.1)) hC λa E=>?_;refine QH E (λw hc=>ag E (hc.2.2)) hC λa E=>?_;refine RH 0 E I hH hC λa E=>?_;refine DN [(9,[10,11,12,1013,1014,15]),(13,[1009,10,11,12,1014,15])] (by kernel_rfl) rfl ⟨⟨_,rfl,?_⟩,⟨_,rfl,?_⟩,trivial⟩
   ·
    refine RH 0 E I hH hC λa E=>?_;refine bg 0 E I (Dx (I.pick (aA W p aq cO)) a1 aE eF (hP.2 _ (bK zQ)) (by omega) (λV h=>Jk V h.sub)) λsk a w E ⟨bA,I⟩=>?_;refine RN 3 E I λa E=>?_;refine eR E rfl I Ty.t49 rfl λkc a w E I ho=>?_;clear ho;replace hC:=hH.at w ⟨I.ai,I.ai,cg _ I.sub⟩;change U W w (aa kc 49 (ints .i32 32 (λ_=>0))::_) at I;refine RH 0 E I hH hC λa E=>?_;refine SA 0 E I λa w E I=>?_;refine RN 1 E I λa E=>?_;rw[← gT]at E;exact⟨_,bA,E.ab [2,3,4,5,8,9,10],I.sub⟩
   refine RH 0 E I hH hC λa E=>?_;refine eR E rfl I Ty.t49 rfl λkc a w E I ho=>?_;clear ho;replace hC:=hH.at w ⟨I.ai,I.ai,cg _ I.sub⟩;change U W w (aa kc 49 (ints .i32 32 (λ_=>0))::_) at I;refine RH 0 E I hH hC λa E=>?_;refine bg 0 E I (Dx (I.pick (aA W p aq cO)) a1 aE eF (hP.2 _ (bK zQ)) (by omega) (λV h=>Jk V h.sub)) λsk a w E ⟨bA,I⟩=>?_;refine SA 3 E I λa w E I=>?_;refine RN 1 E I λa E=>?_;rw[← gT]at E;exact⟨_,bA,E.ab [2,3,4,5,8,9,10],I.sub⟩
  clear E;(try clear I);rintro a w ⟨kc,bA,E,I⟩;refine SA 1 E I λa w E I=>?_;refine RN 3 E I λa E=>?_;exact⟨P.length-(i+1),by omega,i+1,_,⟨rfl,by omega,bA,DA⟩,E.ab [2,3,4,5,8,9],I.sub⟩
 refine RN 1 E I λa E=>?_;obtain rfl:i=P.length:=by omega
 rw[List.drop_length,foldI]at lB;refine SA 1 E I λa w E I=>?_;refine RT 0 E I ?_;exact⟨by rw[lB],by rw[lB];exact eF,I.sub⟩
end
end
section
section
variable {P:Program}{a:Act}{w:World}{n:Nat}{l:List (Nat×Value)}
theorem Ws {x y i j t u dst ty ps af g}(E:Fr a n l)[e:Ev l x (.string i)][f:Ev l y (.string j)] :
   (execOp a.eval ⟨dst,.binOp .neq t x y u,ty,ps,af,g⟩).run P w=.ok (.value (.bool (!(i.data.toList==j.data.toList)))) w:=by
 simp[execOp,e.ev a n E,f.ev a n E,eqGuard,binOp,Op.stringOp,ByteArray.toList_eq]
end
end
section
def sA (k:IntKind)(w:World)(a:Option Addr)(len cap:Nat)(zs:List Int):Prop :=
 (a=none∧len=0∧cap=0∧zs=[]) ∨
 ∃ x,a=some x∧len≤cap∧cap≤maxLen∧zs.length=cap∧(∀ i,i<zs.length→w.cell? (x.add i)=some (.int k (zs.getD i 0)))∧∀ n∈zs,(Lit.int k n).wf=true
theorem Wt {w:World}{x:Addr}{v:Value}(h:w.cell? x=some v):x=⟨x.block,x.off,none⟩∧x.block<w.heap.size:=by
 refine⟨?_,World.block_lt_of_cell? _ _ h⟩;obtain⟨b,o,s⟩:=x;cases s with
 | none=>rfl
 | some s =>
  simp only[World.cell?]at h;split at h <;> simp at h
theorem sA.get {k:IntKind}{w:World}{a:Option Addr}{len cap:Nat}{zs:List Int}(h:sA k w a len cap zs)(h0:0<len) :
   ∃ b off,a=some ⟨b,off,none⟩∧b<w.heap.size∧len≤zs.length∧∀ i,i<zs.length→w.cell? ⟨b,off+i*1,none⟩=some (.int k (zs.getD i 0)):=by
 rcases h with ⟨_,h,_,_⟩ | ⟨x,rfl,h1,h2,h3,h4,h5⟩
 ·omega
 ·have h6:=h4 0 (by omega);have h7:x.add 0=x:=by simp[Addr.add]
  rw[h7]at h6;obtain⟨h8,h9⟩:=Wt h6;refine⟨x.block,x.off,by rw[← h8],h9,by omega,λi hi=>?_⟩;have:=h4 i hi;rw[h8,kv]at this;rw[Nat.mul_one];exact this
theorem sA.Wu {k:IntKind}{w:World}{a:Option Addr}{len cap:Nat}{zs:List Int}(h:sA k w a len cap zs):len≤zs.length∧len≤9223372036854775807:=by
 rcases h with ⟨_,rfl,_,rfl⟩ | ⟨x,rfl,h1,h2,h3,h4,h5⟩
 ·simp
 ·unfold maxLen at h2;omega
theorem sA.Wv {k:IntKind}{W:World}{a:Option Addr}{len cap:Nat}{z:List Int}(h:sA k W a len cap z):∃ zs:List Int,zs.length=len∧(∀ n∈zs,(Lit.int k n).wf=true) ∧
   ∀ w L,U W w L→len=0∨∃ b off,a=some ⟨b,off,none⟩∧b<W.heap.size∧Rd w b off (zs.map (.int k)):=by
 have hl:=h.Wu;have hz:∀ n∈z,(Lit.int k n).wf=true:=by
  rcases h with ⟨_,_,_,rfl⟩ | ⟨x,_,_,_,_,_,hw⟩
  ·intro n hn;cases hn
  ·exact hw
 refine⟨z.take len,by simp;omega,λn hn=>hz n (List.mem_of_mem_take hn),λw L I=>?_⟩;rcases Nat.eq_zero_or_pos len with h0 | h0
 ·exact .inl h0
 ·right;obtain⟨b,off,rfl,hb,h2,h3⟩:=h.get h0;refine⟨b,off,rfl,hb,λj v hj=>?_⟩;rw[I.gf hb];simp only[bm,getElem?_take]at hj;by_cases dG:j<len
  ·rw[ak dG,aI (by omega)]at hj;have:=h3 j (by omega);rw[Nat.mul_one]at this;rw[this,← hj];simp[bl,aI (show j<z.length by omega)]
  ·rw[ae dG]at hj;cases hj
end
section
abbrev aes:=Option Addr×Nat×List ea
end
section
section
theorem Ww {u v:List (List UInt8)}:oZ u v=true↔u.take (min u.length v.length)=v.take (min u.length v.length):=by simp[oZ]
end
end
section
abbrev Kx:=Wk×Nat
def eY (p:Pr)(aq:Option Addr)(cO tq jq sq:Nat)(x:Kx):SP:=aa x.2 247 (cv p aq cO tq jq sq x.1)
def gI (ks:List Kx):List Value:=ks.map λx=>pt x.2
theorem Jl {ks:List Kx}{i:Nat}{k:Wk}{wb:Nat}(h:ks[i]?=some (k,wb)):(gI ks)[i]?=some (pt wb):=by rw[gI,bm,h];rfl
theorem Jm {ks:List Kx}{i:Nat}{k k':Wk}{wb:Nat}(h:ks[i]?=some (k,wb)):gI (ks.set i (k',wb))=gI ks:=by
 have hi:=(a2.1 h).1;apply ext_getElem?;intro j;simp only[gI,bm,jF];by_cases hj:i=j
 ·subst hj;rw[ak rfl,ak hi,h];rfl
 ·rw[ae hj]
theorem vH {ks:List Kx}{i:Nat}{k k':Wk}{wb:Nat}(h:ks[i]?=some (k,wb)):(ks.map (·.1)).Perm (k::(ks.eraseIdx i).map (·.1))∧((ks.set i (k',wb)).map (·.1)).Perm (k'::(ks.eraseIdx i).map (·.1)):=by
 obtain⟨hi,he⟩:=a2.1 h;have h1:=(rN ks hi).map (·.1);rw[map_cons,he]at h1;have h2:=(rN (ks.set i (k',wb)) (by simpa using hi)).map (·.1);rw[map_cons,getElem_set_self,eraseIdx_set_eq]at h2;exact⟨h1,h2⟩
section
variable {W w:World}{L:List SP}{tq jq sq r wb i cO n base:Nat}{aq:Option Addr}{A:Sn}{T:Tr}{J:Js}{k:Wk}{p:Pr}{x:Br}{px:aC}{ks:List Kx}{t:Nat→Nat}
theorem U.Jn (I:U W w (ah (eY p aq cO tq jq sq) ks::L))(hk:ks[i]?=some (k,wb)):U W w (aa wb 247 (cv p aq cO tq jq sq k)::ah (eY p aq cO tq jq sq) (ks.eraseIdx i)::L):=by
 obtain⟨hi,he⟩:=a2.1 hk;have:=I.fE hi;rw[he]at this;exact this
theorem U.DB {k':Wk}(I:U W w (aa wb 247 (cv p aq cO tq jq sq k')::ah (eY p aq cO tq jq sq) (ks.eraseIdx i)::L))(hk:ks[i]?=some (k,wb)):U W w (ah (eY p aq cO tq jq sq) (ks.set i (k',wb))::L) :=
 U.ky (f:=eY p aq cO tq jq sq) (x:=(k',wb)) (a2.1 hk).1 I
theorem Wx {F:Int}{g0:Nat→Int}(I:U W w (ah (eY p aq cO tq jq sq) ks::Tree tq sq T::aw sq r A::bI jq J::aA W p aq cO::L))(hk:ks[i]?=some (k,wb))(hI:Inv p F g0 t base A T (ks.map (·.1)))
   (hF:0≤F∧F≤1099511627776) (hp:dg p) (hz:p.title.size≤1000000000) (hn:A.n+1<1099511627776) (kj:J.length≤16) :
   Calls prog 102 #[pt wb] w λe V=>∃ (z:Bool) (A':Sn) (T':Tr) (J':Js) (k':Wk),e=.returned (.bool z)∧(k5 p A T J k z A' T' J' k'∧Inv p F g0 t base A' T' ((ks.set i (k',wb)).map (·.1))∧zA A T J A' T' J') ∧
    U W V (ah (eY p aq cO tq jq sq) (ks.set i (k',wb))::Tree tq sq T'::aw sq r A'::bI jq J'::aA W p aq cO::L):=by
 have hA:=(aw.facts (I.store sq)).1;have hT:=Tree.wt (I.tree tq);have Wy:k∈ks.map (·.1):=c1.2 ⟨_,bK hk,rfl⟩;have h1:=I.Jn hk;refine (V3 (L:=ah (eY p aq cO tq jq sq) (ks.eraseIdx i)::L) (h1.sub (M:=aa wb 247 (cv p aq cO tq jq sq k)::Tree tq sq T::aw sq r A::bI jq J::aA W p aq cO::ah (eY p aq cO tq jq sq) (ks.eraseIdx i)::L)) (hI.ready Wy hF hp hz hn kj)).mono λe V ⟨z,A',T',J',k',he,hb,I⟩=>?_;refine⟨z,A',T',J',k',he,⟨hb,((hI.vz (vH (k':=k') hk).1).bit hA hT hb).vz (vH (k':=k') hk).2.symm,hb.UT⟩,?_⟩;have h2:=U.DB (i:=i) (ks:=ks) (k:=k) (k':=k') (I.sub (M:=aa wb 247 (cv p aq cO tq jq sq k')::ah (eY p aq cO tq jq sq) (ks.eraseIdx i)::Tree tq sq T'::aw sq r A'::bI jq J'::aA W p aq cO::L)) hk;exact h2
theorem Wz {F:Int}{g0:Nat→Int}(I:U W w (ah (eY p aq cO tq jq sq) ks::aw sq r A::L))(hk:ks[i]?=some (k,wb))(hI:Inv p F g0 t base A T (ks.map (·.1))) :
   Calls prog 145 #[pt wb] w λe V=>∃ (A':Sn) (k':Wk),e=.returned (.bool k.busy)∧(k'.busy=false∧Inv p F g0 t base A' T ((ks.set i (k',wb)).map (·.1))∧A'.room=A.room∧A'.n=A.n) ∧
    U W V (ah (eY p aq cO tq jq sq) (ks.set i (k',wb))::aw sq r A'::L):=by
 have hA:=(aw.facts (I.store sq)).1;have h1:=I.Jn hk;cases hb:k.busy with
 | false =>
  refine (I8 h1 hb).mono λe V ⟨he,I⟩=>⟨A,k,he,⟨hb,(hI.vz (vH (k':=k) hk).1).vz (vH (k':=k) hk).2.symm,rfl,rfl⟩,?_⟩;exact U.DB (i:=i) (ks:=ks) (k:=k) (k':=k) I hk
 | true =>
  refine (xC (L:=ah (eY p aq cO tq jq sq) (ks.eraseIdx i)::L) (h1.sub (M:=aa wb 247 (cv p aq cO tq jq sq k)::aw sq r A::ah (eY p aq cO tq jq sq) (ks.eraseIdx i)::L)) hb).mono λe V ⟨he,I⟩=>?_;refine⟨A.eu k.x,{ k with busy:=false },he,⟨rfl,((hI.vz (vH (k':={ k with busy:=false }) hk).1).rest (k':={ k with busy:=false }) hA hb rfl rfl).vz (vH (k':={ k with busy:=false }) hk).2.symm,(n1 A _).1,(n1 A _).2.1⟩,?_⟩;exact U.DB (i:=i) (ks:=ks) (k:=k) (k':={ k with busy:=false }) (I.sub (M:=aa wb 247 (cv p aq cO tq jq sq { k with busy:=false })::ah (eY p aq cO tq jq sq) (ks.eraseIdx i)::aw sq r (A.eu k.x)::L)) hk
theorem WA (I:U W w L):Calls prog 92 #[.agg (bP p aq cO).toArray,pt tq,pt jq,pt sq] w λe V =>
   ∃ wb,e=.returned (pt wb)∧U W V (aa wb 247 (cv p aq cO tq jq sq kH)::L):=by
 refine EN func92 ntmps92 rfl rfl λa E=>?_;refine BX 1 E I λb4 a w E I=>?_;change U W w (aa b4 45 (bP p aq cO)::_) at I;refine RN 3 E I λa E=>?_;change Fr a 15 ((9,.agg (List.toArray [.string p.title,.slice aq p.ops.length cO]))::_) at E;refine BX 4 E I λeI a w E I=>?_;change U W w (aa eI 247 (cv p aq cO tq jq sq kH)::_) at I;refine RT 1 E I ?_;exact⟨eI,rfl,I.sub⟩
theorem WB {frm:Int}{ad2:Option Addr}{c2 id:Nat}{zs:List ea}{P:List (List UInt8)}(I:U W w (Tree tq sq T::aw sq r A::L))(hr:∀ V,U W V L→iJ V ad2 zs)(hz:zs.map (·.2.2)=P)(hc:P.length≤c2)(dm:nq P)
   (hx:A.au[i]?=some px) (bO:px.id=id) (hb:A.n+1<1099511627776) (hl:T.last+1<1099511627776) (hm:T.l.length<T.most) :
   Calls prog 306 #[pt tq,.int .i64 frm,.int .i64 id,.slice ad2 P.length c2] w λe V=>∃ (z:Nat) (ok:Bool),e=.returned (.tuple #[.int .i64 z,.bool ok]) ∧
    ((ok=false∧(P=[]∨∃ y∈T.l,y.is frm P)∧U W V (Tree tq sq T::aw sq r A::L)) ∨
     (ok=true∧z=T.last+1∧P≠[]∧(∀ y∈T.l,¬ y.is frm P)∧U W V (Tree tq sq (T.add frm P (A.last+1))::aw sq r (A.add px.g px.p)::L))):=by
 subst bO;rcases Nat.eq_zero_or_pos P.length with h0 | h0
 ·have hP:=g5 h0;exact (It I (.inr h0)).mono λe V ⟨h1,I⟩=>⟨0,false,h1,.inl ⟨rfl,.inl hP,I⟩⟩
 ·have hP:P≠[]:=List.length_pos_iff.1 h0;by_cases hex:∃ y∈T.l,y.is frm P
  ·obtain⟨y,hy,vp⟩:=hex;obtain⟨j,hj⟩:=jN.1 hy;have WD:∀ V,U W V (aw sq r A::L)→kB V ad2 P.length P:=λV h=>by
    have:=(hr V h.tail).bb;rw[hz]at this
    rwa [show zs.length=P.length from by rw[← hz,bd]]at this
   exact (Uf I WD hc dm hj vp).mono λe V ⟨h1,I⟩=>⟨0,false,h1,.inl ⟨rfl,.inr ⟨y,hy,vp⟩,I⟩⟩
  ·have bU:∀ y∈T.l,¬ y.is frm P:=λy hy h=>hex ⟨y,hy,h⟩;exact (Ug I hr hz hc dm hx hb hl bU hm h0).mono λe V ⟨h1,I⟩=>⟨T.last+1,true,h1,.inr ⟨rfl,rfl,hP,bU,I⟩⟩
end
end
section
section
variable {W w:World}{L:List SP}{sq r i:Nat}{A:Sn}{px:aC}
theorem WE {id:Nat}(I:U W w (aw sq r A::L))(hx:A.au[i]?=some px)(bO:px.id=id) :
   Calls prog 290 #[pt sq,.int .i64 id] w λe V=>e=.returned (.tuple #[.agg (ints .i32 32 px.g).toArray,.bool true])∧U W V (aw sq r A::L):=by
 subst bO;exact TQ I hx
set_option maxHeartbeats 4000000 in
end
end
section
section
variable {P:Program}{ops:Array Oper}{Q:Exit→Act→World→Prop}{a:Act}{w V W:World}{K:Act→World→Prop}{n d:Nat}{l:List (Nat×Value)}{v:Value}{L R:List SP}
theorem gV {s x t z sz aX e ad k c ad2 m c2 news ty ps af g}{cs:List Value}(E:Fr a n l)(hw:Region.wanted ⟨some d,.call ⟨.builtin .append,#[s,x],#[t,t]⟩,ty,ps,af,g⟩ (yielded ops a.tmps)=true)(I:U W w L)
   (ht:P.underlying t=some (.slice e)) (hi:TI P e z sz aX) (hf:okB d n l=true) (hz:z.cells.size=sz) (hb:0<aX)
   [e1:Ev l s (.slice ad k c)] [pk:fL L ad k c e sz cs R] [e2:Ev l x (.slice ad2 m c2)] (hr:0<m→∃ b2 gE,ad2=some ⟨b2,gE,none⟩∧Rd w b2 gE news) (hl:news.length=m*sz) (h1:∀ v∈news,v.oneCell'=true)
   (aE:(k+m)*aX≤140737488355328)
   (h:∀ av c' a' V,Fr a' n ((d,.slice av (k+m) c')::l)→U W V (Sl e sz av (k+m) c' (cs++news)::R)→K a' V) :
   cH P ops Q ⟨some d,.call ⟨.builtin .append,#[s,x],#[t,t]⟩,ty,ps,af,g⟩ K a w:=by
 rcases Nat.eq_zero_or_pos m with h0 | h0
 ·subst h0;have qx:=(I.sl ad).2;obtain rfl:news=[]:=g5 (by rw[hl,Nat.zero_mul]);refine B1 (ad:=ad) (k:=k) (c:=c) (ad2:=ad2) (c2:=c2) E hw ht hi hf qx λa' dc=>h ad c a' w dc ?_;rw[append_nil];exact I.perm pk.perm
 ·obtain⟨b2,gE,rfl,de⟩:=hr h0;exact cI E hw I ht hi hz hf de hl h1 h0 hb aE h
end
theorem U.DD {W w:World}{L:List SP}{b e n:Nat}{cs:List Value}{l:List UInt8}(I:U W w (aa b e cs::L))(he:e=5)(hl:l.length=n)(h:cs=bc l):U W w (Sl 5 1 (some ⟨b,0,none⟩) n n (bc l)::L):=by
 subst h;subst he;have h2:U W w (aa b 5 ([]++bc l++[])::L):=by simpa using I
 exact U.iG (pre:=[]) (post:=[]) (n:=n) (c:=n) (sz:=1) (cs:=bc l) h2 (by rw[dw,hl,Nat.mul_one]) (bf _) (by simp)
theorem dO {bs:List UInt8}{i:Nat}(h:i<bs.length):(bc bs)[i]?=some (.int .u8 ((bs[i]).toNat:Int)):=by simp[bc,h]
theorem fH (a b:List UInt8):bc (a++b)=bc a++bc b:=by simp[bc]
theorem a6.get {w:World}{ad:Option Addr}{m:Nat}{bs:List UInt8}(h:a6 w ad m bs)(h0:0<m):∃ b o,ad=some ⟨b,o,none⟩∧Rd w b o (bc bs):=by
 obtain⟨_,h2,h3⟩:=h;cases hh:ad with
 | none=>have:=h2 hh;omega
 | some a =>
  obtain⟨b,o,rfl,h1⟩:=h3 a hh h0;exact⟨b,o,rfl,h1⟩
theorem a6.rd {w:World}{b o m:Nat}{bs:List UInt8}(h:a6 w (some ⟨b,o,none⟩) m bs)(h0:0<m):Rd w b o (bc bs):=by
 obtain⟨b',o',e,h1⟩:=h.get h0;cases e;exact h1
theorem a6.tW {w:World}{ad:Option Addr}{bs:List UInt8}{c:Nat}(h:a6 w ad bs.length bs){lo:Nat}(hl:lo≤bs.length)(hc:bs.length≤c):a6 w (fk ad lo c 1) (bs.drop lo).length (bs.drop lo):=by
 refine⟨rfl,λe=>?_,λx hx h0=>?_⟩
 ·rw[c6];rcases Nat.eq_zero_or_pos (bs.length-lo) with h0 | h0
  ·exact h0
  ·obtain⟨b,o,rfl,_⟩:=h.get (by omega);rw[oP (by omega)]at e;cases e
 ·rw[c6]at h0;obtain⟨b,o,rfl,hr⟩:=h.get (by omega);rw[oP (by omega)]at hx;cases hx;refine⟨b,o+lo*1,rfl,λj v hj=>?_⟩;have h1:=hr (lo+j) v (by rw[bc,bm,← getElem?_drop,← bm];exact hj)
  rwa [show o+lo*1+j=o+(lo+j) from by omega]
theorem a6.DE {w:World}{ad:Option Addr}{bs:List UInt8}{m:Nat}(h:a6 w ad m bs){hi:Nat}(hl:hi≤bs.length):a6 w ad hi (bs.take hi):=by
 obtain⟨h1,h2,h3⟩:=h;refine⟨by rw[et];omega,λe=>by have:=h2 e;omega,λx hx h0=>?_⟩;obtain⟨b,o,e,hr⟩:=h3 x hx (by omega);refine⟨b,o,e,λj v hj=>hr j v ?_⟩;rw[bc,map_take,getElem?_take]at hj;split at hj
 ·exact hj
 ·cases hj
theorem tX (x:Nat):BitVec.ofInt IntKind.u32.bits (x:Int)=BitVec.ofNat 32 x:=BitVec.ofInt_natCast 32 x
theorem zR (x:Nat):BitVec.ofInt IntKind.u64.bits (x:Int)=BitVec.ofNat 64 x:=BitVec.ofInt_natCast 64 x
theorem zS {x y:Nat}(hx:x<4294967296)(hy:y<4294967296):IntKind.u32.wrap (((BitVec.ofInt IntKind.u32.bits (x:Int) ^^^ BitVec.ofInt IntKind.u32.bits (y:Int)).toNat:Nat):Int)=((x ^^^ y:Nat):Int):=by
 rw[tX,tX];show IntKind.u32.wrap (((BitVec.ofNat 32 x ^^^ BitVec.ofNat 32 y).toNat:Nat):Int)=_;rw[BitVec.toNat_xor,BitVec.toNat_ofNat,BitVec.toNat_ofNat,Nat.mod_eq_of_lt (show x<2 ^ 32 from hx),Nat.mod_eq_of_lt (show y<2 ^ 32 from hy),wrap_u32];have:=Nat.xor_lt_two_pow (n:=32) hx hy;omega
theorem WG {x y:Nat}(hx:x<4294967296)(hy:y<4294967296):IntKind.u32.wrap (((BitVec.ofInt IntKind.u32.bits (x:Int) &&& BitVec.ofInt IntKind.u32.bits (y:Int)).toNat:Nat):Int)=((x &&& y:Nat):Int):=by
 rw[tX,tX];show IntKind.u32.wrap (((BitVec.ofNat 32 x &&& BitVec.ofNat 32 y).toNat:Nat):Int)=_;rw[BitVec.toNat_and,BitVec.toNat_ofNat,BitVec.toNat_ofNat,Nat.mod_eq_of_lt (show x<2 ^ 32 from hx),Nat.mod_eq_of_lt (show y<2 ^ 32 from hy),wrap_u32];have:x &&& y≤x:=Nat.and_le_left;omega
theorem Jo {x:Nat}(h:x<4294967296):IntKind.u32.wrap (((BitVec.ofInt IntKind.u32.bits (if IntKind.u32.signed then -1 else IntKind.u32.max) ^^^ BitVec.ofInt IntKind.u32.bits (x:Int)).toNat:Nat):Int)=((4294967295-x:Nat):Int):=by
 have e:BitVec.ofInt IntKind.u32.bits (if IntKind.u32.signed then -1 else IntKind.u32.max)=BitVec.allOnes 32:=by
  show BitVec.ofInt 32 IntKind.u32.max=_;decide
 rw[e,tX];show IntKind.u32.wrap (((BitVec.allOnes 32 ^^^ BitVec.ofNat 32 x).toNat:Nat):Int)=_;rw[BitVec.allOnes_xor,BitVec.toNat_not,BitVec.toNat_ofNat,wrap_u32];rw[Nat.mod_eq_of_lt (show x<2 ^ 32 from h)];omega
theorem WH {x y:Nat}(hx:x<18446744073709551616)(hy:y<18446744073709551616):IntKind.u64.wrap (((BitVec.ofInt IntKind.u64.bits (x:Int) ||| BitVec.ofInt IntKind.u64.bits (y:Int)).toNat:Nat):Int)=((x ||| y:Nat):Int):=by
 rw[zR,zR];show IntKind.u64.wrap (((BitVec.ofNat 64 x ||| BitVec.ofNat 64 y).toNat:Nat):Int)=_;rw[BitVec.toNat_or,BitVec.toNat_ofNat,BitVec.toNat_ofNat,Nat.mod_eq_of_lt (show x<2 ^ 64 from hx),Nat.mod_eq_of_lt (show y<2 ^ 64 from hy),wrap_u64];have:=Nat.or_lt_two_pow (n:=64) hx hy;omega
theorem WI {x y:Nat}(hx:x<18446744073709551616)(hy:y<18446744073709551616):IntKind.u64.wrap (((BitVec.ofInt IntKind.u64.bits (x:Int) &&& BitVec.ofInt IntKind.u64.bits (y:Int)).toNat:Nat):Int)=((x &&& y:Nat):Int):=by
 rw[zR,zR];show IntKind.u64.wrap (((BitVec.ofNat 64 x &&& BitVec.ofNat 64 y).toNat:Nat):Int)=_;rw[BitVec.toNat_and,BitVec.toNat_ofNat,BitVec.toNat_ofNat,Nat.mod_eq_of_lt (show x<2 ^ 64 from hx),Nat.mod_eq_of_lt (show y<2 ^ 64 from hy),wrap_u64];have:x &&& y≤x:=Nat.and_le_left;omega
theorem lF (b:UInt8):b.toNat<256:=b.toNat_lt
def sB (x:Nat):Nat:=if x%2=1 then x/2 ^^^ 3988292384 else x/2
def mi:Nat→Nat→Nat
 | 0,y=>y
 | k+1,y=>sB (mi k y)
def vI (x:Nat)(b:UInt8):Nat:=mi 8 (x ^^^ b.toNat)
def oh (bs:List UInt8):Nat:=bs.foldl vI 4294967295
def jf (bs:List UInt8):Nat:=4294967295-oh bs
theorem WJ {x:Nat}(h:x<4294967296):sB x<4294967296:=by
 unfold sB;split
 ·exact Nat.xor_lt_two_pow (n:=32) (by show x/2<4294967296;omega) (by decide)
 ·omega
theorem zT {x:Nat}(h:x<4294967296):∀ k,mi k x<4294967296
 | 0=>h
 | k+1=>WJ (zT h k)
theorem WK {x:Nat}(b:UInt8)(h:x<4294967296):vI x b<4294967296:=by
 refine zT (Nat.xor_lt_two_pow (n:=32) h ?_) 8;have:=lF b;show b.toNat<4294967296;omega
theorem WL (bs:List UInt8):∀ {x:Nat},x<4294967296→bs.foldl vI x<4294967296:=by
 induction bs with
 | nil=>exact λh=>h
 | cons b bs ih=>exact λh=>ih (WK b h)
theorem zU (bs:List UInt8):oh bs<4294967296:=WL bs (by decide)
theorem DF (bs:List UInt8):jf bs<4294967296:=by unfold jf;omega
theorem Jp {bs:List UInt8}{i:Nat}(h:i<bs.length):oh (bs.take (i+1))=vI (oh (bs.take i)) bs[i]:=by
 rw[oh,iX h,foldl_append];rfl
theorem WM {x:Nat}(h:x<4294967296):IntKind.u32.wrap (((BitVec.ofInt IntKind.u32.bits (x:Int) &&& BitVec.ofInt IntKind.u32.bits 1).toNat:Nat):Int)=((x%2:Nat):Int):=by
 have h1:=WG (y:=1) h (by decide);rw[Nat.and_one_is_mod]at h1;exact h1
theorem WN {m:Nat}(h:m<2):IntKind.u32.wrap (0-(m:Int))=((if m=1 then 4294967295 else 0:Nat):Int):=by
 rcases (by omega:m=0∨m=1) with rfl | rfl <;> decide
theorem WO (m:Nat):IntKind.u32.wrap (((BitVec.ofInt IntKind.u32.bits 3988292384 &&& BitVec.ofInt IntKind.u32.bits ((if m=1 then 4294967295 else 0:Nat):Int)).toNat:Nat):Int)=((if m=1 then 3988292384 else 0:Nat):Int):=by
 by_cases h:m=1
 ·rw[ak h,ak h];decide
 ·rw[ae h,ae h];decide
theorem WQ {x m:Nat}(hx:x<4294967296):IntKind.u32.wrap (((BitVec.ofInt IntKind.u32.bits ((x/2:Nat):Int) ^^^ BitVec.ofInt IntKind.u32.bits ((if x%2=1 then 3988292384 else 0:Nat):Int)).toNat:Nat):Int)=((sB x:Nat):Int):=by
 rw[zS (by omega) (by split <;> decide),sB];split
 ·rfl
 ·rw[Nat.xor_zero]
theorem WR {x:Nat}(hx:x<4294967296):IntKind.u32.wrap (((BitVec.ofInt IntKind.u32.bits ((x/2:Nat):Int) ^^^ BitVec.ofInt IntKind.u32.bits 3988292384).toNat:Nat):Int)=((x/2 ^^^ 3988292384:Nat):Int):=zS (y:=3988292384) (by omega) (by decide)
def fc (x:Nat):List UInt8:=[UInt8.ofNat (x/16777216),UInt8.ofNat (x/65536),UInt8.ofNat (x/256),UInt8.ofNat x]
theorem WS (n:Nat):IntKind.u8.wrap (n:Int)=((UInt8.ofNat n).toNat:Int):=by
 rw[wrap_u8,UInt8.toNat_ofNat'];omega
def pc (x:Int):Nat:=(x%4294967296).toNat
theorem Jq (x:Int):IntKind.u32.wrap x=((pc x:Nat):Int):=by rw[wrap_u32,pc];omega
def gj (g:Nat→Int):List UInt8:=(List.range 32).flatMap λi=>fc (pc (g i))
def lG (g:Nat→Int)(n:Nat):List UInt8:=(List.range n).flatMap λi=>fc (pc (g i))
theorem DG (g:Nat→Int)(n:Nat):lG g (n+1)=lG g n++fc (pc (g n)):=by simp[lG,range_succ]
theorem qW (g:Nat→Int)(n:Nat):(lG g n).length=4*n:=by
 induction n with
 | zero=>rfl
 | succ n ih=>rw[DG,aL,ih];simp[fc];omega
theorem tY (g:Nat→Int):(gj g).length=128:=qW g 32
section
variable {W w:World}{L:List SP}{n c m:Nat}{ad:Option Addr}{bs:List UInt8}
theorem WU (I:U W w L)(hb:bs.length≤1099511627776)(hp:∀ V,U W V L→a6 V ad bs.length bs) :
   Calls prog 205 #[.int .u32 0,.slice ad bs.length c] w λe V=>e=.returned (.int .u32 (jf bs))∧U W V L:=by
 refine EN func205 ntmps205 rfl rfl λa E=>?_;refine RN 6 E I λa E=>?_;rw[show IntKind.u32.wrap ((BitVec.ofInt IntKind.u32.bits (if IntKind.u32.signed then -1 else IntKind.u32.max) ^^^ BitVec.ofInt IntKind.u32.bits 0).toNat:Int)=((oh (bs.take 0):Nat):Int) from rfl]at E;refine RN 5 E I λa E=>?_;refine aR (λμ a w=>∃ (i:Nat),(μ=bs.length-i∧i≤bs.length)∧Fr a 33 [(5,.int .u32 (oh (bs.take i))),(10,.slice ad bs.length c),(11,.int .i64 bs.length),(12,.int .i64 i)]∧U W w L) (bs.length) (⟨0,⟨rfl,by omega⟩,E.ab [5,10,11,12],I⟩) ?_;clear E I;rintro μ a w ⟨i,⟨rfl,hi⟩,E,I⟩;refine IF 3 E I (λaj a E=>?_) λaj a E=>?_
 ·
  obtain⟨bb,oo,rfl,hr⟩:=(hp _ I).get (by omega);have aJ:i<bs.length:=by omega
  have hx:=zU (bs.take i);have qe:=lF bs[i];refine RN 3 E I λa E=>?_;refine SS E (ag E (hr i _ (dO aJ))) λa E=>?_;refine SX 4 E I (by rw[wrap_u32];omega) λa E=>?_;refine RN 1 E I λa E=>?_;rw[zS hx (by omega)]at E;refine RN 3 E I λa E=>?_;have hy:oh (bs.take i) ^^^ bs[i].toNat<4294967296:=Nat.xor_lt_two_pow (n:=32) hx (by show _<4294967296;omega);have hL:=Jp aJ;rw[vI]at hL;generalize oh (bs.take i) ^^^ bs[i].toNat=y at E hy hL;refine aR (λμ a w=>∃ (k:Nat),(μ=8-k∧k≤8)∧Fr a 33 [(5,.int .u32 (mi k y)),(10,.slice (some ⟨bb,oo,none⟩) bs.length c),(11,.int .i64 bs.length),(12,.int .i64 i),(20,.int .i64 k)]∧U W w L) (8) (⟨0,⟨rfl,by omega⟩,E.ab [5,10,11,12,20],I⟩) ?_;clear E I;rintro μ a w ⟨k,⟨rfl,hk⟩,E,I⟩;refine IF 3 E I (λao a E=>?_) λao a E=>?_
  ·
   have zV:=zT hy k;refine RN 3 E I λa E=>?_;rw[show ((mi k y:Nat):Int).fdiv (2 ^ 1)=((mi k y/2:Nat):Int) from kI _ 2]at E;refine RN 2 E I λa E=>?_;rw[WM zV]at E;refine RN 1 E I λa E=>?_;rw[WN (Nat.mod_lt _ (by decide))]at E;refine RN 1 E I λa E=>?_;rw[WO]at E;refine RN 1 E I λa E=>?_;rw[WQ (m:=0) zV]at E;refine RN 3 E I λa E=>?_;exact⟨8-(k+1),by omega,k+1,⟨rfl,by omega⟩,E.ab [5,10,11,12,20],I⟩
  obtain rfl:k=8:=by omega
  rw[← hL]at E;refine RN 2 E I λa E=>?_;exact⟨bs.length-(i+1),by omega,i+1,⟨rfl,by omega⟩,E.ab [5,10,11,12],I⟩
 obtain rfl:i=bs.length:=by omega
 rw[take_length]at E;refine RN 3 E I λa E=>?_;rw[Jo (zU bs)]at E;refine RT 1 E I ?_;exact⟨rfl,I⟩
theorem Jr (I:U W w L)(hb:bs.length≤1099511627776)(hp:∀ V,U W V L→a6 V ad bs.length bs) :
   Calls prog 176 #[.slice ad bs.length c] w λe V=>e=.returned (.int .u32 (jf bs))∧U W V L:=by
 refine EN func176 ntmps176 rfl rfl λa E=>?_;refine CL 4 E I (WU I hb hp) λa w E I=>?_;refine RT 1 E I ?_;exact⟨rfl,I⟩
theorem Jt (I:U W w L)(hb:bs.length≤1099511627776)(hp:∀ V,U W V L→a6 V ad bs.length bs) :
   Calls prog 154 #[.slice ad bs.length c] w λe V=>e=.returned (.int .u32 (jf bs))∧U W V L:=by
 refine EN func154 ntmps154 rfl rfl λa E=>?_;refine RN 7 E I λa E=>?_;refine aR (λμ a w=>∃ (i:Nat),(μ=bs.length-i∧i≤bs.length)∧Fr a 33 [(0,.slice ad bs.length c),(3,.int .u32 (oh (bs.take i))),(4,.int .i64 i)]∧U W w L) (bs.length) (⟨0,⟨rfl,by omega⟩,E.ab [0,3,4],I⟩) ?_;clear E I;rintro μ a w ⟨i,⟨rfl,hi⟩,E,I⟩;refine IF 6 E I (λaj a E=>?_) λaj a E=>?_
 ·
  obtain⟨bb,oo,rfl,hr⟩:=(hp _ I).get (by omega);have aJ:i<bs.length:=by omega
  have hx:=zU (bs.take i);have qe:=lF bs[i];refine RN 6 E I λa E=>?_;refine SS E (ag E (hr i _ (dO aJ))) λa E=>?_;refine SX 0 E I (by rw[wrap_u32];omega) λa E=>?_;refine RN 1 E I λa E=>?_;rw[zS hx (by omega)]at E;refine RN 3 E I λa E=>?_;have hy:oh (bs.take i) ^^^ bs[i].toNat<4294967296:=Nat.xor_lt_two_pow (n:=32) hx (by show _<4294967296;omega);have hL:=Jp aJ;rw[vI]at hL;generalize oh (bs.take i) ^^^ bs[i].toNat=y at E hy hL;refine aR (λμ a w=>∃ (k:Nat),(μ=8-k∧k≤8)∧Fr a 33 [(0,.slice (some ⟨bb,oo,none⟩) bs.length c),(3,.int .u32 (mi k y)),(4,.int .i64 i),(5,.int .i64 k)]∧U W w L) (8) (⟨0,⟨rfl,by omega⟩,E.ab [0,3,4,5],I⟩) ?_;clear E I;rintro μ a w ⟨k,⟨rfl,hk⟩,E,I⟩;refine IF 4 E I (λao a E=>?_) λao a E=>?_
  ·
   have zV:=zT hy k;have nu:mi (k+1) y=sB (mi k y):=rfl;refine SX 3 E I (by decide) λa E=>?_;rw[show ((mi k y:Nat):Int).tmod 2=((mi k y%2:Nat):Int) from nP _ 2]at E;refine IF 1 E I (λay a E=>?_) λay a E=>?_
   ·
    rw[sB,ak (by omega)]at nu;refine RN 2 E I λa E=>?_;rw[show ((mi k y:Nat):Int).fdiv (2 ^ 1)=((mi k y/2:Nat):Int) from kI _ 2]at E;refine RN 1 E I λa E=>?_;rw[WR zV,← nu]at E;refine RN 4 E I λa E=>?_;exact⟨8-(k+1),by omega,k+1,⟨rfl,by omega⟩,E.ab [0,3,4,5],I⟩
   rw[sB,ae (by omega)]at nu;refine RN 2 E I λa E=>?_;rw[show ((mi k y:Nat):Int).fdiv (2 ^ 1)=((mi k y/2:Nat):Int) from kI _ 2,← nu]at E;refine RN 4 E I λa E=>?_;exact⟨8-(k+1),by omega,k+1,⟨rfl,by omega⟩,E.ab [0,3,4,5],I⟩
  obtain rfl:k=8:=by omega
  rw[← hL]at E;refine RN 3 E I λa E=>?_;exact⟨bs.length-(i+1),by omega,i+1,⟨rfl,by omega⟩,E.ab [0,3,4],I⟩
 obtain rfl:i=bs.length:=by omega
 rw[take_length]at E;refine RN 3 E I λa E=>?_;rw[Jo (zU bs)]at E;refine RT 1 E I ?_;exact⟨rfl,I⟩
theorem DH {x:Nat}:[[Value.int .u8 (IntKind.u8.wrap ((x/16777216:Nat):Int))],[Value.int .u8 (IntKind.u8.wrap ((x/65536:Nat):Int))],[Value.int .u8 (IntKind.u8.wrap ((x/256:Nat):Int))],[Value.int .u8 (IntKind.u8.wrap ((x:Nat):Int))]].flatten=bc (fc x):=by
 simp only[WS];rfl
theorem U.DI {b:Nat}{cs:List Value}{l:List UInt8}{e:Nat}(I:U W w (aa b e cs::L))(he:e=5)(hl:l.length=4)(h:cs=bc l):U W w (Sl 5 1 (some ⟨b,0,none⟩) 4 4 (bc l)::L):=by
 subst h;subst he;have h2:U W w (aa b 5 ([]++bc l++[])::L):=by simpa using I
 exact U.iG (pre:=[]) (post:=[]) (n:=4) (c:=4) (sz:=1) (cs:=bc l) h2 (by rw[dw,hl]) (bf _) (Nat.zero_le _)
theorem Ju {x:Nat}(I:U W w L) :
   Calls prog 337 #[.int .u32 x] w λe V=>∃ ad,e=.returned (.slice ad 4 4)∧U W V (Sl 5 1 ad 4 4 (bc (fc x))::L):=by
 refine EN func337 ntmps337 rfl rfl λa E=>?_;refine RN 5 E I λa E=>?_;rw[show ((x:Nat):Int).fdiv (2 ^ 24)=((x/16777216:Nat):Int) from kI _ 16777216]at E;refine SS E (gg E underlying100 underlying5) λa E=>?_;refine RN 2 E I λa E=>?_;rw[show ((x:Nat):Int).fdiv (2 ^ 16)=((x/65536:Nat):Int) from kI _ 65536]at E;refine SS E (gg E underlying100 underlying5) λa E=>?_;refine RN 2 E I λa E=>?_;rw[show ((x:Nat):Int).fdiv (2 ^ 8)=((x/256:Nat):Int) from kI _ 256]at E;refine SS E (gg E underlying100 underlying5) λa E=>?_;refine RN 1 E I λa E=>?_;refine SS E (gg E underlying100 underlying5) λa E=>?_;refine RN 0 E I λa E=>?_;refine cn E rfl I underlying22 Ty.t5 rfl rfl rfl rfl (by decide) (by decide) λeI a w E I ho=>?_;clear ho;refine RT 1 E I ?_;exact⟨_,rfl,I.DI rfl rfl DH⟩
theorem DJ {x:Nat}(I:U W w L) :
   Calls prog 158 #[.int .u32 x] w λe V=>∃ ad,e=.returned (.slice ad 4 4)∧U W V (Sl 5 1 ad 4 4 (bc (fc x))::L):=by
 refine EN func158 ntmps158 rfl rfl λa E=>?_;refine RN 5 E I λa E=>?_;rw[show ((x:Nat):Int).fdiv (2 ^ 24)=((x/16777216:Nat):Int) from kI _ 16777216]at E;refine SS E (gg E underlying100 underlying5) λa E=>?_;refine RN 2 E I λa E=>?_;rw[show ((x:Nat):Int).fdiv (2 ^ 16)=((x/65536:Nat):Int) from kI _ 65536]at E;refine SS E (gg E underlying100 underlying5) λa E=>?_;refine RN 2 E I λa E=>?_;rw[show ((x:Nat):Int).fdiv (2 ^ 8)=((x/256:Nat):Int) from kI _ 256]at E;refine SS E (gg E underlying100 underlying5) λa E=>?_;refine RN 1 E I λa E=>?_;refine SS E (gg E underlying100 underlying5) λa E=>?_;refine RN 0 E I λa E=>?_;refine cn E rfl I underlying22 Ty.t5 rfl rfl rfl rfl (by decide) (by decide) λeI a w E I ho=>?_;clear ho;refine RT 1 E I ?_;exact⟨_,rfl,I.DI rfl rfl DH⟩
theorem WV {x:Int}(I:U W w L) :
   Calls prog 206 #[.int .i32 x] w λe V=>∃ ad,e=.returned (.slice ad 4 4)∧U W V (Sl 5 1 ad 4 4 (bc (fc (pc x)))::L):=by
 refine EN func206 ntmps206 rfl rfl λa E=>?_;refine RN 4 E I λa E=>?_;refine SS E (gg E underlying21 underlying100) λa E=>?_;rw[Jq]at E;generalize pc x=x at E ⊢;refine RN 4 E I λa E=>?_;rw[show ((x:Nat):Int).fdiv (2 ^ 24)=((x/16777216:Nat):Int) from kI _ 16777216]at E;refine SS E (gg E underlying100 underlying5) λa E=>?_;refine RN 2 E I λa E=>?_;rw[show ((x:Nat):Int).fdiv (2 ^ 16)=((x/65536:Nat):Int) from kI _ 65536]at E;refine SS E (gg E underlying100 underlying5) λa E=>?_;refine RN 2 E I λa E=>?_;rw[show ((x:Nat):Int).fdiv (2 ^ 8)=((x/256:Nat):Int) from kI _ 256]at E;refine SS E (gg E underlying100 underlying5) λa E=>?_;refine RN 1 E I λa E=>?_;refine SS E (gg E underlying100 underlying5) λa E=>?_;refine RN 0 E I λa E=>?_;refine cn E rfl I underlying22 Ty.t5 rfl rfl rfl rfl (by decide) (by decide) λhZ a w E I ho=>?_;clear ho;refine RT 1 E I ?_;exact⟨_,rfl,I.DI rfl rfl DH⟩
end
end
end Go.Proofs.YteoldcfapaiobaaGreat
