/- The references' runes, titles, programs: the walks. -/
import Derived.Test.YteoldcfapaiobaaGreatB05Vm
import Derived.Test.YteoldcfapaiobaaGreatB04Job
import Derived.Test.YteoldcfapaiobaaGreatB01Row
import Derived.ProofKit
import Derived.Deep.Slices
import Derived.Deep.Strs
import Derived.ChangeSlices
import Derived.ChangeShapes
import Derived.DataShut
import Derived.Test.YteoldcfapaiobaaGreatB03Snap2
import Derived.Laws.StructEq
import Derived.ChangeKeysEq
import Derived.ChangeSame
namespace Go.Proofs.YteoldcfapaiobaaGreat
open Tryz
open List (all_eq_true getElem?_take getElem?_drop map_cons getElem_set_self eraseIdx_set_eq take_length append_nil ext_getElem? map_take range_succ foldl_append)
open Go.RowKit
set_option linter.unusedVariables false
set_option linter.unusedSimpArgs false
set_option maxRecDepth 10000
set_option synthInstance.maxSize 4000
set_option synthInstance.maxHeartbeats 400000
section
section
variable {W w:World}{L:List SP}{s:ByteArray}{p:Pr}{aq:Option Addr}{cO:Nat}
theorem Wu (s:ByteArray):s.extract 0 s.size=s:=by simp
theorem Wv {s:ByteArray}(h:0<s.size):(s.data.toList==(⟨#[]⟩:ByteArray).data.toList)=false:=by
 rw[lD];intro e;have h2:=congrArg List.length e;have h3:s.data.toList.length=s.size:=Array.length_toList;rw[h3]at h2;have h4:(⟨#[]⟩:ByteArray).data.toList.length=0:=rfl;omega
theorem zU {s:ByteArray}{j:Nat}(h:j<s.size):(s[j]'h).toNat=jU s j:=by rw[jU,DL h]
theorem Ww (I:U W w L)(h0:0<s.size):Calls prog 187 #[.string s] w λe V=>e=.returned (.tuple #[.int .i32 (Utf8.decode s 0).1,.int .i64 (Utf8.decode s 0).2])∧U W V L:=by
 obtain⟨b,hb⟩:∃ b,jU s 0=b:=⟨_,rfl⟩;have oO:=DP s 0;rw[hb]at oO;refine EN func187 ntmps187 rfl rfl λa E=>?_;refine RN 6 E I λa E=>?_;refine SS E (rS E) λa E=>?_;rw[Wv h0]at E;refine RN 0 E I λa E=>?_;replace E:=E.aK 10;refine RN 3 E I λa E=>?_;refine SS E (zc E underlying9 (by omega)) λa E=>?_;rw[zU h0,hb]at E;refine RN 5 E I λa E=>?_;refine cc (M:=λa w=>∃ n low r:Nat,DO b n low r∧Fr a 92 [(0,.string s),(5,.int .i64 n),(6,.int .i32 low),(7,.int .i32 r)]∧U W w L) ?_ ?_
 ·
  refine IF 4 E I (λao a E=>?_) λao a E=>?_
  ·
   refine SX 2 E I (hY (by omega) (by omega)) λa E=>?_;refine RT 2 E I ?_;exact⟨by rw[Wr hb (by omega)];rfl,I⟩
  refine BY 4 E I (λbA a E=>?_) λbA a E=>?_
  ·
   refine IF 4 E I (λaz a E=>?_) λaz a E=>?_
   ·
    refine SX 1 E I (hY (by omega) (by omega)) λa E=>?_;refine RN 1 E I λa E=>?_;obtain⟨r,hr⟩:∃ r,b=192+r:=⟨b-192,by omega⟩;rw[show IntKind.i32.wrap ((b:Int)-192)=(r:Nat) from by rw[hY (by omega) (by omega)];omega]at E;refine RN 3 E I λa E=>?_;exact⟨2,128,r,.inl ⟨hr,by omega,rfl,rfl⟩,E.ab [0,5,6,7],I⟩
   refine BY 4 E I (λbA a E=>?_) λbA a E=>?_
   ·
    refine IF 4 E I (λbh a E=>?_) λbh a E=>?_
    ·
     refine SX 1 E I (hY (by omega) (by omega)) λa E=>?_;refine RN 1 E I λa E=>?_;obtain⟨r,hr⟩:∃ r,b=224+r:=⟨b-224,by omega⟩;rw[show IntKind.i32.wrap ((b:Int)-224)=(r:Nat) from by rw[hY (by omega) (by omega)];omega]at E;refine RN 3 E I λa E=>?_;exact⟨3,2048,r,.inr (.inl ⟨hr,by omega,rfl,rfl⟩),E.ab [0,5,6,7],I⟩
    refine BY 4 E I (λbA a E=>?_) λbA a E=>?_
    ·
     refine IF 4 E I (λbQ a E=>?_) λbQ a E=>?_
     ·
      refine SX 1 E I (hY (by omega) (by omega)) λa E=>?_;refine RN 1 E I λa E=>?_;obtain⟨r,hr⟩:∃ r,b=240+r:=⟨b-240,by omega⟩;rw[show IntKind.i32.wrap ((b:Int)-240)=(r:Nat) from by rw[hY (by omega) (by omega)];omega]at E;refine RN 3 E I λa E=>?_;exact⟨4,65536,r,.inr (.inr ⟨hr,by omega,rfl,rfl⟩),E.ab [0,5,6,7],I⟩
     refine RT 3 E I ?_;exact⟨by rw[sy hb (by omega) (by omega)];rfl,I⟩
    refine RT 8 E I ?_;exact⟨by rw[sy hb (by omega) (by omega)];rfl,I⟩
   refine BY 9 E I (λbA a E=>?_) λbA a E=>?_
   ·
    refine IF 4 E I (λbQ a E=>?_) λbQ a E=>?_
    ·
     refine SX 1 E I (hY (by omega) (by omega)) λa E=>?_;refine RN 1 E I λa E=>?_;obtain⟨r,hr⟩:∃ r,b=240+r:=⟨b-240,by omega⟩;rw[show IntKind.i32.wrap ((b:Int)-240)=(r:Nat) from by rw[hY (by omega) (by omega)];omega]at E;refine RN 3 E I λa E=>?_;exact⟨4,65536,r,.inr (.inr ⟨hr,by omega,rfl,rfl⟩),E.ab [0,5,6,7],I⟩
    refine RT 3 E I ?_;exact⟨by rw[sy hb (by omega) (by omega)];rfl,I⟩
   refine RT 8 E I ?_;exact⟨by rw[sy hb (by omega) (by omega)];rfl,I⟩
  refine BY 9 E I (λbA a E=>?_) λbA a E=>?_
  ·
   refine IF 4 E I (λbh a E=>?_) λbh a E=>?_
   ·
    refine SX 1 E I (hY (by omega) (by omega)) λa E=>?_;refine RN 1 E I λa E=>?_;obtain⟨r,hr⟩:∃ r,b=224+r:=⟨b-224,by omega⟩;rw[show IntKind.i32.wrap ((b:Int)-224)=(r:Nat) from by rw[hY (by omega) (by omega)];omega]at E;refine RN 3 E I λa E=>?_;exact⟨3,2048,r,.inr (.inl ⟨hr,by omega,rfl,rfl⟩),E.ab [0,5,6,7],I⟩
   refine BY 4 E I (λbA a E=>?_) λbA a E=>?_
   ·
    refine IF 4 E I (λbQ a E=>?_) λbQ a E=>?_
    ·
     refine SX 1 E I (hY (by omega) (by omega)) λa E=>?_;refine RN 1 E I λa E=>?_;obtain⟨r,hr⟩:∃ r,b=240+r:=⟨b-240,by omega⟩;rw[show IntKind.i32.wrap ((b:Int)-240)=(r:Nat) from by rw[hY (by omega) (by omega)];omega]at E;refine RN 3 E I λa E=>?_;exact⟨4,65536,r,.inr (.inr ⟨hr,by omega,rfl,rfl⟩),E.ab [0,5,6,7],I⟩
    refine RT 3 E I ?_;exact⟨by rw[sy hb (by omega) (by omega)];rfl,I⟩
   refine RT 8 E I ?_;exact⟨by rw[sy hb (by omega) (by omega)];rfl,I⟩
  refine BY 9 E I (λbA a E=>?_) λbA a E=>?_
  ·
   refine IF 4 E I (λbQ a E=>?_) λbQ a E=>?_
   ·
    refine SX 1 E I (hY (by omega) (by omega)) λa E=>?_;refine RN 1 E I λa E=>?_;obtain⟨r,hr⟩:∃ r,b=240+r:=⟨b-240,by omega⟩;rw[show IntKind.i32.wrap ((b:Int)-240)=(r:Nat) from by rw[hY (by omega) (by omega)];omega]at E;refine RN 3 E I λa E=>?_;exact⟨4,65536,r,.inr (.inr ⟨hr,by omega,rfl,rfl⟩),E.ab [0,5,6,7],I⟩
   refine RT 3 E I ?_;exact⟨by rw[sy hb (by omega) (by omega)];rfl,I⟩
  refine RT 8 E I ?_;exact⟨by rw[sy hb (by omega) (by omega)];rfl,I⟩
 clear E;(try clear I);rintro a w ⟨n,low,r,hd,E,I⟩;refine RN 2 E I λa E=>?_;have o8:2≤n∧n≤4∧r<32:=by rcases hd with h | h | h <;> omega
 refine IF 4 E I (λeT a E=>?_) λeT a E=>?_
 ·
  refine RT 3 E I ?_;exact⟨by rw[DR hb hd (.inl (by omega))];rfl,I⟩
 refine RN 3 E I λa E=>?_;refine aP (λμ a w=>∃ (j:Nat),(μ=n-j∧j+1≤n∧∀ k,1≤k→k<j+1→jU s k/64=2)∧Fr a 92 [(0,.string s),(5,.int .i64 n),(6,.int .i32 low),(7,.int .i32 (gb s r j:Nat)),(8,.int .i64 ((j+1:Nat):Int))]∧U W w L) (n) (⟨0,⟨by simp,by omega,λk h1 h2=>by omega⟩,E.ab [0,5,6,7,8],I⟩) ?_;clear E I;rintro μ a w ⟨j,⟨rfl,hj,hO⟩,E,I⟩;refine IF 5 E I (λmU a E=>?_) λmU a E=>?_
 ·
  refine RN 3 E I λa E=>?_;have sB:j+1<s.size:=by omega
  have hbj:=DP s (j+1);refine RN 2 E I λa E=>?_;refine SS E (zc E underlying9 (by omega)) λa E=>?_;rw[zU sB]at E;refine BY 2 E I (λda a E=>?_) λda a E=>?_
  ·
   refine RT 9 E I ?_;exact⟨by rw[DR hb hd (.inr ⟨j+1,by omega,by omega,by omega⟩)];rfl,I⟩
  refine RN 2 E I λa E=>?_;refine bC E (cI E rfl (s:=61)) (zc E underlying9 (by omega)) rfl λa E=>?_;rw[zU sB]at E;refine IF 2 E I (λml a E=>?_) λml a E=>?_
  ·
   refine RT 3 E I ?_;exact⟨by rw[DR hb hd (.inr ⟨j+1,by omega,by omega,by omega⟩)];rfl,I⟩
  refine RN 0 E I λa E=>?_;have b9:=DQ (s:=s) o8.2.2 j;have qe:(64:Nat) ^ j≤64 ^ 2:=Nat.pow_le_pow_right (by omega) (by omega);refine RN 2 E I λa E=>?_;rw[hY (by omega) (by omega)]at E;refine RN 2 E I λa E=>?_;refine SS E (zc E underlying9 (by omega)) λa E=>?_;rw[zU sB]at E;refine SX 0 E I (hY (by omega) (by omega)) λa E=>?_;refine RN 1 E I λa E=>?_;rw[hY (by omega) (by omega)]at E;refine RN 1 E I λa E=>?_;rw[show IntKind.i32.wrap ((gb s r j:Nat)*64+(jU s (j+1):Nat)-128:Int)=(gb s r (j+1):Nat) from by rw[hY (by omega) (by omega),gb];omega]at E;refine RN 4 E I λa E=>?_;refine⟨n-(j+1),by omega,j+1,⟨rfl,by omega,λk h1 h2=>?_⟩,E.ab [0,5,6,7,8],I⟩;rcases Nat.lt_or_ge k (j+1) with h3 | h3
  ·exact hO k h1 h3
  ·obtain rfl:k=j+1:=by omega
   omega
 refine RN 2 E I λa E=>?_;obtain rfl:n=j+1:=by omega
 have o0:=Ws hb hd (by omega) hO;simp only[zR,Nat.add_sub_cancel]at o0;refine BY 4 E I (λbF a E=>?_) λbF a E=>?_
 ·
  refine RT 15 E I ?_;exact⟨by rw[o0.1 (by omega)];rfl,I⟩
 refine BY 4 E I (λiB a E=>?_) λiB a E=>?_
 ·
  refine RT 11 E I ?_;exact⟨by rw[o0.1 (by omega)];rfl,I⟩
 refine BY 3 E I (λlF a E=>?_) λlF a E=>?_
 ·
  refine IF 4 E I (λmm a E=>?_) λmm a E=>?_
  ·
   refine RT 3 E I ?_;exact⟨by rw[o0.1 (by omega)];rfl,I⟩
  refine RT 5 E I ?_;exact⟨by rw[o0.2 (by omega)],I⟩
 refine RT 10 E I ?_;exact⟨by rw[o0.2 (by omega)],I⟩
def RI (l:List (Nat×Nat)):List Value:=l.map λx=>.int .i32 x.1
theorem JF (I:U W w L)(aC:s.size≤1000000000):Calls prog 148 #[.string s] w λe V=>∃ ad c,e=.returned (.tuple #[.slice ad (ef s 0).length c,.bool ((ef s 0).all mg)]) ∧
   U W V (Sl 21 1 ad (ef s 0).length c (RI (ef s 0))::L):=by
 refine EN func148 ntmps148 rfl rfl λa E=>?_;refine RN 6 E I λa E=>?_;replace I:=I.bO 21 1 none;refine RN 2 E I λa E=>?_;refine aP (λμ a w=>∃ (pos:Nat) (dn:List (Nat×Nat)) (ad:Option Addr) (c:Nat),(μ=s.size-pos∧pos≤s.size∧dn.length≤pos∧ef s 0=dn++ef s pos)∧Fr a 34 [(0,.string (s.extract pos s.size)),(4,.slice ad dn.length c),(5,.bool (dn.all mg))]∧U W w (Sl 21 1 ad dn.length c (RI dn)::L)) (s.size) (⟨0,[],none,0,⟨by simp,by omega,by simp,rfl⟩,by rw[Wu];exact E.ab [0,4,5],I⟩) ?_;clear E I;rintro μ a w ⟨pos,dn,ad,c,⟨rfl,hp,mj,dc⟩,E,I⟩;refine RN 4 E I λa E=>?_;rw[qY]at E;refine IF 1 E I (λaj a E=>?_) λaj a E=>?_
 ·
  have gz:pos<s.size:=by omega
  have mS:=qQ gz;have hdp:=tJ s pos;have hdi:=IZ s pos gz;have DS:ec s pos=pos+(Utf8.decode s pos).2:=by rw[ec,al gz]
  refine CL 2 E I (Ww I (by rw[qY];omega)) λa w E I=>?_;rw[Wq]at E;refine RN 8 E I λa E=>?_;refine cp E rfl I underlying270 Ty.t21 rfl rfl rfl rfl (by decide) (by decide) λsC a w E I ho=>?_;clear ho;refine RN 0 E I λa E=>?_;refine cQ E rfl I underlying270 Ty.t21 rfl rfl I.ai rfl (by simp[Value.oneCell']) (by decide) (by decide) (by omega) λzV zW a w E I=>?_;refine RN 1 E I λa E=>?_;have o9:U W w (Sl 21 1 zV (dn++[Utf8.decode s pos]).length zW (RI (dn++[Utf8.decode s pos]))::L):=by
   have e1:(dn++[Utf8.decode s pos]).length=dn.length+1:=by simp
   have e2:RI (dn++[Utf8.decode s pos])=RI dn++[.int .i32 (Utf8.decode s pos).1]:=by simp[RI]
   rw[e1,e2];change U W w (Sl 21 1 zV (dn.length+1) zW (RI dn++[.int .i32 (Utf8.decode s pos).1])::_) at I;exact I.sub
  replace I:=o9;clear o9;refine RN 1 E I λa E=>?_;have qf:(dn++[Utf8.decode s pos]).all mg=(dn.all mg&&zS (Utf8.decode s pos)):=by rw[Wt];simp
  simp only[zS]at qf;refine BY 2 E I (λmV a E=>?_) λmV a E=>?_
  ·
   refine BY 3 E I (λda a E=>?_) λda a E=>?_
   ·
    refine RN 5 E I λa E=>?_;rw[mV,al (by omega)]at qf;refine RN 2 E I λa E=>?_;refine SS E (Cy E underlying9 (by rw[qY];omega)) λa E=>?_;rw[DM,← DS]at E;refine RN 1 E I λa E=>?_;have xN:(dn++[Utf8.decode s pos]).length=dn.length+1:=by simp
    refine⟨s.size-ec s pos,by omega,ec s pos,dn++[Utf8.decode s pos],_,_,⟨rfl,by omega,by omega,by rw[dc,mS,dA];rfl⟩,?_,I⟩;rw[xN,qf];exact E.ab [0,4,5]
   refine RN 5 E I λa E=>?_;rw[mV,ag (by omega),Bool.true_and,show decide ((Utf8.decode s pos).2=3)=decide (((Utf8.decode s pos).2:Int)=3) from decide_eq_decide.2 (by omega)]at qf;refine RN 2 E I λa E=>?_;refine SS E (Cy E underlying9 (by rw[qY];omega)) λa E=>?_;rw[DM,← DS]at E;refine RN 1 E I λa E=>?_;have xN:(dn++[Utf8.decode s pos]).length=dn.length+1:=by simp
   refine⟨s.size-ec s pos,by omega,ec s pos,dn++[Utf8.decode s pos],_,_,⟨rfl,by omega,by omega,by rw[dc,mS,dA];rfl⟩,?_,I⟩;rw[xN,qf];exact E.ab [0,4,5]
  refine RN 8 E I λa E=>?_;rw[mV,Bool.false_and]at qf;refine RN 2 E I λa E=>?_;refine SS E (Cy E underlying9 (by rw[qY];omega)) λa E=>?_;rw[DM,← DS]at E;refine RN 1 E I λa E=>?_;have xN:(dn++[Utf8.decode s pos]).length=dn.length+1:=by simp
  refine⟨s.size-ec s pos,by omega,ec s pos,dn++[Utf8.decode s pos],_,_,⟨rfl,by omega,by omega,by rw[dc,mS,dA];rfl⟩,?_,I⟩;rw[xN,qf];exact E.ab [0,4,5]
 refine RT 5 E I ?_;obtain rfl:pos=s.size:=by omega
 have lJ:=qR (s:=s) (pos:=s.size) (by omega);rw[lJ,append_nil]at dc;rw[dc];exact⟨_,_,rfl,I.sub⟩
theorem JG {l:List (Nat×Nat)}{i:Nat}{x:Nat×Nat}(h:l[i]?=some x):(RI l)[i]?=some (.int .i32 x.1):=by rw[RI,bn,h];rfl
theorem Wx (I:U W w L)(aC:s.size≤1000000000):Calls prog 107 #[.string s] w λe V=>e=.returned (.bool (o2 s))∧U W V L:=by
 have n2:o2 s=(decide (1≤(ef s 0).length)&&decide ((ef s 0).length≤20)&&(ef s 0).all kl&&(ef s 0).all mg):=rfl;have hS:=UP s s.size 0 (by omega);refine EN func107 ntmps107 rfl rfl λa E=>?_;refine a6 4 E I (JF I aC) λad c a w E I=>?_;generalize (ef s 0)=l at E I n2 hS;refine BY 10 E I (λbA a E=>?_) λbA a E=>?_
 ·
  refine RT 12 E I ?_;exact⟨by rw[n2,bA,Bool.and_false],I.sub⟩
 refine BY 5 E I (λiB a E=>?_) λiB a E=>?_
 ·
  refine RT 7 E I ?_;exact⟨by rw[n2,bq (by omega)];simp,I.sub⟩
 refine IF 4 E I (λaj a E=>?_) λaj a E=>?_
 ·
  refine RT 2 E I ?_;exact⟨by rw[n2,bq (p:=l.length≤20) (by omega)];simp,I.sub⟩
 refine RN 3 E I λa E=>?_;refine aP (λμ a w=>∃ i:Nat,(μ=l.length-i∧i≤l.length∧∀ j x,j<i→l[j]?=some x→kl x=true)∧Fr a 41 [(3,.slice ad l.length c),(5,.int .i64 i)]∧U W w (Sl 21 1 ad l.length c (RI l)::L)) (l.length) (⟨0,⟨by simp,by simp,λj x h=>absurd h (by omega)⟩,E.ab [3,5],I⟩) ?_;clear E I;rintro μ a w ⟨i,⟨rfl,hi,cF⟩,E,I⟩;refine IF 6 E I (λao a E=>?_) λao a E=>?_
 ·
  obtain⟨b,o,rfl,dk⟩:=I.bW ad (by omega);obtain⟨x,hx⟩:∃ x,l[i]?=some x:=⟨_,aF (by omega)⟩;have l8:=dk i _ (JG hx);refine RN 5 E I λa E=>?_;refine SS E (ae E (l8)) λa E=>?_;refine BY 2 E I (λiQ a E=>?_) λiQ a E=>?_
  ·
   refine RT 9 E I ?_;refine⟨?_,I.sub⟩;have pa:kl x=false:=by
    simp only[kl,Bool.and_eq_false_iff,decide_eq_false_iff_not];omega
   have hO:l.all kl=false:=by rw[List.all_eq_false];exact⟨x,bJ hx,by rw[pa];decide⟩
   rw[n2,hO];simp
  refine RN 3 E I λa E=>?_;refine bC E (cI E rfl (s:=34)) (ae E (l8)) rfl λa E=>?_;refine IF 2 E I (λaz a E=>?_) λaz a E=>?_
  ·
   refine RT 2 E I ?_;refine⟨?_,I.sub⟩;have pa:kl x=false:=by
    simp only[kl,Bool.and_eq_false_iff,decide_eq_false_iff_not];omega
   have hO:l.all kl=false:=by rw[List.all_eq_false];exact⟨x,bJ hx,by rw[pa];decide⟩
   rw[n2,hO];simp
  refine RN 3 E I λa E=>?_;refine⟨l.length-(i+1),by omega,i+1,⟨rfl,by omega,λj y hj hy=>?_⟩,E.ab [3,5],I.sub⟩;rcases Nat.lt_or_ge j i with h | h
  ·exact cF j y h hy
  ·obtain rfl:j=i:=by omega
   rw[hx]at hy;cases hy;simp only[kl,fC,decide_eq_true_eq];omega
 refine RT 2 E I ?_;refine⟨?_,I.sub⟩;have hO:l.all kl=true:=by
  rw[all_eq_true];intro x hx;obtain⟨j,hj⟩:=jM.1 hx;exact cF j x (by have:=(a8.1 hj).1;omega) hj
 rw[n2,hO,bA,dq (p:=1≤l.length) (by omega),dq (p:=l.length≤20) (by omega)];rfl
theorem zX {x:Int}(I:U W w L):Calls prog 108 #[.int .i64 x] w λe V=>∃ r:Bool,e=.returned (.bool r)∧(r=true↔du x)∧U W V L:=by
 simp only[du];refine EN func108 ntmps108 rfl rfl λa E=>?_;refine BY 6 E I (λbA a E=>?_) λbA a E=>?_
 ·
  refine RT 4 E I ?_;exact⟨_,rfl,by rw[cr];omega,I⟩
 refine RT 4 E I ?_;exact⟨_,rfl,⟨λh=>(by cases h),λh=>by omega⟩,I⟩
theorem Wy {p:Pr}(I:U W w (ay W p aq cO::L))(aC:p.title.size≤1000000000)(cS:p.ops.length≤1000000000) :
   Calls prog 68 #[.agg (bw p aq cO).toArray] w λe V=>∃ r:Bool,e=.returned (.bool r)∧(r=true↔vw p)∧U W V (ay W p aq cO::L):=by
 refine EN func68 ntmps68 rfl rfl λa E=>?_;refine BX 1 E I λb1 a w E I=>?_;change U W w (aa b1 45 (bw p aq cO)::_) at I;refine CL 5 E I (Wx I aC) λa w E I=>?_;refine BY 2 E I (λda a E=>?_) λda a E=>?_
 ·
  refine RT 14 E I ?_;exact⟨false,rfl,⟨λh=>(by cases h),λh=>by rw[h.1]at da;cases da⟩,I.sub⟩
 have Wz:o2 p.title=true:=by simpa using da
 refine BY 6 E I (λlF a E=>?_) λlF a E=>?_
 ·
  refine RT 8 E I ?_;exact⟨false,rfl,⟨λh=>(by cases h),λh=>by have:=h.2.1;omega⟩,I.sub⟩
 refine IF 5 E I (λaj a E=>?_) λaj a E=>?_
 ·
  refine RT 2 E I ?_;exact⟨false,rfl,⟨λh=>(by cases h),λh=>by have:=h.2.2.1;omega⟩,I.sub⟩
 refine RN 3 E I λa E=>?_;refine aP (λμ a w=>∃ i:Nat,(μ=p.ops.length-i∧i≤p.ops.length∧∀ j o,j<i→p.ops[j]?=some o→qS o)∧Fr a 55 [(1,pt b1),(3,.int .i64 i)]∧U W w (aa b1 45 (bw p aq cO)::ay W p aq cO::L)) (p.ops.length) (⟨0,⟨by simp,by simp,λj o h=>absurd h (by omega)⟩,E.ab [1,3],I.sub⟩) ?_;clear E I;rintro μ a w ⟨i,⟨rfl,hi,cF⟩,E,I⟩;refine IF 7 E I (λao a E=>?_) λao a E=>?_
 ·
  obtain⟨o,ho⟩:∃ o,p.ops[i]?=some o:=⟨_,aF (by omega)⟩;obtain⟨kI,oo,rfl,gA⟩:=I.qT aq (by omega);refine RN 6 E I λa E=>?_;refine SS E (bR E underlying114 rfl Ty.t114 (vx gA ho)) λa E=>?_;refine AL 0 E I λb4 a w E I=>?_;refine SA 0 E I λa w E I=>?_;refine aR 3 E I (zX I) λr1 a w E ⟨ep,I⟩=>?_;refine BY 2 E I (λda a E=>?_) λda a E=>?_
  ·
   have jP:¬ qS o:=λh=>by rw[ep.2 h.1]at da;cases da
   refine RT 20 E I ?_;exact⟨false,rfl,⟨λh=>(by cases h),λh=>absurd (h.2.2.2 o (bJ ho)) jP⟩,I.sub⟩
  refine aR 2 E I (zX I) λr2 a w E ⟨ee,I⟩=>?_;refine BY 3 E I (λlF a E=>?_) λlF a E=>?_
  ·
   have jP:¬ qS o:=λh=>by rw[ee.2 h.2.1]at lF;cases lF
   refine RT 14 E I ?_;exact⟨false,rfl,⟨λh=>(by cases h),λh=>absurd (h.2.2.2 o (bJ ho)) jP⟩,I.sub⟩
  refine aR 2 E I (zX I) λr3 a w E ⟨gT,I⟩=>?_;refine BY 3 E I (λtU a E=>?_) λtU a E=>?_
  ·
   have jP:¬ qS o:=λh=>by rw[gT.2 h.2.2.1]at tU;cases tU
   refine RT 8 E I ?_;exact⟨false,rfl,⟨λh=>(by cases h),λh=>absurd (h.2.2.2 o (bJ ho)) jP⟩,I.sub⟩
  refine aR 2 E I (zX I) λJH a w E ⟨mW,I⟩=>?_;refine IF 2 E I (λaz a E=>?_) λaz a E=>?_
  ·
   have jP:¬ qS o:=λh=>by rw[mW.2 h.2.2.2]at az;cases az
   refine RT 2 E I ?_;exact⟨false,rfl,⟨λh=>(by cases h),λh=>absurd (h.2.2.2 o (bJ ho)) jP⟩,I.sub⟩
  have DT:qS o:=⟨ep.1 (by simpa using da),ee.1 (by simpa using lF),gT.1 (by simpa using tU),mW.1 (by simpa using az)⟩;refine RN 3 E I λa E=>?_;refine⟨p.ops.length-(i+1),by omega,i+1,⟨rfl,by omega,λj o' hj j7=>?_⟩,E.ab [1,3],I.sub⟩;rcases Nat.lt_or_ge j i with h | h
  ·exact cF j o' h j7
  ·obtain rfl:j=i:=by omega
   rw[ho]at j7;cases j7;exact DT
 refine RT 2 E I ?_;refine⟨true,rfl,⟨λ_=>⟨Wz,by omega,by omega,λo ho=>?_⟩,λ_=>rfl⟩,I.sub⟩;obtain⟨j,hj⟩:=jM.1 ho;exact cF j o (by have:=(a8.1 hj).1;omega) hj
theorem WA:∀ m:Nat,m≤15→(([[.int .i64 0],[.int .i64 2],[.int .i64 2],[.int .i64 3],[.int .i64 3],[.int .i64 3],[.int .i64 3],[.int .i64 3],[.int .i64 3],[.int .i64 1],[.int .i64 2],[.int .i64 2],[.int .i64 2],[.int .i64 2],[.int .i64 2],[.int .i64 1]].flatten:List Value))[m]?=some (.int .i64 (vI (m:Int)))
 | 0,_=>rfl
 | 1,_=>rfl
 | 2,_=>rfl
 | 3,_=>rfl
 | 4,_=>rfl
 | 5,_=>rfl
 | 6,_=>rfl
 | 7,_=>rfl
 | 8,_=>rfl
 | 9,_=>rfl
 | 10,_=>rfl
 | 11,_=>rfl
 | 12,_=>rfl
 | 13,_=>rfl
 | 14,_=>rfl
 | 15,_=>rfl
 | n+16,h=>absurd h (by omega)
theorem WB {k:Int}(I:U W w L)(hk:0≤k∧k≤15):Calls prog 109 #[.int .i64 k] w λe V=>e=.returned (.int .i64 (vI k))∧U W V L:=by
 obtain⟨m,rfl⟩:∃ m:Nat,k=m:=⟨k.toNat,by omega⟩;have hm:m≤15:=by omega
 refine EN func109 ntmps109 rfl rfl λa E=>?_;refine RN 3 E I λa E=>?_;refine cp E rfl I underlying53 Ty.t3 rfl rfl rfl rfl (by decide) (by decide) λb4 a w E I ho=>?_;clear ho;refine RN 5 E I λa E=>?_;refine SS E (ae E ((I.bz (WA m hm)))) λa E=>?_;refine RT 1 E I ?_;exact⟨rfl,I.sub⟩
theorem JI {o:gy}:∀ k:Nat,k<3→([[.int .i64 o.a],[.int .i64 o.b],[.int .i64 o.c]].flatten:List Value)[k]?=some (.int .i64 (zT o k))
 | 0,_=>rfl
 | 1,_=>rfl
 | 2,_=>rfl
 | n+3,h=>absurd h (by omega)
theorem WD {n:Nat}{o:gy}(I:U W w L):Calls prog 69 #[.agg (dP o).toArray,.int .i64 n] w λe V=>∃ r:Bool,e=.returned (.bool r)∧(r=true↔eZ n o)∧U W V L:=by
 refine EN func69 ntmps69 rfl rfl λa E=>?_;refine BX 1 E I λb2 a w E I=>?_;change U W w (aa b2 114 (dP o)::_) at I;refine BY 7 E I (λbF a E=>?_) λbF a E=>?_
 ·
  refine RT 7 E I ?_;exact⟨false,rfl,⟨λh=>(by cases h),λh=>by have:=(xM.1 h).1;omega⟩,I.sub⟩
 refine IF 4 E I (λaj a E=>?_) λaj a E=>?_
 ·
  refine RT 2 E I ?_;exact⟨false,rfl,⟨λh=>(by cases h),λh=>by have:=(xM.1 h).1;omega⟩,I.sub⟩
 refine RN 7 E I λa E=>?_;refine cp E rfl I underlying53 Ty.t3 rfl rfl rfl rfl (by decide) (by decide) λtV a w E I ho=>?_;clear ho;refine RN 4 E I λa E=>?_;refine aP (λμ a w=>∃ k:Nat,(μ=3-k∧k≤3∧∀ j,j<k→qZ n o j)∧Fr a 68 [(1,.int .i64 n),(2,pt b2),(5,.slice (some ⟨tV,0,none⟩) 3 3),(6,.int .i64 k)]∧U W w (aa tV 3 [[.int .i64 o.a],[.int .i64 o.b],[.int .i64 o.c]].flatten::aa b2 114 (dP o)::L)) (3) (⟨0,⟨by simp,by simp,λj h=>absurd h (by omega)⟩,E.ab [1,2,5,6],I.sub⟩) ?_;clear E I;rintro μ a w ⟨k,⟨rfl,hk,cF⟩,E,I⟩;refine IF 4 E I (λao a E=>?_) λao a E=>?_
 ·
  refine RN 3 E I λa E=>?_;refine cc (M:=λa w=>(vI o.code≤k∨¬ (o.code=1∧k=1))∧Fr a 68 [(1,.int .i64 n),(2,pt b2),(5,.slice (some ⟨tV,0,none⟩) 3 3),(6,.int .i64 k),(7,.int .i64 (jV n o k))]∧U W w (aa tV 3 [[.int .i64 o.a],[.int .i64 o.b],[.int .i64 o.c]].flatten::aa b2 114 (dP o)::L)) ?_ ?_
  ·
   refine CL 4 E I (WB I (by omega)) λa w E I=>?_;refine IF 2 E I (λaz a E=>?_) λaz a E=>?_
   ·
    refine RN 1 E I λa E=>?_;refine⟨.inl (by omega),?_,I.sub⟩;rw[show jV n o k=0 from al (by omega)];exact E.ab [1,2,5,6,7]
   refine BY 5 E I (λbF a E=>?_) λbF a E=>?_
   ·
    refine IF 4 E I (λbh a E=>?_) λbh a E=>?_
    ·
     refine RN 3 E I λa E=>?_;refine⟨3-(k+1),by omega,k+1,⟨rfl,by omega,λj hj=>?_⟩,E.ab [1,2,5,6],I.sub⟩;rcases Nat.lt_or_ge j k with h | h
     ·exact cF j h
     ·obtain rfl:j=k:=by omega
      exact .inl ⟨by omega,by omega,by omega⟩
    refine BY 5 E I (λbF a E=>?_) λbF a E=>?_
    ·
     refine RN 12 E I λa E=>?_;refine⟨.inr (by omega),?_,I.sub⟩;rw[show jV n o k=n from by rw[jV,ag (by omega),al (by omega)]];exact E.ab [1,2,5,6,7]
    refine BY 4 E I (λiB a E=>?_) λiB a E=>?_
    ·
     refine IF 5 E I (λbQ a E=>?_) λbQ a E=>?_
     ·
      refine RN 2 E I λa E=>?_;refine⟨.inr (by omega),?_,I.sub⟩;rw[show jV n o k=n from by rw[jV,ag (by omega),al (by omega)]];exact E.ab [1,2,5,6,7]
     refine RN 0 E I λa E=>?_;refine⟨.inr (by omega),?_,I.sub⟩;rw[show jV n o k=31 from by rw[jV,ag (by omega),ag (by omega)]];exact E.ab [1,2,5,6,7]
    refine RN 6 E I λa E=>?_;refine⟨.inr (by omega),?_,I.sub⟩;rw[show jV n o k=31 from by rw[jV,ag (by omega),ag (by omega)]];exact E.ab [1,2,5,6,7]
   refine BY 10 E I (λbF a E=>?_) λbF a E=>?_
   ·
    refine RN 12 E I λa E=>?_;refine⟨.inr (by omega),?_,I.sub⟩;rw[show jV n o k=n from by rw[jV,ag (by omega),al (by omega)]];exact E.ab [1,2,5,6,7]
   refine BY 4 E I (λiB a E=>?_) λiB a E=>?_
   ·
    refine IF 5 E I (λbQ a E=>?_) λbQ a E=>?_
    ·
     refine RN 2 E I λa E=>?_;refine⟨.inr (by omega),?_,I.sub⟩;rw[show jV n o k=n from by rw[jV,ag (by omega),al (by omega)]];exact E.ab [1,2,5,6,7]
    refine RN 0 E I λa E=>?_;refine⟨.inr (by omega),?_,I.sub⟩;rw[show jV n o k=31 from by rw[jV,ag (by omega),ag (by omega)]];exact E.ab [1,2,5,6,7]
   refine RN 6 E I λa E=>?_;refine⟨.inr (by omega),?_,I.sub⟩;rw[show jV n o k=31 from by rw[jV,ag (by omega),ag (by omega)]];exact E.ab [1,2,5,6,7]
  clear E;(try clear I);rintro a w ⟨CO,E,I⟩;refine RN 4 E I λa E=>?_;refine SS E (ae E ((I.bz (JI k (by omega))))) λa E=>?_;refine BY 2 E I (λiQ a E=>?_) λiQ a E=>?_
  ·
   refine RT 10 E I ?_;refine⟨false,rfl,⟨λh=>(by cases h),λh=>?_⟩,I.sub⟩;have ca:qZ n o k:=by
    obtain⟨_,h0,h1,h2⟩:=xM.1 h;rcases (by omega:k=0∨k=1∨k=2) with rfl | rfl | rfl
    ·exact h0
    ·exact h1
    ·exact h2
   simp only[qZ]at ca;omega
  refine RN 3 E I λa E=>?_;refine bC E (cI E rfl (s:=60)) (ae E ((I.bz (JI k (by omega))))) rfl λa E=>?_;refine IF 3 E I (λeT a E=>?_) λeT a E=>?_
  ·
   refine RT 2 E I ?_;refine⟨false,rfl,⟨λh=>(by cases h),λh=>?_⟩,I.sub⟩;have ca:qZ n o k:=by
    obtain⟨_,h0,h1,h2⟩:=xM.1 h;rcases (by omega:k=0∨k=1∨k=2) with rfl | rfl | rfl
    ·exact h0
    ·exact h1
    ·exact h2
   simp only[qZ]at ca;omega
  refine RN 3 E I λa E=>?_;refine⟨3-(k+1),by omega,k+1,⟨rfl,by omega,λj hj=>?_⟩,E.ab [1,2,5,6],I.sub⟩;rcases Nat.lt_or_ge j k with h | h
  ·exact cF j h
  ·obtain rfl:j=k:=by omega
   exact .inr ⟨by omega,by omega⟩
 refine RT 2 E I ?_;exact⟨true,rfl,⟨λ_=>xM.2 ⟨by omega,cF 0 (by omega),cF 1 (by omega),cF 2 (by omega)⟩,λ_=>rfl⟩,I.sub⟩
theorem JJ {p:Pr}(I:U W w (ay W p aq cO::L))(aC:p.title.size≤1000000000)(cS:p.ops.length≤1000000000) :
   Calls prog 48 #[.agg (bw p aq cO).toArray] w λe V=>∃ r:Int,e=.returned (.int .i64 r)∧(r = -1↔db p)∧U W V (ay W p aq cO::L):=by
 refine EN func48 ntmps48 rfl rfl λa E=>?_;refine BX 1 E I λb1 a w E I=>?_;change U W w (aa b1 45 (bw p aq cO)::_) at I;refine aR 4 E I (Wy (I.pick (ay W p aq cO)) aC cS) λr a w E ⟨hr,I⟩=>?_;refine IF 1 E I (λaj a E=>?_) λaj a E=>?_
 ·
  have WE:¬ vw p:=λh=>by rw[hr.2 h]at aj;cases aj
  refine RT 2 E I ?_;exact⟨-2,rfl,⟨λh=>absurd h (by decide),λh=>absurd h.1 WE⟩,I.sub⟩
 have lH:vw p:=hr.1 (by simpa using aj);refine RN 3 E I λa E=>?_;refine aP (λμ a w=>∃ i:Nat,(μ=p.ops.length-i∧i≤p.ops.length∧∀ j o,j<i→p.ops[j]?=some o→eZ p.ops.length o)∧Fr a 25 [(1,pt b1),(3,.int .i64 i)]∧U W w (aa b1 45 (bw p aq cO)::ay W p aq cO::L)) (p.ops.length) (⟨0,⟨by simp,by simp,λj o h=>absurd h (by omega)⟩,E.ab [1,3],I.sub⟩) ?_;clear E I;rintro μ a w ⟨i,⟨rfl,hi,cF⟩,E,I⟩;refine IF 7 E I (λao a E=>?_) λao a E=>?_
 ·
  refine RN 2 E I λa E=>?_;obtain⟨o,ho⟩:∃ o,p.ops[i]?=some o:=⟨_,aF (by omega)⟩;obtain⟨kI,oo,rfl,gA⟩:=I.drew.qT aq (by omega);have fe:=vx gA ho;refine qJ 0 (λV=>Rd V b1 0 (bw p (some ⟨kI,oo,none⟩) cO)∧Rd V kI (oo+i*4) (dP o)) [6,7] [0,2,5,3001,3,3004,1006,1007,1008,9] E I λa E=>?_;replace I:=I.drew;generalize w.drew=w at I fe ⊢;have hC:Rd w b1 0 (bw p (some ⟨kI,oo,none⟩) cO)∧Rd w kI (oo+i*4) (dP o):=⟨I.ai,fe⟩;have hH:=Hd.any (λV=>Rd V b1 0 (bw p (some ⟨kI,oo,none⟩) cO)∧Rd V kI (oo+i*4) (dP o));refine RH 3 E I hH hC λa E=>?_;refine QH E (λw hc=>ae E (hc.1 1 _ rfl)) hC λa E=>?_;refine RH 1 E I hH hC λa E=>?_;refine QH E (λw hc=>bR E underlying114 rfl Ty.t114 (hc.2)) hC λa E=>?_;refine RH 0 E I hH hC λa E=>?_;refine SS E (ae E (hC.1 1 _ rfl)) λa E=>?_;refine RH 1 E I hH hC λa E=>?_;refine aR 0 E I (WD (n:=p.ops.length) (o:=o) I) λr a w E ⟨hr,I⟩=>?_;refine RN 1 E I λa E=>?_;refine IF 0 E I (λaz a E=>?_) λaz a E=>?_
  ·
   have bX:¬ eZ p.ops.length o:=λh=>by rw[hr.2 h]at az;cases az
   refine RT 3 E I ?_;exact⟨i,rfl,⟨λh=>absurd h (by omega),λh=>absurd (h.2 o (bJ ho)) bX⟩,I.sub⟩
  have dt:eZ p.ops.length o:=hr.1 (by simpa using az);refine RN 3 E I λa E=>?_;refine⟨p.ops.length-(i+1),by omega,i+1,⟨rfl,by omega,λj o' hj j7=>?_⟩,E.ab [1,3],I.sub⟩;rcases Nat.lt_or_ge j i with h | h
  ·exact cF j o' h j7
  ·obtain rfl:j=i:=by omega
   rw[ho]at j7;cases j7;exact dt
 refine RT 2 E I ?_;refine⟨-1,rfl,⟨λ_=>⟨lH,λo ho=>?_⟩,λ_=>rfl⟩,I.sub⟩;obtain⟨j,hj⟩:=jM.1 ho;exact cF j o (by have:=(a8.1 hj).1;omega) hj
end
end
section
theorem zY {x y:Int}(h1:-2147483648≤y)(h2:y≤2147483647)(h3:x%4294967296=y%4294967296):hX x=y:=by
 simp only[hX,IntKind.wrap,IntKind.signed,IntKind.bits];simp;split <;> omega
section
variable {W w:World}{L:List SP}{p:Pr}{aq adP:Option Addr}{cO cP:Nat}{b:List UInt8}{g:Nat→Int}{fr:Int}
theorem xO {x:Int}(I:U W w L)(h1:-9223372036854775808≤x)(h2:x≤9223372036854775807):Calls prog 151 #[.int .i64 x] w λe V=>e=.returned (.int .i32 (hX x))∧U W V L:=by
 have lK:=Int.tmod_lt_of_pos x (b:=4294967296) (by decide);have ia:=Int.lt_tmod_of_pos x (b:=4294967296) (by decide);have xP:(x.tmod 4294967296)%4294967296=x%4294967296:=by
  rw[Int.tmod_eq_emod];split <;> omega
 refine EN func151 ntmps151 rfl rfl λa E=>?_;refine IF 10 E I (λaj a E=>?_) λaj a E=>?_
 ·
  refine IF 7 E I (λao a E=>?_) λao a E=>?_
  ·
   refine SX 5 E I (hY (by omega) (by omega)) λa E=>?_;refine RT 1 E I ?_;exact⟨by rw[zY (y:=x.tmod 4294967296+4294967296-4294967296) (by omega) (by omega) (by omega)],I⟩
  refine SX 2 E I (hY (by omega) (by omega)) λa E=>?_;refine RT 1 E I ?_;exact⟨by rw[zY (y:=x.tmod 4294967296+4294967296) (by omega) (by omega) (by omega)],I⟩
 refine IF 4 E I (λao a E=>?_) λao a E=>?_
 ·
  refine SX 5 E I (hY (by omega) (by omega)) λa E=>?_;refine RT 1 E I ?_;exact⟨by rw[zY (y:=x.tmod 4294967296-4294967296) (by omega) (by omega) (by omega)],I⟩
 refine SX 2 E I (hY (by omega) (by omega)) λa E=>?_;refine RT 1 E I ?_;exact⟨by rw[zY (y:=x.tmod 4294967296) (by omega) (by omega) (by omega)],I⟩
theorem JK {x:Int}(I:U W w L)(hx:du x):Calls prog 150 #[.int .i32 x,.int .i64 32] w λe V=>e=.returned (.int .i64 (km x))∧U W V L:=by
 have h1:=Int.tmod_lt_of_pos x (b:=32) (by decide);have h2:=Int.lt_tmod_of_pos x (b:=32) (by decide);have hm:(km x:Int)=x%32:=by
  have h1:=Int.emod_nonneg x (show (32:Int)≠0 by decide);show (((x%32).toNat:Nat):Int)=_;omega
 have ht:x.tmod 32=if 0≤x then x%32 else -((-x)%32):=by
  split
  ·exact Int.tmod_eq_emod_of_nonneg (by omega)
  ·rw[← Int.neg_neg (x.tmod 32),← Int.neg_tmod,Int.tmod_eq_emod_of_nonneg (by omega)]
 simp only[du]at hx;refine EN func150 ntmps150 rfl rfl λa E=>?_;refine RN 6 E I λa E=>?_;replace E:=E.aK 7;refine SX 3 E I (gi (by omega) (by omega)) λa E=>?_;refine IF 7 E I (λao a E=>?_) λao a E=>?_
 ·
  refine RN 4 E I λa E=>?_;rw[show x.tmod 32+32=(km x:Int) from by rw[hm,ht];split <;> omega]at E;refine RT 3 E I ?_;exact⟨rfl,I⟩
 refine RT 3 E I ?_;exact⟨by rw[hm,show x.tmod 32=x%32 from by rw[ht] at *;split at*<;> omega],I⟩
theorem WG {x:Int}(I:U W w L)(hx:du x)(hb:b.length≤1099511627776)(hp:∀ V,U W V L→aQ V adP b.length b) :
   Calls prog 149 #[.slice adP b.length cP,.int .i32 x] w λe V=>e=.returned (.int .i32 (mh b x))∧U W V L:=by
 simp only[du]at hx;refine EN func149 ntmps149 rfl rfl λa E=>?_;refine BY 7 E I (λbA a E=>?_) λbA a E=>?_
 ·
  refine RT 9 E I ?_;exact⟨by rw[mh,ag (by omega)],I⟩
 refine SX 1 E I (by rw[gi (by omega) (by omega)]) λa E=>?_;refine IF 4 E I (λaj a E=>?_) λaj a E=>?_
 ·
  refine RT 2 E I ?_;exact⟨by rw[mh,ag (by omega)],I⟩
 refine RN 1 E I λa E=>?_;obtain⟨k,hk⟩:∃ k:Nat,x=(k:Int):=⟨x.toNat,by omega⟩;obtain⟨_,_,a7⟩:=hp _ I;have xG:k<b.length:=by omega
 obtain⟨bp,op,gR,dk⟩:∃ bp op,adP=some ⟨bp,op,none⟩∧Rd w bp op (bc b):=by
  cases hh:adP with
  | none =>
   have:=(hp _ I).2.1 hh;omega
  | some a =>
   obtain⟨b1,o1,rfl,h1⟩:=a7 a hh (by omega);exact⟨b1,o1,rfl,h1⟩
 rw[hk]at E;refine RN 1 E I λa E=>?_;rw[gR]at E;refine RN 2 E I λa E=>?_;refine SS E (ae E (dk k (.int .u8 b[k].toNat) (by simp[bc,xG]))) λa E=>?_;refine SX 0 E I (by have:=b[k].toNat_lt;exact hY (by omega) (by omega)) λa E=>?_;refine RT 1 E I ?_;refine⟨?_,I⟩;rw[mh,al (by omega),hk,Int.toNat_natCast,bl,aF xG];rfl
theorem WH {x y:Int}(I:U W w L)(hx:du x)(hy:du y):Calls prog 188 #[.int .i32 x,.int .i32 y] w λe V=>e=.returned (.int .i32 (if y=0 then 0 else hX (x.tdiv y)))∧U W V L:=by
 simp only[du]at hx hy;have hq:y≠0 → -9223372036854775808≤x.tdiv y∧x.tdiv y≤9223372036854775807:=λh=>by
  have h1:(x.tdiv y).natAbs≤x.natAbs:=by rw[Int.natAbs_tdiv];exact Nat.div_le_self _ _
  omega
 refine EN func188 ntmps188 rfl rfl λa E=>?_;refine IF 6 E I (λaj a E=>?_) λaj a E=>?_
 ·
  refine RT 2 E I ?_;exact⟨by rw[al aj],I⟩
 refine SX 2 E I (gi (by omega) (by omega)) λa E=>?_;refine SX 1 E I (gi (by omega) (by omega)) λa E=>?_;refine RN 0 E I λa E=>?_;refine SS E (HS E (by omega)) λa E=>?_;rw[gi (hq aj).1 (hq aj).2]at E;refine CL 0 E I (xO I (hq aj).1 (hq aj).2) λa w E I=>?_;refine RT 1 E I ?_;exact⟨by rw[ag aj],I⟩
theorem WI {k x y:Int}(I:U W w L)(hx:du x)(hy:du y):Calls prog 152 #[.int .i64 k,.int .i32 x,.int .i32 y] w λe V=>e=.returned (.int .i32 (iP k x y))∧U W V L:=by
 have dp:=hx;have kg:=hy;simp only[du]at dp kg;have hmul:-9223372036854775808≤x*y∧x*y≤9223372036854775807:=by
  have h1:(x*y).natAbs≤2147483648*2147483648:=by rw[Int.natAbs_mul];exact Nat.mul_le_mul (by omega) (by omega)
  omega
 refine EN func152 ntmps152 rfl rfl λa E=>?_;refine IF 10 E I (λaj a E=>?_) λaj a E=>?_
 ·
  refine SX 2 E I (gi (by omega) (by omega)) λa E=>?_;refine SX 1 E I (gi (by omega) (by omega)) λa E=>?_;refine CL 1 E I (xO I (by omega) (by omega)) λa w E I=>?_;refine RT 1 E I ?_;exact⟨by simp[iP,aj],I⟩
 refine IF 3 E I (λao a E=>?_) λao a E=>?_
 ·
  refine SX 2 E I (gi (by omega) (by omega)) λa E=>?_;refine SX 1 E I (gi (by omega) (by omega)) λa E=>?_;refine CL 1 E I (xO I (by omega) (by omega)) λa w E I=>?_;refine RT 1 E I ?_;exact⟨by simp[iP,ao],I⟩
 refine IF 3 E I (λaz a E=>?_) λaz a E=>?_
 ·
  refine SX 2 E I (gi (by omega) (by omega)) λa E=>?_;refine SX 1 E I (gi (by omega) (by omega)) λa E=>?_;refine SX 0 E I ⟨(by first | exact hmul.1 | exact hmul.2),(by first | exact hmul.1 | exact hmul.2)⟩ λa E=>?_;refine CL 0 E I (xO I hmul.1 hmul.2) λa w E I=>?_;refine RT 1 E I ?_;exact⟨by simp[iP,az],I⟩
 refine IF 3 E I (λbh a E=>?_) λbh a E=>?_
 ·
  refine CL 3 E I (WH I hx hy) λa w E I=>?_;refine RT 1 E I ?_;exact⟨by simp[iP,bh],I⟩
 refine IF 3 E I (λbQ a E=>?_) λbQ a E=>?_
 ·
  refine IF 7 E I (λeT a E=>?_) λeT a E=>?_
  ·
   refine RT 2 E I ?_;exact⟨by simp[iP,bQ,eT],I⟩
  refine RT 2 E I ?_;exact⟨by simp[iP,bQ];omega,I⟩
 refine IF 7 E I (λeT a E=>?_) λeT a E=>?_
 ·
  refine RT 2 E I ?_;exact⟨by simp[iP,aj,ao,az,bh,bQ,eT],I⟩
 refine RT 2 E I ?_;exact⟨by simp[iP,aj,ao,az,bh,bQ];omega,I⟩
theorem ints_at {w:World}{mn j:Nat}{g:Nat→Int}(h:Rd w mn 0 (ints .i32 32 g))(hj:j<32):w.cell? ⟨mn,j,none⟩=some (.int .i32 (g j)):=by
 have:=h j _ (fO g hj)
 rwa [Nat.zero_add]at this
theorem DU (I:U W w (ay W p aq cO::L))(a7:db p)(aC:p.title.size≤1000000000)(hg:dQ g)(hb:b.length≤1099511627776)(hf:-4611686018427387904≤fr∧fr≤4611686018427387904)(hp:∀ V,U W V L→aQ V adP b.length b) :
   Calls prog 104 #[.agg (bw p aq cO).toArray,.agg (ints .i32 32 g).toArray,.int .i64 fr,.slice adP b.length cP] w λe V=>∃ n:Int,e=.returned (.tuple #[.agg (ints .i32 32 (e0 p fr b g)).toArray,.int .i64 n])∧dQ (e0 p fr b g)∧U W V (ay W p aq cO::L):=by
 have cS:p.ops.length≤64:=a7.1.2.2.1;refine EN func104 ntmps104 rfl rfl λa E=>?_;refine BX 1 E I λb4 a w E I=>?_;change U W w (aa b4 45 (bw p aq cO)::_) at I;refine BX 0 E I λb5 a w E I=>?_;change U W w (aa b5 49 (ints .i32 32 g)::_) at I;refine AL 0 E I λb8 a w E I=>?_;change U W w (aa b8 49 (ints .i32 32 (λ_=>0))::_) at I;refine aR 4 E I (JJ (I.pick (ay W p aq cO)) aC (by omega)) λr a w E ⟨hr,I⟩=>?_;obtain rfl:r = -1:=hr.2 a7;refine RN 1 E I λa E=>?_;rw[show decide ((-1:Int) ≠ -1)=false from rfl]at E;replace E:=E.aK 18;refine a6 7 E I (JF I aC) λadT cT a w E I=>?_;refine RN 6 E I λa E=>?_;refine aP (λμ a w=>∃ (n aV:Nat) (g':Nat→Int),(μ=200-n∧n≤200∧aV≤p.ops.length∧dQ g'∧p7 p fr b (200-n) g' aV=e0 p fr b g)∧Fr a 166 [(2,.int .i64 fr),(3,.slice adP b.length cP),(4,pt b4),(5,pt b5),(8,pt b8),(10,.int .i64 aV),(11,.int .i64 n),(12,.slice adT (ef p.title 0).length cT)]∧U W w (aa b5 49 (ints .i32 32 g')::aa b4 45 (bw p aq cO)::aa b8 49 (ints .i32 32 (λ_=>0))::Sl 21 1 adT (ef p.title 0).length cT (RI (ef p.title 0))::ay W p aq cO::L)) (200) (⟨0,0,g,⟨by simp,by simp,by simp,hg,rfl⟩,E.ab [2,3,4,5,8,10,11,12],I.sub⟩) ?_;clear E I;rintro μ a w ⟨n,aV,g',⟨rfl,hn,e4,eJ,tW⟩,E,I⟩;refine BY 5 E I (λbA a E=>?_) λbA a E=>?_
 ·
  refine IF 6 E I (λao a E=>?_) λao a E=>?_
  ·
   obtain⟨o,ho⟩:∃ o,p.ops[aV]?=some o:=⟨_,aF (by omega)⟩;obtain⟨kI,oo,rfl,gA⟩:=I.qT aq (by omega);have aT:=DH (p:=p) (fr:=fr) (b:=b) (g:=g') (n:=200-(n+1)) ho;rw[show 200-(n+1)+1=200-n from by omega,tW]at aT;have dt:=a7.2 o (bJ ho);have qd:=dt;simp only[eZ,eY]at qd;have DF:o.code=9→qc o.a p.ops.length:=λh=>qc.of (by omega);have jS:o.code≠9→o.code≠0→lI o.a 32:=λh h2=>lI.of (by omega);have DG:o.code=10→qc o.b p.ops.length:=λh=>qc.of (by omega);have ob:o.code≠1→o.code≠15→o.code≠9→o.code≠10→o.code≠0→lI o.b 32:=λ_ _ _ _ _=>lI.of (by omega);have qX:o.code≠0→o.code≠1→o.code≠2→o.code≠9→o.code≠10→o.code≠11→o.code≠12→o.code≠13→o.code≠14→o.code≠15→lI o.c 32:=λ_ _ _ _ _ _ _ _ _ _=>lI.of (by omega);clear qd;refine RN 5 E I λa E=>?_;refine SS E (bR E underlying114 rfl Ty.t114 (vx gA ho)) λa E=>?_;refine AL 0 E I λeM a w E I=>?_;refine SA 0 E I λa w E I=>?_;refine IF 14 E I (λaz a E=>?_) λaz a E=>?_
   ·
    refine SA 3 E I λa w E I=>?_;refine RT 1 E I ?_;rw[show et p fr b g' aV o=(g',aV+1,false) from by rw[et,al az]]at aT;refine⟨_,by rw[aT];rfl,?_,I.sub⟩;rw[aT];exact eJ
   refine IF 3 E I (λbh a E=>?_) λbh a E=>?_
   ·
    obtain⟨cB,dK,jT⟩:=jS (by omega) (by omega);refine RN 2 E I λa E=>?_;rw[dK]at E;refine RN 2 E I λa E=>?_;refine SS E (gj E underlying3 underlying21) λa E=>?_;refine ST 1 E I (λa w E I=>?_) (hlt:=(by rw[dm];omega));rw[ints_set,show (λi=>if i=cB then IntKind.i32.wrap o.b else g' i)=ck g' (cB) (hX o.b) from rfl]at I;refine RN 0 E I λa E=>?_;have fN:et p fr b g' aV o=(ck g' (cB) (hX o.b),aV+1,true):=by
     rw[et,ag (by omega),ag (by omega),ag (by omega),ag (by omega),dK,Int.toNat_natCast,jw,al bh]
    rw[fN]at aT;exact⟨200-(n+1),by omega,n+1,aV+1,ck g' (cB) (hX o.b),⟨rfl,by omega,by omega,nA eJ (xv _),aT.symm⟩,E.ab [2,3,4,5,8,10,11,12],I.sub⟩
   refine IF 3 E I (λbQ a E=>?_) λbQ a E=>?_
   ·
    refine RN 0 E I λa E=>?_;obtain⟨cB,dK,jT⟩:=jS (by omega) (by omega);obtain⟨bD,ea,iA⟩:=ob (by omega) (by omega) (by omega) (by omega) (by omega);refine aY 0 (λw0 V=>Rd V eM 0 (dP o)∧Rd V b5 0 (ints .i32 32 g')) [3,4,5] [0,2,3001,1003,1004,1005,6,1007] E I λa w E I hH=>?_;have hC:=hH.at w ⟨I.ai,I.ai⟩;refine RH 2 E I hH hC λa E=>?_;refine QH E (λw hc=>ae E (hc.1 1 _ rfl)) hC λa E=>?_;rw[dK]at E;refine RH 0 E I hH hC λa E=>?_;refine SS E (ae E (hC.1 2 _ rfl)) λa E=>?_;rw[ea]at E;refine RH 1 E I hH hC λa E=>?_;refine SS E (ae E (ints_at hC.2 iA)) λa E=>?_;refine RH 1 E I hH hC λa E=>?_;refine ST 0 E I (λa w E I=>?_) (hlt:=(by rw[dm];omega));rw[ints_set,show (λi=>if i=cB then g' bD else g' i)=ck g' (cB) (g' bD) from rfl]at I;refine RN 0 E I λa E=>?_;have fN:et p fr b g' aV o=(ck g' (cB) (g' bD),aV+1,true):=by
     rw[et,ag (by omega),ag (by omega),ag (by omega),ag (by omega),dK,Int.toNat_natCast,jw,ag (by omega),al bQ,ea,Int.toNat_natCast]
    rw[fN]at aT;exact⟨200-(n+1),by omega,n+1,aV+1,ck g' (cB) (g' bD),⟨rfl,by omega,by omega,nA eJ (eJ _ iA),aT.symm⟩,E.ab [2,3,4,5,8,10,11,12],I.sub⟩
   refine IF 3 E I (λeT a E=>?_) λeT a E=>?_
   ·
    obtain⟨cB,dK,jT⟩:=DF eT;refine RN 2 E I λa E=>?_;rw[dK]at E;refine RN 1 E I λa E=>?_;have fN:et p fr b g' aV o=(g',cB,true):=by
     rw[et,ag (by omega),al eT,dK,Int.toNat_natCast]
    rw[fN]at aT;exact⟨200-(n+1),by omega,n+1,cB,g',⟨rfl,by omega,by omega,eJ,aT.symm⟩,E.ab [2,3,4,5,8,10,11,12],I.sub⟩
   refine IF 3 E I (λmU a E=>?_) λmU a E=>?_
   ·
    refine RN 1 E I λa E=>?_;obtain⟨cB,dK,jT⟩:=jS (by omega) (by omega);refine RN 2 E I λa E=>?_;rw[dK]at E;refine RN 1 E I λa E=>?_;refine SS E (ae E ((ints_at I.ai jT))) λa E=>?_;refine IF 1 E I (λml a E=>?_) λml a E=>?_
    ·
     obtain⟨bD,ea,iA⟩:=DG mU;refine RN 2 E I λa E=>?_;rw[ea]at E;refine RN 1 E I λa E=>?_;have fN:et p fr b g' aV o=(g',bD,true):=by
      rw[et,ag (by omega),ag (by omega),al mU,dK,Int.toNat_natCast,al ml,ea,Int.toNat_natCast]
     rw[fN]at aT;exact⟨200-(n+1),by omega,n+1,bD,g',⟨rfl,by omega,by omega,eJ,aT.symm⟩,E.ab [2,3,4,5,8,10,11,12],I.sub⟩
    refine RN 0 E I λa E=>?_;have fN:et p fr b g' aV o=(g',aV+1,true):=by
     rw[et,ag (by omega),ag (by omega),al mU,dK,Int.toNat_natCast,ag ml]
    rw[fN]at aT;exact⟨200-(n+1),by omega,n+1,aV+1,g',⟨rfl,by omega,by omega,eJ,aT.symm⟩,E.ab [2,3,4,5,8,10,11,12],I.sub⟩
   refine IF 3 E I (λmm a E=>?_) λmm a E=>?_
   ·
    refine RN 0 E I λa E=>?_;obtain⟨cB,dK,jT⟩:=jS (by omega) (by omega);obtain⟨bD,ea,iA⟩:=ob (by omega) (by omega) (by omega) (by omega) (by omega);refine aY 0 (λw0 V=>Rd V eM 0 (dP o)∧Rd V b5 0 (ints .i32 32 g')) [4,5,6,7] [0,2,3,3001,1004,1005,1006,1007,8,1009] E I λa w E I hH=>?_;have hC:=hH.at w ⟨I.ai,I.ai⟩;refine RH 3 E I hH hC λa E=>?_;refine QH E (λw hc=>ae E (hc.1 1 _ rfl)) hC λa E=>?_;rw[dK]at E;refine RH 0 E I hH hC λa E=>?_;refine SS E (ae E (hC.1 2 _ rfl)) λa E=>?_;rw[ea]at E;refine RH 1 E I hH hC λa E=>?_;refine SS E (ae E (ints_at hC.2 iA)) λa E=>?_;refine RH 0 E I hH hC λa E=>?_;refine CL 0 E I (WG I (eJ _ iA) hb (λV h=>hp V h.sub)) λa w E I=>?_;replace hC:=hH.at w ⟨I.ai,I.ai⟩;refine RH 1 E I hH hC λa E=>?_;refine ST 0 E I (λa w E I=>?_) (hlt:=(by rw[dm];omega));rw[ints_set,show (λi=>if i=cB then mh b (g' bD) else g' i)=ck g' (cB) (mh b (g' bD)) from rfl]at I;refine RN 0 E I λa E=>?_;have fN:et p fr b g' aV o=(ck g' (cB) (mh b (g' bD)),aV+1,true):=by
     rw[et,ag (by omega),ag (by omega),ag (by omega),ag (by omega),dK,Int.toNat_natCast,jw,ag (by omega),ag (by omega),al mm,ea,Int.toNat_natCast]
    rw[fN]at aT;exact⟨200-(n+1),by omega,n+1,aV+1,ck g' (cB) (mh b (g' bD)),⟨rfl,by omega,by omega,nA eJ (Jo _ _),aT.symm⟩,E.ab [2,3,4,5,8,10,11,12],I.sub⟩
   refine IF 3 E I (λjR a E=>?_) λjR a E=>?_
   ·
    refine RN 0 E I λa E=>?_;obtain⟨cB,dK,jT⟩:=jS (by omega) (by omega);obtain⟨bD,ea,iA⟩:=ob (by omega) (by omega) (by omega) (by omega) (by omega);have xH:=xu (g' bD);refine aY 0 (λw0 V=>Rd V eM 0 (dP o)∧Rd V b5 0 (ints .i32 32 g')) [3,4,5,6,7,8] [0,2,3001,1003,1004,1005,1006,1007,1008,9,1010] E I λa w E I hH=>?_;have hC:=hH.at w ⟨I.ai,I.ai⟩;refine RH 2 E I hH hC λa E=>?_;refine QH E (λw hc=>ae E (hc.1 1 _ rfl)) hC λa E=>?_;rw[dK]at E;refine RH 0 E I hH hC λa E=>?_;refine SS E (ae E (hC.1 2 _ rfl)) λa E=>?_;rw[ea]at E;refine RH 1 E I hH hC λa E=>?_;refine SS E (ae E (ints_at hC.2 iA)) λa E=>?_;refine RH 0 E I hH hC λa E=>?_;refine CL 0 E I (JK I (eJ _ iA)) λa w E I=>?_;replace hC:=hH.at w ⟨I.ai,I.ai⟩;refine RH 1 E I hH hC λa E=>?_;refine SS E (ae E (ints_at hC.2 xH)) λa E=>?_;refine RH 1 E I hH hC λa E=>?_;refine ST 0 E I (λa w E I=>?_) (hlt:=(by rw[dm];omega));rw[ints_set,show (λi=>if i=cB then g' (km (g' bD)) else g' i)=ck g' (cB) (g' (km (g' bD))) from rfl]at I;refine RN 0 E I λa E=>?_;have fN:et p fr b g' aV o=(ck g' (cB) (g' (km (g' bD))),aV+1,true):=by
     rw[et,ag (by omega),ag (by omega),ag (by omega),ag (by omega),dK,Int.toNat_natCast,jw,ag (by omega),ag (by omega),ag (by omega),al jR,ea,Int.toNat_natCast]
    rw[fN]at aT;exact⟨200-(n+1),by omega,n+1,aV+1,ck g' (cB) (g' (km (g' bD))),⟨rfl,by omega,by omega,nA eJ (eJ _ xH),aT.symm⟩,E.ab [2,3,4,5,8,10,11,12],I.sub⟩
   refine IF 3 E I (λvD a E=>?_) λvD a E=>?_
   ·
    refine RN 0 E I λa E=>?_;obtain⟨cB,dK,jT⟩:=jS (by omega) (by omega);obtain⟨bD,ea,iA⟩:=ob (by omega) (by omega) (by omega) (by omega) (by omega);have xH:=xu (g' cB);refine aY 0 (λw0 V=>Rd V eM 0 (dP o)∧Rd V b5 0 (ints .i32 32 g')) [4,6,7,8] [0,5,3001,2,3003,3006,3007,3008,1004,9,1010] E I λa w E I hH=>?_;have hC:=hH.at w ⟨I.ai,I.ai⟩;refine RH 2 E I hH hC λa E=>?_;refine QH E (λw hc=>ae E (hc.1 1 _ rfl)) hC λa E=>?_;rw[dK]at E;refine RH 1 E I hH hC λa E=>?_;refine QH E (λw hc=>ae E (ints_at hc.2 jT)) hC λa E=>?_;refine QH E (λw hc=>ae E (hc.1 2 _ rfl)) hC λa E=>?_;rw[ea]at E;refine RH 1 E I hH hC λa E=>?_;refine QH E (λw hc=>ae E (ints_at hc.2 iA)) hC λa E=>?_;refine RH 0 E I hH hC λa E=>?_;refine CL 0 E I (JK I (eJ _ jT)) λa w E I=>?_;replace hC:=hH.at w ⟨I.ai,I.ai⟩;refine RH 1 E I hH hC λa E=>?_;refine ST 0 E I (λa w E I=>?_) (hlt:=(by rw[dm];omega));rw[ints_set,show (λi=>if i=km (g' cB) then g' bD else g' i)=ck g' (km (g' cB)) (g' bD) from rfl]at I;refine RN 0 E I λa E=>?_;have fN:et p fr b g' aV o=(ck g' (km (g' cB)) (g' bD),aV+1,true):=by
     rw[et,ag (by omega),ag (by omega),ag (by omega),al vD,dK,Int.toNat_natCast,ea,Int.toNat_natCast]
    rw[fN]at aT;exact⟨200-(n+1),by omega,n+1,aV+1,ck g' (km (g' cB)) (g' bD),⟨rfl,by omega,by omega,nA eJ (eJ _ iA),aT.symm⟩,E.ab [2,3,4,5,8,10,11,12],I.sub⟩
   refine IF 3 E I (λsr a E=>?_) λsr a E=>?_
   ·
    refine RN 1 E I λa E=>?_;obtain⟨cB,dK,jT⟩:=jS (by omega) (by omega);obtain⟨bD,ea,iA⟩:=ob (by omega) (by omega) (by omega) (by omega) (by omega);have oe:=eJ _ iA;have DJ:=oe;simp only[du]at DJ;refine RN 5 E I λa E=>?_;rw[ea]at E;refine RN 1 E I λa E=>?_;refine SS E (ae E ((ints_at I.ai iA))) λa E=>?_;refine BY 2 E I (λiQ a E=>?_) λiQ a E=>?_
    ·
     refine RN 2 E I λa E=>?_;rw[ea]at E;refine RN 1 E I λa E=>?_;refine bC E (cI E rfl (s:=136)) (ae E ((ints_at I.ai iA))) rfl λa E=>?_;refine SX 0 E I (gi (by omega) (by omega)) λa E=>?_;refine IF 4 E I (λxE a E=>?_) λxE a E=>?_
     ·
      obtain⟨rn,mX⟩:∃ rn:Nat,g' bD=rn:=⟨(g' bD).toNat,by omega⟩;obtain⟨aeF,aeG,rfl,DV⟩:=I.bW adT (by omega);obtain⟨DX,vn⟩:∃ DX,(ef p.title 0)[rn]?=some DX:=⟨_,aF (by omega)⟩;refine RN 3 E I λa E=>?_;rw[ea]at E;refine RN 1 E I λa E=>?_;refine SS E (ae E ((ints_at I.ai iA))) λa E=>?_;rw[mX]at E;refine RN 1 E I λa E=>?_;refine SS E (ae E ((DV rn _ (JG vn)))) λa E=>?_;refine RN 1 E I λa E=>?_;have pc:mP p.title (g' bD)=DX.1:=by rw[mP,al (by omega),mX,Int.toNat_natCast,vn];rfl
      rw[← pc]at E;refine RN 2 E I λa E=>?_;rw[dK]at E;refine ST 2 E I (λa w E I=>?_) (hlt:=(by rw[dm];omega));rw[ints_set,show (λi=>if i=cB then mP p.title (g' bD) else g' i)=ck g' cB (mP p.title (g' bD)) from rfl]at I;refine RN 0 E I λa E=>?_;have fN:et p fr b g' aV o=(ck g' cB (mP p.title (g' bD)),aV+1,true):=by
       rw[et,ag (by omega),ag (by omega),ag (by omega),ag (by omega),dK,Int.toNat_natCast,jw,ag (by omega),ag (by omega),ag (by omega),ag (by omega),al sr,ea,Int.toNat_natCast]
      rw[fN]at aT;exact⟨200-(n+1),by omega,n+1,aV+1,ck g' cB (mP p.title (g' bD)),⟨rfl,by omega,by omega,nA eJ (Jm _ _),aT.symm⟩,E.ab [2,3,4,5,8,10,11,12],I.sub⟩
     refine RN 0 E I λa E=>?_;have aeH:True:=trivial;refine RN 2 E I λa E=>?_;rw[dK]at E;refine ST 2 E I (λa w E I=>?_) (hlt:=(by rw[dm];omega));rw[ints_set,show (λi=>if i=cB then 0 else g' i)=ck g' cB 0 from rfl]at I;refine RN 0 E I λa E=>?_;have fN:et p fr b g' aV o=(ck g' cB 0,aV+1,true):=by
      rw[et,ag (by omega),ag (by omega),ag (by omega),ag (by omega),dK,Int.toNat_natCast,jw,ag (by omega),ag (by omega),ag (by omega),ag (by omega),al sr,ea,Int.toNat_natCast,mP,al (by omega),iw (by omega)];rfl
     rw[fN]at aT;exact⟨200-(n+1),by omega,n+1,aV+1,ck g' cB 0,⟨rfl,by omega,by omega,nA eJ (by simp[du]),aT.symm⟩,E.ab [2,3,4,5,8,10,11,12],I.sub⟩
    refine RN 12 E I λa E=>?_;rw[dK]at E;refine ST 2 E I (λa w E I=>?_) (hlt:=(by rw[dm];omega));rw[ints_set,show (λi=>if i=cB then 0 else g' i)=ck g' cB 0 from rfl]at I;refine RN 0 E I λa E=>?_;have fN:et p fr b g' aV o=(ck g' cB 0,aV+1,true):=by
     rw[et,ag (by omega),ag (by omega),ag (by omega),ag (by omega),dK,Int.toNat_natCast,jw,ag (by omega),ag (by omega),ag (by omega),ag (by omega),al sr,ea,Int.toNat_natCast,mP,ag (by omega)]
    rw[fN]at aT;exact⟨200-(n+1),by omega,n+1,aV+1,ck g' cB 0,⟨rfl,by omega,by omega,nA eJ (by simp[du]),aT.symm⟩,E.ab [2,3,4,5,8,10,11,12],I.sub⟩
   refine IF 3 E I (λvE a E=>?_) λvE a E=>?_
   ·
    refine RN 0 E I λa E=>?_;obtain⟨cB,dK,jT⟩:=jS (by omega) (by omega);refine aY 0 (λw0 V=>Rd V eM 0 (dP o)∧Rd V b5 0 (ints .i32 32 g')) [3] [0,2,3001,1003,4,1005] E I λa w E I hH=>?_;have hC:=hH.at w ⟨I.ai,I.ai⟩;refine RH 2 E I hH hC λa E=>?_;refine QH E (λw hc=>ae E (hc.1 1 _ rfl)) hC λa E=>?_;rw[dK]at E;refine RH 0 E I hH hC λa E=>?_;refine CL 0 E I (xO I (by omega) (by omega)) λa w E I=>?_;replace hC:=hH.at w ⟨I.ai,I.ai⟩;refine RH 1 E I hH hC λa E=>?_;refine ST 0 E I (λa w E I=>?_) (hlt:=(by rw[dm];omega));rw[ints_set,show (λi=>if i=cB then hX fr else g' i)=ck g' (cB) (hX fr) from rfl]at I;refine RN 0 E I λa E=>?_;have fN:et p fr b g' aV o=(ck g' (cB) (hX fr),aV+1,true):=by
     rw[et,ag (by omega),ag (by omega),ag (by omega),ag (by omega),dK,Int.toNat_natCast,jw,ag (by omega),ag (by omega),ag (by omega),ag (by omega),ag (by omega),al vE]
    rw[fN]at aT;exact⟨200-(n+1),by omega,n+1,aV+1,ck g' (cB) (hX fr),⟨rfl,by omega,by omega,nA eJ (xv _),aT.symm⟩,E.ab [2,3,4,5,8,10,11,12],I.sub⟩
   refine RN 0 E I λa E=>?_;obtain⟨cB,dK,jT⟩:=jS (by omega) (by omega);obtain⟨bD,ea,iA⟩:=ob (by omega) (by omega) (by omega) (by omega) (by omega);obtain⟨tz,o7,JL⟩:=qX (by omega) (by omega) (by omega) (by omega) (by omega) (by omega) (by omega) (by omega) (by omega) (by omega);refine aY 0 (λw0 V=>Rd V eM 0 (dP o)∧Rd V b5 0 (ints .i32 32 g')) [3,5,6,7,9,10,11,12] [0,2,4,8,3001,3003,3005,3006,3007,1009,1010,1011,1012,13,1014] E I λa w E I hH=>?_;have hC:=hH.at w ⟨I.ai,I.ai⟩;refine RH 4 E I hH hC λa E=>?_;refine QH E (λw hc=>ae E (hc.1 1 _ rfl)) hC λa E=>?_;rw[dK]at E;refine RH 0 E I hH hC λa E=>?_;refine QH E (λw hc=>ae E (hc.1 0 _ rfl)) hC λa E=>?_;refine QH E (λw hc=>ae E (hc.1 2 _ rfl)) hC λa E=>?_;rw[ea]at E;refine RH 1 E I hH hC λa E=>?_;refine QH E (λw hc=>ae E (ints_at hc.2 iA)) hC λa E=>?_;refine RH 0 E I hH hC λa E=>?_;refine SS E (ae E (hC.1 3 _ rfl)) λa E=>?_;rw[o7]at E;refine RH 1 E I hH hC λa E=>?_;refine SS E (ae E (ints_at hC.2 JL)) λa E=>?_;refine RH 0 E I hH hC λa E=>?_;refine CL 0 E I (WI I (eJ _ iA) (eJ _ JL)) λa w E I=>?_;replace hC:=hH.at w ⟨I.ai,I.ai⟩;refine RH 1 E I hH hC λa E=>?_;refine ST 0 E I (λa w E I=>?_) (hlt:=(by rw[dm];omega));rw[ints_set,show (λi=>if i=cB then iP o.code (g' bD) (g' tz) else g' i)=ck g' (cB) (iP o.code (g' bD) (g' tz)) from rfl]at I;refine RN 0 E I λa E=>?_;have fN:et p fr b g' aV o=(ck g' (cB) (iP o.code (g' bD) (g' tz)),aV+1,true):=by
    rw[et,ag (by omega),ag (by omega),ag (by omega),ag (by omega),dK,Int.toNat_natCast,jw,ag (by omega),ag (by omega),ag (by omega),ag (by omega),ag (by omega),ag (by omega),ea,Int.toNat_natCast,o7,Int.toNat_natCast]
   rw[fN]at aT;exact⟨200-(n+1),by omega,n+1,aV+1,ck g' (cB) (iP o.code (g' bD) (g' tz)),⟨rfl,by omega,by omega,nA eJ (Jn _ _ _),aT.symm⟩,E.ab [2,3,4,5,8,10,11,12],I.sub⟩
  refine SA 3 E I λa w E I=>?_;refine RT 1 E I ?_;rw[DI (by omega)]at tW;exact⟨_,by rw[← tW],by rw[← tW];exact eJ,I.sub⟩
 refine SA 10 E I λa w E I=>?_;refine RT 1 E I ?_;rw[show 200-n=0 from by omega]at tW;exact⟨_,by rw[← tW];rfl,by rw[← tW];exact eJ,I.sub⟩
theorem WJ {P:List (List UInt8)}{zs:List ed}(I:U W w (ay W p aq cO::L))(a7:db p)(aC:p.title.size≤1000000000)(hg:dQ g)(hP:P.length≤65536∧∀ b∈P,b.length≤1099511627776)(hz:zs.map (·.2.2)=P)(hf:-1099511627776≤fr∧fr≤1099511627776)(hp:∀ V,U W V L→ix V adP zs) :
   Calls prog 116 #[.agg (bw p aq cO).toArray,.agg (ints .i32 32 g).toArray,.int .i64 fr,.slice adP P.length cP] w λe V=>e=.returned (.agg (ints .i32 32 (foldI p fr g P)).toArray)∧dQ (foldI p fr g P)∧U W V (ay W p aq cO::L):=by
 have iW:zs.length=P.length:=by rw[← hz,bg]
 have sD:=hP.1;refine EN func116 ntmps116 rfl rfl λa E=>?_;refine BX 1 E I λb4 a w E I=>?_;change U W w (aa b4 45 (bw p aq cO)::_) at I;refine BX 0 E I λb5 a w E I=>?_;change U W w (aa b5 49 (ints .i32 32 g)::_) at I;refine AL 0 E I λb8 a w E I=>?_;change U W w (aa b8 49 (ints .i32 32 (λ_=>0))::_) at I;refine RN 3 E I λa E=>?_;refine aP (λμ a w=>∃ (i:Nat) (g':Nat→Int),(μ=P.length-i∧i≤P.length∧dQ g'∧foldI p fr g P=foldI p (fr+i) g' (P.drop i))∧Fr a 33 [(2,.int .i64 fr),(3,.slice adP P.length cP),(4,pt b4),(5,pt b5),(8,pt b8),(9,.int .i64 i)]∧U W w (aa b5 49 (ints .i32 32 g')::aa b4 45 (bw p aq cO)::aa b8 49 (ints .i32 32 (λ_=>0))::ay W p aq cO::L)) (P.length) (⟨0,g,⟨by simp,by simp,hg,by simp⟩,E.ab [2,3,4,5,8,9],I.sub⟩) ?_;clear E I;rintro μ a w ⟨i,g',⟨rfl,hi,eJ,lH⟩,E,I⟩;refine IF 6 E I (λaj a E=>?_) λaj a E=>?_
 ·
  have kq:zs[i]?=some (zs[i]'(by omega)):=aF (by omega);obtain⟨z,qg⟩:∃ z,zs[i]'(by omega)=z:=⟨_,rfl⟩;rw[qg]at kq;have zZ:P[i]?=some z.2.2:=by rw[← hz,bn,kq];rfl
  have fG:=hp _ (I.sub (M:=L));obtain⟨bp,op,gR,dk⟩:=fG.1 (by omega);have b9:∀ V,U W V L→V.cell? ⟨bp,op+i,none⟩=some (aL z):=λV h=>by
   obtain⟨b',o',h1,h2⟩:=(hp V h).1 (by omega);rw[gR]at h1;cases h1;exact h2 i _ (by rw[bn,kq];rfl)
  clear dk fG;have JM:∀ V,U W V L→aQ V z.1 z.2.2.length z.2.2:=λV h=>(hp V h).2 z (bJ kq);have DY:foldI p fr g P=foldI p (fr+(i+1:Nat)) (e0 p (fr+i) z.2.2 g') (P.drop (i+1)):=by
   rw[lH,kb (by omega),foldI];have:P[i]'(by omega)=z.2.2:=by rw[aF (by omega)]at zZ;exact Option.some.inj zZ
   rw[this]
   congr 1
   omega
  refine RN 1 E I λa E=>?_;refine cc (M:=λa w=>∃ kf:Nat,dQ (e0 p (fr+i) z.2.2 g')∧Fr a 33 [(2,.int .i64 fr),(3,.slice adP P.length cP),(4,pt b4),(5,pt b5),(8,pt b8),(9,.int .i64 i),(10,pt kf)]∧U W w (aa kf 49 (ints .i32 32 (e0 p (fr+i) z.2.2 g'))::aa b5 49 (ints .i32 32 g')::aa b4 45 (bw p aq cO)::aa b8 49 (ints .i32 32 (λ_=>0))::ay W p aq cO::L)) ?_ ?_
  ·
   refine aY 0 (λw0 V=>Rd V b4 0 (bw p aq cO)∧Rd V b5 0 (ints .i32 32 g')∧V.cell? ⟨bp,op+i,none⟩=some (aL z)) [1,8,13] [2,3,4,5,6,7,3000,3001,3008,2009,10,11,12,1013,1014,15] E I λa w E I hH=>?_;have hC:=hH.at w ⟨I.ai,I.ai,b9 _ I.sub⟩;refine RH 5 E I hH hC λa E=>?_;rw[gR]at E;refine RH 1 E I hH hC λa E=>?_;refine QH E (λw hc=>bR E underlying45 rfl Ty.t45 (hc.1)) hC λa E=>?_;refine QH E (λw hc=>bR E underlying49 rfl Ty.t49 (hc.2.1)) hC λa E=>?_;refine QH E (λw hc=>ae E (hc.2.2)) hC λa E=>?_;refine RH 0 E I hH hC λa E=>?_;refine DN [(9,[10,11,12,1013,1014,15]),(13,[1009,10,11,12,1014,15])] (by kernel_rfl) rfl ⟨⟨_,rfl,?_⟩,⟨_,rfl,?_⟩,trivial⟩
   ·
    refine RH 0 E I hH hC λa E=>?_;refine aR 0 E I (DU (I.pick (ay W p aq cO)) a7 aC eJ (hP.2 _ (bJ zZ)) (by omega) (λV h=>JM V h.sub)) λsw a w E ⟨bA,I⟩=>?_;refine RN 3 E I λa E=>?_;refine eW E rfl I Ty.t49 rfl λkf a w E I ho=>?_;clear ho;replace hC:=hH.at w ⟨I.ai,I.ai,b9 _ I.sub⟩;change U W w (aa kf 49 (ints .i32 32 (λ_=>0))::_) at I;refine RH 0 E I hH hC λa E=>?_;refine SA 0 E I λa w E I=>?_;refine RN 1 E I λa E=>?_;rw[← gR]at E;exact⟨_,bA,E.ab [2,3,4,5,8,9,10],I.sub⟩
   refine RH 0 E I hH hC λa E=>?_;refine eW E rfl I Ty.t49 rfl λkf a w E I ho=>?_;clear ho;replace hC:=hH.at w ⟨I.ai,I.ai,b9 _ I.sub⟩;change U W w (aa kf 49 (ints .i32 32 (λ_=>0))::_) at I;refine RH 0 E I hH hC λa E=>?_;refine aR 0 E I (DU (I.pick (ay W p aq cO)) a7 aC eJ (hP.2 _ (bJ zZ)) (by omega) (λV h=>JM V h.sub)) λsw a w E ⟨bA,I⟩=>?_;refine SA 3 E I λa w E I=>?_;refine RN 1 E I λa E=>?_;rw[← gR]at E;exact⟨_,bA,E.ab [2,3,4,5,8,9,10],I.sub⟩
  clear E;(try clear I);rintro a w ⟨kf,bA,E,I⟩;refine SA 1 E I λa w E I=>?_;refine RN 3 E I λa E=>?_;exact⟨P.length-(i+1),by omega,i+1,_,⟨rfl,by omega,bA,DY⟩,E.ab [2,3,4,5,8,9],I.sub⟩
 refine RN 1 E I λa E=>?_;obtain rfl:i=P.length:=by omega
 rw[List.drop_length,foldI]at lH;refine SA 1 E I λa w E I=>?_;refine RT 0 E I ?_;exact⟨by rw[lH],by rw[lH];exact eJ,I.sub⟩
end
end
section
section
variable {P:Program}{a:Act}{w:World}{n:Nat}{l:List (Nat×Value)}
theorem JN {x y i j t u dst ty ps af g}(E:Fr a n l)[e:Ev l x (.string i)][f:Ev l y (.string j)] :
   (execOp a.eval ⟨dst,.binOp .neq t x y u,ty,ps,af,g⟩).run P w=.ok (.value (.bool (!(i.data.toList==j.data.toList)))) w:=by
 simp[execOp,e.ev a n E,f.ev a n E,eqGuard,binOp,Op.stringOp,ByteArray.toList_eq]
end
end
section
theorem WK {w:World}{x:Addr}{v:Value}(h:w.cell? x=some v):x=⟨x.block,x.off,none⟩∧x.block<w.heap.size:=by
 refine⟨?_,World.block_lt_of_cell? _ _ h⟩;obtain⟨b,o,s⟩:=x;cases s with
 | none=>rfl
 | some s =>
  simp only[World.cell?]at h;split at h <;> simp at h
theorem WL {H:Type}{enc:TypeId×Value→H}{W:World}{t e sz len cap:Nat}{ad:Option Addr}{d:DataW H}{p:List MemPlace}(ht:prog.underlying t=some (.slice e))(aC:prog.cellsOf e=sz)(h0:0<sz)
   (h:DataW.Trod enc prog W 0 (λ_=>true) true t (.slice ad len cap) d p) :
   len≤9223372036854775807∧(len=0∨∃ b off,ad=some ⟨b,off,none⟩∧b<W.heap.size∧∀ i,i<len→∃ cs m x,cs.length=sz∧Rd W b (off+i*sz) cs∧DataW.trod enc prog W 0 (λ_=>true) true m e cs=some x):=by
 obtain⟨fuel,hf⟩:=h;rcases Go.Deep.open_slice ht hf with ⟨hL,_⟩ | ⟨a,l,c,m,n,D,Pl,hL,_,hl,hc,hm,_,hx⟩
 ·simp[Value.cells]at hL;obtain⟨rfl,rfl,rfl⟩:=hL;exact⟨by omega,.inl rfl⟩
 ·simp[Value.cells]at hL;obtain⟨rfl,rfl,rfl⟩:=hL;unfold maxLen at hc;refine⟨by omega,?_⟩;by_cases hz:len=0
  ·exact .inl hz
  ·right;rw[aC]at hx;simp only[if_true]at hm;obtain⟨cs0,h1,_⟩:=hx 0 (by omega);obtain⟨_,h2,h3⟩:=World.cells?_some h1;have h4:=h3 0 h0;rw[Nat.zero_mul]at h4;have h5:(a.add 0).add 0=a:=by simp[Addr.add]
   rw[h5]at h4;obtain⟨h6,h7⟩:=WK (h4.trans (aF (by omega)));refine⟨a.block,a.off,by rw[← h6],h7,λi hi=>?_⟩;obtain⟨cs,g1,kH⟩:=hx i (by omega);obtain⟨_,nr,pY⟩:=World.cells?_some g1;refine⟨cs,n,_,nr,λj v hj=>?_,kH⟩;have eH:j<sz:=by
    rcases Nat.lt_or_ge j cs.length with h | h
    ·omega
    ·rw[iw h]at hj;cases hj
   have:=pY j eH;rw[h6,j5,j5,hj]at this;exact this
end
section
abbrev aeI:=Option Addr×Nat×List ed
end
section
section
theorem WM {u v:List (List UInt8)}:oY u v=true↔u.take (min u.length v.length)=v.take (min u.length v.length):=by simp[oY]
end
end
section
abbrev Kx:=Wk×Nat
def e5 (p:Pr)(aq:Option Addr)(cO tq jq sq:Nat)(x:Kx):SP:=aa x.2 247 (cx p aq cO tq jq sq x.1)
def gK (ks:List Kx):List Value:=ks.map λx=>pt x.2
theorem JO {ks:List Kx}{i:Nat}{k:Wk}{wb:Nat}(h:ks[i]?=some (k,wb)):(gK ks)[i]?=some (pt wb):=by rw[gK,bn,h];rfl
theorem JP {ks:List Kx}{i:Nat}{k k':Wk}{wb:Nat}(h:ks[i]?=some (k,wb)):gK (ks.set i (k',wb))=gK ks:=by
 have hi:=(a8.1 h).1;apply ext_getElem?;intro j;simp only[gK,bn,jF];by_cases hj:i=j
 ·subst hj;rw[al rfl,al hi,h];rfl
 ·rw[ag hj]
theorem vJ {ks:List Kx}{i:Nat}{k k':Wk}{wb:Nat}(h:ks[i]?=some (k,wb)):(ks.map (·.1)).Perm (k::(ks.eraseIdx i).map (·.1))∧((ks.set i (k',wb)).map (·.1)).Perm (k'::(ks.eraseIdx i).map (·.1)):=by
 obtain⟨hi,he⟩:=a8.1 h;have h1:=(rU ks hi).map (·.1);rw[map_cons,he]at h1;have h2:=(rU (ks.set i (k',wb)) (by simpa using hi)).map (·.1);rw[map_cons,getElem_set_self,eraseIdx_set_eq]at h2;exact⟨h1,h2⟩
section
variable {W w:World}{L:List SP}{tq jq sq r wb i cO n base:Nat}{aq:Option Addr}{A:Sn}{T:Tr}{J:Js}{k:Wk}{p:Pr}{x:Br}{px:aD}{ks:List Kx}{t:Nat→Nat}
theorem U.JQ (I:U W w (ah (e5 p aq cO tq jq sq) ks::L))(hk:ks[i]?=some (k,wb)):U W w (aa wb 247 (cx p aq cO tq jq sq k)::ah (e5 p aq cO tq jq sq) (ks.eraseIdx i)::L):=by
 obtain⟨hi,he⟩:=a8.1 hk;have:=I.fv hi;rw[he]at this;exact this
theorem U.DZ {k':Wk}(I:U W w (aa wb 247 (cx p aq cO tq jq sq k')::ah (e5 p aq cO tq jq sq) (ks.eraseIdx i)::L))(hk:ks[i]?=some (k,wb)):U W w (ah (e5 p aq cO tq jq sq) (ks.set i (k',wb))::L) :=
 U.kG (f:=e5 p aq cO tq jq sq) (x:=(k',wb)) (a8.1 hk).1 I
theorem WN {F:Int}{g0:Nat→Int}(I:U W w (ah (e5 p aq cO tq jq sq) ks::Tree tq sq T::ax sq r A::bK jq J::ay W p aq cO::L))(hk:ks[i]?=some (k,wb))(hI:Inv p F g0 t base A T (ks.map (·.1)))
   (hF:0≤F∧F≤1099511627776) (hp:db p) (hz:p.title.size≤1000000000) (hn:A.n+1<1099511627776) (ko:J.length≤16) :
   Calls prog 102 #[pt wb] w λe V=>∃ (z:Bool) (A':Sn) (T':Tr) (J':Js) (k':Wk),e=.returned (.bool z)∧(lh p A T J k z A' T' J' k'∧Inv p F g0 t base A' T' ((ks.set i (k',wb)).map (·.1))∧zJ A T J A' T' J') ∧
    U W V (ah (e5 p aq cO tq jq sq) (ks.set i (k',wb))::Tree tq sq T'::ax sq r A'::bK jq J'::ay W p aq cO::L):=by
 have hA:=(ax.facts (I.store sq)).1;have hT:=Tree.wt (I.tree tq);have WO:k∈ks.map (·.1):=c0.2 ⟨_,bJ hk,rfl⟩;have h1:=I.JQ hk;refine (Wo (L:=ah (e5 p aq cO tq jq sq) (ks.eraseIdx i)::L) (h1.sub (M:=aa wb 247 (cx p aq cO tq jq sq k)::Tree tq sq T::ax sq r A::bK jq J::ay W p aq cO::ah (e5 p aq cO tq jq sq) (ks.eraseIdx i)::L)) (hI.ready WO hF hp hz hn ko)).mono λe V ⟨z,A',T',J',k',he,hb,I⟩=>?_;refine⟨z,A',T',J',k',he,⟨hb,((hI.vB (vJ (k':=k') hk).1).bit hA hT hb).vB (vJ (k':=k') hk).2.symm,hb.Vj⟩,?_⟩;have h2:=U.DZ (i:=i) (ks:=ks) (k:=k) (k':=k') (I.sub (M:=aa wb 247 (cx p aq cO tq jq sq k')::ah (e5 p aq cO tq jq sq) (ks.eraseIdx i)::Tree tq sq T'::ax sq r A'::bK jq J'::ay W p aq cO::L)) hk;exact h2
theorem WQ {F:Int}{g0:Nat→Int}(I:U W w (ah (e5 p aq cO tq jq sq) ks::ax sq r A::L))(hk:ks[i]?=some (k,wb))(hI:Inv p F g0 t base A T (ks.map (·.1))) :
   Calls prog 145 #[pt wb] w λe V=>∃ (A':Sn) (k':Wk),e=.returned (.bool k.busy)∧(k'.busy=false∧Inv p F g0 t base A' T ((ks.set i (k',wb)).map (·.1))∧A'.room=A.room∧A'.n=A.n) ∧
    U W V (ah (e5 p aq cO tq jq sq) (ks.set i (k',wb))::ax sq r A'::L):=by
 have hA:=(ax.facts (I.store sq)).1;have h1:=I.JQ hk;cases hb:k.busy with
 | false =>
  refine (Jx h1 hb).mono λe V ⟨he,I⟩=>⟨A,k,he,⟨hb,(hI.vB (vJ (k':=k) hk).1).vB (vJ (k':=k) hk).2.symm,rfl,rfl⟩,?_⟩;exact U.DZ (i:=i) (ks:=ks) (k:=k) (k':=k) I hk
 | true =>
  refine (xK (L:=ah (e5 p aq cO tq jq sq) (ks.eraseIdx i)::L) (h1.sub (M:=aa wb 247 (cx p aq cO tq jq sq k)::ax sq r A::ah (e5 p aq cO tq jq sq) (ks.eraseIdx i)::L)) hb).mono λe V ⟨he,I⟩=>?_;refine⟨A.eA k.x,{ k with busy:=false },he,⟨rfl,((hI.vB (vJ (k':={ k with busy:=false }) hk).1).rest (k':={ k with busy:=false }) hA hb rfl rfl).vB (vJ (k':={ k with busy:=false }) hk).2.symm,(n1 A _).1,(n1 A _).2.1⟩,?_⟩;exact U.DZ (i:=i) (ks:=ks) (k:=k) (k':={ k with busy:=false }) (I.sub (M:=aa wb 247 (cx p aq cO tq jq sq { k with busy:=false })::ah (e5 p aq cO tq jq sq) (ks.eraseIdx i)::ax sq r (A.eA k.x)::L)) hk
theorem WR (I:U W w L):Calls prog 92 #[.agg (bw p aq cO).toArray,pt tq,pt jq,pt sq] w λe V =>
   ∃ wb,e=.returned (pt wb)∧U W V (aa wb 247 (cx p aq cO tq jq sq kR)::L):=by
 refine EN func92 ntmps92 rfl rfl λa E=>?_;refine BX 1 E I λb4 a w E I=>?_;change U W w (aa b4 45 (bw p aq cO)::_) at I;refine RN 3 E I λa E=>?_;change Fr a 15 ((9,.agg (List.toArray [.string p.title,.slice aq p.ops.length cO]))::_) at E;refine BX 4 E I λeM a w E I=>?_;change U W w (aa eM 247 (cx p aq cO tq jq sq kR)::_) at I;refine RT 1 E I ?_;exact⟨eM,rfl,I.sub⟩
theorem WS {frm:Int}{ad2:Option Addr}{c2 id:Nat}{zs:List ed}{P:List (List UInt8)}(I:U W w (Tree tq sq T::ax sq r A::L))(hr:∀ V,U W V L→ix V ad2 zs)(hz:zs.map (·.2.2)=P)(hc:P.length≤c2)(dt:nx P)
   (hx:A.au[i]?=some px) (bT:px.id=id) (hb:A.n+1<1099511627776) (hl:T.last+1<1099511627776) (hm:T.l.length<T.most) :
   Calls prog 306 #[pt tq,.int .i64 frm,.int .i64 id,.slice ad2 P.length c2] w λe V=>∃ (z:Nat) (ok:Bool),e=.returned (.tuple #[.int .i64 z,.bool ok]) ∧
    ((ok=false∧(P=[]∨∃ y∈T.l,y.is frm P)∧U W V (Tree tq sq T::ax sq r A::L)) ∨
     (ok=true∧z=T.last+1∧P≠[]∧(∀ y∈T.l,¬ y.is frm P)∧U W V (Tree tq sq (T.add frm P (A.last+1))::ax sq r (A.add px.g px.p)::L))):=by
 subst bT;rcases Nat.eq_zero_or_pos P.length with h0 | h0
 ·have hP:=g5 h0;exact (IS I (.inr h0)).mono λe V ⟨h1,I⟩=>⟨0,false,h1,.inl ⟨rfl,.inl hP,I⟩⟩
 ·have hP:P≠[]:=List.length_pos_iff.1 h0;by_cases hex:∃ y∈T.l,y.is frm P
  ·obtain⟨y,hy,vr⟩:=hex;obtain⟨j,hj⟩:=jM.1 hy;have WU:∀ V,U W V (ax sq r A::L)→kK V ad2 P.length P:=λV h=>by
    have:=(hr V h.tail).bb;rw[hz]at this
    rwa [show zs.length=P.length from by rw[← hz,bg]]at this
   exact (UA I WU hc dt hj vr).mono λe V ⟨h1,I⟩=>⟨0,false,h1,.inl ⟨rfl,.inr ⟨y,hy,vr⟩,I⟩⟩
  ·have bX:∀ y∈T.l,¬ y.is frm P:=λy hy h=>hex ⟨y,hy,h⟩;exact (UB I hr hz hc dt hx hb hl bX hm h0).mono λe V ⟨h1,I⟩=>⟨T.last+1,true,h1,.inr ⟨rfl,rfl,hP,bX,I⟩⟩
end
end
section
set_option linter.constructorNameAsVariable false
set_option maxRecDepth 100000
theorem okWide_struct {P:Program}{w:World}{base:Nat}{t:TypeId}{fs:Array Field}{v:Value}(ht:P.underlying t=some (.struct fs))(h:Value.okWide P w .any base t v):∃ cs,v=.agg cs∧cs.size=P.cellsOf t:=by
 unfold Value.okWide at h;rw[ht]at h;obtain⟨cs,h1,h2,_⟩:=h;exact⟨cs,h1,h2⟩
end
section
section
variable {W w:World}{L:List SP}{sq r i:Nat}{A:Sn}{px:aD}
theorem WV {id:Nat}(I:U W w (ax sq r A::L))(hx:A.au[i]?=some px)(bT:px.id=id) :
   Calls prog 290 #[pt sq,.int .i64 id] w λe V=>e=.returned (.tuple #[.agg (ints .i32 32 px.g).toArray,.bool true])∧U W V (ax sq r A::L):=by
 subst bT;exact Ug I hx
set_option maxHeartbeats 4000000 in
end
end
section
section
variable {P:Program}{ops:Array Oper}{Q:Exit→Act→World→Prop}{a:Act}{w V W:World}{K:Act→World→Prop}{n d:Nat}{l:List (Nat×Value)}{v:Value}{L R:List SP}
theorem gU {s x t z sz a2 e ad k c ad2 m c2 news ty ps af g}{cs:List Value}(E:Fr a n l)(hw:Region.wanted ⟨some d,.call ⟨.builtin .append,#[s,x],#[t,t]⟩,ty,ps,af,g⟩ (yielded ops a.tmps)=true)(I:U W w L)
   (ht:P.underlying t=some (.slice e)) (hi:TI P e z sz a2) (hf:okB d n l=true) (hz:z.cells.size=sz) (hb:0<a2)
   [e1:Ev l s (.slice ad k c)] [pk:fL L ad k c e sz cs R] [e2:Ev l x (.slice ad2 m c2)] (hr:0<m→∃ b2 gG,ad2=some ⟨b2,gG,none⟩∧Rd w b2 gG news) (hl:news.length=m*sz) (h1:∀ v∈news,v.oneCell'=true)
   (aC:(k+m)*a2≤140737488355328)
   (h:∀ av c' a' V,Fr a' n ((d,.slice av (k+m) c')::l)→U W V (Sl e sz av (k+m) c' (cs++news)::R)→K a' V) :
   cH P ops Q ⟨some d,.call ⟨.builtin .append,#[s,x],#[t,t]⟩,ty,ps,af,g⟩ K a w:=by
 rcases Nat.eq_zero_or_pos m with h0 | h0
 ·subst h0;have qC:=(I.sl ad).2;obtain rfl:news=[]:=g5 (by rw[hl,Nat.zero_mul]);refine Cl (ad:=ad) (k:=k) (c:=c) (ad2:=ad2) (c2:=c2) E hw ht hi hf qC λa' di=>h ad c a' w di ?_;rw[append_nil];exact I.perm pk.perm
 ·obtain⟨b2,gG,rfl,dk⟩:=hr h0;exact cQ E hw I ht hi hz hf dk hl h1 h0 hb aC h
end
theorem U.D0 {W w:World}{L:List SP}{b e n:Nat}{cs:List Value}{l:List UInt8}(I:U W w (aa b e cs::L))(he:e=5)(hl:l.length=n)(h:cs=bc l):U W w (Sl 5 1 (some ⟨b,0,none⟩) n n (bc l)::L):=by
 subst h;subst he;have h2:U W w (aa b 5 ([]++bc l++[])::L):=by simpa using I
 exact U.iL (pre:=[]) (post:=[]) (n:=n) (c:=n) (sz:=1) (cs:=bc l) h2 (by rw[dB,hl,Nat.mul_one]) (bk _) (by simp)
theorem dS {bs:List UInt8}{i:Nat}(h:i<bs.length):(bc bs)[i]?=some (.int .u8 ((bs[i]).toNat:Int)):=by simp[bc,h]
theorem fI (a b:List UInt8):bc (a++b)=bc a++bc b:=by simp[bc]
theorem aQ.get {w:World}{ad:Option Addr}{m:Nat}{bs:List UInt8}(h:aQ w ad m bs)(h0:0<m):∃ b o,ad=some ⟨b,o,none⟩∧Rd w b o (bc bs):=by
 obtain⟨_,h2,h3⟩:=h;cases hh:ad with
 | none=>have:=h2 hh;omega
 | some a =>
  obtain⟨b,o,rfl,h1⟩:=h3 a hh h0;exact⟨b,o,rfl,h1⟩
theorem aQ.rd {w:World}{b o m:Nat}{bs:List UInt8}(h:aQ w (some ⟨b,o,none⟩) m bs)(h0:0<m):Rd w b o (bc bs):=by
 obtain⟨b',o',e,h1⟩:=h.get h0;cases e;exact h1
theorem aQ.tX {w:World}{ad:Option Addr}{bs:List UInt8}{c:Nat}(h:aQ w ad bs.length bs){lo:Nat}(hl:lo≤bs.length)(hc:bs.length≤c):aQ w (fm ad lo c 1) (bs.drop lo).length (bs.drop lo):=by
 refine⟨rfl,λe=>?_,λx hx h0=>?_⟩
 ·rw[c8];rcases Nat.eq_zero_or_pos (bs.length-lo) with h0 | h0
  ·exact h0
  ·obtain⟨b,o,rfl,_⟩:=h.get (by omega);rw[oN (by omega)]at e;cases e
 ·rw[c8]at h0;obtain⟨b,o,rfl,hr⟩:=h.get (by omega);rw[oN (by omega)]at hx;cases hx;refine⟨b,o+lo*1,rfl,λj v hj=>?_⟩;have h1:=hr (lo+j) v (by rw[bc,bn,← getElem?_drop,← bn];exact hj)
  rwa [show o+lo*1+j=o+(lo+j) from by omega]
theorem aQ.D1 {w:World}{ad:Option Addr}{bs:List UInt8}{m:Nat}(h:aQ w ad m bs){hi:Nat}(hl:hi≤bs.length):aQ w ad hi (bs.take hi):=by
 obtain⟨h1,h2,h3⟩:=h;refine⟨by rw[ez];omega,λe=>by have:=h2 e;omega,λx hx h0=>?_⟩;obtain⟨b,o,e,hr⟩:=h3 x hx (by omega);refine⟨b,o,e,λj v hj=>hr j v ?_⟩;rw[bc,map_take,getElem?_take]at hj;split at hj
 ·exact hj
 ·cases hj
theorem tY (x:Nat):BitVec.ofInt IntKind.u32.bits (x:Int)=BitVec.ofNat 32 x:=BitVec.ofInt_natCast 32 x
theorem z6 (x:Nat):BitVec.ofInt IntKind.u64.bits (x:Int)=BitVec.ofNat 64 x:=BitVec.ofInt_natCast 64 x
theorem z7 {x y:Nat}(hx:x<4294967296)(hy:y<4294967296):IntKind.u32.wrap (((BitVec.ofInt IntKind.u32.bits (x:Int) ^^^ BitVec.ofInt IntKind.u32.bits (y:Int)).toNat:Nat):Int)=((x ^^^ y:Nat):Int):=by
 rw[tY,tY];show IntKind.u32.wrap (((BitVec.ofNat 32 x ^^^ BitVec.ofNat 32 y).toNat:Nat):Int)=_;rw[BitVec.toNat_xor,BitVec.toNat_ofNat,BitVec.toNat_ofNat,Nat.mod_eq_of_lt (show x<2 ^ 32 from hx),Nat.mod_eq_of_lt (show y<2 ^ 32 from hy),wrap_u32];have:=Nat.xor_lt_two_pow (n:=32) hx hy;omega
theorem WW {x y:Nat}(hx:x<4294967296)(hy:y<4294967296):IntKind.u32.wrap (((BitVec.ofInt IntKind.u32.bits (x:Int) &&& BitVec.ofInt IntKind.u32.bits (y:Int)).toNat:Nat):Int)=((x &&& y:Nat):Int):=by
 rw[tY,tY];show IntKind.u32.wrap (((BitVec.ofNat 32 x &&& BitVec.ofNat 32 y).toNat:Nat):Int)=_;rw[BitVec.toNat_and,BitVec.toNat_ofNat,BitVec.toNat_ofNat,Nat.mod_eq_of_lt (show x<2 ^ 32 from hx),Nat.mod_eq_of_lt (show y<2 ^ 32 from hy),wrap_u32];have:x &&& y≤x:=Nat.and_le_left;omega
theorem JR {x:Nat}(h:x<4294967296):IntKind.u32.wrap (((BitVec.ofInt IntKind.u32.bits (if IntKind.u32.signed then -1 else IntKind.u32.max) ^^^ BitVec.ofInt IntKind.u32.bits (x:Int)).toNat:Nat):Int)=((4294967295-x:Nat):Int):=by
 have e:BitVec.ofInt IntKind.u32.bits (if IntKind.u32.signed then -1 else IntKind.u32.max)=BitVec.allOnes 32:=by
  show BitVec.ofInt 32 IntKind.u32.max=_;decide
 rw[e,tY];show IntKind.u32.wrap (((BitVec.allOnes 32 ^^^ BitVec.ofNat 32 x).toNat:Nat):Int)=_;rw[BitVec.allOnes_xor,BitVec.toNat_not,BitVec.toNat_ofNat,wrap_u32];rw[Nat.mod_eq_of_lt (show x<2 ^ 32 from h)];omega
theorem WX {x y:Nat}(hx:x<18446744073709551616)(hy:y<18446744073709551616):IntKind.u64.wrap (((BitVec.ofInt IntKind.u64.bits (x:Int) ||| BitVec.ofInt IntKind.u64.bits (y:Int)).toNat:Nat):Int)=((x ||| y:Nat):Int):=by
 rw[z6,z6];show IntKind.u64.wrap (((BitVec.ofNat 64 x ||| BitVec.ofNat 64 y).toNat:Nat):Int)=_;rw[BitVec.toNat_or,BitVec.toNat_ofNat,BitVec.toNat_ofNat,Nat.mod_eq_of_lt (show x<2 ^ 64 from hx),Nat.mod_eq_of_lt (show y<2 ^ 64 from hy),wrap_u64];have:=Nat.or_lt_two_pow (n:=64) hx hy;omega
theorem WY {x y:Nat}(hx:x<18446744073709551616)(hy:y<18446744073709551616):IntKind.u64.wrap (((BitVec.ofInt IntKind.u64.bits (x:Int) &&& BitVec.ofInt IntKind.u64.bits (y:Int)).toNat:Nat):Int)=((x &&& y:Nat):Int):=by
 rw[z6,z6];show IntKind.u64.wrap (((BitVec.ofNat 64 x &&& BitVec.ofNat 64 y).toNat:Nat):Int)=_;rw[BitVec.toNat_and,BitVec.toNat_ofNat,BitVec.toNat_ofNat,Nat.mod_eq_of_lt (show x<2 ^ 64 from hx),Nat.mod_eq_of_lt (show y<2 ^ 64 from hy),wrap_u64];have:x &&& y≤x:=Nat.and_le_left;omega
theorem lL (b:UInt8):b.toNat<256:=b.toNat_lt
def sE (x:Nat):Nat:=if x%2=1 then x/2 ^^^ 3988292384 else x/2
def mq:Nat→Nat→Nat
 | 0,y=>y
 | k+1,y=>sE (mq k y)
def vK (x:Nat)(b:UInt8):Nat:=mq 8 (x ^^^ b.toNat)
def oh (bs:List UInt8):Nat:=bs.foldl vK 4294967295
def jh (bs:List UInt8):Nat:=4294967295-oh bs
theorem WZ {x:Nat}(h:x<4294967296):sE x<4294967296:=by
 unfold sE;split
 ·exact Nat.xor_lt_two_pow (n:=32) (by show x/2<4294967296;omega) (by decide)
 ·omega
theorem z8 {x:Nat}(h:x<4294967296):∀ k,mq k x<4294967296
 | 0=>h
 | k+1=>WZ (z8 h k)
theorem W0 {x:Nat}(b:UInt8)(h:x<4294967296):vK x b<4294967296:=by
 refine z8 (Nat.xor_lt_two_pow (n:=32) h ?_) 8;have:=lL b;show b.toNat<4294967296;omega
theorem W1 (bs:List UInt8):∀ {x:Nat},x<4294967296→bs.foldl vK x<4294967296:=by
 induction bs with
 | nil=>exact λh=>h
 | cons b bs ih=>exact λh=>ih (W0 b h)
theorem Aa (bs:List UInt8):oh bs<4294967296:=W1 bs (by decide)
theorem D2 (bs:List UInt8):jh bs<4294967296:=by unfold jh;omega
theorem JS {bs:List UInt8}{i:Nat}(h:i<bs.length):oh (bs.take (i+1))=vK (oh (bs.take i)) bs[i]:=by
 rw[oh,iZ h,foldl_append];rfl
theorem W3 {x:Nat}(h:x<4294967296):IntKind.u32.wrap (((BitVec.ofInt IntKind.u32.bits (x:Int) &&& BitVec.ofInt IntKind.u32.bits 1).toNat:Nat):Int)=((x%2:Nat):Int):=by
 have h1:=WW (y:=1) h (by decide);rw[Nat.and_one_is_mod]at h1;exact h1
theorem W4 {m:Nat}(h:m<2):IntKind.u32.wrap (0-(m:Int))=((if m=1 then 4294967295 else 0:Nat):Int):=by
 rcases (by omega:m=0∨m=1) with rfl | rfl <;> decide
theorem W5 (m:Nat):IntKind.u32.wrap (((BitVec.ofInt IntKind.u32.bits 3988292384 &&& BitVec.ofInt IntKind.u32.bits ((if m=1 then 4294967295 else 0:Nat):Int)).toNat:Nat):Int)=((if m=1 then 3988292384 else 0:Nat):Int):=by
 by_cases h:m=1
 ·rw[al h,al h];decide
 ·rw[ag h,ag h];decide
theorem W6 {x m:Nat}(hx:x<4294967296):IntKind.u32.wrap (((BitVec.ofInt IntKind.u32.bits ((x/2:Nat):Int) ^^^ BitVec.ofInt IntKind.u32.bits ((if x%2=1 then 3988292384 else 0:Nat):Int)).toNat:Nat):Int)=((sE x:Nat):Int):=by
 rw[z7 (by omega) (by split <;> decide),sE];split
 ·rfl
 ·rw[Nat.xor_zero]
theorem W7 {x:Nat}(hx:x<4294967296):IntKind.u32.wrap (((BitVec.ofInt IntKind.u32.bits ((x/2:Nat):Int) ^^^ BitVec.ofInt IntKind.u32.bits 3988292384).toNat:Nat):Int)=((x/2 ^^^ 3988292384:Nat):Int):=z7 (y:=3988292384) (by omega) (by decide)
def ff (x:Nat):List UInt8:=[UInt8.ofNat (x/16777216),UInt8.ofNat (x/65536),UInt8.ofNat (x/256),UInt8.ofNat x]
theorem W8 (n:Nat):IntKind.u8.wrap (n:Int)=((UInt8.ofNat n).toNat:Int):=by
 rw[wrap_u8,UInt8.toNat_ofNat'];omega
def pd (x:Int):Nat:=(x%4294967296).toNat
theorem JT (x:Int):IntKind.u32.wrap x=((pd x:Nat):Int):=by rw[wrap_u32,pd];omega
def gm (g:Nat→Int):List UInt8:=(List.range 32).flatMap λi=>ff (pd (g i))
def lM (g:Nat→Int)(n:Nat):List UInt8:=(List.range n).flatMap λi=>ff (pd (g i))
theorem D3 (g:Nat→Int)(n:Nat):lM g (n+1)=lM g n++ff (pd (g n)):=by simp[lM,range_succ]
theorem q3 (g:Nat→Int)(n:Nat):(lM g n).length=4*n:=by
 induction n with
 | zero=>rfl
 | succ n ih=>rw[D3,aM,ih];simp[ff];omega
theorem tZ (g:Nat→Int):(gm g).length=128:=q3 g 32
section
variable {W w:World}{L:List SP}{n c m:Nat}{ad:Option Addr}{bs:List UInt8}
theorem W9 (I:U W w L)(hb:bs.length≤1099511627776)(hp:∀ V,U W V L→aQ V ad bs.length bs) :
   Calls prog 205 #[.int .u32 0,.slice ad bs.length c] w λe V=>e=.returned (.int .u32 (jh bs))∧U W V L:=by
 refine EN func205 ntmps205 rfl rfl λa E=>?_;refine RN 6 E I λa E=>?_;rw[show IntKind.u32.wrap ((BitVec.ofInt IntKind.u32.bits (if IntKind.u32.signed then -1 else IntKind.u32.max) ^^^ BitVec.ofInt IntKind.u32.bits 0).toNat:Int)=((oh (bs.take 0):Nat):Int) from rfl]at E;refine RN 5 E I λa E=>?_;refine aP (λμ a w=>∃ (i:Nat),(μ=bs.length-i∧i≤bs.length)∧Fr a 33 [(5,.int .u32 (oh (bs.take i))),(10,.slice ad bs.length c),(11,.int .i64 bs.length),(12,.int .i64 i)]∧U W w L) (bs.length) (⟨0,⟨rfl,by omega⟩,E.ab [5,10,11,12],I⟩) ?_;clear E I;rintro μ a w ⟨i,⟨rfl,hi⟩,E,I⟩;refine IF 3 E I (λaj a E=>?_) λaj a E=>?_
 ·
  obtain⟨bb,oo,rfl,hr⟩:=(hp _ I).get (by omega);have aG:i<bs.length:=by omega
  have hx:=Aa (bs.take i);have qh:=lL bs[i];refine RN 3 E I λa E=>?_;refine SS E (ae E (hr i _ (dS aG))) λa E=>?_;refine SX 4 E I (by rw[wrap_u32];omega) λa E=>?_;refine RN 1 E I λa E=>?_;rw[z7 hx (by omega)]at E;refine RN 3 E I λa E=>?_;have hy:oh (bs.take i) ^^^ bs[i].toNat<4294967296:=Nat.xor_lt_two_pow (n:=32) hx (by show _<4294967296;omega);have hL:=JS aG;rw[vK]at hL;generalize oh (bs.take i) ^^^ bs[i].toNat=y at E hy hL;refine aP (λμ a w=>∃ (k:Nat),(μ=8-k∧k≤8)∧Fr a 33 [(5,.int .u32 (mq k y)),(10,.slice (some ⟨bb,oo,none⟩) bs.length c),(11,.int .i64 bs.length),(12,.int .i64 i),(20,.int .i64 k)]∧U W w L) (8) (⟨0,⟨rfl,by omega⟩,E.ab [5,10,11,12,20],I⟩) ?_;clear E I;rintro μ a w ⟨k,⟨rfl,hk⟩,E,I⟩;refine IF 3 E I (λao a E=>?_) λao a E=>?_
  ·
   have Ab:=z8 hy k;refine RN 3 E I λa E=>?_;rw[show ((mq k y:Nat):Int).fdiv (2 ^ 1)=((mq k y/2:Nat):Int) from kS _ 2]at E;refine RN 2 E I λa E=>?_;rw[W3 Ab]at E;refine RN 1 E I λa E=>?_;rw[W4 (Nat.mod_lt _ (by decide))]at E;refine RN 1 E I λa E=>?_;rw[W5]at E;refine RN 1 E I λa E=>?_;rw[W6 (m:=0) Ab]at E;refine RN 3 E I λa E=>?_;exact⟨8-(k+1),by omega,k+1,⟨rfl,by omega⟩,E.ab [5,10,11,12,20],I⟩
  obtain rfl:k=8:=by omega
  rw[← hL]at E;refine RN 2 E I λa E=>?_;exact⟨bs.length-(i+1),by omega,i+1,⟨rfl,by omega⟩,E.ab [5,10,11,12],I⟩
 obtain rfl:i=bs.length:=by omega
 rw[take_length]at E;refine RN 3 E I λa E=>?_;rw[JR (Aa bs)]at E;refine RT 1 E I ?_;exact⟨rfl,I⟩
theorem JU (I:U W w L)(hb:bs.length≤1099511627776)(hp:∀ V,U W V L→aQ V ad bs.length bs) :
   Calls prog 176 #[.slice ad bs.length c] w λe V=>e=.returned (.int .u32 (jh bs))∧U W V L:=by
 refine EN func176 ntmps176 rfl rfl λa E=>?_;refine CL 4 E I (W9 I hb hp) λa w E I=>?_;refine RT 1 E I ?_;exact⟨rfl,I⟩
theorem JV (I:U W w L)(hb:bs.length≤1099511627776)(hp:∀ V,U W V L→aQ V ad bs.length bs) :
   Calls prog 154 #[.slice ad bs.length c] w λe V=>e=.returned (.int .u32 (jh bs))∧U W V L:=by
 refine EN func154 ntmps154 rfl rfl λa E=>?_;refine RN 7 E I λa E=>?_;refine aP (λμ a w=>∃ (i:Nat),(μ=bs.length-i∧i≤bs.length)∧Fr a 33 [(0,.slice ad bs.length c),(3,.int .u32 (oh (bs.take i))),(4,.int .i64 i)]∧U W w L) (bs.length) (⟨0,⟨rfl,by omega⟩,E.ab [0,3,4],I⟩) ?_;clear E I;rintro μ a w ⟨i,⟨rfl,hi⟩,E,I⟩;refine IF 6 E I (λaj a E=>?_) λaj a E=>?_
 ·
  obtain⟨bb,oo,rfl,hr⟩:=(hp _ I).get (by omega);have aG:i<bs.length:=by omega
  have hx:=Aa (bs.take i);have qh:=lL bs[i];refine RN 6 E I λa E=>?_;refine SS E (ae E (hr i _ (dS aG))) λa E=>?_;refine SX 0 E I (by rw[wrap_u32];omega) λa E=>?_;refine RN 1 E I λa E=>?_;rw[z7 hx (by omega)]at E;refine RN 3 E I λa E=>?_;have hy:oh (bs.take i) ^^^ bs[i].toNat<4294967296:=Nat.xor_lt_two_pow (n:=32) hx (by show _<4294967296;omega);have hL:=JS aG;rw[vK]at hL;generalize oh (bs.take i) ^^^ bs[i].toNat=y at E hy hL;refine aP (λμ a w=>∃ (k:Nat),(μ=8-k∧k≤8)∧Fr a 33 [(0,.slice (some ⟨bb,oo,none⟩) bs.length c),(3,.int .u32 (mq k y)),(4,.int .i64 i),(5,.int .i64 k)]∧U W w L) (8) (⟨0,⟨rfl,by omega⟩,E.ab [0,3,4,5],I⟩) ?_;clear E I;rintro μ a w ⟨k,⟨rfl,hk⟩,E,I⟩;refine IF 4 E I (λao a E=>?_) λao a E=>?_
  ·
   have Ab:=z8 hy k;have n3:mq (k+1) y=sE (mq k y):=rfl;refine SX 3 E I (by decide) λa E=>?_;rw[show ((mq k y:Nat):Int).tmod 2=((mq k y%2:Nat):Int) from nR _ 2]at E;refine IF 1 E I (λaz a E=>?_) λaz a E=>?_
   ·
    rw[sE,al (by omega)]at n3;refine RN 2 E I λa E=>?_;rw[show ((mq k y:Nat):Int).fdiv (2 ^ 1)=((mq k y/2:Nat):Int) from kS _ 2]at E;refine RN 1 E I λa E=>?_;rw[W7 Ab,← n3]at E;refine RN 4 E I λa E=>?_;exact⟨8-(k+1),by omega,k+1,⟨rfl,by omega⟩,E.ab [0,3,4,5],I⟩
   rw[sE,ag (by omega)]at n3;refine RN 2 E I λa E=>?_;rw[show ((mq k y:Nat):Int).fdiv (2 ^ 1)=((mq k y/2:Nat):Int) from kS _ 2,← n3]at E;refine RN 4 E I λa E=>?_;exact⟨8-(k+1),by omega,k+1,⟨rfl,by omega⟩,E.ab [0,3,4,5],I⟩
  obtain rfl:k=8:=by omega
  rw[← hL]at E;refine RN 3 E I λa E=>?_;exact⟨bs.length-(i+1),by omega,i+1,⟨rfl,by omega⟩,E.ab [0,3,4],I⟩
 obtain rfl:i=bs.length:=by omega
 rw[take_length]at E;refine RN 3 E I λa E=>?_;rw[JR (Aa bs)]at E;refine RT 1 E I ?_;exact⟨rfl,I⟩
theorem D4 {x:Nat}:[[Value.int .u8 (IntKind.u8.wrap ((x/16777216:Nat):Int))],[Value.int .u8 (IntKind.u8.wrap ((x/65536:Nat):Int))],[Value.int .u8 (IntKind.u8.wrap ((x/256:Nat):Int))],[Value.int .u8 (IntKind.u8.wrap ((x:Nat):Int))]].flatten=bc (ff x):=by
 simp only[W8];rfl
theorem U.D5 {b:Nat}{cs:List Value}{l:List UInt8}{e:Nat}(I:U W w (aa b e cs::L))(he:e=5)(hl:l.length=4)(h:cs=bc l):U W w (Sl 5 1 (some ⟨b,0,none⟩) 4 4 (bc l)::L):=by
 subst h;subst he;have h2:U W w (aa b 5 ([]++bc l++[])::L):=by simpa using I
 exact U.iL (pre:=[]) (post:=[]) (n:=4) (c:=4) (sz:=1) (cs:=bc l) h2 (by rw[dB,hl]) (bk _) (Nat.zero_le _)
theorem JW {x:Nat}(I:U W w L) :
   Calls prog 337 #[.int .u32 x] w λe V=>∃ ad,e=.returned (.slice ad 4 4)∧U W V (Sl 5 1 ad 4 4 (bc (ff x))::L):=by
 refine EN func337 ntmps337 rfl rfl λa E=>?_;refine RN 5 E I λa E=>?_;rw[show ((x:Nat):Int).fdiv (2 ^ 24)=((x/16777216:Nat):Int) from kS _ 16777216]at E;refine SS E (gj E underlying100 underlying5) λa E=>?_;refine RN 2 E I λa E=>?_;rw[show ((x:Nat):Int).fdiv (2 ^ 16)=((x/65536:Nat):Int) from kS _ 65536]at E;refine SS E (gj E underlying100 underlying5) λa E=>?_;refine RN 2 E I λa E=>?_;rw[show ((x:Nat):Int).fdiv (2 ^ 8)=((x/256:Nat):Int) from kS _ 256]at E;refine SS E (gj E underlying100 underlying5) λa E=>?_;refine RN 1 E I λa E=>?_;refine SS E (gj E underlying100 underlying5) λa E=>?_;refine RN 0 E I λa E=>?_;refine cp E rfl I underlying22 Ty.t5 rfl rfl rfl rfl (by decide) (by decide) λeM a w E I ho=>?_;clear ho;refine RT 1 E I ?_;exact⟨_,rfl,I.D5 rfl rfl D4⟩
theorem D6 {x:Nat}(I:U W w L) :
   Calls prog 158 #[.int .u32 x] w λe V=>∃ ad,e=.returned (.slice ad 4 4)∧U W V (Sl 5 1 ad 4 4 (bc (ff x))::L):=by
 refine EN func158 ntmps158 rfl rfl λa E=>?_;refine RN 5 E I λa E=>?_;rw[show ((x:Nat):Int).fdiv (2 ^ 24)=((x/16777216:Nat):Int) from kS _ 16777216]at E;refine SS E (gj E underlying100 underlying5) λa E=>?_;refine RN 2 E I λa E=>?_;rw[show ((x:Nat):Int).fdiv (2 ^ 16)=((x/65536:Nat):Int) from kS _ 65536]at E;refine SS E (gj E underlying100 underlying5) λa E=>?_;refine RN 2 E I λa E=>?_;rw[show ((x:Nat):Int).fdiv (2 ^ 8)=((x/256:Nat):Int) from kS _ 256]at E;refine SS E (gj E underlying100 underlying5) λa E=>?_;refine RN 1 E I λa E=>?_;refine SS E (gj E underlying100 underlying5) λa E=>?_;refine RN 0 E I λa E=>?_;refine cp E rfl I underlying22 Ty.t5 rfl rfl rfl rfl (by decide) (by decide) λeM a w E I ho=>?_;clear ho;refine RT 1 E I ?_;exact⟨_,rfl,I.D5 rfl rfl D4⟩
theorem Xa {x:Int}(I:U W w L) :
   Calls prog 206 #[.int .i32 x] w λe V=>∃ ad,e=.returned (.slice ad 4 4)∧U W V (Sl 5 1 ad 4 4 (bc (ff (pd x)))::L):=by
 refine EN func206 ntmps206 rfl rfl λa E=>?_;refine RN 4 E I λa E=>?_;refine SS E (gj E underlying21 underlying100) λa E=>?_;rw[JT]at E;generalize pd x=x at E ⊢;refine RN 4 E I λa E=>?_;rw[show ((x:Nat):Int).fdiv (2 ^ 24)=((x/16777216:Nat):Int) from kS _ 16777216]at E;refine SS E (gj E underlying100 underlying5) λa E=>?_;refine RN 2 E I λa E=>?_;rw[show ((x:Nat):Int).fdiv (2 ^ 16)=((x/65536:Nat):Int) from kS _ 65536]at E;refine SS E (gj E underlying100 underlying5) λa E=>?_;refine RN 2 E I λa E=>?_;rw[show ((x:Nat):Int).fdiv (2 ^ 8)=((x/256:Nat):Int) from kS _ 256]at E;refine SS E (gj E underlying100 underlying5) λa E=>?_;refine RN 1 E I λa E=>?_;refine SS E (gj E underlying100 underlying5) λa E=>?_;refine RN 0 E I λa E=>?_;refine cp E rfl I underlying22 Ty.t5 rfl rfl rfl rfl (by decide) (by decide) λib a w E I ho=>?_;clear ho;refine RT 1 E I ?_;exact⟨_,rfl,I.D5 rfl rfl D4⟩
end
end
end Go.Proofs.YteoldcfapaiobaaGreat
