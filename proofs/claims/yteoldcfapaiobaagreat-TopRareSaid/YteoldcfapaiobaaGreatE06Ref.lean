/- The references' runes, titles, programs: the walks. -/
import Derived.Test.YteoldcfapaiobaaGreatE05Vm
import Derived.Test.YteoldcfapaiobaaGreatE04Job
import Derived.Test.YteoldcfapaiobaaGreatE01Row
import Derived.ProofKit
import Derived.Deep.Slices
import Derived.Deep.Strs
import Derived.ChangeSlices
import Derived.ChangeShapes
import Derived.DataShut
import Derived.Test.YteoldcfapaiobaaGreatE03Snap2
import Derived.Laws.StructEq
import Derived.ChangeKeysEq
import Derived.ChangeSame
namespace Go.Proofs.YteoldcfapaiobaaGreat
open Tryz
open List (all_eq_true drop_zero take_succ_cons getElem?_take getElem?_drop nil_append map_cons cons_append getElem_set_self eraseIdx_set_eq take_length append_nil ext_getElem? map_take range_succ foldl_append)
open Go.RowKit
set_option linter.unusedVariables false
set_option linter.unusedSimpArgs false
set_option maxRecDepth 10000
set_option synthInstance.maxSize 4000
set_option synthInstance.maxHeartbeats 400000
section
section
variable {W w:World}{L:List SP}{s:ByteArray}{p:Pr}{aq:Option Addr}{cO:Nat}
theorem WI (s:ByteArray):s.extract 0 s.size=s:=by simp
theorem WJ {s:ByteArray}(h:0<s.size):(s.data.toList==(⟨#[]⟩:ByteArray).data.toList)=false:=by
 rw[lI];intro e;have h2:=congrArg List.length e;have h3:s.data.toList.length=s.size:=Array.length_toList;rw[h3]at h2;have h4:(⟨#[]⟩:ByteArray).data.toList.length=0:=rfl;omega
theorem Ad {s:ByteArray}{j:Nat}(h:j<s.size):(s[j]'h).toNat=j2 s j:=by rw[j2,DU h]
theorem WK (I:U W w L)(h0:0<s.size):Calls prog 187 #[.string s] w λe w'=>e=.returned (.tuple #[.int .i32 (Utf8.decode s 0).1,.int .i64 (Utf8.decode s 0).2])∧U W w' L:=by
 obtain⟨b,hb⟩:∃ b,j2 s 0=b:=⟨_,rfl⟩;have o0:=DY s 0;rw[hb]at o0;refine EN func187 ntmps187 rfl rfl λa E=>?_;refine RN 6 E I λa E=>?_;refine SS E (r4 E) λa E=>?_;rw[WJ h0]at E;refine RN 0 E I λa E=>?_;replace E:=E.aM 10;refine RN 3 E I λa E=>?_;refine SS E (zo E underlying9 (by omega)) λa E=>?_;rw[Ad h0,hb]at E;refine RN 5 E I λa E=>?_;refine cc (M:=λa w=>∃ n low r:Nat,DX b n low r∧Fr a 92 [(0,.string s),(5,.int .i64 n),(6,.int .i32 low),(7,.int .i32 r)]∧U W w L) ?_ ?_
 ·
  refine IF 4 E I (λao a E=>?_) λao a E=>?_
  ·
   refine SX 2 E I (ib (by omega) (by omega)) λa E=>?_;refine RT 2 E I ?_;exact⟨by rw[WE hb (by omega)];rfl,I⟩
  refine BY 4 E I (λbA a E=>?_) λbA a E=>?_
  ·
   refine IF 4 E I (λay a E=>?_) λay a E=>?_
   ·
    refine SX 1 E I (ib (by omega) (by omega)) λa E=>?_;refine RN 1 E I λa E=>?_;obtain⟨r,hr⟩:∃ r,b=192+r:=⟨b-192,by omega⟩;rw[show IntKind.i32.wrap ((b:Int)-192)=(r:Nat) from by rw[ib (by omega) (by omega)];omega]at E;refine RN 3 E I λa E=>?_;exact⟨2,128,r,.inl ⟨hr,by omega,rfl,rfl⟩,E.ab [0,5,6,7],I⟩
   refine BY 4 E I (λbA a E=>?_) λbA a E=>?_
   ·
    refine IF 4 E I (λbk a E=>?_) λbk a E=>?_
    ·
     refine SX 1 E I (ib (by omega) (by omega)) λa E=>?_;refine RN 1 E I λa E=>?_;obtain⟨r,hr⟩:∃ r,b=224+r:=⟨b-224,by omega⟩;rw[show IntKind.i32.wrap ((b:Int)-224)=(r:Nat) from by rw[ib (by omega) (by omega)];omega]at E;refine RN 3 E I λa E=>?_;exact⟨3,2048,r,.inr (.inl ⟨hr,by omega,rfl,rfl⟩),E.ab [0,5,6,7],I⟩
    refine BY 4 E I (λbA a E=>?_) λbA a E=>?_
    ·
     refine IF 4 E I (λbO a E=>?_) λbO a E=>?_
     ·
      refine SX 1 E I (ib (by omega) (by omega)) λa E=>?_;refine RN 1 E I λa E=>?_;obtain⟨r,hr⟩:∃ r,b=240+r:=⟨b-240,by omega⟩;rw[show IntKind.i32.wrap ((b:Int)-240)=(r:Nat) from by rw[ib (by omega) (by omega)];omega]at E;refine RN 3 E I λa E=>?_;exact⟨4,65536,r,.inr (.inr ⟨hr,by omega,rfl,rfl⟩),E.ab [0,5,6,7],I⟩
     refine RT 3 E I ?_;exact⟨by rw[sJ hb (by omega) (by omega)];rfl,I⟩
    refine RT 8 E I ?_;exact⟨by rw[sJ hb (by omega) (by omega)];rfl,I⟩
   refine BY 9 E I (λbA a E=>?_) λbA a E=>?_
   ·
    refine IF 4 E I (λbO a E=>?_) λbO a E=>?_
    ·
     refine SX 1 E I (ib (by omega) (by omega)) λa E=>?_;refine RN 1 E I λa E=>?_;obtain⟨r,hr⟩:∃ r,b=240+r:=⟨b-240,by omega⟩;rw[show IntKind.i32.wrap ((b:Int)-240)=(r:Nat) from by rw[ib (by omega) (by omega)];omega]at E;refine RN 3 E I λa E=>?_;exact⟨4,65536,r,.inr (.inr ⟨hr,by omega,rfl,rfl⟩),E.ab [0,5,6,7],I⟩
    refine RT 3 E I ?_;exact⟨by rw[sJ hb (by omega) (by omega)];rfl,I⟩
   refine RT 8 E I ?_;exact⟨by rw[sJ hb (by omega) (by omega)];rfl,I⟩
  refine BY 9 E I (λbA a E=>?_) λbA a E=>?_
  ·
   refine IF 4 E I (λbk a E=>?_) λbk a E=>?_
   ·
    refine SX 1 E I (ib (by omega) (by omega)) λa E=>?_;refine RN 1 E I λa E=>?_;obtain⟨r,hr⟩:∃ r,b=224+r:=⟨b-224,by omega⟩;rw[show IntKind.i32.wrap ((b:Int)-224)=(r:Nat) from by rw[ib (by omega) (by omega)];omega]at E;refine RN 3 E I λa E=>?_;exact⟨3,2048,r,.inr (.inl ⟨hr,by omega,rfl,rfl⟩),E.ab [0,5,6,7],I⟩
   refine BY 4 E I (λbA a E=>?_) λbA a E=>?_
   ·
    refine IF 4 E I (λbO a E=>?_) λbO a E=>?_
    ·
     refine SX 1 E I (ib (by omega) (by omega)) λa E=>?_;refine RN 1 E I λa E=>?_;obtain⟨r,hr⟩:∃ r,b=240+r:=⟨b-240,by omega⟩;rw[show IntKind.i32.wrap ((b:Int)-240)=(r:Nat) from by rw[ib (by omega) (by omega)];omega]at E;refine RN 3 E I λa E=>?_;exact⟨4,65536,r,.inr (.inr ⟨hr,by omega,rfl,rfl⟩),E.ab [0,5,6,7],I⟩
    refine RT 3 E I ?_;exact⟨by rw[sJ hb (by omega) (by omega)];rfl,I⟩
   refine RT 8 E I ?_;exact⟨by rw[sJ hb (by omega) (by omega)];rfl,I⟩
  refine BY 9 E I (λbA a E=>?_) λbA a E=>?_
  ·
   refine IF 4 E I (λbO a E=>?_) λbO a E=>?_
   ·
    refine SX 1 E I (ib (by omega) (by omega)) λa E=>?_;refine RN 1 E I λa E=>?_;obtain⟨r,hr⟩:∃ r,b=240+r:=⟨b-240,by omega⟩;rw[show IntKind.i32.wrap ((b:Int)-240)=(r:Nat) from by rw[ib (by omega) (by omega)];omega]at E;refine RN 3 E I λa E=>?_;exact⟨4,65536,r,.inr (.inr ⟨hr,by omega,rfl,rfl⟩),E.ab [0,5,6,7],I⟩
   refine RT 3 E I ?_;exact⟨by rw[sJ hb (by omega) (by omega)];rfl,I⟩
  refine RT 8 E I ?_;exact⟨by rw[sJ hb (by omega) (by omega)];rfl,I⟩
 clear E;(try clear I);rintro a w ⟨n,low,r,hd,E,I⟩;refine RN 2 E I λa E=>?_;have pv:2≤n∧n≤4∧r<32:=by rcases hd with h | h | h <;> omega
 refine IF 4 E I (λeE a E=>?_) λeE a E=>?_
 ·
  refine RT 3 E I ?_;exact⟨by rw[D0 hb hd (.inl (by omega))];rfl,I⟩
 refine RN 3 E I λa E=>?_;refine aO (λμ a w=>∃ (j:Nat),(μ=n-j∧j+1≤n∧∀ k,1≤k→k<j+1→j2 s k/64=2)∧Fr a 92 [(0,.string s),(5,.int .i64 n),(6,.int .i32 low),(7,.int .i32 (gd s r j:Nat)),(8,.int .i64 ((j+1:Nat):Int))]∧U W w L) (n) (⟨0,⟨by simp,by omega,λk h1 h2=>by omega⟩,E.ab [0,5,6,7,8],I⟩) ?_;clear E I;rintro μ a w ⟨j,⟨rfl,hj,hS⟩,E,I⟩;refine IF 5 E I (λmW a E=>?_) λmW a E=>?_
 ·
  refine RN 3 E I λa E=>?_;have sL:j+1<s.size:=by omega
  have hbj:=DY s (j+1);refine RN 2 E I λa E=>?_;refine SS E (zo E underlying9 (by omega)) λa E=>?_;rw[Ad sL]at E;refine BY 2 E I (λdz a E=>?_) λdz a E=>?_
  ·
   refine RT 9 E I ?_;exact⟨by rw[D0 hb hd (.inr ⟨j+1,by omega,by omega,by omega⟩)];rfl,I⟩
  refine RN 2 E I λa E=>?_;refine bo E (b7 E rfl (s:=61)) (zo E underlying9 (by omega)) rfl λa E=>?_;rw[Ad sL]at E;refine IF 2 E I (λmo a E=>?_) λmo a E=>?_
  ·
   refine RT 3 E I ?_;exact⟨by rw[D0 hb hd (.inr ⟨j+1,by omega,by omega,by omega⟩)];rfl,I⟩
  refine RN 0 E I λa E=>?_;have cp:=DZ (s:=s) pv.2.2 j;have qm:(64:Nat) ^ j≤64 ^ 2:=Nat.pow_le_pow_right (by omega) (by omega);refine RN 2 E I λa E=>?_;rw[ib (by omega) (by omega)]at E;refine RN 2 E I λa E=>?_;refine SS E (zo E underlying9 (by omega)) λa E=>?_;rw[Ad sL]at E;refine SX 0 E I (ib (by omega) (by omega)) λa E=>?_;refine RN 1 E I λa E=>?_;rw[ib (by omega) (by omega)]at E;refine RN 1 E I λa E=>?_;rw[show IntKind.i32.wrap ((gd s r j:Nat)*64+(j2 s (j+1):Nat)-128:Int)=(gd s r (j+1):Nat) from by rw[ib (by omega) (by omega),gd];omega]at E;refine RN 4 E I λa E=>?_;refine⟨n-(j+1),by omega,j+1,⟨rfl,by omega,λk h1 h2=>?_⟩,E.ab [0,5,6,7,8],I⟩;rcases Nat.lt_or_ge k (j+1) with h3 | h3
  ·exact hS k h1 h3
  ·obtain rfl:k=j+1:=by omega
   omega
 refine RN 2 E I λa E=>?_;obtain rfl:n=j+1:=by omega
 have pf:=WG hb hd (by omega) hS;simp only[Aa,Nat.add_sub_cancel]at pf;refine BY 4 E I (λbX a E=>?_) λbX a E=>?_
 ·
  refine RT 15 E I ?_;exact⟨by rw[pf.1 (by omega)];rfl,I⟩
 refine BY 4 E I (λjE a E=>?_) λjE a E=>?_
 ·
  refine RT 11 E I ?_;exact⟨by rw[pf.1 (by omega)];rfl,I⟩
 refine BY 3 E I (λlK a E=>?_) λlK a E=>?_
 ·
  refine IF 4 E I (λmq a E=>?_) λmq a E=>?_
  ·
   refine RT 3 E I ?_;exact⟨by rw[pf.1 (by omega)];rfl,I⟩
  refine RT 5 E I ?_;exact⟨by rw[pf.2 (by omega)],I⟩
 refine RT 10 E I ?_;exact⟨by rw[pf.2 (by omega)],I⟩
def RI (l:List (Nat×Nat)):List Value:=l.map λx=>.int .i32 x.1
theorem JR (I:U W w L)(aG:s.size≤1000000000):Calls prog 148 #[.string s] w λe w'=>∃ ad c,e=.returned (.tuple #[.slice ad (ea s 0).length c,.bool ((ea s 0).all mj)]) ∧
   U W w' (Sl 21 1 ad (ea s 0).length c (RI (ea s 0))::L):=by
 refine EN func148 ntmps148 rfl rfl λa E=>?_;refine RN 6 E I λa E=>?_;replace I:=I.bN 21 1 none;refine RN 2 E I λa E=>?_;refine aO (λμ a w=>∃ (pos:Nat) (dn:List (Nat×Nat)) (ad:Option Addr) (c:Nat),(μ=s.size-pos∧pos≤s.size∧dn.length≤pos∧ea s 0=dn++ea s pos)∧Fr a 34 [(0,.string (s.extract pos s.size)),(4,.slice ad dn.length c),(5,.bool (dn.all mj))]∧U W w (Sl 21 1 ad dn.length c (RI dn)::L)) (s.size) (⟨0,[],none,0,⟨by simp,by omega,by simp,rfl⟩,by rw[WI];exact E.ab [0,4,5],I⟩) ?_;clear E I;rintro μ a w ⟨pos,dn,ad,c,⟨rfl,hp,mn,c6⟩,E,I⟩;refine RN 4 E I λa E=>?_;rw[ra]at E;refine IF 1 E I (λaj a E=>?_) λaj a E=>?_
 ·
  have gD:pos<s.size:=by omega
  have mU:=q3 gD;have hdp:=tS s pos;have hdi:=Ja s pos gD;have D1:dX s pos=pos+(Utf8.decode s pos).2:=by rw[dX,ak gD]
  refine CL 2 E I (WK I (by rw[ra];omega)) λa w E I=>?_;rw[WD]at E;refine RN 8 E I λa E=>?_;refine cr E rfl I underlying270 Ty.t21 rfl rfl rfl rfl (by decide) (by decide) λsM a w E I ho=>?_;clear ho;refine RN 0 E I λa E=>?_;refine cK E rfl I underlying270 Ty.t21 rfl rfl I.ai rfl (by simp[Value.oneCell']) (by decide) (by decide) (by omega) λAe Af a w E I=>?_;refine RN 1 E I λa E=>?_;have pw:U W w (Sl 21 1 Ae (dn++[Utf8.decode s pos]).length Af (RI (dn++[Utf8.decode s pos]))::L):=by
   have e1:(dn++[Utf8.decode s pos]).length=dn.length+1:=by simp
   have e2:RI (dn++[Utf8.decode s pos])=RI dn++[.int .i32 (Utf8.decode s pos).1]:=by simp[RI]
   rw[e1,e2];change U W w (Sl 21 1 Ae (dn.length+1) Af (RI dn++[.int .i32 (Utf8.decode s pos).1])::_) at I;exact I.sub
  replace I:=pw;clear pw;refine RN 1 E I λa E=>?_;have qn:(dn++[Utf8.decode s pos]).all mj=(dn.all mj&&Ab (Utf8.decode s pos)):=by rw[WH];simp
  simp only[Ab]at qn;refine BY 2 E I (λmY a E=>?_) λmY a E=>?_
  ·
   refine BY 3 E I (λdz a E=>?_) λdz a E=>?_
   ·
    refine RN 5 E I λa E=>?_;rw[mY,ak (by omega)]at qn;refine RN 2 E I λa E=>?_;refine SS E (CH E underlying9 (by rw[ra];omega)) λa E=>?_;rw[DV,← D1]at E;refine RN 1 E I λa E=>?_;have xW:(dn++[Utf8.decode s pos]).length=dn.length+1:=by simp
    refine⟨s.size-dX s pos,by omega,dX s pos,dn++[Utf8.decode s pos],_,_,⟨rfl,by omega,by omega,by rw[c6,mU,ds];rfl⟩,?_,I⟩;rw[xW,qn];exact E.ab [0,4,5]
   refine RN 5 E I λa E=>?_;rw[mY,ag (by omega),Bool.true_and,show decide ((Utf8.decode s pos).2=3)=decide (((Utf8.decode s pos).2:Int)=3) from decide_eq_decide.2 (by omega)]at qn;refine RN 2 E I λa E=>?_;refine SS E (CH E underlying9 (by rw[ra];omega)) λa E=>?_;rw[DV,← D1]at E;refine RN 1 E I λa E=>?_;have xW:(dn++[Utf8.decode s pos]).length=dn.length+1:=by simp
   refine⟨s.size-dX s pos,by omega,dX s pos,dn++[Utf8.decode s pos],_,_,⟨rfl,by omega,by omega,by rw[c6,mU,ds];rfl⟩,?_,I⟩;rw[xW,qn];exact E.ab [0,4,5]
  refine RN 8 E I λa E=>?_;rw[mY,Bool.false_and]at qn;refine RN 2 E I λa E=>?_;refine SS E (CH E underlying9 (by rw[ra];omega)) λa E=>?_;rw[DV,← D1]at E;refine RN 1 E I λa E=>?_;have xW:(dn++[Utf8.decode s pos]).length=dn.length+1:=by simp
  refine⟨s.size-dX s pos,by omega,dX s pos,dn++[Utf8.decode s pos],_,_,⟨rfl,by omega,by omega,by rw[c6,mU,ds];rfl⟩,?_,I⟩;rw[xW,qn];exact E.ab [0,4,5]
 refine RT 5 E I ?_;obtain rfl:pos=s.size:=by omega
 have lO:=q4 (s:=s) (pos:=s.size) (by omega);rw[lO,append_nil]at c6;rw[c6];exact⟨_,_,rfl,I.sub⟩
theorem JS {l:List (Nat×Nat)}{i:Nat}{x:Nat×Nat}(h:l[i]?=some x):(RI l)[i]?=some (.int .i32 x.1):=by rw[RI,bm,h];rfl
theorem WL (I:U W w L)(aG:s.size≤1000000000):Calls prog 107 #[.string s] w λe w'=>e=.returned (.bool (pg s))∧U W w' L:=by
 have gb:pg s=(decide (1≤(ea s 0).length)&&decide ((ea s 0).length≤20)&&(ea s 0).all kv&&(ea s 0).all mj):=rfl;have gl:=Va s s.size 0 (by omega);refine EN func107 ntmps107 rfl rfl λa E=>?_;refine aY 4 E I (JR I aG) λad c a w E I=>?_;generalize (ea s 0)=l at E I gb gl;refine BY 10 E I (λbA a E=>?_) λbA a E=>?_
 ·
  refine RT 12 E I ?_;exact⟨by rw[gb,bA,Bool.and_false],I.sub⟩
 refine BY 5 E I (λjE a E=>?_) λjE a E=>?_
 ·
  refine RT 7 E I ?_;exact⟨by rw[gb,bq (by omega)];simp,I.sub⟩
 refine IF 4 E I (λaj a E=>?_) λaj a E=>?_
 ·
  refine RT 2 E I ?_;exact⟨by rw[gb,bq (p:=l.length≤20) (by omega)];simp,I.sub⟩
 refine RN 3 E I λa E=>?_;refine aO (λμ a w=>∃ i:Nat,(μ=l.length-i∧i≤l.length∧∀ j x,j<i→l[j]?=some x→kv x=true)∧Fr a 41 [(3,.slice ad l.length c),(5,.int .i64 i)]∧U W w (Sl 21 1 ad l.length c (RI l)::L)) (l.length) (⟨0,⟨by simp,by simp,λj x h=>absurd h (by omega)⟩,E.ab [3,5],I⟩) ?_;clear E I;rintro μ a w ⟨i,⟨rfl,hi,cC⟩,E,I⟩;refine IF 6 E I (λao a E=>?_) λao a E=>?_
 ·
  obtain⟨b,o,rfl,c4⟩:=I.bV ad (by omega);obtain⟨x,hx⟩:∃ x,l[i]?=some x:=⟨_,aE (by omega)⟩;have mf:=c4 i _ (JS hx);refine RN 5 E I λa E=>?_;refine SS E (ae E (mf)) λa E=>?_;refine BY 2 E I (λiR a E=>?_) λiR a E=>?_
  ·
   refine RT 9 E I ?_;refine⟨?_,I.sub⟩;have py:kv x=false:=by
    simp only[kv,Bool.and_eq_false_iff,decide_eq_false_iff_not];omega
   have hS:l.all kv=false:=by rw[List.all_eq_false];exact⟨x,bH hx,by rw[py];decide⟩
   rw[gb,hS];simp
  refine RN 3 E I λa E=>?_;refine bo E (b7 E rfl (s:=34)) (ae E (mf)) rfl λa E=>?_;refine IF 2 E I (λay a E=>?_) λay a E=>?_
  ·
   refine RT 2 E I ?_;refine⟨?_,I.sub⟩;have py:kv x=false:=by
    simp only[kv,Bool.and_eq_false_iff,decide_eq_false_iff_not];omega
   have hS:l.all kv=false:=by rw[List.all_eq_false];exact⟨x,bH hx,by rw[py];decide⟩
   rw[gb,hS];simp
  refine RN 3 E I λa E=>?_;refine⟨l.length-(i+1),by omega,i+1,⟨rfl,by omega,λj y hj hy=>?_⟩,E.ab [3,5],I.sub⟩;rcases Nat.lt_or_ge j i with h | h
  ·exact cC j y h hy
  ·obtain rfl:j=i:=by omega
   rw[hx]at hy;cases hy;simp only[kv,fk,decide_eq_true_eq];omega
 refine RT 2 E I ?_;refine⟨?_,I.sub⟩;have hS:l.all kv=true:=by
  rw[all_eq_true];intro x hx;obtain⟨j,hj⟩:=jS.1 hx;exact cC j x (by have:=(a2.1 hj).1;omega) hj
 rw[gb,hS,bA,dg (p:=1≤l.length) (by omega),dg (p:=l.length≤20) (by omega)];rfl
theorem Ag {x:Int}(I:U W w L):Calls prog 108 #[.int .i64 x] w λe w'=>∃ r:Bool,e=.returned (.bool r)∧(r=true↔dk x)∧U W w' L:=by
 simp only[dk];refine EN func108 ntmps108 rfl rfl λa E=>?_;refine BY 6 E I (λbA a E=>?_) λbA a E=>?_
 ·
  refine RT 4 E I ?_;exact⟨_,rfl,by rw[ct];omega,I⟩
 refine RT 4 E I ?_;exact⟨_,rfl,⟨λh=>(by cases h),λh=>by omega⟩,I⟩
theorem WM {p:Pr}(I:U W w (aA W p aq cO::L))(aG:p.title.size≤1000000000)(dV:p.ops.length≤1000000000) :
   Calls prog 68 #[.agg (bP p aq cO).toArray] w λe w'=>∃ r:Bool,e=.returned (.bool r)∧(r=true↔vD p)∧U W w' (aA W p aq cO::L):=by
 refine EN func68 ntmps68 rfl rfl λa E=>?_;refine BX 1 E I λb1 a w E I=>?_;change U W w (aa b1 45 (bP p aq cO)::_) at I;refine CL 5 E I (WL I aG) λa w E I=>?_;refine BY 2 E I (λdz a E=>?_) λdz a E=>?_
 ·
  refine RT 14 E I ?_;exact⟨false,rfl,⟨λh=>(by cases h),λh=>by rw[h.1]at dz;cases dz⟩,I.sub⟩
 have WN:pg p.title=true:=by simpa using dz
 refine BY 6 E I (λlK a E=>?_) λlK a E=>?_
 ·
  refine RT 8 E I ?_;exact⟨false,rfl,⟨λh=>(by cases h),λh=>by have:=h.2.1;omega⟩,I.sub⟩
 refine IF 5 E I (λaj a E=>?_) λaj a E=>?_
 ·
  refine RT 2 E I ?_;exact⟨false,rfl,⟨λh=>(by cases h),λh=>by have:=h.2.2.1;omega⟩,I.sub⟩
 refine RN 3 E I λa E=>?_;refine aO (λμ a w=>∃ i:Nat,(μ=p.ops.length-i∧i≤p.ops.length∧∀ j o,j<i→p.ops[j]?=some o→q5 o)∧Fr a 55 [(1,pt b1),(3,.int .i64 i)]∧U W w (aa b1 45 (bP p aq cO)::aA W p aq cO::L)) (p.ops.length) (⟨0,⟨by simp,by simp,λj o h=>absurd h (by omega)⟩,E.ab [1,3],I.sub⟩) ?_;clear E I;rintro μ a w ⟨i,⟨rfl,hi,cC⟩,E,I⟩;refine IF 7 E I (λao a E=>?_) λao a E=>?_
 ·
  obtain⟨o,ho⟩:∃ o,p.ops[i]?=some o:=⟨_,aE (by omega)⟩;obtain⟨kJ,oo,rfl,gE⟩:=I.q6 aq (by omega);refine RN 6 E I λa E=>?_;refine SS E (bS E underlying114 rfl Ty.t114 (vE gE ho)) λa E=>?_;refine AL 0 E I λb4 a w E I=>?_;refine SA 0 E I λa w E I=>?_;refine bh 3 E I (Ag I) λr1 a w E ⟨e9,I⟩=>?_;refine BY 2 E I (λdz a E=>?_) λdz a E=>?_
  ·
   have jW:¬ q5 o:=λh=>by rw[e9.2 h.1]at dz;cases dz
   refine RT 20 E I ?_;exact⟨false,rfl,⟨λh=>(by cases h),λh=>absurd (h.2.2.2 o (bH ho)) jW⟩,I.sub⟩
  refine bh 2 E I (Ag I) λr2 a w E ⟨eX,I⟩=>?_;refine BY 3 E I (λlK a E=>?_) λlK a E=>?_
  ·
   have jW:¬ q5 o:=λh=>by rw[eX.2 h.2.1]at lK;cases lK
   refine RT 14 E I ?_;exact⟨false,rfl,⟨λh=>(by cases h),λh=>absurd (h.2.2.2 o (bH ho)) jW⟩,I.sub⟩
  refine bh 2 E I (Ag I) λr3 a w E ⟨j1,I⟩=>?_;refine BY 3 E I (λub a E=>?_) λub a E=>?_
  ·
   have jW:¬ q5 o:=λh=>by rw[j1.2 h.2.2.1]at ub;cases ub
   refine RT 8 E I ?_;exact⟨false,rfl,⟨λh=>(by cases h),λh=>absurd (h.2.2.2 o (bH ho)) jW⟩,I.sub⟩
  refine bh 2 E I (Ag I) λWO a w E ⟨qo,I⟩=>?_;refine IF 2 E I (λay a E=>?_) λay a E=>?_
  ·
   have jW:¬ q5 o:=λh=>by rw[qo.2 h.2.2.2]at ay;cases ay
   refine RT 2 E I ?_;exact⟨false,rfl,⟨λh=>(by cases h),λh=>absurd (h.2.2.2 o (bH ho)) jW⟩,I.sub⟩
  have D2:q5 o:=⟨e9.1 (by simpa using dz),eX.1 (by simpa using lK),j1.1 (by simpa using ub),qo.1 (by simpa using ay)⟩;refine RN 3 E I λa E=>?_;refine⟨p.ops.length-(i+1),by omega,i+1,⟨rfl,by omega,λj o' hj kg=>?_⟩,E.ab [1,3],I.sub⟩;rcases Nat.lt_or_ge j i with h | h
  ·exact cC j o' h kg
  ·obtain rfl:j=i:=by omega
   rw[ho]at kg;cases kg;exact D2
 refine RT 2 E I ?_;refine⟨true,rfl,⟨λ_=>⟨WN,by omega,by omega,λo ho=>?_⟩,λ_=>rfl⟩,I.sub⟩;obtain⟨j,hj⟩:=jS.1 ho;exact cC j o (by have:=(a2.1 hj).1;omega) hj
theorem WQ:∀ m:Nat,m≤15→(([[.int .i64 0],[.int .i64 2],[.int .i64 2],[.int .i64 3],[.int .i64 3],[.int .i64 3],[.int .i64 3],[.int .i64 3],[.int .i64 3],[.int .i64 1],[.int .i64 2],[.int .i64 2],[.int .i64 2],[.int .i64 2],[.int .i64 2],[.int .i64 1]].flatten:List Value))[m]?=some (.int .i64 (vQ (m:Int)))
 | 0,_=>rfl
 | 1,_=>rfl
 | 2,_=>rfl
 | 3,_=>rfl
 | 4,_=>rfl
 | 5,_=>rfl
 | 6,_=>rfl
 | 7,_=>rfl
 | 8,_=>rfl
 | 9,_=>rfl
 | 10,_=>rfl
 | 11,_=>rfl
 | 12,_=>rfl
 | 13,_=>rfl
 | 14,_=>rfl
 | 15,_=>rfl
 | n+16,h=>absurd h (by omega)
theorem WR {k:Int}(I:U W w L)(hk:0≤k∧k≤15):Calls prog 109 #[.int .i64 k] w λe w'=>e=.returned (.int .i64 (vQ k))∧U W w' L:=by
 obtain⟨m,rfl⟩:∃ m:Nat,k=m:=⟨k.toNat,by omega⟩;have hm:m≤15:=by omega
 refine EN func109 ntmps109 rfl rfl λa E=>?_;refine RN 3 E I λa E=>?_;refine cr E rfl I underlying53 Ty.t3 rfl rfl rfl rfl (by decide) (by decide) λb4 a w E I ho=>?_;clear ho;refine RN 5 E I λa E=>?_;refine SS E (ae E ((I.bz (WQ m hm)))) λa E=>?_;refine RT 1 E I ?_;exact⟨rfl,I.sub⟩
theorem JT {o:gC}:∀ k:Nat,k<3→([[.int .i64 o.a],[.int .i64 o.b],[.int .i64 o.c]].flatten:List Value)[k]?=some (.int .i64 (Ac o k))
 | 0,_=>rfl
 | 1,_=>rfl
 | 2,_=>rfl
 | n+3,h=>absurd h (by omega)
theorem WS {n:Nat}{o:gC}(I:U W w L):Calls prog 69 #[.agg (dN o).toArray,.int .i64 n] w λe w'=>∃ r:Bool,e=.returned (.bool r)∧(r=true↔eZ n o)∧U W w' L:=by
 refine EN func69 ntmps69 rfl rfl λa E=>?_;refine BX 1 E I λb2 a w E I=>?_;change U W w (aa b2 114 (dN o)::_) at I;refine BY 7 E I (λbX a E=>?_) λbX a E=>?_
 ·
  refine RT 7 E I ?_;exact⟨false,rfl,⟨λh=>(by cases h),λh=>by have:=(xV.1 h).1;omega⟩,I.sub⟩
 refine IF 4 E I (λaj a E=>?_) λaj a E=>?_
 ·
  refine RT 2 E I ?_;exact⟨false,rfl,⟨λh=>(by cases h),λh=>by have:=(xV.1 h).1;omega⟩,I.sub⟩
 refine RN 7 E I λa E=>?_;refine cr E rfl I underlying53 Ty.t3 rfl rfl rfl rfl (by decide) (by decide) λuc a w E I ho=>?_;clear ho;refine RN 4 E I λa E=>?_;refine aO (λμ a w=>∃ k:Nat,(μ=3-k∧k≤3∧∀ j,j<k→re n o j)∧Fr a 68 [(1,.int .i64 n),(2,pt b2),(5,.slice (some ⟨uc,0,none⟩) 3 3),(6,.int .i64 k)]∧U W w (aa uc 3 [[.int .i64 o.a],[.int .i64 o.b],[.int .i64 o.c]].flatten::aa b2 114 (dN o)::L)) (3) (⟨0,⟨by simp,by simp,λj h=>absurd h (by omega)⟩,E.ab [1,2,5,6],I.sub⟩) ?_;clear E I;rintro μ a w ⟨k,⟨rfl,hk,cC⟩,E,I⟩;refine IF 4 E I (λao a E=>?_) λao a E=>?_
 ·
  refine RN 3 E I λa E=>?_;refine cc (M:=λa w=>(vQ o.code≤k∨¬ (o.code=1∧k=1))∧Fr a 68 [(1,.int .i64 n),(2,pt b2),(5,.slice (some ⟨uc,0,none⟩) 3 3),(6,.int .i64 k),(7,.int .i64 (j3 n o k))]∧U W w (aa uc 3 [[.int .i64 o.a],[.int .i64 o.b],[.int .i64 o.c]].flatten::aa b2 114 (dN o)::L)) ?_ ?_
  ·
   refine CL 4 E I (WR I (by omega)) λa w E I=>?_;refine IF 2 E I (λay a E=>?_) λay a E=>?_
   ·
    refine RN 1 E I λa E=>?_;refine⟨.inl (by omega),?_,I.sub⟩;rw[show j3 n o k=0 from ak (by omega)];exact E.ab [1,2,5,6,7]
   refine BY 5 E I (λbX a E=>?_) λbX a E=>?_
   ·
    refine IF 4 E I (λbk a E=>?_) λbk a E=>?_
    ·
     refine RN 3 E I λa E=>?_;refine⟨3-(k+1),by omega,k+1,⟨rfl,by omega,λj hj=>?_⟩,E.ab [1,2,5,6],I.sub⟩;rcases Nat.lt_or_ge j k with h | h
     ·exact cC j h
     ·obtain rfl:j=k:=by omega
      exact .inl ⟨by omega,by omega,by omega⟩
    refine BY 5 E I (λbX a E=>?_) λbX a E=>?_
    ·
     refine RN 12 E I λa E=>?_;refine⟨.inr (by omega),?_,I.sub⟩;rw[show j3 n o k=n from by rw[j3,ag (by omega),ak (by omega)]];exact E.ab [1,2,5,6,7]
    refine BY 4 E I (λjE a E=>?_) λjE a E=>?_
    ·
     refine IF 5 E I (λbO a E=>?_) λbO a E=>?_
     ·
      refine RN 2 E I λa E=>?_;refine⟨.inr (by omega),?_,I.sub⟩;rw[show j3 n o k=n from by rw[j3,ag (by omega),ak (by omega)]];exact E.ab [1,2,5,6,7]
     refine RN 0 E I λa E=>?_;refine⟨.inr (by omega),?_,I.sub⟩;rw[show j3 n o k=31 from by rw[j3,ag (by omega),ag (by omega)]];exact E.ab [1,2,5,6,7]
    refine RN 6 E I λa E=>?_;refine⟨.inr (by omega),?_,I.sub⟩;rw[show j3 n o k=31 from by rw[j3,ag (by omega),ag (by omega)]];exact E.ab [1,2,5,6,7]
   refine BY 10 E I (λbX a E=>?_) λbX a E=>?_
   ·
    refine RN 12 E I λa E=>?_;refine⟨.inr (by omega),?_,I.sub⟩;rw[show j3 n o k=n from by rw[j3,ag (by omega),ak (by omega)]];exact E.ab [1,2,5,6,7]
   refine BY 4 E I (λjE a E=>?_) λjE a E=>?_
   ·
    refine IF 5 E I (λbO a E=>?_) λbO a E=>?_
    ·
     refine RN 2 E I λa E=>?_;refine⟨.inr (by omega),?_,I.sub⟩;rw[show j3 n o k=n from by rw[j3,ag (by omega),ak (by omega)]];exact E.ab [1,2,5,6,7]
    refine RN 0 E I λa E=>?_;refine⟨.inr (by omega),?_,I.sub⟩;rw[show j3 n o k=31 from by rw[j3,ag (by omega),ag (by omega)]];exact E.ab [1,2,5,6,7]
   refine RN 6 E I λa E=>?_;refine⟨.inr (by omega),?_,I.sub⟩;rw[show j3 n o k=31 from by rw[j3,ag (by omega),ag (by omega)]];exact E.ab [1,2,5,6,7]
  clear E;(try clear I);rintro a w ⟨CX,E,I⟩;refine RN 4 E I λa E=>?_;refine SS E (ae E ((I.bz (JT k (by omega))))) λa E=>?_;refine BY 2 E I (λiR a E=>?_) λiR a E=>?_
  ·
   refine RT 10 E I ?_;refine⟨false,rfl,⟨λh=>(by cases h),λh=>?_⟩,I.sub⟩;have cd:re n o k:=by
    obtain⟨_,h0,h1,h2⟩:=xV.1 h;rcases (by omega:k=0∨k=1∨k=2) with rfl | rfl | rfl
    ·exact h0
    ·exact h1
    ·exact h2
   simp only[re]at cd;omega
  refine RN 3 E I λa E=>?_;refine bo E (b7 E rfl (s:=60)) (ae E ((I.bz (JT k (by omega))))) rfl λa E=>?_;refine IF 3 E I (λeE a E=>?_) λeE a E=>?_
  ·
   refine RT 2 E I ?_;refine⟨false,rfl,⟨λh=>(by cases h),λh=>?_⟩,I.sub⟩;have cd:re n o k:=by
    obtain⟨_,h0,h1,h2⟩:=xV.1 h;rcases (by omega:k=0∨k=1∨k=2) with rfl | rfl | rfl
    ·exact h0
    ·exact h1
    ·exact h2
   simp only[re]at cd;omega
  refine RN 3 E I λa E=>?_;refine⟨3-(k+1),by omega,k+1,⟨rfl,by omega,λj hj=>?_⟩,E.ab [1,2,5,6],I.sub⟩;rcases Nat.lt_or_ge j k with h | h
  ·exact cC j h
  ·obtain rfl:j=k:=by omega
   exact .inr ⟨by omega,by omega⟩
 refine RT 2 E I ?_;exact⟨true,rfl,⟨λ_=>xV.2 ⟨by omega,cC 0 (by omega),cC 1 (by omega),cC 2 (by omega)⟩,λ_=>rfl⟩,I.sub⟩
theorem WU {p:Pr}(I:U W w (aA W p aq cO::L))(aG:p.title.size≤1000000000)(dV:p.ops.length≤1000000000) :
   Calls prog 48 #[.agg (bP p aq cO).toArray] w λe w'=>∃ r:Int,e=.returned (.int .i64 r)∧(r = -1↔dh p)∧U W w' (aA W p aq cO::L):=by
 refine EN func48 ntmps48 rfl rfl λa E=>?_;refine BX 1 E I λb1 a w E I=>?_;change U W w (aa b1 45 (bP p aq cO)::_) at I;refine bh 4 E I (WM (I.pick (aA W p aq cO)) aG dV) λr a w E ⟨hr,I⟩=>?_;refine IF 1 E I (λaj a E=>?_) λaj a E=>?_
 ·
  have WV:¬ vD p:=λh=>by rw[hr.2 h]at aj;cases aj
  refine RT 2 E I ?_;exact⟨-2,rfl,⟨λh=>absurd h (by decide),λh=>absurd h.1 WV⟩,I.sub⟩
 have lM:vD p:=hr.1 (by simpa using aj);refine RN 3 E I λa E=>?_;refine aO (λμ a w=>∃ i:Nat,(μ=p.ops.length-i∧i≤p.ops.length∧∀ j o,j<i→p.ops[j]?=some o→eZ p.ops.length o)∧Fr a 25 [(1,pt b1),(3,.int .i64 i)]∧U W w (aa b1 45 (bP p aq cO)::aA W p aq cO::L)) (p.ops.length) (⟨0,⟨by simp,by simp,λj o h=>absurd h (by omega)⟩,E.ab [1,3],I.sub⟩) ?_;clear E I;rintro μ a w ⟨i,⟨rfl,hi,cC⟩,E,I⟩;refine IF 7 E I (λao a E=>?_) λao a E=>?_
 ·
  refine RN 2 E I λa E=>?_;obtain⟨o,ho⟩:∃ o,p.ops[i]?=some o:=⟨_,aE (by omega)⟩;obtain⟨kJ,oo,rfl,gE⟩:=I.drew.q6 aq (by omega);have fb:=vE gE ho;refine qU 0 (λw'=>Rd w' b1 0 (bP p (some ⟨kJ,oo,none⟩) cO)∧Rd w' kJ (oo+i*4) (dN o)) [6,7] [0,2,5,3001,3,3004,1006,1007,1008,9] E I λa E=>?_;replace I:=I.drew;generalize w.drew=w at I fb ⊢;have hC:Rd w b1 0 (bP p (some ⟨kJ,oo,none⟩) cO)∧Rd w kJ (oo+i*4) (dN o):=⟨I.ai,fb⟩;have hH:=Hd.any (λw'=>Rd w' b1 0 (bP p (some ⟨kJ,oo,none⟩) cO)∧Rd w' kJ (oo+i*4) (dN o));refine RH 3 E I hH hC λa E=>?_;refine QH E (λw hc=>ae E (hc.1 1 _ rfl)) hC λa E=>?_;refine RH 1 E I hH hC λa E=>?_;refine QH E (λw hc=>bS E underlying114 rfl Ty.t114 (hc.2)) hC λa E=>?_;refine RH 0 E I hH hC λa E=>?_;refine SS E (ae E (hC.1 1 _ rfl)) λa E=>?_;refine RH 1 E I hH hC λa E=>?_;refine bh 0 E I (WS (n:=p.ops.length) (o:=o) I) λr a w E ⟨hr,I⟩=>?_;refine RN 1 E I λa E=>?_;refine IF 0 E I (λay a E=>?_) λay a E=>?_
  ·
   have bR:¬ eZ p.ops.length o:=λh=>by rw[hr.2 h]at ay;cases ay
   refine RT 3 E I ?_;exact⟨i,rfl,⟨λh=>absurd h (by omega),λh=>absurd (h.2 o (bH ho)) bR⟩,I.sub⟩
  have dj:eZ p.ops.length o:=hr.1 (by simpa using ay);refine RN 3 E I λa E=>?_;refine⟨p.ops.length-(i+1),by omega,i+1,⟨rfl,by omega,λj o' hj kg=>?_⟩,E.ab [1,3],I.sub⟩;rcases Nat.lt_or_ge j i with h | h
  ·exact cC j o' h kg
  ·obtain rfl:j=i:=by omega
   rw[ho]at kg;cases kg;exact dj
 refine RT 2 E I ?_;refine⟨-1,rfl,⟨λ_=>⟨lM,λo ho=>?_⟩,λ_=>rfl⟩,I.sub⟩;obtain⟨j,hj⟩:=jS.1 ho;exact cC j o (by have:=(a2.1 hj).1;omega) hj
end
end
section
theorem Ah {x y:Int}(h1:-2147483648≤y)(h2:y≤2147483647)(h3:x%4294967296=y%4294967296):ia x=y:=by
 simp only[ia,IntKind.wrap,IntKind.signed,IntKind.bits];simp;split <;> omega
section
variable {W w:World}{L:List SP}{p:Pr}{aq adP:Option Addr}{cO cP:Nat}{b:List UInt8}{g:Nat→Int}{fr:Int}
theorem xX {x:Int}(I:U W w L)(h1:-9223372036854775808≤x)(h2:x≤9223372036854775807):Calls prog 151 #[.int .i64 x] w λe w'=>e=.returned (.int .i32 (ia x))∧U W w' L:=by
 have lP:=Int.tmod_lt_of_pos x (b:=4294967296) (by decide);have ie:=Int.lt_tmod_of_pos x (b:=4294967296) (by decide);have xY:(x.tmod 4294967296)%4294967296=x%4294967296:=by
  rw[Int.tmod_eq_emod];split <;> omega
 refine EN func151 ntmps151 rfl rfl λa E=>?_;refine IF 10 E I (λaj a E=>?_) λaj a E=>?_
 ·
  refine IF 7 E I (λao a E=>?_) λao a E=>?_
  ·
   refine SX 5 E I (ib (by omega) (by omega)) λa E=>?_;refine RT 1 E I ?_;exact⟨by rw[Ah (y:=x.tmod 4294967296+4294967296-4294967296) (by omega) (by omega) (by omega)],I⟩
  refine SX 2 E I (ib (by omega) (by omega)) λa E=>?_;refine RT 1 E I ?_;exact⟨by rw[Ah (y:=x.tmod 4294967296+4294967296) (by omega) (by omega) (by omega)],I⟩
 refine IF 4 E I (λao a E=>?_) λao a E=>?_
 ·
  refine SX 5 E I (ib (by omega) (by omega)) λa E=>?_;refine RT 1 E I ?_;exact⟨by rw[Ah (y:=x.tmod 4294967296-4294967296) (by omega) (by omega) (by omega)],I⟩
 refine SX 2 E I (ib (by omega) (by omega)) λa E=>?_;refine RT 1 E I ?_;exact⟨by rw[Ah (y:=x.tmod 4294967296) (by omega) (by omega) (by omega)],I⟩
theorem JU {x:Int}(I:U W w L)(hx:dk x):Calls prog 150 #[.int .i32 x,.int .i64 32] w λe w'=>e=.returned (.int .i64 (kx x))∧U W w' L:=by
 have h1:=Int.tmod_lt_of_pos x (b:=32) (by decide);have h2:=Int.lt_tmod_of_pos x (b:=32) (by decide);have hm:(kx x:Int)=x%32:=by
  have h1:=Int.emod_nonneg x (show (32:Int)≠0 by decide);show (((x%32).toNat:Nat):Int)=_;omega
 have ht:x.tmod 32=if 0≤x then x%32 else -((-x)%32):=by
  split
  ·exact Int.tmod_eq_emod_of_nonneg (by omega)
  ·rw[← Int.neg_neg (x.tmod 32),← Int.neg_tmod,Int.tmod_eq_emod_of_nonneg (by omega)]
 simp only[dk]at hx;refine EN func150 ntmps150 rfl rfl λa E=>?_;refine RN 6 E I λa E=>?_;replace E:=E.aM 7;refine SX 3 E I (gi (by omega) (by omega)) λa E=>?_;refine IF 7 E I (λao a E=>?_) λao a E=>?_
 ·
  refine RN 4 E I λa E=>?_;rw[show x.tmod 32+32=(kx x:Int) from by rw[hm,ht];split <;> omega]at E;refine RT 3 E I ?_;exact⟨rfl,I⟩
 refine RT 3 E I ?_;exact⟨by rw[hm,show x.tmod 32=x%32 from by rw[ht] at *;split at*<;> omega],I⟩
theorem WW {x:Int}(I:U W w L)(hx:dk x)(hb:b.length≤1099511627776)(hp:∀ w',U W w' L→aX w' adP b.length b) :
   Calls prog 149 #[.slice adP b.length cP,.int .i32 x] w λe w'=>e=.returned (.int .i32 (ml b x))∧U W w' L:=by
 simp only[dk]at hx;refine EN func149 ntmps149 rfl rfl λa E=>?_;refine BY 7 E I (λbA a E=>?_) λbA a E=>?_
 ·
  refine RT 9 E I ?_;exact⟨by rw[ml,ag (by omega)],I⟩
 refine SX 1 E I (by rw[gi (by omega) (by omega)]) λa E=>?_;refine IF 4 E I (λaj a E=>?_) λaj a E=>?_
 ·
  refine RT 2 E I ?_;exact⟨by rw[ml,ag (by omega)],I⟩
 refine RN 1 E I λa E=>?_;obtain⟨k,hk⟩:∃ k:Nat,x=(k:Int):=⟨x.toNat,by omega⟩;obtain⟨_,_,a6⟩:=hp _ I;have xP:k<b.length:=by omega
 obtain⟨bp,op,gY,c4⟩:∃ bp op,adP=some ⟨bp,op,none⟩∧Rd w bp op (bc b):=by
  cases hh:adP with
  | none =>
   have:=(hp _ I).2.1 hh;omega
  | some a =>
   obtain⟨b1,o1,rfl,h1⟩:=a6 a hh (by omega);exact⟨b1,o1,rfl,h1⟩
 rw[hk]at E;refine RN 1 E I λa E=>?_;rw[gY]at E;refine RN 2 E I λa E=>?_;refine SS E (ae E (c4 k (.int .u8 b[k].toNat) (by simp[bc,xP]))) λa E=>?_;refine SX 0 E I (by have:=b[k].toNat_lt;exact ib (by omega) (by omega)) λa E=>?_;refine RT 1 E I ?_;refine⟨?_,I⟩;rw[ml,ak (by omega),hk,Int.toNat_natCast,bn,aE xP];rfl
theorem WX {x y:Int}(I:U W w L)(hx:dk x)(hy:dk y):Calls prog 188 #[.int .i32 x,.int .i32 y] w λe w'=>e=.returned (.int .i32 (if y=0 then 0 else ia (x.tdiv y)))∧U W w' L:=by
 simp only[dk]at hx hy;have hq:y≠0 → -9223372036854775808≤x.tdiv y∧x.tdiv y≤9223372036854775807:=λh=>by
  have h1:(x.tdiv y).natAbs≤x.natAbs:=by rw[Int.natAbs_tdiv];exact Nat.div_le_self _ _
  omega
 refine EN func188 ntmps188 rfl rfl λa E=>?_;refine IF 6 E I (λaj a E=>?_) λaj a E=>?_
 ·
  refine RT 2 E I ?_;exact⟨by rw[ak aj],I⟩
 refine SX 2 E I (gi (by omega) (by omega)) λa E=>?_;refine SX 1 E I (gi (by omega) (by omega)) λa E=>?_;refine RN 0 E I λa E=>?_;refine SS E (H4 E (by omega)) λa E=>?_;rw[gi (hq aj).1 (hq aj).2]at E;refine CL 0 E I (xX I (hq aj).1 (hq aj).2) λa w E I=>?_;refine RT 1 E I ?_;exact⟨by rw[ag aj],I⟩
theorem WY {k x y:Int}(I:U W w L)(hx:dk x)(hy:dk y):Calls prog 152 #[.int .i64 k,.int .i32 x,.int .i32 y] w λe w'=>e=.returned (.int .i32 (iQ k x y))∧U W w' L:=by
 have df:=hx;have gA:=hy;simp only[dk]at df gA;have hmul:-9223372036854775808≤x*y∧x*y≤9223372036854775807:=by
  have h1:(x*y).natAbs≤2147483648*2147483648:=by rw[Int.natAbs_mul];exact Nat.mul_le_mul (by omega) (by omega)
  omega
 refine EN func152 ntmps152 rfl rfl λa E=>?_;refine IF 10 E I (λaj a E=>?_) λaj a E=>?_
 ·
  refine SX 2 E I (gi (by omega) (by omega)) λa E=>?_;refine SX 1 E I (gi (by omega) (by omega)) λa E=>?_;refine CL 1 E I (xX I (by omega) (by omega)) λa w E I=>?_;refine RT 1 E I ?_;exact⟨by simp[iQ,aj],I⟩
 refine IF 3 E I (λao a E=>?_) λao a E=>?_
 ·
  refine SX 2 E I (gi (by omega) (by omega)) λa E=>?_;refine SX 1 E I (gi (by omega) (by omega)) λa E=>?_;refine CL 1 E I (xX I (by omega) (by omega)) λa w E I=>?_;refine RT 1 E I ?_;exact⟨by simp[iQ,ao],I⟩
 refine IF 3 E I (λay a E=>?_) λay a E=>?_
 ·
  refine SX 2 E I (gi (by omega) (by omega)) λa E=>?_;refine SX 1 E I (gi (by omega) (by omega)) λa E=>?_;refine SX 0 E I ⟨(by first | exact hmul.1 | exact hmul.2),(by first | exact hmul.1 | exact hmul.2)⟩ λa E=>?_;refine CL 0 E I (xX I hmul.1 hmul.2) λa w E I=>?_;refine RT 1 E I ?_;exact⟨by simp[iQ,ay],I⟩
 refine IF 3 E I (λbk a E=>?_) λbk a E=>?_
 ·
  refine CL 3 E I (WX I hx hy) λa w E I=>?_;refine RT 1 E I ?_;exact⟨by simp[iQ,bk],I⟩
 refine IF 3 E I (λbO a E=>?_) λbO a E=>?_
 ·
  refine IF 7 E I (λeE a E=>?_) λeE a E=>?_
  ·
   refine RT 2 E I ?_;exact⟨by simp[iQ,bO,eE],I⟩
  refine RT 2 E I ?_;exact⟨by simp[iQ,bO];omega,I⟩
 refine IF 7 E I (λeE a E=>?_) λeE a E=>?_
 ·
  refine RT 2 E I ?_;exact⟨by simp[iQ,aj,ao,ay,bk,bO,eE],I⟩
 refine RT 2 E I ?_;exact⟨by simp[iQ,aj,ao,ay,bk,bO];omega,I⟩
theorem ints_at {w:World}{mw j:Nat}{g:Nat→Int}(h:Rd w mw 0 (ints .i32 32 g))(hj:j<32):w.cell? ⟨mw,j,none⟩=some (.int .i32 (g j)):=by
 have:=h j _ (fN g hj)
 rwa [Nat.zero_add]at this
theorem D3 (I:U W w (aA W p aq cO::L))(a6:dh p)(aG:p.title.size≤1000000000)(hg:dO g)(hb:b.length≤1099511627776)(hf:-4611686018427387904≤fr∧fr≤4611686018427387904)(hp:∀ w',U W w' L→aX w' adP b.length b) :
   Calls prog 104 #[.agg (bP p aq cO).toArray,.agg (ints .i32 32 g).toArray,.int .i64 fr,.slice adP b.length cP] w λe w'=>∃ n:Int,e=.returned (.tuple #[.agg (ints .i32 32 (e0 p fr b g)).toArray,.int .i64 n])∧dO (e0 p fr b g)∧U W w' (aA W p aq cO::L):=by
 have dV:p.ops.length≤64:=a6.1.2.2.1;refine EN func104 ntmps104 rfl rfl λa E=>?_;refine BX 1 E I λb4 a w E I=>?_;change U W w (aa b4 45 (bP p aq cO)::_) at I;refine BX 0 E I λb5 a w E I=>?_;change U W w (aa b5 49 (ints .i32 32 g)::_) at I;refine AL 0 E I λb8 a w E I=>?_;change U W w (aa b8 49 (ints .i32 32 (λ_=>0))::_) at I;refine bh 4 E I (WU (I.pick (aA W p aq cO)) aG (by omega)) λr a w E ⟨hr,I⟩=>?_;obtain rfl:r = -1:=hr.2 a6;refine RN 1 E I λa E=>?_;rw[show decide ((-1:Int) ≠ -1)=false from rfl]at E;replace E:=E.aM 18;refine aY 7 E I (JR I aG) λadT cT a w E I=>?_;refine RN 6 E I λa E=>?_;refine aO (λμ a w=>∃ (n aT:Nat) (g':Nat→Int),(μ=200-n∧n≤200∧aT≤p.ops.length∧dO g'∧qg p fr b (200-n) g' aT=e0 p fr b g)∧Fr a 166 [(2,.int .i64 fr),(3,.slice adP b.length cP),(4,pt b4),(5,pt b5),(8,pt b8),(10,.int .i64 aT),(11,.int .i64 n),(12,.slice adT (ea p.title 0).length cT)]∧U W w (aa b5 49 (ints .i32 32 g')::aa b4 45 (bP p aq cO)::aa b8 49 (ints .i32 32 (λ_=>0))::Sl 21 1 adT (ea p.title 0).length cT (RI (ea p.title 0))::aA W p aq cO::L)) (200) (⟨0,0,g,⟨by simp,by simp,by simp,hg,rfl⟩,E.ab [2,3,4,5,8,10,11,12],I.sub⟩) ?_;clear E I;rintro μ a w ⟨n,aT,g',⟨rfl,hn,e4,eF,ud⟩,E,I⟩;refine BY 5 E I (λbA a E=>?_) λbA a E=>?_
 ·
  refine IF 6 E I (λao a E=>?_) λao a E=>?_
  ·
   obtain⟨o,ho⟩:∃ o,p.ops[aT]?=some o:=⟨_,aE (by omega)⟩;obtain⟨kJ,oo,rfl,gE⟩:=I.q6 aq (by omega);have aS:=DQ (p:=p) (fr:=fr) (b:=b) (g:=g') (n:=200-(n+1)) ho;rw[show 200-(n+1)+1=200-n from by omega,ud]at aS;have dj:=a6.2 o (bH ho);have ql:=dj;simp only[eZ,eY]at ql;have DO:o.code=9→qk o.a p.ops.length:=λh=>qk.of (by omega);have jZ:o.code≠9→o.code≠0→lN o.a 32:=λh h2=>lN.of (by omega);have DP:o.code=10→qk o.b p.ops.length:=λh=>qk.of (by omega);have oq:o.code≠1→o.code≠15→o.code≠9→o.code≠10→o.code≠0→lN o.b 32:=λ_ _ _ _ _=>lN.of (by omega);have q9:o.code≠0→o.code≠1→o.code≠2→o.code≠9→o.code≠10→o.code≠11→o.code≠12→o.code≠13→o.code≠14→o.code≠15→lN o.c 32:=λ_ _ _ _ _ _ _ _ _ _=>lN.of (by omega);clear ql;refine RN 5 E I λa E=>?_;refine SS E (bS E underlying114 rfl Ty.t114 (vE gE ho)) λa E=>?_;refine AL 0 E I λeJ a w E I=>?_;refine SA 0 E I λa w E I=>?_;refine IF 14 E I (λay a E=>?_) λay a E=>?_
   ·
    refine SA 3 E I λa w E I=>?_;refine RT 1 E I ?_;rw[show ej p fr b g' aT o=(g',aT+1,false) from by rw[ej,ak ay]]at aS;refine⟨_,by rw[aS];rfl,?_,I.sub⟩;rw[aS];exact eF
   refine IF 3 E I (λbk a E=>?_) λbk a E=>?_
   ·
    obtain⟨cD,dI,j0⟩:=jZ (by omega) (by omega);refine RN 2 E I λa E=>?_;rw[dI]at E;refine RN 2 E I λa E=>?_;refine SS E (gj E underlying3 underlying21) λa E=>?_;refine ST 1 E I (λa w E I=>?_) (hlt:=(by rw[dd];omega));rw[ints_set,show (λi=>if i=cD then IntKind.i32.wrap o.b else g' i)=ck g' (cD) (ia o.b) from rfl]at I;refine RN 0 E I λa E=>?_;have fM:ej p fr b g' aT o=(ck g' (cD) (ia o.b),aT+1,true):=by
     rw[ej,ag (by omega),ag (by omega),ag (by omega),ag (by omega),dI,Int.toNat_natCast,jC,ak bk]
    rw[fM]at aS;exact⟨200-(n+1),by omega,n+1,aT+1,ck g' (cD) (ia o.b),⟨rfl,by omega,by omega,nE eF (xD _),aS.symm⟩,E.ab [2,3,4,5,8,10,11,12],I.sub⟩
   refine IF 3 E I (λbO a E=>?_) λbO a E=>?_
   ·
    refine RN 0 E I λa E=>?_;obtain⟨cD,dI,j0⟩:=jZ (by omega) (by omega);obtain⟨bC,dW,iD⟩:=oq (by omega) (by omega) (by omega) (by omega) (by omega);refine aV 0 (λw0 w'=>Rd w' eJ 0 (dN o)∧Rd w' b5 0 (ints .i32 32 g')) [3,4,5] [0,2,3001,1003,1004,1005,6,1007] E I λa w E I hH=>?_;have hC:=hH.at w ⟨I.ai,I.ai⟩;refine RH 2 E I hH hC λa E=>?_;refine QH E (λw hc=>ae E (hc.1 1 _ rfl)) hC λa E=>?_;rw[dI]at E;refine RH 0 E I hH hC λa E=>?_;refine SS E (ae E (hC.1 2 _ rfl)) λa E=>?_;rw[dW]at E;refine RH 1 E I hH hC λa E=>?_;refine SS E (ae E (ints_at hC.2 iD)) λa E=>?_;refine RH 1 E I hH hC λa E=>?_;refine ST 0 E I (λa w E I=>?_) (hlt:=(by rw[dd];omega));rw[ints_set,show (λi=>if i=cD then g' bC else g' i)=ck g' (cD) (g' bC) from rfl]at I;refine RN 0 E I λa E=>?_;have fM:ej p fr b g' aT o=(ck g' (cD) (g' bC),aT+1,true):=by
     rw[ej,ag (by omega),ag (by omega),ag (by omega),ag (by omega),dI,Int.toNat_natCast,jC,ag (by omega),ak bO,dW,Int.toNat_natCast]
    rw[fM]at aS;exact⟨200-(n+1),by omega,n+1,aT+1,ck g' (cD) (g' bC),⟨rfl,by omega,by omega,nE eF (eF _ iD),aS.symm⟩,E.ab [2,3,4,5,8,10,11,12],I.sub⟩
   refine IF 3 E I (λeE a E=>?_) λeE a E=>?_
   ·
    obtain⟨cD,dI,j0⟩:=DO eE;refine RN 2 E I λa E=>?_;rw[dI]at E;refine RN 1 E I λa E=>?_;have fM:ej p fr b g' aT o=(g',cD,true):=by
     rw[ej,ag (by omega),ak eE,dI,Int.toNat_natCast]
    rw[fM]at aS;exact⟨200-(n+1),by omega,n+1,cD,g',⟨rfl,by omega,by omega,eF,aS.symm⟩,E.ab [2,3,4,5,8,10,11,12],I.sub⟩
   refine IF 3 E I (λmW a E=>?_) λmW a E=>?_
   ·
    refine RN 1 E I λa E=>?_;obtain⟨cD,dI,j0⟩:=jZ (by omega) (by omega);refine RN 2 E I λa E=>?_;rw[dI]at E;refine RN 1 E I λa E=>?_;refine SS E (ae E ((ints_at I.ai j0))) λa E=>?_;refine IF 1 E I (λmo a E=>?_) λmo a E=>?_
    ·
     obtain⟨bC,dW,iD⟩:=DP mW;refine RN 2 E I λa E=>?_;rw[dW]at E;refine RN 1 E I λa E=>?_;have fM:ej p fr b g' aT o=(g',bC,true):=by
      rw[ej,ag (by omega),ag (by omega),ak mW,dI,Int.toNat_natCast,ak mo,dW,Int.toNat_natCast]
     rw[fM]at aS;exact⟨200-(n+1),by omega,n+1,bC,g',⟨rfl,by omega,by omega,eF,aS.symm⟩,E.ab [2,3,4,5,8,10,11,12],I.sub⟩
    refine RN 0 E I λa E=>?_;have fM:ej p fr b g' aT o=(g',aT+1,true):=by
     rw[ej,ag (by omega),ag (by omega),ak mW,dI,Int.toNat_natCast,ag mo]
    rw[fM]at aS;exact⟨200-(n+1),by omega,n+1,aT+1,g',⟨rfl,by omega,by omega,eF,aS.symm⟩,E.ab [2,3,4,5,8,10,11,12],I.sub⟩
   refine IF 3 E I (λmq a E=>?_) λmq a E=>?_
   ·
    refine RN 0 E I λa E=>?_;obtain⟨cD,dI,j0⟩:=jZ (by omega) (by omega);obtain⟨bC,dW,iD⟩:=oq (by omega) (by omega) (by omega) (by omega) (by omega);refine aV 0 (λw0 w'=>Rd w' eJ 0 (dN o)∧Rd w' b5 0 (ints .i32 32 g')) [4,5,6,7] [0,2,3,3001,1004,1005,1006,1007,8,1009] E I λa w E I hH=>?_;have hC:=hH.at w ⟨I.ai,I.ai⟩;refine RH 3 E I hH hC λa E=>?_;refine QH E (λw hc=>ae E (hc.1 1 _ rfl)) hC λa E=>?_;rw[dI]at E;refine RH 0 E I hH hC λa E=>?_;refine SS E (ae E (hC.1 2 _ rfl)) λa E=>?_;rw[dW]at E;refine RH 1 E I hH hC λa E=>?_;refine SS E (ae E (ints_at hC.2 iD)) λa E=>?_;refine RH 0 E I hH hC λa E=>?_;refine CL 0 E I (WW I (eF _ iD) hb (λw' h=>hp w' h.sub)) λa w E I=>?_;replace hC:=hH.at w ⟨I.ai,I.ai⟩;refine RH 1 E I hH hC λa E=>?_;refine ST 0 E I (λa w E I=>?_) (hlt:=(by rw[dd];omega));rw[ints_set,show (λi=>if i=cD then ml b (g' bC) else g' i)=ck g' (cD) (ml b (g' bC)) from rfl]at I;refine RN 0 E I λa E=>?_;have fM:ej p fr b g' aT o=(ck g' (cD) (ml b (g' bC)),aT+1,true):=by
     rw[ej,ag (by omega),ag (by omega),ag (by omega),ag (by omega),dI,Int.toNat_natCast,jC,ag (by omega),ag (by omega),ak mq,dW,Int.toNat_natCast]
    rw[fM]at aS;exact⟨200-(n+1),by omega,n+1,aT+1,ck g' (cD) (ml b (g' bC)),⟨rfl,by omega,by omega,nE eF (JD _ _),aS.symm⟩,E.ab [2,3,4,5,8,10,11,12],I.sub⟩
   refine IF 3 E I (λjY a E=>?_) λjY a E=>?_
   ·
    refine RN 0 E I λa E=>?_;obtain⟨cD,dI,j0⟩:=jZ (by omega) (by omega);obtain⟨bC,dW,iD⟩:=oq (by omega) (by omega) (by omega) (by omega) (by omega);have xQ:=xC (g' bC);refine aV 0 (λw0 w'=>Rd w' eJ 0 (dN o)∧Rd w' b5 0 (ints .i32 32 g')) [3,4,5,6,7,8] [0,2,3001,1003,1004,1005,1006,1007,1008,9,1010] E I λa w E I hH=>?_;have hC:=hH.at w ⟨I.ai,I.ai⟩;refine RH 2 E I hH hC λa E=>?_;refine QH E (λw hc=>ae E (hc.1 1 _ rfl)) hC λa E=>?_;rw[dI]at E;refine RH 0 E I hH hC λa E=>?_;refine SS E (ae E (hC.1 2 _ rfl)) λa E=>?_;rw[dW]at E;refine RH 1 E I hH hC λa E=>?_;refine SS E (ae E (ints_at hC.2 iD)) λa E=>?_;refine RH 0 E I hH hC λa E=>?_;refine CL 0 E I (JU I (eF _ iD)) λa w E I=>?_;replace hC:=hH.at w ⟨I.ai,I.ai⟩;refine RH 1 E I hH hC λa E=>?_;refine SS E (ae E (ints_at hC.2 xQ)) λa E=>?_;refine RH 1 E I hH hC λa E=>?_;refine ST 0 E I (λa w E I=>?_) (hlt:=(by rw[dd];omega));rw[ints_set,show (λi=>if i=cD then g' (kx (g' bC)) else g' i)=ck g' (cD) (g' (kx (g' bC))) from rfl]at I;refine RN 0 E I λa E=>?_;have fM:ej p fr b g' aT o=(ck g' (cD) (g' (kx (g' bC))),aT+1,true):=by
     rw[ej,ag (by omega),ag (by omega),ag (by omega),ag (by omega),dI,Int.toNat_natCast,jC,ag (by omega),ag (by omega),ag (by omega),ak jY,dW,Int.toNat_natCast]
    rw[fM]at aS;exact⟨200-(n+1),by omega,n+1,aT+1,ck g' (cD) (g' (kx (g' bC))),⟨rfl,by omega,by omega,nE eF (eF _ xQ),aS.symm⟩,E.ab [2,3,4,5,8,10,11,12],I.sub⟩
   refine IF 3 E I (λvK a E=>?_) λvK a E=>?_
   ·
    refine RN 0 E I λa E=>?_;obtain⟨cD,dI,j0⟩:=jZ (by omega) (by omega);obtain⟨bC,dW,iD⟩:=oq (by omega) (by omega) (by omega) (by omega) (by omega);have xQ:=xC (g' cD);refine aV 0 (λw0 w'=>Rd w' eJ 0 (dN o)∧Rd w' b5 0 (ints .i32 32 g')) [4,6,7,8] [0,5,3001,2,3003,3006,3007,3008,1004,9,1010] E I λa w E I hH=>?_;have hC:=hH.at w ⟨I.ai,I.ai⟩;refine RH 2 E I hH hC λa E=>?_;refine QH E (λw hc=>ae E (hc.1 1 _ rfl)) hC λa E=>?_;rw[dI]at E;refine RH 1 E I hH hC λa E=>?_;refine QH E (λw hc=>ae E (ints_at hc.2 j0)) hC λa E=>?_;refine QH E (λw hc=>ae E (hc.1 2 _ rfl)) hC λa E=>?_;rw[dW]at E;refine RH 1 E I hH hC λa E=>?_;refine QH E (λw hc=>ae E (ints_at hc.2 iD)) hC λa E=>?_;refine RH 0 E I hH hC λa E=>?_;refine CL 0 E I (JU I (eF _ j0)) λa w E I=>?_;replace hC:=hH.at w ⟨I.ai,I.ai⟩;refine RH 1 E I hH hC λa E=>?_;refine ST 0 E I (λa w E I=>?_) (hlt:=(by rw[dd];omega));rw[ints_set,show (λi=>if i=kx (g' cD) then g' bC else g' i)=ck g' (kx (g' cD)) (g' bC) from rfl]at I;refine RN 0 E I λa E=>?_;have fM:ej p fr b g' aT o=(ck g' (kx (g' cD)) (g' bC),aT+1,true):=by
     rw[ej,ag (by omega),ag (by omega),ag (by omega),ak vK,dI,Int.toNat_natCast,dW,Int.toNat_natCast]
    rw[fM]at aS;exact⟨200-(n+1),by omega,n+1,aT+1,ck g' (kx (g' cD)) (g' bC),⟨rfl,by omega,by omega,nE eF (eF _ iD),aS.symm⟩,E.ab [2,3,4,5,8,10,11,12],I.sub⟩
   refine IF 3 E I (λsF a E=>?_) λsF a E=>?_
   ·
    refine RN 1 E I λa E=>?_;obtain⟨cD,dI,j0⟩:=jZ (by omega) (by omega);obtain⟨bC,dW,iD⟩:=oq (by omega) (by omega) (by omega) (by omega) (by omega);have ou:=eF _ iD;have DS:=ou;simp only[dk]at DS;refine RN 5 E I λa E=>?_;rw[dW]at E;refine RN 1 E I λa E=>?_;refine SS E (ae E ((ints_at I.ai iD))) λa E=>?_;refine BY 2 E I (λiR a E=>?_) λiR a E=>?_
    ·
     refine RN 2 E I λa E=>?_;rw[dW]at E;refine RN 1 E I λa E=>?_;refine bo E (b7 E rfl (s:=136)) (ae E ((ints_at I.ai iD))) rfl λa E=>?_;refine SX 0 E I (gi (by omega) (by omega)) λa E=>?_;refine IF 4 E I (λxN a E=>?_) λxN a E=>?_
     ·
      obtain⟨rn,mZ⟩:∃ rn:Nat,g' bC=rn:=⟨(g' bC).toNat,by omega⟩;obtain⟨aeT,aeU,rfl,D4⟩:=I.bV adT (by omega);obtain⟨D5,vv⟩:∃ D5,(ea p.title 0)[rn]?=some D5:=⟨_,aE (by omega)⟩;refine RN 3 E I λa E=>?_;rw[dW]at E;refine RN 1 E I λa E=>?_;refine SS E (ae E ((ints_at I.ai iD))) λa E=>?_;rw[mZ]at E;refine RN 1 E I λa E=>?_;refine SS E (ae E ((D4 rn _ (JS vv)))) λa E=>?_;refine RN 1 E I λa E=>?_;have pz:mS p.title (g' bC)=D5.1:=by rw[mS,ak (by omega),mZ,Int.toNat_natCast,vv];rfl
      rw[← pz]at E;refine RN 2 E I λa E=>?_;rw[dI]at E;refine ST 2 E I (λa w E I=>?_) (hlt:=(by rw[dd];omega));rw[ints_set,show (λi=>if i=cD then mS p.title (g' bC) else g' i)=ck g' cD (mS p.title (g' bC)) from rfl]at I;refine RN 0 E I λa E=>?_;have fM:ej p fr b g' aT o=(ck g' cD (mS p.title (g' bC)),aT+1,true):=by
       rw[ej,ag (by omega),ag (by omega),ag (by omega),ag (by omega),dI,Int.toNat_natCast,jC,ag (by omega),ag (by omega),ag (by omega),ag (by omega),ak sF,dW,Int.toNat_natCast]
      rw[fM]at aS;exact⟨200-(n+1),by omega,n+1,aT+1,ck g' cD (mS p.title (g' bC)),⟨rfl,by omega,by omega,nE eF (JB _ _),aS.symm⟩,E.ab [2,3,4,5,8,10,11,12],I.sub⟩
     refine RN 0 E I λa E=>?_;have aeV:True:=trivial;refine RN 2 E I λa E=>?_;rw[dI]at E;refine ST 2 E I (λa w E I=>?_) (hlt:=(by rw[dd];omega));rw[ints_set,show (λi=>if i=cD then 0 else g' i)=ck g' cD 0 from rfl]at I;refine RN 0 E I λa E=>?_;have fM:ej p fr b g' aT o=(ck g' cD 0,aT+1,true):=by
      rw[ej,ag (by omega),ag (by omega),ag (by omega),ag (by omega),dI,Int.toNat_natCast,jC,ag (by omega),ag (by omega),ag (by omega),ag (by omega),ak sF,dW,Int.toNat_natCast,mS,ak (by omega),iW (by omega)];rfl
     rw[fM]at aS;exact⟨200-(n+1),by omega,n+1,aT+1,ck g' cD 0,⟨rfl,by omega,by omega,nE eF (by simp[dk]),aS.symm⟩,E.ab [2,3,4,5,8,10,11,12],I.sub⟩
    refine RN 12 E I λa E=>?_;rw[dI]at E;refine ST 2 E I (λa w E I=>?_) (hlt:=(by rw[dd];omega));rw[ints_set,show (λi=>if i=cD then 0 else g' i)=ck g' cD 0 from rfl]at I;refine RN 0 E I λa E=>?_;have fM:ej p fr b g' aT o=(ck g' cD 0,aT+1,true):=by
     rw[ej,ag (by omega),ag (by omega),ag (by omega),ag (by omega),dI,Int.toNat_natCast,jC,ag (by omega),ag (by omega),ag (by omega),ag (by omega),ak sF,dW,Int.toNat_natCast,mS,ag (by omega)]
    rw[fM]at aS;exact⟨200-(n+1),by omega,n+1,aT+1,ck g' cD 0,⟨rfl,by omega,by omega,nE eF (by simp[dk]),aS.symm⟩,E.ab [2,3,4,5,8,10,11,12],I.sub⟩
   refine IF 3 E I (λvL a E=>?_) λvL a E=>?_
   ·
    refine RN 0 E I λa E=>?_;obtain⟨cD,dI,j0⟩:=jZ (by omega) (by omega);refine aV 0 (λw0 w'=>Rd w' eJ 0 (dN o)∧Rd w' b5 0 (ints .i32 32 g')) [3] [0,2,3001,1003,4,1005] E I λa w E I hH=>?_;have hC:=hH.at w ⟨I.ai,I.ai⟩;refine RH 2 E I hH hC λa E=>?_;refine QH E (λw hc=>ae E (hc.1 1 _ rfl)) hC λa E=>?_;rw[dI]at E;refine RH 0 E I hH hC λa E=>?_;refine CL 0 E I (xX I (by omega) (by omega)) λa w E I=>?_;replace hC:=hH.at w ⟨I.ai,I.ai⟩;refine RH 1 E I hH hC λa E=>?_;refine ST 0 E I (λa w E I=>?_) (hlt:=(by rw[dd];omega));rw[ints_set,show (λi=>if i=cD then ia fr else g' i)=ck g' (cD) (ia fr) from rfl]at I;refine RN 0 E I λa E=>?_;have fM:ej p fr b g' aT o=(ck g' (cD) (ia fr),aT+1,true):=by
     rw[ej,ag (by omega),ag (by omega),ag (by omega),ag (by omega),dI,Int.toNat_natCast,jC,ag (by omega),ag (by omega),ag (by omega),ag (by omega),ag (by omega),ak vL]
    rw[fM]at aS;exact⟨200-(n+1),by omega,n+1,aT+1,ck g' (cD) (ia fr),⟨rfl,by omega,by omega,nE eF (xD _),aS.symm⟩,E.ab [2,3,4,5,8,10,11,12],I.sub⟩
   refine RN 0 E I λa E=>?_;obtain⟨cD,dI,j0⟩:=jZ (by omega) (by omega);obtain⟨bC,dW,iD⟩:=oq (by omega) (by omega) (by omega) (by omega) (by omega);obtain⟨tG,pq,JV⟩:=q9 (by omega) (by omega) (by omega) (by omega) (by omega) (by omega) (by omega) (by omega) (by omega) (by omega);refine aV 0 (λw0 w'=>Rd w' eJ 0 (dN o)∧Rd w' b5 0 (ints .i32 32 g')) [3,5,6,7,9,10,11,12] [0,2,4,8,3001,3003,3005,3006,3007,1009,1010,1011,1012,13,1014] E I λa w E I hH=>?_;have hC:=hH.at w ⟨I.ai,I.ai⟩;refine RH 4 E I hH hC λa E=>?_;refine QH E (λw hc=>ae E (hc.1 1 _ rfl)) hC λa E=>?_;rw[dI]at E;refine RH 0 E I hH hC λa E=>?_;refine QH E (λw hc=>ae E (hc.1 0 _ rfl)) hC λa E=>?_;refine QH E (λw hc=>ae E (hc.1 2 _ rfl)) hC λa E=>?_;rw[dW]at E;refine RH 1 E I hH hC λa E=>?_;refine QH E (λw hc=>ae E (ints_at hc.2 iD)) hC λa E=>?_;refine RH 0 E I hH hC λa E=>?_;refine SS E (ae E (hC.1 3 _ rfl)) λa E=>?_;rw[pq]at E;refine RH 1 E I hH hC λa E=>?_;refine SS E (ae E (ints_at hC.2 JV)) λa E=>?_;refine RH 0 E I hH hC λa E=>?_;refine CL 0 E I (WY I (eF _ iD) (eF _ JV)) λa w E I=>?_;replace hC:=hH.at w ⟨I.ai,I.ai⟩;refine RH 1 E I hH hC λa E=>?_;refine ST 0 E I (λa w E I=>?_) (hlt:=(by rw[dd];omega));rw[ints_set,show (λi=>if i=cD then iQ o.code (g' bC) (g' tG) else g' i)=ck g' (cD) (iQ o.code (g' bC) (g' tG)) from rfl]at I;refine RN 0 E I λa E=>?_;have fM:ej p fr b g' aT o=(ck g' (cD) (iQ o.code (g' bC) (g' tG)),aT+1,true):=by
    rw[ej,ag (by omega),ag (by omega),ag (by omega),ag (by omega),dI,Int.toNat_natCast,jC,ag (by omega),ag (by omega),ag (by omega),ag (by omega),ag (by omega),ag (by omega),dW,Int.toNat_natCast,pq,Int.toNat_natCast]
   rw[fM]at aS;exact⟨200-(n+1),by omega,n+1,aT+1,ck g' (cD) (iQ o.code (g' bC) (g' tG)),⟨rfl,by omega,by omega,nE eF (JC _ _ _),aS.symm⟩,E.ab [2,3,4,5,8,10,11,12],I.sub⟩
  refine SA 3 E I λa w E I=>?_;refine RT 1 E I ?_;rw[DR (by omega)]at ud;exact⟨_,by rw[← ud],by rw[← ud];exact eF,I.sub⟩
 refine SA 10 E I λa w E I=>?_;refine RT 1 E I ?_;rw[show 200-n=0 from by omega]at ud;exact⟨_,by rw[← ud];rfl,by rw[← ud];exact eF,I.sub⟩
theorem WZ {P:List (List UInt8)}{zs:List dY}(I:U W w (aA W p aq cO::L))(a6:dh p)(aG:p.title.size≤1000000000)(hg:dO g)(hP:P.length≤65536∧∀ b∈P,b.length≤1099511627776)(hz:zs.map (·.2.2)=P)(hf:-1099511627776≤fr∧fr≤1099511627776)(hp:∀ w',U W w' L→hU w' adP zs) :
   Calls prog 116 #[.agg (bP p aq cO).toArray,.agg (ints .i32 32 g).toArray,.int .i64 fr,.slice adP P.length cP] w λe w'=>e=.returned (.agg (ints .i32 32 (foldI p fr g P)).toArray)∧dO (foldI p fr g P)∧U W w' (aA W p aq cO::L):=by
 have iY:zs.length=P.length:=by rw[← hz,bd]
 have sN:=hP.1;refine EN func116 ntmps116 rfl rfl λa E=>?_;refine BX 1 E I λb4 a w E I=>?_;change U W w (aa b4 45 (bP p aq cO)::_) at I;refine BX 0 E I λb5 a w E I=>?_;change U W w (aa b5 49 (ints .i32 32 g)::_) at I;refine AL 0 E I λb8 a w E I=>?_;change U W w (aa b8 49 (ints .i32 32 (λ_=>0))::_) at I;refine RN 3 E I λa E=>?_;refine aO (λμ a w=>∃ (i:Nat) (g':Nat→Int),(μ=P.length-i∧i≤P.length∧dO g'∧foldI p fr g P=foldI p (fr+i) g' (P.drop i))∧Fr a 33 [(2,.int .i64 fr),(3,.slice adP P.length cP),(4,pt b4),(5,pt b5),(8,pt b8),(9,.int .i64 i)]∧U W w (aa b5 49 (ints .i32 32 g')::aa b4 45 (bP p aq cO)::aa b8 49 (ints .i32 32 (λ_=>0))::aA W p aq cO::L)) (P.length) (⟨0,g,⟨by simp,by simp,hg,by simp⟩,E.ab [2,3,4,5,8,9],I.sub⟩) ?_;clear E I;rintro μ a w ⟨i,g',⟨rfl,hi,eF,lM⟩,E,I⟩;refine IF 6 E I (λaj a E=>?_) λaj a E=>?_
 ·
  have kA:zs[i]?=some (zs[i]'(by omega)):=aE (by omega);obtain⟨z,nF⟩:∃ z,zs[i]'(by omega)=z:=⟨_,rfl⟩;rw[nF]at kA;have Ai:P[i]?=some z.2.2:=by rw[← hz,bm,kA];rfl
  have fE:=hp _ (I.sub (M:=L));obtain⟨bp,op,gY,c4⟩:=fE.1 (by omega);have cp:∀ w',U W w' L→w'.cell? ⟨bp,op+i,none⟩=some (aK z):=λw' h=>by
   obtain⟨b',o',h1,h2⟩:=(hp w' h).1 (by omega);rw[gY]at h1;cases h1;exact h2 i _ (by rw[bm,kA];rfl)
  clear c4 fE;have JW:∀ w',U W w' L→aX w' z.1 z.2.2.length z.2.2:=λw' h=>(hp w' h).2 z (bH kA);have D6:foldI p fr g P=foldI p (fr+(i+1:Nat)) (e0 p (fr+i) z.2.2 g') (P.drop (i+1)):=by
   rw[lM,kl (by omega),foldI];have:P[i]'(by omega)=z.2.2:=by rw[aE (by omega)]at Ai;exact Option.some.inj Ai
   rw[this]
   congr 1
   omega
  refine RN 1 E I λa E=>?_;refine cc (M:=λa w=>∃ kr:Nat,dO (e0 p (fr+i) z.2.2 g')∧Fr a 33 [(2,.int .i64 fr),(3,.slice adP P.length cP),(4,pt b4),(5,pt b5),(8,pt b8),(9,.int .i64 i),(10,pt kr)]∧U W w (aa kr 49 (ints .i32 32 (e0 p (fr+i) z.2.2 g'))::aa b5 49 (ints .i32 32 g')::aa b4 45 (bP p aq cO)::aa b8 49 (ints .i32 32 (λ_=>0))::aA W p aq cO::L)) ?_ ?_
  ·
   refine aV 0 (λw0 w'=>Rd w' b4 0 (bP p aq cO)∧Rd w' b5 0 (ints .i32 32 g')∧w'.cell? ⟨bp,op+i,none⟩=some (aK z)) [1,8,13] [2,3,4,5,6,7,3000,3001,3008,2009,10,11,12,1013,1014,15] E I λa w E I hH=>?_;have hC:=hH.at w ⟨I.ai,I.ai,cp _ I.sub⟩;refine RH 5 E I hH hC λa E=>?_;rw[gY]at E;refine RH 1 E I hH hC λa E=>?_;refine QH E (λw hc=>bS E underlying45 rfl Ty.t45 (hc.1)) hC λa E=>?_;refine QH E (λw hc=>bS E underlying49 rfl Ty.t49 (hc.2.1)) hC λa E=>?_;refine QH E (λw hc=>ae E (hc.2.2)) hC λa E=>?_;refine RH 0 E I hH hC λa E=>?_;refine DN [(9,[10,11,12,1013,1014,15]),(13,[1009,10,11,12,1014,15])] (by kernel_rfl) rfl ⟨⟨_,rfl,?_⟩,⟨_,rfl,?_⟩,trivial⟩
   ·
    refine RH 0 E I hH hC λa E=>?_;refine bh 0 E I (D3 (I.pick (aA W p aq cO)) a6 aG eF (hP.2 _ (bH Ai)) (by omega) (λw' h=>JW w' h.sub)) λsH a w E ⟨bA,I⟩=>?_;refine RN 3 E I λa E=>?_;refine eV E rfl I Ty.t49 rfl λkr a w E I ho=>?_;clear ho;replace hC:=hH.at w ⟨I.ai,I.ai,cp _ I.sub⟩;change U W w (aa kr 49 (ints .i32 32 (λ_=>0))::_) at I;refine RH 0 E I hH hC λa E=>?_;refine SA 0 E I λa w E I=>?_;refine RN 1 E I λa E=>?_;rw[← gY]at E;exact⟨_,bA,E.ab [2,3,4,5,8,9,10],I.sub⟩
   refine RH 0 E I hH hC λa E=>?_;refine eV E rfl I Ty.t49 rfl λkr a w E I ho=>?_;clear ho;replace hC:=hH.at w ⟨I.ai,I.ai,cp _ I.sub⟩;change U W w (aa kr 49 (ints .i32 32 (λ_=>0))::_) at I;refine RH 0 E I hH hC λa E=>?_;refine bh 0 E I (D3 (I.pick (aA W p aq cO)) a6 aG eF (hP.2 _ (bH Ai)) (by omega) (λw' h=>JW w' h.sub)) λsH a w E ⟨bA,I⟩=>?_;refine SA 3 E I λa w E I=>?_;refine RN 1 E I λa E=>?_;rw[← gY]at E;exact⟨_,bA,E.ab [2,3,4,5,8,9,10],I.sub⟩
  clear E;(try clear I);rintro a w ⟨kr,bA,E,I⟩;refine SA 1 E I λa w E I=>?_;refine RN 3 E I λa E=>?_;exact⟨P.length-(i+1),by omega,i+1,_,⟨rfl,by omega,bA,D6⟩,E.ab [2,3,4,5,8,9],I.sub⟩
 refine RN 1 E I λa E=>?_;obtain rfl:i=P.length:=by omega
 rw[List.drop_length,foldI]at lM;refine SA 1 E I λa w E I=>?_;refine RT 0 E I ?_;exact⟨by rw[lM],by rw[lM];exact eF,I.sub⟩
end
end
section
section
variable {P:Program}{a:Act}{w:World}{n:Nat}{l:List (Nat×Value)}
theorem JX {x y i j t u dst ty ps af g}(E:Fr a n l)[e:Ev l x (.string i)][f:Ev l y (.string j)] :
   (execOp a.eval ⟨dst,.binOp .neq t x y u,ty,ps,af,g⟩).run P w=.ok (.value (.bool (!(i.data.toList==j.data.toList)))) w:=by
 simp[execOp,e.ev a n E,f.ev a n E,eqGuard,binOp,Op.stringOp,ByteArray.toList_eq]
end
end
section
abbrev aeW:=Option Addr×Nat×List dY
end
section
section
theorem W0 {u v:List (List UInt8)}:pd u v=true↔u.take (min u.length v.length)=v.take (min u.length v.length):=by simp[pd]
end
end
section
abbrev Kx:=Wk×Nat
def e5 (p:Pr)(aq:Option Addr)(cO tq jq sq:Nat)(x:Kx):SP:=aa x.2 247 (cx p aq cO tq jq sq x.1)
def gR (ks:List Kx):List Value:=ks.map λx=>pt x.2
theorem JY {ks:List Kx}{i:Nat}{k:Wk}{wb:Nat}(h:ks[i]?=some (k,wb)):(gR ks)[i]?=some (pt wb):=by rw[gR,bm,h];rfl
theorem JZ {ks:List Kx}{i:Nat}{k k':Wk}{wb:Nat}(h:ks[i]?=some (k,wb)):gR (ks.set i (k',wb))=gR ks:=by
 have hi:=(a2.1 h).1;apply ext_getElem?;intro j;simp only[gR,bm,jL];by_cases hj:i=j
 ·subst hj;rw[ak rfl,ak hi,h];rfl
 ·rw[ag hj]
theorem vR {ks:List Kx}{i:Nat}{k k':Wk}{wb:Nat}(h:ks[i]?=some (k,wb)):(ks.map (·.1)).Perm (k::(ks.eraseIdx i).map (·.1))∧((ks.set i (k',wb)).map (·.1)).Perm (k'::(ks.eraseIdx i).map (·.1)):=by
 obtain⟨hi,he⟩:=a2.1 h;have h1:=(r7 ks hi).map (·.1);rw[map_cons,he]at h1;have h2:=(r7 (ks.set i (k',wb)) (by simpa using hi)).map (·.1);rw[map_cons,getElem_set_self,eraseIdx_set_eq]at h2;exact⟨h1,h2⟩
section
variable {W w:World}{L:List SP}{tq jq sq r wb i cO n base:Nat}{aq:Option Addr}{A:Sn}{T:Tr}{J:Js}{k:Wk}{p:Pr}{x:Br}{px:aC}{ks:List Kx}{t:Nat→Nat}
theorem U.J0 (I:U W w (ah (e5 p aq cO tq jq sq) ks::L))(hk:ks[i]?=some (k,wb)):U W w (aa wb 247 (cx p aq cO tq jq sq k)::ah (e5 p aq cO tq jq sq) (ks.eraseIdx i)::L):=by
 obtain⟨hi,he⟩:=a2.1 hk;have:=I.fu hi;rw[he]at this;exact this
theorem U.D7 {k':Wk}(I:U W w (aa wb 247 (cx p aq cO tq jq sq k')::ah (e5 p aq cO tq jq sq) (ks.eraseIdx i)::L))(hk:ks[i]?=some (k,wb)):U W w (ah (e5 p aq cO tq jq sq) (ks.set i (k',wb))::L) :=
 U.kI (f:=e5 p aq cO tq jq sq) (x:=(k',wb)) (a2.1 hk).1 I
theorem W1 {F:Int}{g0:Nat→Int}(I:U W w (ah (e5 p aq cO tq jq sq) ks::Tree tq sq T::ax sq r A::bI jq J::aA W p aq cO::L))(hk:ks[i]?=some (k,wb))(hI:Inv p F g0 t base A T (ks.map (·.1)))
   (hF:0≤F∧F≤1099511627776) (hp:dh p) (hz:p.title.size≤1000000000) (hn:A.n+1<1099511627776) (kz:J.length≤16) :
   Calls prog 102 #[pt wb] w λe w'=>∃ (z:Bool) (A':Sn) (T':Tr) (J':Js) (k':Wk),e=.returned (.bool z)∧(lk p A T J k z A' T' J' k'∧Inv p F g0 t base A' T' ((ks.set i (k',wb)).map (·.1))∧zV A T J A' T' J') ∧
    U W w' (ah (e5 p aq cO tq jq sq) (ks.set i (k',wb))::Tree tq sq T'::ax sq r A'::bI jq J'::aA W p aq cO::L):=by
 have hA:=(ax.facts (I.store sq)).1;have hT:=Tree.wt (I.tree tq);have W3:k∈ks.map (·.1):=cV.2 ⟨_,bH hk,rfl⟩;have h1:=I.J0 hk;refine (WA (L:=ah (e5 p aq cO tq jq sq) (ks.eraseIdx i)::L) (h1.sub (M:=aa wb 247 (cx p aq cO tq jq sq k)::Tree tq sq T::ax sq r A::bI jq J::aA W p aq cO::ah (e5 p aq cO tq jq sq) (ks.eraseIdx i)::L)) (hI.ready W3 hF hp hz hn kz)).mono λe w' ⟨z,A',T',J',k',he,hb,I⟩=>?_;refine⟨z,A',T',J',k',he,⟨hb,((hI.vI (vR (k':=k') hk).1).bit hA hT hb).vI (vR (k':=k') hk).2.symm,hb.Vw⟩,?_⟩;have h2:=U.D7 (i:=i) (ks:=ks) (k:=k) (k':=k') (I.sub (M:=aa wb 247 (cx p aq cO tq jq sq k')::ah (e5 p aq cO tq jq sq) (ks.eraseIdx i)::Tree tq sq T'::ax sq r A'::bI jq J'::aA W p aq cO::L)) hk;exact h2
theorem W4 {F:Int}{g0:Nat→Int}(I:U W w (ah (e5 p aq cO tq jq sq) ks::ax sq r A::L))(hk:ks[i]?=some (k,wb))(hI:Inv p F g0 t base A T (ks.map (·.1))) :
   Calls prog 145 #[pt wb] w λe w'=>∃ (A':Sn) (k':Wk),e=.returned (.bool k.busy)∧(k'.busy=false∧Inv p F g0 t base A' T ((ks.set i (k',wb)).map (·.1))∧A'.room=A.room∧A'.n=A.n) ∧
    U W w' (ah (e5 p aq cO tq jq sq) (ks.set i (k',wb))::ax sq r A'::L):=by
 have hA:=(ax.facts (I.store sq)).1;have h1:=I.J0 hk;cases hb:k.busy with
 | false =>
  refine (JJ h1 hb).mono λe w' ⟨he,I⟩=>⟨A,k,he,⟨hb,(hI.vI (vR (k':=k) hk).1).vI (vR (k':=k) hk).2.symm,rfl,rfl⟩,?_⟩;exact U.D7 (i:=i) (ks:=ks) (k:=k) (k':=k) I hk
 | true =>
  refine (xT (L:=ah (e5 p aq cO tq jq sq) (ks.eraseIdx i)::L) (h1.sub (M:=aa wb 247 (cx p aq cO tq jq sq k)::ax sq r A::ah (e5 p aq cO tq jq sq) (ks.eraseIdx i)::L)) hb).mono λe w' ⟨he,I⟩=>?_;refine⟨A.et k.x,{ k with busy:=false },he,⟨rfl,((hI.vI (vR (k':={ k with busy:=false }) hk).1).rest (k':={ k with busy:=false }) hA hb rfl rfl).vI (vR (k':={ k with busy:=false }) hk).2.symm,(og A _).1,(og A _).2.1⟩,?_⟩;exact U.D7 (i:=i) (ks:=ks) (k:=k) (k':={ k with busy:=false }) (I.sub (M:=aa wb 247 (cx p aq cO tq jq sq { k with busy:=false })::ah (e5 p aq cO tq jq sq) (ks.eraseIdx i)::ax sq r (A.et k.x)::L)) hk
theorem W5 (I:U W w L):Calls prog 92 #[.agg (bP p aq cO).toArray,pt tq,pt jq,pt sq] w λe w' =>
   ∃ wb,e=.returned (pt wb)∧U W w' (aa wb 247 (cx p aq cO tq jq sq kR)::L):=by
 refine EN func92 ntmps92 rfl rfl λa E=>?_;refine BX 1 E I λb4 a w E I=>?_;change U W w (aa b4 45 (bP p aq cO)::_) at I;refine RN 3 E I λa E=>?_;change Fr a 15 ((9,.agg (List.toArray [.string p.title,.slice aq p.ops.length cO]))::_) at E;refine BX 4 E I λeJ a w E I=>?_;change U W w (aa eJ 247 (cx p aq cO tq jq sq kR)::_) at I;refine RT 1 E I ?_;exact⟨eJ,rfl,I.sub⟩
theorem W6 {frm:Int}{ad2:Option Addr}{c2 id:Nat}{zs:List dY}{P:List (List UInt8)}(I:U W w (Tree tq sq T::ax sq r A::L))(hr:∀ w',U W w' L→hU w' ad2 zs)(hz:zs.map (·.2.2)=P)(hc:P.length≤c2)(dj:nA P)
   (hx:A.ar[i]?=some px) (b6:px.id=id) (hb:A.n+1<1099511627776) (hl:T.last+1<1099511627776) (hm:T.l.length<T.most) :
   Calls prog 306 #[pt tq,.int .i64 frm,.int .i64 id,.slice ad2 P.length c2] w λe w'=>∃ (z:Nat) (ok:Bool),e=.returned (.tuple #[.int .i64 z,.bool ok]) ∧
    ((ok=false∧(P=[]∨∃ y∈T.l,y.is frm P)∧U W w' (Tree tq sq T::ax sq r A::L)) ∨
     (ok=true∧z=T.last+1∧P≠[]∧(∀ y∈T.l,¬ y.is frm P)∧U W w' (Tree tq sq (T.add frm P (A.last+1))::ax sq r (A.add px.g px.p)::L))):=by
 subst b6;rcases Nat.eq_zero_or_pos P.length with h0 | h0
 ·have hP:=gW h0;exact (I3 I (.inr h0)).mono λe w' ⟨h1,I⟩=>⟨0,false,h1,.inl ⟨rfl,.inl hP,I⟩⟩
 ·have hP:P≠[]:=List.length_pos_iff.1 h0;by_cases hex:∃ y∈T.l,y.is frm P
  ·obtain⟨y,hy,vz⟩:=hex;obtain⟨j,hj⟩:=jS.1 hy;have W7:∀ w',U W w' (ax sq r A::L)→kL w' ad2 P.length P:=λw' h=>by
    have:=(hr w' h.tail).bb;rw[hz]at this
    rwa [show zs.length=P.length from by rw[← hz,bd]]at this
   exact (UO I W7 hc dj hj vz).mono λe w' ⟨h1,I⟩=>⟨0,false,h1,.inl ⟨rfl,.inr ⟨y,hy,vz⟩,I⟩⟩
  ·have bR:∀ y∈T.l,¬ y.is frm P:=λy hy h=>hex ⟨y,hy,h⟩;exact (UP I hr hz hc dj hx hb hl bR hm h0).mono λe w' ⟨h1,I⟩=>⟨T.last+1,true,h1,.inr ⟨rfl,rfl,hP,bR,I⟩⟩
end
end
section
section
variable {W w:World}{L:List SP}{sq r i:Nat}{A:Sn}{px:aC}
theorem W8 {id:Nat}(I:U W w (ax sq r A::L))(hx:A.ar[i]?=some px)(b6:px.id=id) :
   Calls prog 290 #[pt sq,.int .i64 id] w λe w'=>e=.returned (.tuple #[.agg (ints .i32 32 px.g).toArray,.bool true])∧U W w' (ax sq r A::L):=by
 subst b6;exact Uu I hx
set_option maxHeartbeats 4000000 in
end
end
section
section
variable {P:Program}{ops:Array Oper}{Q:Exit→Act→World→Prop}{a:Act}{w w' W:World}{K:Act→World→Prop}{n d:Nat}{l:List (Nat×Value)}{v:Value}{L R:List SP}
theorem g2 {s x t z sz a1 e ad k c ad2 m c2 news ty ps af g}{cs:List Value}(E:Fr a n l)(hw:Region.wanted ⟨some d,.call ⟨.builtin .append,#[s,x],#[t,t]⟩,ty,ps,af,g⟩ (yielded ops a.tmps)=true)(I:U W w L)
   (ht:P.underlying t=some (.slice e)) (hi:TI P e z sz a1) (hf:okB d n l=true) (hz:z.cells.size=sz) (hb:0<a1)
   [e1:Ev l s (.slice ad k c)] [pk:fK L ad k c e sz cs R] [e2:Ev l x (.slice ad2 m c2)] (hr:0<m→∃ b2 gN,ad2=some ⟨b2,gN,none⟩∧Rd w b2 gN news) (hl:news.length=m*sz) (h1:∀ v∈news,v.oneCell'=true)
   (aG:(k+m)*a1≤140737488355328)
   (h:∀ av c' a' w',Fr a' n ((d,.slice av (k+m) c')::l)→U W w' (Sl e sz av (k+m) c' (cs++news)::R)→K a' w') :
   cI P ops Q ⟨some d,.call ⟨.builtin .append,#[s,x],#[t,t]⟩,ty,ps,af,g⟩ K a w:=by
 rcases Nat.eq_zero_or_pos m with h0 | h0
 ·subst h0;have qN:=(I.sl ad).2;obtain rfl:news=[]:=gW (by rw[hl,Nat.zero_mul]);refine Cu (ad:=ad) (k:=k) (c:=c) (ad2:=ad2) (c2:=c2) E hw ht hi hf qN λa' db=>h ad c a' w db ?_;rw[append_nil];exact I.perm pk.perm
 ·obtain⟨b2,gN,rfl,c4⟩:=hr h0;exact cK E hw I ht hi hz hf c4 hl h1 h0 hb aG h
end
theorem U.D8 {W w:World}{L:List SP}{b e n:Nat}{cs:List Value}{l:List UInt8}(I:U W w (aa b e cs::L))(he:e=5)(hl:l.length=n)(h:cs=bc l):U W w (Sl 5 1 (some ⟨b,0,none⟩) n n (bc l)::L):=by
 subst h;subst he;have h2:U W w (aa b 5 ([]++bc l++[])::L):=by simpa using I
 exact U.iM (pre:=[]) (post:=[]) (n:=n) (c:=n) (sz:=1) (cs:=bc l) h2 (by rw[dt,hl,Nat.mul_one]) (a7 _) (by simp)
theorem dQ {bs:List UInt8}{i:Nat}(h:i<bs.length):(bc bs)[i]?=some (.int .u8 ((bs[i]).toNat:Int)):=by simp[bc,h]
theorem fG (a b:List UInt8):bc (a++b)=bc a++bc b:=by simp[bc]
theorem aX.get {w:World}{ad:Option Addr}{m:Nat}{bs:List UInt8}(h:aX w ad m bs)(h0:0<m):∃ b o,ad=some ⟨b,o,none⟩∧Rd w b o (bc bs):=by
 obtain⟨_,h2,h3⟩:=h;cases hh:ad with
 | none=>have:=h2 hh;omega
 | some a =>
  obtain⟨b,o,rfl,h1⟩:=h3 a hh h0;exact⟨b,o,rfl,h1⟩
theorem aX.rd {w:World}{b o m:Nat}{bs:List UInt8}(h:aX w (some ⟨b,o,none⟩) m bs)(h0:0<m):Rd w b o (bc bs):=by
 obtain⟨b',o',e,h1⟩:=h.get h0;cases e;exact h1
theorem aX.ue {w:World}{ad:Option Addr}{bs:List UInt8}{c:Nat}(h:aX w ad bs.length bs){lo:Nat}(hl:lo≤bs.length)(hc:bs.length≤c):aX w (fl ad lo c 1) (bs.drop lo).length (bs.drop lo):=by
 refine⟨rfl,λe=>?_,λx hx h0=>?_⟩
 ·rw[c3];rcases Nat.eq_zero_or_pos (bs.length-lo) with h0 | h0
  ·exact h0
  ·obtain⟨b,o,rfl,_⟩:=h.get (by omega);rw[oZ (by omega)]at e;cases e
 ·rw[c3]at h0;obtain⟨b,o,rfl,hr⟩:=h.get (by omega);rw[oZ (by omega)]at hx;cases hx;refine⟨b,o+lo*1,rfl,λj v hj=>?_⟩;have h1:=hr (lo+j) v (by rw[bc,bm,← getElem?_drop,← bm];exact hj)
  rwa [show o+lo*1+j=o+(lo+j) from by omega]
theorem aX.D9 {w:World}{ad:Option Addr}{bs:List UInt8}{m:Nat}(h:aX w ad m bs){hi:Nat}(hl:hi≤bs.length):aX w ad hi (bs.take hi):=by
 obtain⟨h1,h2,h3⟩:=h;refine⟨by rw[ep];omega,λe=>by have:=h2 e;omega,λx hx h0=>?_⟩;obtain⟨b,o,e,hr⟩:=h3 x hx (by omega);refine⟨b,o,e,λj v hj=>hr j v ?_⟩;rw[bc,map_take,getElem?_take]at hj;split at hj
 ·exact hj
 ·cases hj
theorem uf (x:Nat):BitVec.ofInt IntKind.u32.bits (x:Int)=BitVec.ofNat 32 x:=BitVec.ofInt_natCast 32 x
theorem Aj (x:Nat):BitVec.ofInt IntKind.u64.bits (x:Int)=BitVec.ofNat 64 x:=BitVec.ofInt_natCast 64 x
theorem Ak {x y:Nat}(hx:x<4294967296)(hy:y<4294967296):IntKind.u32.wrap (((BitVec.ofInt IntKind.u32.bits (x:Int) ^^^ BitVec.ofInt IntKind.u32.bits (y:Int)).toNat:Nat):Int)=((x ^^^ y:Nat):Int):=by
 rw[uf,uf];show IntKind.u32.wrap (((BitVec.ofNat 32 x ^^^ BitVec.ofNat 32 y).toNat:Nat):Int)=_;rw[BitVec.toNat_xor,BitVec.toNat_ofNat,BitVec.toNat_ofNat,Nat.mod_eq_of_lt (show x<2 ^ 32 from hx),Nat.mod_eq_of_lt (show y<2 ^ 32 from hy),wrap_u32];have:=Nat.xor_lt_two_pow (n:=32) hx hy;omega
theorem W9 {x y:Nat}(hx:x<4294967296)(hy:y<4294967296):IntKind.u32.wrap (((BitVec.ofInt IntKind.u32.bits (x:Int) &&& BitVec.ofInt IntKind.u32.bits (y:Int)).toNat:Nat):Int)=((x &&& y:Nat):Int):=by
 rw[uf,uf];show IntKind.u32.wrap (((BitVec.ofNat 32 x &&& BitVec.ofNat 32 y).toNat:Nat):Int)=_;rw[BitVec.toNat_and,BitVec.toNat_ofNat,BitVec.toNat_ofNat,Nat.mod_eq_of_lt (show x<2 ^ 32 from hx),Nat.mod_eq_of_lt (show y<2 ^ 32 from hy),wrap_u32];have:x &&& y≤x:=Nat.and_le_left;omega
theorem J1 {x:Nat}(h:x<4294967296):IntKind.u32.wrap (((BitVec.ofInt IntKind.u32.bits (if IntKind.u32.signed then -1 else IntKind.u32.max) ^^^ BitVec.ofInt IntKind.u32.bits (x:Int)).toNat:Nat):Int)=((4294967295-x:Nat):Int):=by
 have e:BitVec.ofInt IntKind.u32.bits (if IntKind.u32.signed then -1 else IntKind.u32.max)=BitVec.allOnes 32:=by
  show BitVec.ofInt 32 IntKind.u32.max=_;decide
 rw[e,uf];show IntKind.u32.wrap (((BitVec.allOnes 32 ^^^ BitVec.ofNat 32 x).toNat:Nat):Int)=_;rw[BitVec.allOnes_xor,BitVec.toNat_not,BitVec.toNat_ofNat,wrap_u32];rw[Nat.mod_eq_of_lt (show x<2 ^ 32 from h)];omega
theorem Xa {x y:Nat}(hx:x<18446744073709551616)(hy:y<18446744073709551616):IntKind.u64.wrap (((BitVec.ofInt IntKind.u64.bits (x:Int) ||| BitVec.ofInt IntKind.u64.bits (y:Int)).toNat:Nat):Int)=((x ||| y:Nat):Int):=by
 rw[Aj,Aj];show IntKind.u64.wrap (((BitVec.ofNat 64 x ||| BitVec.ofNat 64 y).toNat:Nat):Int)=_;rw[BitVec.toNat_or,BitVec.toNat_ofNat,BitVec.toNat_ofNat,Nat.mod_eq_of_lt (show x<2 ^ 64 from hx),Nat.mod_eq_of_lt (show y<2 ^ 64 from hy),wrap_u64];have:=Nat.or_lt_two_pow (n:=64) hx hy;omega
theorem Xb {x y:Nat}(hx:x<18446744073709551616)(hy:y<18446744073709551616):IntKind.u64.wrap (((BitVec.ofInt IntKind.u64.bits (x:Int) &&& BitVec.ofInt IntKind.u64.bits (y:Int)).toNat:Nat):Int)=((x &&& y:Nat):Int):=by
 rw[Aj,Aj];show IntKind.u64.wrap (((BitVec.ofNat 64 x &&& BitVec.ofNat 64 y).toNat:Nat):Int)=_;rw[BitVec.toNat_and,BitVec.toNat_ofNat,BitVec.toNat_ofNat,Nat.mod_eq_of_lt (show x<2 ^ 64 from hx),Nat.mod_eq_of_lt (show y<2 ^ 64 from hy),wrap_u64];have:x &&& y≤x:=Nat.and_le_left;omega
theorem lQ (b:UInt8):b.toNat<256:=b.toNat_lt
def sO (x:Nat):Nat:=if x%2=1 then x/2 ^^^ 3988292384 else x/2
def mx:Nat→Nat→Nat
 | 0,y=>y
 | k+1,y=>sO (mx k y)
def vS (x:Nat)(b:UInt8):Nat:=mx 8 (x ^^^ b.toNat)
def ow (bs:List UInt8):Nat:=bs.foldl vS 4294967295
def jk (bs:List UInt8):Nat:=4294967295-ow bs
theorem Xc {x:Nat}(h:x<4294967296):sO x<4294967296:=by
 unfold sO;split
 ·exact Nat.xor_lt_two_pow (n:=32) (by show x/2<4294967296;omega) (by decide)
 ·omega
theorem Al {x:Nat}(h:x<4294967296):∀ k,mx k x<4294967296
 | 0=>h
 | k+1=>Xc (Al h k)
theorem Xd {x:Nat}(b:UInt8)(h:x<4294967296):vS x b<4294967296:=by
 refine Al (Nat.xor_lt_two_pow (n:=32) h ?_) 8;have:=lQ b;show b.toNat<4294967296;omega
theorem Xe (bs:List UInt8):∀ {x:Nat},x<4294967296→bs.foldl vS x<4294967296:=by
 induction bs with
 | nil=>exact λh=>h
 | cons b bs ih=>exact λh=>ih (Xd b h)
theorem Am (bs:List UInt8):ow bs<4294967296:=Xe bs (by decide)
theorem Ea (bs:List UInt8):jk bs<4294967296:=by unfold jk;omega
theorem J2 {bs:List UInt8}{i:Nat}(h:i<bs.length):ow (bs.take (i+1))=vS (ow (bs.take i)) bs[i]:=by
 rw[ow,jd h,foldl_append];rfl
theorem Xf {x:Nat}(h:x<4294967296):IntKind.u32.wrap (((BitVec.ofInt IntKind.u32.bits (x:Int) &&& BitVec.ofInt IntKind.u32.bits 1).toNat:Nat):Int)=((x%2:Nat):Int):=by
 have h1:=W9 (y:=1) h (by decide);rw[Nat.and_one_is_mod]at h1;exact h1
theorem Xg {m:Nat}(h:m<2):IntKind.u32.wrap (0-(m:Int))=((if m=1 then 4294967295 else 0:Nat):Int):=by
 rcases (by omega:m=0∨m=1) with rfl | rfl <;> decide
theorem Xh (m:Nat):IntKind.u32.wrap (((BitVec.ofInt IntKind.u32.bits 3988292384 &&& BitVec.ofInt IntKind.u32.bits ((if m=1 then 4294967295 else 0:Nat):Int)).toNat:Nat):Int)=((if m=1 then 3988292384 else 0:Nat):Int):=by
 by_cases h:m=1
 ·rw[ak h,ak h];decide
 ·rw[ag h,ag h];decide
theorem Xi {x m:Nat}(hx:x<4294967296):IntKind.u32.wrap (((BitVec.ofInt IntKind.u32.bits ((x/2:Nat):Int) ^^^ BitVec.ofInt IntKind.u32.bits ((if x%2=1 then 3988292384 else 0:Nat):Int)).toNat:Nat):Int)=((sO x:Nat):Int):=by
 rw[Ak (by omega) (by split <;> decide),sO];split
 ·rfl
 ·rw[Nat.xor_zero]
theorem Xj {x:Nat}(hx:x<4294967296):IntKind.u32.wrap (((BitVec.ofInt IntKind.u32.bits ((x/2:Nat):Int) ^^^ BitVec.ofInt IntKind.u32.bits 3988292384).toNat:Nat):Int)=((x/2 ^^^ 3988292384:Nat):Int):=Ak (y:=3988292384) (by omega) (by decide)
def fc (x:Nat):List UInt8:=[UInt8.ofNat (x/16777216),UInt8.ofNat (x/65536),UInt8.ofNat (x/256),UInt8.ofNat x]
theorem Xk (n:Nat):IntKind.u8.wrap (n:Int)=((UInt8.ofNat n).toNat:Int):=by
 rw[wrap_u8,UInt8.toNat_ofNat'];omega
def pA (x:Int):Nat:=(x%4294967296).toNat
theorem J3 (x:Int):IntKind.u32.wrap x=((pA x:Nat):Int):=by rw[wrap_u32,pA];omega
def gn (g:Nat→Int):List UInt8:=(List.range 32).flatMap λi=>fc (pA (g i))
def lR (g:Nat→Int)(n:Nat):List UInt8:=(List.range n).flatMap λi=>fc (pA (g i))
theorem Eb (g:Nat→Int)(n:Nat):lR g (n+1)=lR g n++fc (pA (g n)):=by simp[lR,range_succ]
theorem rf (g:Nat→Int)(n:Nat):(lR g n).length=4*n:=by
 induction n with
 | zero=>rfl
 | succ n ih=>rw[Eb,aL,ih];simp[fc];omega
theorem ug (g:Nat→Int):(gn g).length=128:=rf g 32
section
variable {W w:World}{L:List SP}{n c m:Nat}{ad:Option Addr}{bs:List UInt8}
theorem Xl (I:U W w L)(hb:bs.length≤1099511627776)(hp:∀ w',U W w' L→aX w' ad bs.length bs) :
   Calls prog 205 #[.int .u32 0,.slice ad bs.length c] w λe w'=>e=.returned (.int .u32 (jk bs))∧U W w' L:=by
 refine EN func205 ntmps205 rfl rfl λa E=>?_;refine RN 6 E I λa E=>?_;rw[show IntKind.u32.wrap ((BitVec.ofInt IntKind.u32.bits (if IntKind.u32.signed then -1 else IntKind.u32.max) ^^^ BitVec.ofInt IntKind.u32.bits 0).toNat:Int)=((ow (bs.take 0):Nat):Int) from rfl]at E;refine RN 5 E I λa E=>?_;refine aO (λμ a w=>∃ (i:Nat),(μ=bs.length-i∧i≤bs.length)∧Fr a 33 [(5,.int .u32 (ow (bs.take i))),(10,.slice ad bs.length c),(11,.int .i64 bs.length),(12,.int .i64 i)]∧U W w L) (bs.length) (⟨0,⟨rfl,by omega⟩,E.ab [5,10,11,12],I⟩) ?_;clear E I;rintro μ a w ⟨i,⟨rfl,hi⟩,E,I⟩;refine IF 3 E I (λaj a E=>?_) λaj a E=>?_
 ·
  obtain⟨bb,oo,rfl,hr⟩:=(hp _ I).get (by omega);have aH:i<bs.length:=by omega
  have hx:=Am (bs.take i);have qp:=lQ bs[i];refine RN 3 E I λa E=>?_;refine SS E (ae E (hr i _ (dQ aH))) λa E=>?_;refine SX 4 E I (by rw[wrap_u32];omega) λa E=>?_;refine RN 1 E I λa E=>?_;rw[Ak hx (by omega)]at E;refine RN 3 E I λa E=>?_;have hy:ow (bs.take i) ^^^ bs[i].toNat<4294967296:=Nat.xor_lt_two_pow (n:=32) hx (by show _<4294967296;omega);have ke:=J2 aH;rw[vS]at ke;generalize ow (bs.take i) ^^^ bs[i].toNat=y at E hy ke;refine aO (λμ a w=>∃ (k:Nat),(μ=8-k∧k≤8)∧Fr a 33 [(5,.int .u32 (mx k y)),(10,.slice (some ⟨bb,oo,none⟩) bs.length c),(11,.int .i64 bs.length),(12,.int .i64 i),(20,.int .i64 k)]∧U W w L) (8) (⟨0,⟨rfl,by omega⟩,E.ab [5,10,11,12,20],I⟩) ?_;clear E I;rintro μ a w ⟨k,⟨rfl,hk⟩,E,I⟩;refine IF 3 E I (λao a E=>?_) λao a E=>?_
  ·
   have An:=Al hy k;refine RN 3 E I λa E=>?_;rw[show ((mx k y:Nat):Int).fdiv (2 ^ 1)=((mx k y/2:Nat):Int) from kS _ 2]at E;refine RN 2 E I λa E=>?_;rw[Xf An]at E;refine RN 1 E I λa E=>?_;rw[Xg (Nat.mod_lt _ (by decide))]at E;refine RN 1 E I λa E=>?_;rw[Xh]at E;refine RN 1 E I λa E=>?_;rw[Xi (m:=0) An]at E;refine RN 3 E I λa E=>?_;exact⟨8-(k+1),by omega,k+1,⟨rfl,by omega⟩,E.ab [5,10,11,12,20],I⟩
  obtain rfl:k=8:=by omega
  rw[← ke]at E;refine RN 2 E I λa E=>?_;exact⟨bs.length-(i+1),by omega,i+1,⟨rfl,by omega⟩,E.ab [5,10,11,12],I⟩
 obtain rfl:i=bs.length:=by omega
 rw[take_length]at E;refine RN 3 E I λa E=>?_;rw[J1 (Am bs)]at E;refine RT 1 E I ?_;exact⟨rfl,I⟩
theorem J4 (I:U W w L)(hb:bs.length≤1099511627776)(hp:∀ w',U W w' L→aX w' ad bs.length bs) :
   Calls prog 176 #[.slice ad bs.length c] w λe w'=>e=.returned (.int .u32 (jk bs))∧U W w' L:=by
 refine EN func176 ntmps176 rfl rfl λa E=>?_;refine CL 4 E I (Xl I hb hp) λa w E I=>?_;refine RT 1 E I ?_;exact⟨rfl,I⟩
theorem J5 (I:U W w L)(hb:bs.length≤1099511627776)(hp:∀ w',U W w' L→aX w' ad bs.length bs) :
   Calls prog 154 #[.slice ad bs.length c] w λe w'=>e=.returned (.int .u32 (jk bs))∧U W w' L:=by
 refine EN func154 ntmps154 rfl rfl λa E=>?_;refine RN 7 E I λa E=>?_;refine aO (λμ a w=>∃ (i:Nat),(μ=bs.length-i∧i≤bs.length)∧Fr a 33 [(0,.slice ad bs.length c),(3,.int .u32 (ow (bs.take i))),(4,.int .i64 i)]∧U W w L) (bs.length) (⟨0,⟨rfl,by omega⟩,E.ab [0,3,4],I⟩) ?_;clear E I;rintro μ a w ⟨i,⟨rfl,hi⟩,E,I⟩;refine IF 6 E I (λaj a E=>?_) λaj a E=>?_
 ·
  obtain⟨bb,oo,rfl,hr⟩:=(hp _ I).get (by omega);have aH:i<bs.length:=by omega
  have hx:=Am (bs.take i);have qp:=lQ bs[i];refine RN 6 E I λa E=>?_;refine SS E (ae E (hr i _ (dQ aH))) λa E=>?_;refine SX 0 E I (by rw[wrap_u32];omega) λa E=>?_;refine RN 1 E I λa E=>?_;rw[Ak hx (by omega)]at E;refine RN 3 E I λa E=>?_;have hy:ow (bs.take i) ^^^ bs[i].toNat<4294967296:=Nat.xor_lt_two_pow (n:=32) hx (by show _<4294967296;omega);have ke:=J2 aH;rw[vS]at ke;generalize ow (bs.take i) ^^^ bs[i].toNat=y at E hy ke;refine aO (λμ a w=>∃ (k:Nat),(μ=8-k∧k≤8)∧Fr a 33 [(0,.slice (some ⟨bb,oo,none⟩) bs.length c),(3,.int .u32 (mx k y)),(4,.int .i64 i),(5,.int .i64 k)]∧U W w L) (8) (⟨0,⟨rfl,by omega⟩,E.ab [0,3,4,5],I⟩) ?_;clear E I;rintro μ a w ⟨k,⟨rfl,hk⟩,E,I⟩;refine IF 4 E I (λao a E=>?_) λao a E=>?_
  ·
   have An:=Al hy k;have oh:mx (k+1) y=sO (mx k y):=rfl;refine SX 3 E I (by decide) λa E=>?_;rw[show ((mx k y:Nat):Int).tmod 2=((mx k y%2:Nat):Int) from nY _ 2]at E;refine IF 1 E I (λay a E=>?_) λay a E=>?_
   ·
    rw[sO,ak (by omega)]at oh;refine RN 2 E I λa E=>?_;rw[show ((mx k y:Nat):Int).fdiv (2 ^ 1)=((mx k y/2:Nat):Int) from kS _ 2]at E;refine RN 1 E I λa E=>?_;rw[Xj An,← oh]at E;refine RN 4 E I λa E=>?_;exact⟨8-(k+1),by omega,k+1,⟨rfl,by omega⟩,E.ab [0,3,4,5],I⟩
   rw[sO,ag (by omega)]at oh;refine RN 2 E I λa E=>?_;rw[show ((mx k y:Nat):Int).fdiv (2 ^ 1)=((mx k y/2:Nat):Int) from kS _ 2,← oh]at E;refine RN 4 E I λa E=>?_;exact⟨8-(k+1),by omega,k+1,⟨rfl,by omega⟩,E.ab [0,3,4,5],I⟩
  obtain rfl:k=8:=by omega
  rw[← ke]at E;refine RN 3 E I λa E=>?_;exact⟨bs.length-(i+1),by omega,i+1,⟨rfl,by omega⟩,E.ab [0,3,4],I⟩
 obtain rfl:i=bs.length:=by omega
 rw[take_length]at E;refine RN 3 E I λa E=>?_;rw[J1 (Am bs)]at E;refine RT 1 E I ?_;exact⟨rfl,I⟩
theorem Ec {x:Nat}:[[Value.int .u8 (IntKind.u8.wrap ((x/16777216:Nat):Int))],[Value.int .u8 (IntKind.u8.wrap ((x/65536:Nat):Int))],[Value.int .u8 (IntKind.u8.wrap ((x/256:Nat):Int))],[Value.int .u8 (IntKind.u8.wrap ((x:Nat):Int))]].flatten=bc (fc x):=by
 simp only[Xk];rfl
theorem U.Ed {b:Nat}{cs:List Value}{l:List UInt8}{e:Nat}(I:U W w (aa b e cs::L))(he:e=5)(hl:l.length=4)(h:cs=bc l):U W w (Sl 5 1 (some ⟨b,0,none⟩) 4 4 (bc l)::L):=by
 subst h;subst he;have h2:U W w (aa b 5 ([]++bc l++[])::L):=by simpa using I
 exact U.iM (pre:=[]) (post:=[]) (n:=4) (c:=4) (sz:=1) (cs:=bc l) h2 (by rw[dt,hl]) (a7 _) (Nat.zero_le _)
theorem J6 {x:Nat}(I:U W w L) :
   Calls prog 337 #[.int .u32 x] w λe w'=>∃ ad,e=.returned (.slice ad 4 4)∧U W w' (Sl 5 1 ad 4 4 (bc (fc x))::L):=by
 refine EN func337 ntmps337 rfl rfl λa E=>?_;refine RN 5 E I λa E=>?_;rw[show ((x:Nat):Int).fdiv (2 ^ 24)=((x/16777216:Nat):Int) from kS _ 16777216]at E;refine SS E (gj E underlying100 underlying5) λa E=>?_;refine RN 2 E I λa E=>?_;rw[show ((x:Nat):Int).fdiv (2 ^ 16)=((x/65536:Nat):Int) from kS _ 65536]at E;refine SS E (gj E underlying100 underlying5) λa E=>?_;refine RN 2 E I λa E=>?_;rw[show ((x:Nat):Int).fdiv (2 ^ 8)=((x/256:Nat):Int) from kS _ 256]at E;refine SS E (gj E underlying100 underlying5) λa E=>?_;refine RN 1 E I λa E=>?_;refine SS E (gj E underlying100 underlying5) λa E=>?_;refine RN 0 E I λa E=>?_;refine cr E rfl I underlying22 Ty.t5 rfl rfl rfl rfl (by decide) (by decide) λeJ a w E I ho=>?_;clear ho;refine RT 1 E I ?_;exact⟨_,rfl,I.Ed rfl rfl Ec⟩
theorem Ee {x:Nat}(I:U W w L) :
   Calls prog 158 #[.int .u32 x] w λe w'=>∃ ad,e=.returned (.slice ad 4 4)∧U W w' (Sl 5 1 ad 4 4 (bc (fc x))::L):=by
 refine EN func158 ntmps158 rfl rfl λa E=>?_;refine RN 5 E I λa E=>?_;rw[show ((x:Nat):Int).fdiv (2 ^ 24)=((x/16777216:Nat):Int) from kS _ 16777216]at E;refine SS E (gj E underlying100 underlying5) λa E=>?_;refine RN 2 E I λa E=>?_;rw[show ((x:Nat):Int).fdiv (2 ^ 16)=((x/65536:Nat):Int) from kS _ 65536]at E;refine SS E (gj E underlying100 underlying5) λa E=>?_;refine RN 2 E I λa E=>?_;rw[show ((x:Nat):Int).fdiv (2 ^ 8)=((x/256:Nat):Int) from kS _ 256]at E;refine SS E (gj E underlying100 underlying5) λa E=>?_;refine RN 1 E I λa E=>?_;refine SS E (gj E underlying100 underlying5) λa E=>?_;refine RN 0 E I λa E=>?_;refine cr E rfl I underlying22 Ty.t5 rfl rfl rfl rfl (by decide) (by decide) λeJ a w E I ho=>?_;clear ho;refine RT 1 E I ?_;exact⟨_,rfl,I.Ed rfl rfl Ec⟩
theorem Xm {x:Int}(I:U W w L) :
   Calls prog 206 #[.int .i32 x] w λe w'=>∃ ad,e=.returned (.slice ad 4 4)∧U W w' (Sl 5 1 ad 4 4 (bc (fc (pA x)))::L):=by
 refine EN func206 ntmps206 rfl rfl λa E=>?_;refine RN 4 E I λa E=>?_;refine SS E (gj E underlying21 underlying100) λa E=>?_;rw[J3]at E;generalize pA x=x at E ⊢;refine RN 4 E I λa E=>?_;rw[show ((x:Nat):Int).fdiv (2 ^ 24)=((x/16777216:Nat):Int) from kS _ 16777216]at E;refine SS E (gj E underlying100 underlying5) λa E=>?_;refine RN 2 E I λa E=>?_;rw[show ((x:Nat):Int).fdiv (2 ^ 16)=((x/65536:Nat):Int) from kS _ 65536]at E;refine SS E (gj E underlying100 underlying5) λa E=>?_;refine RN 2 E I λa E=>?_;rw[show ((x:Nat):Int).fdiv (2 ^ 8)=((x/256:Nat):Int) from kS _ 256]at E;refine SS E (gj E underlying100 underlying5) λa E=>?_;refine RN 1 E I λa E=>?_;refine SS E (gj E underlying100 underlying5) λa E=>?_;refine RN 0 E I λa E=>?_;refine cr E rfl I underlying22 Ty.t5 rfl rfl rfl rfl (by decide) (by decide) λig a w E I ho=>?_;clear ho;refine RT 1 E I ?_;exact⟨_,rfl,I.Ed rfl rfl Ec⟩
end
end
section
def m0:List UInt8→Nat→Nat→Option (Nat×Nat)
 | [],_,_=>none
 | c::cs,i,u =>
  if i=9∧1<c.toNat then none
  else if 127<c.toNat then m0 cs (i+1) (u+c.toNat%128*128 ^ i)
  else if 0<i∧c.toNat=0 then none
  else some (u+c.toNat*128 ^ i,i+1)
def sP (bs:List UInt8):Option (Nat×Nat):=m0 bs 0 0
def m1 (u:Nat):Int:=if u%2=1 then -((u/2:Nat):Int)-1 else ((u/2:Nat):Int)
theorem Ef (n:Int):m1 (zz n)=n:=by
 unfold m1 zz;split <;> split <;> omega
theorem Eg {n:Int}(h1:-9223372036854775808≤n)(h2:n≤9223372036854775807):zz n<18446744073709551616:=by
 unfold zz;split <;> omega
theorem xZ (i:Nat):128 ^ (i+1)=128 ^ i*128:=Nat.pow_succ ..
theorem Xn (r:List UInt8):∀ (v i u:Nat),v*128 ^ i<18446744073709551616→(i=0∨0<v)→i≤9→m0 (aP v++r) i u=some (u+v*128 ^ i,i+(aP v).length):=by
 intro v
 induction v using Nat.strongRecOn with
 | _ v ih =>
  intro i u hv h0 hi;by_cases I:v≤127
  ·rw[qi I];have hb:(UInt8.ofNat v).toNat=v:=by rw[UInt8.toNat_ofNat'];omega
   simp only[cons_append,nil_append,m0,hb,jl];have h9:¬ (i=9∧1<v):=by
    rintro⟨rh,h⟩;rw[rh]at hv;have:v*128 ^ 9 ≥ 2*128 ^ 9:=Nat.mul_le_mul_right _ h;have h9':(128:Nat) ^ 9=9223372036854775808:=by decide
    omega
   rw[ag h9,ag (by omega),ag (by omega)]
  ·rw[vJ I];have hb:(UInt8.ofNat (v%128+128)).toNat=v%128+128:=by rw[UInt8.toNat_ofNat'];omega
   simp only[cons_append,m0,hb,eO];have hle:128 ^ (i+1)≤v*128 ^ i:=by rw[xZ,Nat.mul_comm];exact Nat.mul_le_mul_right _ (by omega)
   have rh:i+1≤9:=by
    rcases Nat.lt_or_ge i 9 with h | h
    ·omega
    ·have:128 ^ 10≤128 ^ (i+1):=Nat.pow_le_pow_right (by decide) (by omega);have eI:(128:Nat) ^ 10=1180591620717411303424:=by decide
     omega
   have hdv:v/128*128 ^ (i+1)+v%128*128 ^ i=v*128 ^ i:=by
    rw[xZ,show v/128*(128 ^ i*128)=128*(v/128)*128 ^ i from by rw[Nat.mul_comm (128 ^ i),← Nat.mul_assoc,Nat.mul_comm (v/128)],← Nat.add_mul,Nat.div_add_mod]
   rw[ag (by omega),ak (by omega),ih (v/128) (by omega) (i+1) _ (by omega) (.inr (by omega)) rh];rw[show (v%128+128)%128=v%128 from by omega]
   congr 2
   ·omega
   ·omega
theorem Ao {n:Int}(h1:-9223372036854775808≤n)(h2:n≤9223372036854775807)(r:List UInt8):sP (aP (zz n)++r)=some (zz n,(aP (zz n)).length):=by
 have:=Xn r (zz n) 0 0 (by have:=Eg h1 h2;omega) (.inl rfl) (by decide);simpa [sP] using this
theorem J7:∀ (bs:List UInt8) (i u:Nat) {v k:Nat},i≤9→u<128 ^ i→m0 bs i u=some (v,k)→v<18446744073709551616∧i+1≤k∧k≤i+bs.length∧k≤10
 | [],_,_,_,_,_,_,h=>by cases h
 | c::cs,i,u,v,k,hi,hu,h=>by
  rw[m0]at h;have hc:=lQ c;have hp:128 ^ i≤128 ^ 9:=Nat.pow_le_pow_right (by decide) hi;have h9:(128:Nat) ^ 9=9223372036854775808:=by decide
  split at h
  ·cases h
  rename_i n9;split at h
  ·rename_i hb;have hm:c.toNat%128*128 ^ i≤127*128 ^ i:=Nat.mul_le_mul_right _ (by omega);have:=J7 cs (i+1) _ (by omega) (by rw[xZ];omega) h;simp only[eO];omega
  ·rename_i hb;split at h
   ·cases h
   ·obtain⟨rfl,rfl⟩:u+c.toNat*128 ^ i=v∧i+1=k:=by simpa using h
    simp only[eO];refine⟨?_,by omega,by omega,by omega⟩;rcases Nat.lt_or_ge i 9 with h8 | h8
    ·have hp8:128 ^ i≤128 ^ 8:=Nat.pow_le_pow_right (by decide) (by omega);have h88:(128:Nat) ^ 8=72057594037927936:=by decide
     have hm:c.toNat*128 ^ i≤127*128 ^ i:=Nat.mul_le_mul_right _ (by omega);omega
    ·have:i=9:=by omega
     subst this;have hm:c.toNat*128 ^ 9≤1*128 ^ 9:=Nat.mul_le_mul_right _ (by omega);omega
theorem Eh {bs:List UInt8}{v k:Nat}(h:sP bs=some (v,k)):v<18446744073709551616∧1≤k∧k≤bs.length∧k≤10:=by
 have:=J7 bs 0 0 (by decide) (by decide) h;omega
def lS (bs:List UInt8)(x:Int)(k:Nat)(er:Int):Prop :=
 (-9223372036854775808≤x∧x≤9223372036854775807)∧(er=0∨er=1∨er=2)∧(er=0→1≤k∧k≤bs.length)∧(er≠0→k=0∧x=0) ∧
 ∀ (n:Int) (r:List UInt8), -9223372036854775808≤n→n≤9223372036854775807→bs=aP (zz n)++r→x=n∧k=(aP (zz n)).length∧er=0
theorem lS.bad {bs:List UInt8}{er:Int}(h:sP bs=none)(he:er=1∨er=2):lS bs 0 0 er:=by
 refine⟨by omega,by omega,by omega,λ_=>⟨rfl,rfl⟩,λn r h1 h2 e=>?_⟩;rw[e,Ao h1 h2]at h;cases h
theorem lS.J8 {bs:List UInt8}{u k:Nat}(h:sP bs=some (u,k)):lS bs (m1 u) k 0:=by
 have hb:=Eh h;refine⟨?_,by omega,by omega,by omega,λn r h1 h2 e=>?_⟩
 ·unfold m1;split <;> omega
 ·rw[e,Ao h1 h2]at h;obtain⟨rfl,rfl⟩:zz n=u∧(aP (zz n)).length=k:=by simpa using h
  exact⟨Ef n,rfl,rfl⟩
def runN (x:UInt8):List UInt8→Nat
 | []=>0
 | y::ys=>if y=x then runN x ys+1 else 0
theorem x4 (x:UInt8):∀ l:List UInt8,runN x l≤l.length
 | []=>a7 _
 | y::ys=>by
  have:=x4 x ys;rw[runN];split <;> simp only[eO] <;> omega
def dv (l:List UInt8)(last:UInt8):List UInt8:=match l with
 | []=>[]
 | x::xs=>aP (zz ((runN x xs+1:Nat):Int))++(x ^^^ last)::dv (xs.drop (runN x xs)) x
termination_by l.length
decreasing_by simp only[c3,eO];omega
theorem vT (last:UInt8):dv [] last=[]:=by rw[dv]
theorem sQ (x:UInt8)(xs:List UInt8)(last:UInt8):dv (x::xs) last=aP (zz ((runN x xs+1:Nat):Int))++(x ^^^ last)::dv (xs.drop (runN x xs)) x:=by rw[dv]
theorem Ap (x:UInt8):∀ l:List UInt8,l.take (runN x l)=List.replicate (runN x l) x
 | []=>rfl
 | y::ys=>by
  rw[runN];split
  ·rename_i h;subst h;rw[take_succ_cons,Ap y ys,List.replicate_succ]
  ·rfl
theorem J9 (x:UInt8):∀ (l:List UInt8) (y:UInt8) (r:List UInt8),l.drop (runN x l)=y::r→y≠x
 | [],_,_,h=>by simp[runN]at h
 | z::zs,y,r,h=>by
  rw[runN]at h;split at h
  ·exact J9 x zs y r h
  ·rename_i hn;rw[drop_zero]at h;cases h;exact hn
theorem Xo {x:UInt8}{l:List UInt8}{n:Nat}(h1:∀ i,i<n→l[i]?=some x)(h2:l[n]?≠some x):runN x l=n:=by
 induction l generalizing n with
 | nil =>
  cases n with
  | zero=>rfl
  | succ n=>have:=h1 0 (by omega);simp at this
 | cons y ys ih =>
  cases n with
  | zero =>
   rw[runN,ag];intro e;subst e;simp at h2
  | succ n =>
   have h0:=h1 0 (by omega);simp at h0;rw[runN,ak h0,ih (n:=n) (λi hi=>by have:=h1 (i+1) (by omega);simpa using this) (by simpa using h2)]
theorem x5 (l:List UInt8):∀ last,(dv l last).length≤11*l.length:=by
 induction hn:l.length using Nat.strongRecOn generalizing l with
 | _ n ih =>
  intro last;cases l with
  | nil=>rw[vT];simp
  | cons x xs =>
   rw[sQ,aL,eO];have h1:=x4 x xs;subst hn;simp only[eO];by_cases hb:xs.length<4611686018427387904
   ·have h2 := qj 9 (zz ((runN x xs + 1 : Nat) : Int)) (by
     have:zz ((runN x xs+1:Nat):Int)=2*(runN x xs+1):=by unfold zz;rw[ag (by omega)];omega
     rw[this];have eI:(128:Nat) ^ (9+1)=1180591620717411303424:=by decide
     omega)
    have h3:=ih (xs.drop (runN x xs)).length (by simp only[c3,eO];omega) (xs.drop (runN x xs)) rfl x;simp only[c3]at h3;omega
   ·have h2 : (aP (zz ((runN x xs + 1 : Nat) : Int))).length ≤ runN x xs + 10 := by
     have:∀ u,(aP (2*(u+1))).length≤u+10:=by
      intro u
      induction u using Nat.strongRecOn with
      | _ u ih =>
       by_cases h:2*(u+1)≤127
       ·rw[qi h];simp
       ·rw[vJ h,eO];by_cases h2:2*(u+1)/128≤127
        ·rw[qi h2];simp
        ·have hq : ∀ v, (aP v).length ≤ v + 1 := by
          intro v
          induction v using Nat.strongRecOn with
          | _ v Xp =>
           by_cases h3:v≤127
           ·rw[qi h3];simp
           ·rw[vJ h3,eO];have:=Xp (v/128) (by omega);omega
         have:=hq (2*(u+1)/128);omega
     have hz:zz ((runN x xs+1:Nat):Int)=2*(runN x xs+1):=by unfold zz;rw[ag (by omega)];omega
     rw[hz];exact this _
    have h3:=ih (xs.drop (runN x xs)).length (by simp only[c3,eO];omega) (xs.drop (runN x xs)) rfl x;simp only[c3]at h3;omega
theorem Aq (a b:UInt8):b ^^^ (a ^^^ b)=a:=by rw[UInt8.xor_comm,UInt8.xor_assoc,UInt8.xor_self,UInt8.xor_zero]
theorem Xq {a b:UInt8}(h:(a ^^^ b).toNat=0):a=b:=by
 have h0:a ^^^ b=0:=UInt8.toNat_inj.1 (by simpa using h);have:=Aq a b;rw[h0,UInt8.xor_zero]at this;exact this.symm
def my (p out:List UInt8)(last:UInt8)(rest:List UInt8):Prop:=∃ q,p=out++q∧rest=dv q last∧(out=[]∨∀ y r,q=y::r→y≠last)
theorem my.start (p:List UInt8):my p [] 0 (dv p 0):=⟨p,rfl,rfl,.inl rfl⟩
theorem my.done {p out:List UInt8}{last:UInt8}(h:my p out last []):p=out:=by
 obtain⟨q,h1,h2,_⟩:=h;cases q with
 | nil=>simpa using h1
 | cons x xs =>
  rw[sQ]at h2;have:=congrArg List.length h2;simp at this
theorem my.next {p out:List UInt8}{last:UInt8}{rest:List UInt8}(h:my p out last rest)(h0:rest≠[]):∃ (m:Nat) (x:UInt8) (r:List UInt8),rest=aP (zz ((m+1:Nat):Int))++(x ^^^ last)::r ∧
   out.length+(m+1)≤p.length∧(out≠[]→(x ^^^ last).toNat≠0)∧my p (out++List.replicate (m+1) x) x r:=by
 obtain⟨q,h1,h2,h3⟩:=h;cases q with
 | nil=>rw[vT]at h2;exact absurd h2 h0
 | cons x xs =>
  rw[sQ]at h2;have hle:=x4 x xs;refine⟨runN x xs,x,_,h2,by rw[h1];simp;omega,λho hz=>?_,xs.drop (runN x xs),?_,rfl,.inr λy r hy=>J9 x xs y r hy⟩
  ·rcases h3 with h3 | h3
   ·exact ho h3
   ·exact h3 x xs rfl (Xq hz)
  ·rw[h1,ds]
   congr 1
   rw[List.replicate_succ,← Ap,cons_append,jK]
structure Pk where
 kind:Int
 aW:Int
 to:Int
 id:Int
 first:Int
 c7:Int
 frame:Int
 sum:Nat
 al:List UInt8
def m2:Pk:=⟨0,0,0,0,0,0,0,0,[]⟩
def eG (n:Int):Prop:=0≤n∧n≤1000
instance (n:Int):Decidable (eG n):=inferInstanceAs (Decidable (_∧_))
def hL (p:Pk):Prop:=(0≤p.aW∧p.aW≤7)∧(0≤p.to∧p.to≤7)∧p.aW≠p.to∧(0≤p.id∧p.id≤1099511627776) ∧
 ((p.kind=1∧eG p.first∧eG p.c7∧eG p.frame∧p.al.length≤32)∨(p.kind=2∧p.first=0∧p.c7=0∧p.frame=0∧p.al.length=0∧p.sum=0))
instance (p:Pk):Decidable (hL p):=inferInstanceAs (Decidable (_∧_))
def lT (p:Pk):List UInt8:=fc p.sum++(aP (zz (p.al.length:Int))++dv p.al 0)
def m3 (p:Pk):List UInt8:=if p.kind=1 then aP (zz p.first)++(aP (zz p.c7)++(aP (zz p.frame)++lT p)) else []
def kW (p:Pk):List UInt8:=aP (zz p.id)++m3 p
def lq (p:Pk):List UInt8:=[UInt8.ofNat p.kind.toNat,UInt8.ofNat p.aW.toNat,UInt8.ofNat p.to.toNat]
def ij (p:Pk):List UInt8:=lq p++kW p
def pB (p:Pk):List UInt8:=ij p++fc (jk (ij p))
def aR (p:Pk):List UInt8:=if hL p then pB p else []
theorem mz (x:Nat):(fc x).length=4:=rfl
theorem x6 (p:Pk):(pB p).length=(kW p).length+7:=by
 simp[pB,ij,lq,mz]
theorem Ei {p:Pk}{bs:List UInt8}(h:pB p=bs):(bs.drop 3).take (bs.length-7)=kW p:=by
 subst h;rw[x6,Nat.add_sub_cancel,pB];generalize jk (ij p)=c;rw[ij,ds,List.drop_left' (by rfl),List.take_left' rfl]
theorem Ej {p:Pk}{bs:List UInt8}(h:pB p=bs):bs[0]?=some (UInt8.ofNat p.kind.toNat)∧bs[1]?=some (UInt8.ofNat p.aW.toNat)∧bs[2]?=some (UInt8.ofNat p.to.toNat):=by
 subst h;exact⟨rfl,rfl,rfl⟩
def Ek (a b c d:Nat):Nat:=((a*256+b)*256+c)*256+d
theorem El {x:Nat}(h:x<4294967296):Ek (UInt8.ofNat (x/16777216)).toNat (UInt8.ofNat (x/65536)).toNat (UInt8.ofNat (x/256)).toNat (UInt8.ofNat x).toNat=x:=by
 simp only[UInt8.toNat_ofNat',Ek];omega
theorem Xr {x y:Nat}(hx:x<4294967296)(hy:y<4294967296)(h:fc x=fc y):x=y:=by
 simp only[fc,List.cons.injEq,and_true]at h;obtain⟨h1,h2,h3,h4⟩:=h;have:=El hx;rw[h1,h2,h3,h4,El hy]at this;exact this.symm
theorem vU {n m:Int}{r s:List UInt8}(h1:-9223372036854775808≤n)(h2:n≤9223372036854775807)(h3:-9223372036854775808≤m)(h4:m≤9223372036854775807)(h:aP (zz n)++r=aP (zz m)++s):n=m∧r=s:=by
 have e:=Ao h1 h2 r;rw[h,Ao h3 h4]at e;obtain⟨e1,e2⟩:zz m=zz n∧_:=by simpa using e
 have:n=m:=by rw[← Ef n,← Ef m,e1]
 subst this;exact⟨rfl,List.append_cancel_left h⟩
theorem Ka:∀ (n:Nat) {p q:List UInt8} {l:UInt8},p.length≤n→p.length≤1000000→q.length≤1000000→dv p l=dv q l→p=q
 | n,[],[],_,_,_,_,_=>rfl
 | n,[],y::ys,l,_,_,_,h=>by
  rw[vT,sQ]at h;have:=congrArg List.length h;simp at this
 | n,x::xs,[],l,_,_,_,h=>by
  rw[vT,sQ]at h;have:=congrArg List.length h;simp at this
 | 0,x::xs,y::ys,l,hn,_,_,_=>by simp at hn
 | n+1,x::xs,y::ys,l,hn,hp,hq,h=>by
  have h1:=x4 x xs;have h2:=x4 y ys;simp only[eO]at hn hp hq;rw[sQ,sQ]at h;obtain⟨e1,e2⟩:=vU (by omega) (by omega) (by omega) (by omega) h;rw[List.cons.injEq]at e2;obtain⟨e2,e3⟩:=e2;have Xs:x=y:=by
   have:=Aq x l;rw[e2,Aq]at this;exact this.symm
  subst Xs;have iX:runN x xs=runN x ys:=by omega
  have sK:=Ka n (by simp;omega) (by simp;omega) (by simp;omega) e3
  congr 1
  rw[← jK (runN x xs) xs,Ap,sK,iX,← Ap,jK]
theorem Em {a b:Int}(E:0≤a∧a<256)(hb:0≤b∧b<256)(h:UInt8.ofNat a.toNat=UInt8.ofNat b.toNat):a=b:=by
 have:=congrArg UInt8.toNat h;simp only[UInt8.toNat_ofNat']at this;omega
theorem Xt {p q:Pk}(hp:hL p)(hq:hL q)(En:p.sum<4294967296)(Xu:q.sum<4294967296)(h:pB p=pB q):p=q:=by
 have hm:kW p=kW q:=by rw[← Ei (p:=p) rfl,← Ei (p:=q) rfl,h]
 have h0:=Ej (p:=p) rfl;have h1:=Ej (p:=q) rfl;rw[h]at h0;obtain⟨de,dG,a3⟩:=h0;obtain⟨b1,b2,b3⟩:=h1;rw[b1]at de;rw[b2]at dG;rw[b3]at a3;obtain⟨f1,t1,vV,i1,k1⟩:=hp;obtain⟨f2,t2,sH,i2,k2⟩:=hq;have Xv:=Em (by omega) (by omega) (Option.some.inj de);have Xw:=Em (by omega) (by omega) (Option.some.inj dG);have sk:=Em (by omega) (by omega) (Option.some.inj a3);rw[kW,kW]at hm;obtain⟨Xx,hm⟩:=vU (by omega) (by omega) (by omega) (by omega) hm;obtain⟨pk,aeX,pt,pi,Xy,p2,aeY,aeZ,ae0⟩:=p;obtain⟨ae1,ae2,ae3,ae4,q1,q2,Eo,Ep,Kb⟩:=q;simp only at *;subst Xv Xw sk Xx;rcases k1 with ⟨dL,c2,dC,hG,dD⟩ | ⟨dL,c2,dC,hG,dD,oa⟩
 ·rcases k2 with ⟨d1,d2,d3,d4,d5⟩ | ⟨d1,_⟩
  ·unfold eG at c2 dC hG d2 d3 d4;rw[m3,m3,ak dL,ak d1]at hm;simp only at hm;obtain⟨e1,hm⟩:=vU (by omega) (by omega) (by omega) (by omega) hm;obtain⟨e2,hm⟩:=vU (by omega) (by omega) (by omega) (by omega) hm;obtain⟨e3,hm⟩:=vU (by omega) (by omega) (by omega) (by omega) hm;rw[lT,lT]at hm;simp only at hm;obtain⟨iX,hm⟩:=List.append_inj hm rfl;obtain⟨sK,hm⟩:=vU (by omega) (by omega) (by omega) (by omega) hm;have Xz:=Ka _ (a7 _) (by omega) (by omega) hm;have XA:=Xr En Xu iX;subst e1 e2 e3 Xz XA;rfl
  ·omega
 ·rcases k2 with ⟨d1,_⟩ | ⟨d1,d2,d3,d4,d5,d6⟩
  ·omega
  ·have:=gW dD;have:=gW d5;subst c2 dC hG oa d2 d3 d4 d6;simp_all
def g3 (bs:List UInt8)(p:Pk):Prop:=hL p∧p.sum<4294967296∧pB p=bs
open Classical in
noncomputable def eu (bs:List UInt8):Option Pk:=if h:∃ p,g3 bs p then some (Classical.choose h) else none
theorem Ar {bs:List UInt8}{p:Pk}(h:g3 bs p):eu bs=some p:=by
 have hx:∃ p,g3 bs p:=⟨p,h⟩;rw[eu,dif_pos hx];have h2:=Classical.choose_spec hx;rw[Xt h2.1 h.1 h2.2.1 h.2.1 (h2.2.2.trans h.2.2.symm)]
theorem Er {bs:List UInt8}(h:∀ p,¬ g3 bs p):eu bs=none:=by
 rw[eu,dif_neg];exact λ⟨p,hp⟩=>h p hp
theorem Es {bs:List UInt8}{p:Pk}(h:eu bs=some p):g3 bs p:=by
 rw[eu]at h;split at h
 ·rename_i hx;cases h;exact Classical.choose_spec hx
 ·cases h
theorem Kc {p:Pk}(h:hL p)(I:p.sum<4294967296):eu (aR p)=some p:=by
 rw[aR,ak h];exact Ar ⟨h,I,rfl⟩
theorem Et {bs:List UInt8}{p:Pk}(h0:bs≠[])(I:p.sum<4294967296):g3 bs p↔aR p=bs:=by
 unfold g3 aR;split
 ·rename_i h;simp[h,I]
 ·rename_i h;simp[h,h0,Ne.symm h0]
theorem Kd {p:Pk}(h:hL p):(kW p).length≤500:=by
 obtain⟨_,_,_,i1,k1⟩:=h;have pl:∀ n:Int,0≤n→n≤1099511627776→(aP (zz n)).length≤10:=λn h0 h1=>qj 9 _ (by
  have:zz n<18446744073709551616:=Eg (by omega) (by omega);have eI:(128:Nat) ^ (9+1)=1180591620717411303424:=by decide
  omega)
 rw[kW,aL];have:=pl p.id i1.1 i1.2;rcases k1 with ⟨dL,c2,dC,hG,dD⟩ | ⟨dL,_⟩
 ·unfold eG at c2 dC hG;rw[m3,ak dL,lT];simp only[aL,mz];have h1:=pl p.first (by omega) (by omega);have h2:=pl p.c7 (by omega) (by omega);have h3:=pl p.frame (by omega) (by omega);have h4:=pl p.al.length (by omega) (by omega);have h5:=x5 p.al 0;omega
 ·rw[m3,ag (by omega)];simp;omega
end
end Go.Proofs.YteoldcfapaiobaaGreat
