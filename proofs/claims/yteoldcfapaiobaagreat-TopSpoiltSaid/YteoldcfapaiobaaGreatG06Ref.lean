/- The references' runes, titles, programs: the walks. -/
import Derived.Test.YteoldcfapaiobaaGreatG05Vm
import Derived.Test.YteoldcfapaiobaaGreatG04Job
import Derived.Test.YteoldcfapaiobaaGreatG01Row
import Derived.ProofKit
import Derived.Deep.Slices
import Derived.Deep.Strs
import Derived.ChangeSlices
import Derived.ChangeShapes
import Derived.DataShut
import Derived.Test.YteoldcfapaiobaaGreatG03Snap2
import Derived.Laws.StructEq
import Derived.ChangeKeysEq
import Derived.ChangeSame
namespace Go.Proofs.YteoldcfapaiobaaGreat
open Tryz
open List (all_eq_true drop_zero take_succ_cons nil_append map_cons cons_append eraseIdx_set_eq append_nil ext_getElem? map_take range_succ foldl_append)
open Go.RowKit
set_option linter.unusedVariables false
set_option linter.unusedSimpArgs false
set_option maxRecDepth 10000
set_option synthInstance.maxSize 4000
set_option synthInstance.maxHeartbeats 400000
section
section
variable {W w:World}{L:List SP}{s:ByteArray}{p:Pr}{aq:Option Addr}{cO:Nat}
theorem XK (s:ByteArray):s.extract 0 s.size=s:=by simp
theorem XL {s:ByteArray}(h:0<s.size):(s.data.toList==(⟨#[]⟩:ByteArray).data.toList)=false:=by
 rw[mc];intro e;have h2:=dd List.length e;have h3:s.data.toList.length=s.size:=Array.length_toList;rw[h3]at h2;have h4:(⟨#[]⟩:ByteArray).data.toList.length=0:=rfl;omega
theorem Ba {s:ByteArray}{j:Nat}(h:j<s.size):(s[j]'h).toNat=ki s j:=by rw[ki,ER h]
theorem XM (I:U W w L)(h0:0<s.size):Calls prog 187 #[.string s] w λe w'=>e=.returned (.tuple #[.int .i32 (Utf8.decode s 0).1,.int .i64 (Utf8.decode s 0).2])∧U W w' L:=by
 obtain⟨b,hb⟩:∃ b,ki s 0=b:=⟨_,rfl⟩;have pF:=EU s 0;rw[hb]at pF;refine EN func187 ntmps187 rfl rfl λa E=>?_;refine RN 6 E I λa E=>?_;refine SS E (sW E) λa E=>?_;rw[XL h0]at E;refine RN 0 E I λa E=>?_;replace E:=E.aP 10;refine RN 3 E I λa E=>?_;refine SS E (An E underlying9 (by omega)) λa E=>?_;rw[Ba h0,hb]at E;refine RN 5 E I λa E=>?_;refine cc (M:=λa w=>∃ n low r:Nat,ET b n low r∧Fr a 92 [(0,.string s),(5,.int .i64 n),(6,.int .i32 low),(7,.int .i32 r)]∧U W w L) ?_ ?_
 ·
  refine IF 4 E I (λao a E=>?_) λao a E=>?_
  ·
   refine SX 2 E I (iw (by omega) (by omega)) λa E=>?_;refine RT 2 E I ?_;exact⟨by rw[XH hb (by omega)];rfl,I⟩
  refine BY 4 E I (λbA a E=>?_) λbA a E=>?_
  ·
   refine IF 4 E I (λay a E=>?_) λay a E=>?_
   ·
    refine SX 1 E I (iw (by omega) (by omega)) λa E=>?_;refine RN 1 E I λa E=>?_;obtain⟨r,hr⟩:∃ r,b=192+r:=⟨b-192,by omega⟩;rw[show IntKind.i32.wrap ((b:Int)-192)=(r:Nat) from by rw[iw (by omega) (by omega)];omega]at E;refine RN 3 E I λa E=>?_;exact⟨2,128,r,.inl ⟨hr,by omega,rfl,rfl⟩,E.ab [0,5,6,7],I⟩
   refine BY 4 E I (λbA a E=>?_) λbA a E=>?_
   ·
    refine IF 4 E I (λbk a E=>?_) λbk a E=>?_
    ·
     refine SX 1 E I (iw (by omega) (by omega)) λa E=>?_;refine RN 1 E I λa E=>?_;obtain⟨r,hr⟩:∃ r,b=224+r:=⟨b-224,by omega⟩;rw[show IntKind.i32.wrap ((b:Int)-224)=(r:Nat) from by rw[iw (by omega) (by omega)];omega]at E;refine RN 3 E I λa E=>?_;exact⟨3,2048,r,.inr (.inl ⟨hr,by omega,rfl,rfl⟩),E.ab [0,5,6,7],I⟩
    refine BY 4 E I (λbA a E=>?_) λbA a E=>?_
    ·
     refine IF 4 E I (λbN a E=>?_) λbN a E=>?_
     ·
      refine SX 1 E I (iw (by omega) (by omega)) λa E=>?_;refine RN 1 E I λa E=>?_;obtain⟨r,hr⟩:∃ r,b=240+r:=⟨b-240,by omega⟩;rw[show IntKind.i32.wrap ((b:Int)-240)=(r:Nat) from by rw[iw (by omega) (by omega)];omega]at E;refine RN 3 E I λa E=>?_;exact⟨4,65536,r,.inr (.inr ⟨hr,by omega,rfl,rfl⟩),E.ab [0,5,6,7],I⟩
     refine RT 3 E I ?_;exact⟨by rw[tw hb (by omega) (by omega)];rfl,I⟩
    refine RT 8 E I ?_;exact⟨by rw[tw hb (by omega) (by omega)];rfl,I⟩
   refine BY 9 E I (λbA a E=>?_) λbA a E=>?_
   ·
    refine IF 4 E I (λbN a E=>?_) λbN a E=>?_
    ·
     refine SX 1 E I (iw (by omega) (by omega)) λa E=>?_;refine RN 1 E I λa E=>?_;obtain⟨r,hr⟩:∃ r,b=240+r:=⟨b-240,by omega⟩;rw[show IntKind.i32.wrap ((b:Int)-240)=(r:Nat) from by rw[iw (by omega) (by omega)];omega]at E;refine RN 3 E I λa E=>?_;exact⟨4,65536,r,.inr (.inr ⟨hr,by omega,rfl,rfl⟩),E.ab [0,5,6,7],I⟩
    refine RT 3 E I ?_;exact⟨by rw[tw hb (by omega) (by omega)];rfl,I⟩
   refine RT 8 E I ?_;exact⟨by rw[tw hb (by omega) (by omega)];rfl,I⟩
  refine BY 9 E I (λbA a E=>?_) λbA a E=>?_
  ·
   refine IF 4 E I (λbk a E=>?_) λbk a E=>?_
   ·
    refine SX 1 E I (iw (by omega) (by omega)) λa E=>?_;refine RN 1 E I λa E=>?_;obtain⟨r,hr⟩:∃ r,b=224+r:=⟨b-224,by omega⟩;rw[show IntKind.i32.wrap ((b:Int)-224)=(r:Nat) from by rw[iw (by omega) (by omega)];omega]at E;refine RN 3 E I λa E=>?_;exact⟨3,2048,r,.inr (.inl ⟨hr,by omega,rfl,rfl⟩),E.ab [0,5,6,7],I⟩
   refine BY 4 E I (λbA a E=>?_) λbA a E=>?_
   ·
    refine IF 4 E I (λbN a E=>?_) λbN a E=>?_
    ·
     refine SX 1 E I (iw (by omega) (by omega)) λa E=>?_;refine RN 1 E I λa E=>?_;obtain⟨r,hr⟩:∃ r,b=240+r:=⟨b-240,by omega⟩;rw[show IntKind.i32.wrap ((b:Int)-240)=(r:Nat) from by rw[iw (by omega) (by omega)];omega]at E;refine RN 3 E I λa E=>?_;exact⟨4,65536,r,.inr (.inr ⟨hr,by omega,rfl,rfl⟩),E.ab [0,5,6,7],I⟩
    refine RT 3 E I ?_;exact⟨by rw[tw hb (by omega) (by omega)];rfl,I⟩
   refine RT 8 E I ?_;exact⟨by rw[tw hb (by omega) (by omega)];rfl,I⟩
  refine BY 9 E I (λbA a E=>?_) λbA a E=>?_
  ·
   refine IF 4 E I (λbN a E=>?_) λbN a E=>?_
   ·
    refine SX 1 E I (iw (by omega) (by omega)) λa E=>?_;refine RN 1 E I λa E=>?_;obtain⟨r,hr⟩:∃ r,b=240+r:=⟨b-240,by omega⟩;rw[show IntKind.i32.wrap ((b:Int)-240)=(r:Nat) from by rw[iw (by omega) (by omega)];omega]at E;refine RN 3 E I λa E=>?_;exact⟨4,65536,r,.inr (.inr ⟨hr,by omega,rfl,rfl⟩),E.ab [0,5,6,7],I⟩
   refine RT 3 E I ?_;exact⟨by rw[tw hb (by omega) (by omega)];rfl,I⟩
  refine RT 8 E I ?_;exact⟨by rw[tw hb (by omega) (by omega)];rfl,I⟩
 clear E;(try clear I);rintro a w ⟨n,low,r,hd,E,I⟩;refine RN 2 E I λa E=>?_;have pZ:2≤n∧n≤4∧r<32:=by rcases hd with h | h | h <;> omega
 refine IF 4 E I (λeN a E=>?_) λeN a E=>?_
 ·
  refine RT 3 E I ?_;exact⟨by rw[EW hb hd (.inl (by omega))];rfl,I⟩
 refine RN 3 E I λa E=>?_;refine aN (λμ a w=>∃ (j:Nat),(μ=n-j∧j+1≤n∧∀ k,1≤k→k<j+1→ki s k/64=2)∧Fr a 92 [(0,.string s),(5,.int .i64 n),(6,.int .i32 low),(7,.int .i32 (gl s r j:Nat)),(8,.int .i64 ((j+1:Nat):Int))]∧U W w L) (n) (⟨0,⟨by simp,by omega,λk h1 h2=>by omega⟩,E.ab [0,5,6,7,8],I⟩) ?_;clear E I;rintro μ a w ⟨j,⟨rfl,hj,ik⟩,E,I⟩;refine IF 5 E I (λmi a E=>?_) λmi a E=>?_
 ·
  refine RN 3 E I λa E=>?_;have tz:j+1<s.size:=by omega
  have hbj:=EU s (j+1);refine RN 2 E I λa E=>?_;refine SS E (An E underlying9 (by omega)) λa E=>?_;rw[Ba tz]at E;refine BY 2 E I (λdE a E=>?_) λdE a E=>?_
  ·
   refine RT 9 E I ?_;exact⟨by rw[EW hb hd (.inr ⟨j+1,by omega,by omega,by omega⟩)];rfl,I⟩
  refine RN 2 E I λa E=>?_;refine bw E (cw E rfl (s:=61)) (An E underlying9 (by omega)) rfl λa E=>?_;rw[Ba tz]at E;refine IF 2 E I (λmU a E=>?_) λmU a E=>?_
  ·
   refine RT 3 E I ?_;exact⟨by rw[EW hb hd (.inr ⟨j+1,by omega,by omega,by omega⟩)];rfl,I⟩
  refine RN 0 E I λa E=>?_;have cn:=EV (s:=s) pZ.2.2 j;have qV:(64:Nat) ^ j≤64 ^ 2:=Nat.pow_le_pow_right (by omega) (by omega);refine RN 2 E I λa E=>?_;rw[iw (by omega) (by omega)]at E;refine RN 2 E I λa E=>?_;refine SS E (An E underlying9 (by omega)) λa E=>?_;rw[Ba tz]at E;refine SX 0 E I (iw (by omega) (by omega)) λa E=>?_;refine RN 1 E I λa E=>?_;rw[iw (by omega) (by omega)]at E;refine RN 1 E I λa E=>?_;rw[show IntKind.i32.wrap ((gl s r j:Nat)*64+(ki s (j+1):Nat)-128:Int)=(gl s r (j+1):Nat) from by rw[iw (by omega) (by omega),gl];omega]at E;refine RN 4 E I λa E=>?_;refine⟨n-(j+1),by omega,j+1,⟨rfl,by omega,λk h1 h2=>?_⟩,E.ab [0,5,6,7,8],I⟩;rcases gR k (j+1) with h3 | h3
  ·exact ik k h1 h3
  ·obtain rfl:k=j+1:=by omega
   omega
 refine RN 2 E I λa E=>?_;obtain rfl:n=j+1:=by omega
 have pS:=XI hb hd (by omega) ik;simp only[A7,yM]at pS;refine BY 4 E I (λbX a E=>?_) λbX a E=>?_
 ·
  refine RT 15 E I ?_;exact⟨by rw[pS.1 (by omega)];rfl,I⟩
 refine BY 4 E I (λjU a E=>?_) λjU a E=>?_
 ·
  refine RT 11 E I ?_;exact⟨by rw[pS.1 (by omega)];rfl,I⟩
 refine BY 3 E I (λmg a E=>?_) λmg a E=>?_
 ·
  refine IF 4 E I (λlS a E=>?_) λlS a E=>?_
  ·
   refine RT 3 E I ?_;exact⟨by rw[pS.1 (by omega)];rfl,I⟩
  refine RT 5 E I ?_;exact⟨by rw[pS.2 (by omega)],I⟩
 refine RT 10 E I ?_;exact⟨by rw[pS.2 (by omega)],I⟩
def RI (l:List (Nat×Nat)):List Value:=l.map λx=>.int .i32 x.1
theorem KQ (I:U W w L)(aH:s.size≤1000000000):Calls prog 148 #[.string s] w λe w'=>∃ ad c,e=.returned (.tuple #[.slice ad (eg s 0).length c,.bool ((eg s 0).all mQ)]) ∧
   U W w' (Sl 21 1 ad (eg s 0).length c (RI (eg s 0))::L):=by
 refine EN func148 ntmps148 rfl rfl λa E=>?_;refine RN 6 E I λa E=>?_;replace I:=I.bM 21 1 none;refine RN 2 E I λa E=>?_;refine aN (λμ a w=>∃ (pos:Nat) (dn:List (Nat×Nat)) (ad:Option Addr) (c:Nat),(μ=s.size-pos∧pos≤s.size∧dn.length≤pos∧eg s 0=dn++eg s pos)∧Fr a 34 [(0,.string (s.extract pos s.size)),(4,.slice ad dn.length c),(5,.bool (dn.all mQ))]∧U W w (Sl 21 1 ad dn.length c (RI dn)::L)) (s.size) (⟨0,[],none,0,⟨by simp,by omega,by simp,rfl⟩,by rw[XK];exact E.ab [0,4,5],I⟩) ?_;clear E I;rintro μ a w ⟨pos,dn,ad,c,⟨rfl,hp,mT,db⟩,E,I⟩;refine RN 4 E I λa E=>?_;rw[rX]at E;refine IF 1 E I (λaj a E=>?_) λaj a E=>?_
 ·
  have fL:pos<s.size:=by omega
  have np:=rQ fL;have hdp:=uR s pos;have hdi:=Kb s pos fL;have EX:ec s pos=pos+(Utf8.decode s pos).2:=by rw[ec,ak fL]
  refine CL 2 E I (XM I (by rw[rX];omega)) λa w E I=>?_;rw[XG]at E;refine RN 8 E I λa E=>?_;refine cp E rfl I underlying270 Ty.t21 rfl rfl rfl rfl (by decide) (by decide) λtA a w E I ho=>?_;clear ho;refine RN 0 E I λa E=>?_;refine cQ E rfl I underlying270 Ty.t21 rfl rfl I.ai rfl (by simp[Value.oneCell']) (by decide) (by decide) (by omega) λBb Bd a w E I=>?_;refine RN 1 E I λa E=>?_;have p0:U W w (Sl 21 1 Bb (dn++[Utf8.decode s pos]).length Bd (RI (dn++[Utf8.decode s pos]))::L):=by
   have e1:(dn++[Utf8.decode s pos]).length=dn.length+1:=by simp
   have e2:RI (dn++[Utf8.decode s pos])=RI dn++[.int .i32 (Utf8.decode s pos).1]:=by simp[RI]
   rw[e1,e2];change U W w (Sl 21 1 Bb (dn.length+1) Bd (RI dn++[.int .i32 (Utf8.decode s pos).1])::_) at I;exact I.sub
  replace I:=p0;clear p0;refine RN 1 E I λa E=>?_;have qW:(dn++[Utf8.decode s pos]).all mQ=(dn.all mQ&&A8 (Utf8.decode s pos)):=by rw[XJ];simp
  simp only[A8]at qW;refine BY 2 E I (λnr a E=>?_) λnr a E=>?_
  ·
   refine BY 3 E I (λdE a E=>?_) λdE a E=>?_
   ·
    refine RN 5 E I λa E=>?_;rw[nr,ak (by omega)]at qW;refine RN 2 E I λa E=>?_;refine SS E (DG E underlying9 (by rw[rX];omega)) λa E=>?_;rw[ES,← EX]at E;refine RN 1 E I λa E=>?_;have yN:(dn++[Utf8.decode s pos]).length=dn.length+1:=by simp
    refine⟨s.size-ec s pos,by omega,ec s pos,dn++[Utf8.decode s pos],_,_,⟨rfl,by omega,by omega,by rw[db,np,dx];rfl⟩,?_,I⟩;rw[yN,qW];exact E.ab [0,4,5]
   refine RN 5 E I λa E=>?_;rw[nr,ag (by omega),Bool.true_and,show decide ((Utf8.decode s pos).2=3)=decide (((Utf8.decode s pos).2:Int)=3) from decide_eq_decide.2 (by omega)]at qW;refine RN 2 E I λa E=>?_;refine SS E (DG E underlying9 (by rw[rX];omega)) λa E=>?_;rw[ES,← EX]at E;refine RN 1 E I λa E=>?_;have yN:(dn++[Utf8.decode s pos]).length=dn.length+1:=by simp
   refine⟨s.size-ec s pos,by omega,ec s pos,dn++[Utf8.decode s pos],_,_,⟨rfl,by omega,by omega,by rw[db,np,dx];rfl⟩,?_,I⟩;rw[yN,qW];exact E.ab [0,4,5]
  refine RN 8 E I λa E=>?_;rw[nr,Bool.false_and]at qW;refine RN 2 E I λa E=>?_;refine SS E (DG E underlying9 (by rw[rX];omega)) λa E=>?_;rw[ES,← EX]at E;refine RN 1 E I λa E=>?_;have yN:(dn++[Utf8.decode s pos]).length=dn.length+1:=by simp
  refine⟨s.size-ec s pos,by omega,ec s pos,dn++[Utf8.decode s pos],_,_,⟨rfl,by omega,by omega,by rw[db,np,dx];rfl⟩,?_,I⟩;rw[yN,qW];exact E.ab [0,4,5]
 refine RT 5 E I ?_;obtain rfl:pos=s.size:=by omega
 have mm:=rR (s:=s) (pos:=s.size) (by omega);rw[mm,append_nil]at db;rw[db];exact⟨_,_,rfl,I.sub⟩
theorem KR {l:List (Nat×Nat)}{i:Nat}{x:Nat×Nat}(h:l[i]?=some x):(RI l)[i]?=some (.int .i32 x.1):=by rw[RI,bl,h];rfl
theorem XN (I:U W w L)(aH:s.size≤1000000000):Calls prog 107 #[.string s] w λe w'=>e=.returned (.bool (pT s))∧U W w' L:=by
 have jE:pT s=(decide (1≤(eg s 0).length)&&decide ((eg s 0).length≤20)&&(eg s 0).all kN&&(eg s 0).all mQ):=rfl;have gv:=V6 s s.size 0 (by omega);refine EN func107 ntmps107 rfl rfl λa E=>?_;refine aZ 4 E I (KQ I aH) λad c a w E I=>?_;generalize (eg s 0)=l at E I jE gv;refine BY 10 E I (λbA a E=>?_) λbA a E=>?_
 ·
  refine RT 12 E I ?_;exact⟨by rw[jE,bA,Bool.and_false],I.sub⟩
 refine BY 5 E I (λjU a E=>?_) λjU a E=>?_
 ·
  refine RT 7 E I ?_;exact⟨by rw[jE,bo (by omega)];simp,I.sub⟩
 refine IF 4 E I (λaj a E=>?_) λaj a E=>?_
 ·
  refine RT 2 E I ?_;exact⟨by rw[jE,bo (p:=l.length≤20) (by omega)];simp,I.sub⟩
 refine RN 3 E I λa E=>?_;refine aN (λμ a w=>∃ i:Nat,(μ=l.length-i∧i≤l.length∧∀ j x,j<i→l[j]?=some x→kN x=true)∧Fr a 41 [(3,.slice ad l.length c),(5,.int .i64 i)]∧U W w (Sl 21 1 ad l.length c (RI l)::L)) (l.length) (⟨0,⟨by simp,by simp,λj x h=>absurd h (by omega)⟩,E.ab [3,5],I⟩) ?_;clear E I;rintro μ a w ⟨i,⟨rfl,hi,cD⟩,E,I⟩;refine IF 6 E I (λao a E=>?_) λao a E=>?_
 ·
  obtain⟨b,o,rfl,c9⟩:=I.bU ad (by omega);obtain⟨x,hx⟩:∃ x,l[i]?=some x:=⟨_,aD (by omega)⟩;have mL:=c9 i _ (KR hx);refine RN 5 E I λa E=>?_;refine SS E (ae E (mL)) λa E=>?_;refine BY 2 E I (λjj a E=>?_) λjj a E=>?_
  ·
   refine RT 9 E I ?_;refine⟨?_,I.sub⟩;have p1:kN x=false:=by
    simp only[kN,Bool.and_eq_false_iff,rU];omega
   have ik:l.all kN=false:=by rw[List.all_eq_false];exact⟨x,bF hx,by rw[p1];decide⟩
   rw[jE,ik];simp
  refine RN 3 E I λa E=>?_;refine bw E (cw E rfl (s:=34)) (ae E (mL)) rfl λa E=>?_;refine IF 2 E I (λay a E=>?_) λay a E=>?_
  ·
   refine RT 2 E I ?_;refine⟨?_,I.sub⟩;have p1:kN x=false:=by
    simp only[kN,Bool.and_eq_false_iff,rU];omega
   have ik:l.all kN=false:=by rw[List.all_eq_false];exact⟨x,bF hx,by rw[p1];decide⟩
   rw[jE,ik];simp
  refine RN 3 E I λa E=>?_;refine⟨l.length-(i+1),by omega,i+1,⟨rfl,by omega,λj y hj hy=>?_⟩,E.ab [3,5],I.sub⟩;rcases gR j i with h | h
  ·exact cD j y h hy
  ·obtain rfl:j=i:=by omega
   rw[hx]at hy;cases hy;simp only[kN,fq,oB];omega
 refine RT 2 E I ?_;refine⟨?_,I.sub⟩;have ik:l.all kN=true:=by
  rw[all_eq_true];intro x hx;obtain⟨j,hj⟩:=j7.1 hx;exact cD j x (by have:=(aY.1 hj).1;omega) hj
 rw[jE,ik,bA,dk (p:=1≤l.length) (by omega),dk (p:=l.length≤20) (by omega)];rfl
theorem Be {x:Int}(I:U W w L):Calls prog 108 #[.int .i64 x] w λe w'=>∃ r:Bool,e=.returned (.bool r)∧(r=true↔ds x)∧U W w' L:=by
 simp only[ds];refine EN func108 ntmps108 rfl rfl λa E=>?_;refine BY 6 E I (λbA a E=>?_) λbA a E=>?_
 ·
  refine RT 4 E I ?_;exact⟨_,rfl,by rw[cr];omega,I⟩
 refine RT 4 E I ?_;exact⟨_,rfl,⟨λh=>(by cases h),λh=>by omega⟩,I⟩
theorem XO {p:Pr}(I:U W w (aA W p aq cO::L))(aH:p.title.size≤1000000000)(ea:p.ops.length≤1000000000) :
   Calls prog 68 #[.agg (bO p aq cO).toArray] w λe w'=>∃ r:Bool,e=.returned (.bool r)∧(r=true↔wH p)∧U W w' (aA W p aq cO::L):=by
 refine EN func68 ntmps68 rfl rfl λa E=>?_;refine BX 1 E I λb1 a w E I=>?_;change U W w (aa b1 45 (bO p aq cO)::_) at I;refine CL 5 E I (XN I aH) λa w E I=>?_;refine BY 2 E I (λdE a E=>?_) λdE a E=>?_
 ·
  refine RT 14 E I ?_;exact⟨false,rfl,⟨λh=>(by cases h),λh=>by rw[h.1]at dE;cases dE⟩,I.sub⟩
 have XP:pT p.title=true:=by simpa using dE
 refine BY 6 E I (λmg a E=>?_) λmg a E=>?_
 ·
  refine RT 8 E I ?_;exact⟨false,rfl,⟨λh=>(by cases h),λh=>by have:=h.2.1;omega⟩,I.sub⟩
 refine IF 5 E I (λaj a E=>?_) λaj a E=>?_
 ·
  refine RT 2 E I ?_;exact⟨false,rfl,⟨λh=>(by cases h),λh=>by have:=h.2.2.1;omega⟩,I.sub⟩
 refine RN 3 E I λa E=>?_;refine aN (λμ a w=>∃ i:Nat,(μ=p.ops.length-i∧i≤p.ops.length∧∀ j o,j<i→p.ops[j]?=some o→rS o)∧Fr a 55 [(1,pt b1),(3,.int .i64 i)]∧U W w (aa b1 45 (bO p aq cO)::aA W p aq cO::L)) (p.ops.length) (⟨0,⟨by simp,by simp,λj o h=>absurd h (by omega)⟩,E.ab [1,3],I.sub⟩) ?_;clear E I;rintro μ a w ⟨i,⟨rfl,hi,cD⟩,E,I⟩;refine IF 7 E I (λao a E=>?_) λao a E=>?_
 ·
  obtain⟨o,ho⟩:∃ o,p.ops[i]?=some o:=⟨_,aD (by omega)⟩;obtain⟨k0,oo,rfl,gK⟩:=I.rT aq (by omega);refine RN 6 E I λa E=>?_;refine SS E (bT E underlying114 rfl Ty.t114 (wI gK ho)) λa E=>?_;refine AL 0 E I λb4 a w E I=>?_;refine SA 0 E I λa w E I=>?_;refine bh 3 E I (Be I) λr1 a w E ⟨ff,I⟩=>?_;refine BY 2 E I (λdE a E=>?_) λdE a E=>?_
  ·
   have kb:¬ rS o:=λh=>by rw[ff.2 h.1]at dE;cases dE
   refine RT 20 E I ?_;exact⟨false,rfl,⟨λh=>(by cases h),λh=>absurd (h.2.2.2 o (bF ho)) kb⟩,I.sub⟩
  refine bh 2 E I (Be I) λr2 a w E ⟨e4,I⟩=>?_;refine BY 3 E I (λmg a E=>?_) λmg a E=>?_
  ·
   have kb:¬ rS o:=λh=>by rw[e4.2 h.2.1]at mg;cases mg
   refine RT 14 E I ?_;exact⟨false,rfl,⟨λh=>(by cases h),λh=>absurd (h.2.2.2 o (bF ho)) kb⟩,I.sub⟩
  refine bh 2 E I (Be I) λr3 a w E ⟨kh,I⟩=>?_;refine BY 3 E I (λu0 a E=>?_) λu0 a E=>?_
  ·
   have kb:¬ rS o:=λh=>by rw[kh.2 h.2.2.1]at u0;cases u0
   refine RT 8 E I ?_;exact⟨false,rfl,⟨λh=>(by cases h),λh=>absurd (h.2.2.2 o (bF ho)) kb⟩,I.sub⟩
  refine bh 2 E I (Be I) λXQ a w E ⟨qX,I⟩=>?_;refine IF 2 E I (λay a E=>?_) λay a E=>?_
  ·
   have kb:¬ rS o:=λh=>by rw[qX.2 h.2.2.2]at ay;cases ay
   refine RT 2 E I ?_;exact⟨false,rfl,⟨λh=>(by cases h),λh=>absurd (h.2.2.2 o (bF ho)) kb⟩,I.sub⟩
  have EY:rS o:=⟨ff.1 (by simpa using dE),e4.1 (by simpa using mg),kh.1 (by simpa using u0),qX.1 (by simpa using ay)⟩;refine RN 3 E I λa E=>?_;refine⟨p.ops.length-(i+1),by omega,i+1,⟨rfl,by omega,λj o' hj kD=>?_⟩,E.ab [1,3],I.sub⟩;rcases gR j i with h | h
  ·exact cD j o' h kD
  ·obtain rfl:j=i:=by omega
   rw[ho]at kD;cases kD;exact EY
 refine RT 2 E I ?_;refine⟨true,rfl,⟨λ_=>⟨XP,by omega,by omega,λo ho=>?_⟩,λ_=>rfl⟩,I.sub⟩;obtain⟨j,hj⟩:=j7.1 ho;exact cD j o (by have:=(aY.1 hj).1;omega) hj
theorem XR:∀ m:Nat,m≤15→(([[.int .i64 0],[.int .i64 2],[.int .i64 2],[.int .i64 3],[.int .i64 3],[.int .i64 3],[.int .i64 3],[.int .i64 3],[.int .i64 3],[.int .i64 1],[.int .i64 2],[.int .i64 2],[.int .i64 2],[.int .i64 2],[.int .i64 2],[.int .i64 1]].flatten:List Value))[m]?=some (.int .i64 (wV (m:Int)))
 | 0,_=>rfl
 | 1,_=>rfl
 | 2,_=>rfl
 | 3,_=>rfl
 | 4,_=>rfl
 | 5,_=>rfl
 | 6,_=>rfl
 | 7,_=>rfl
 | 8,_=>rfl
 | 9,_=>rfl
 | 10,_=>rfl
 | 11,_=>rfl
 | 12,_=>rfl
 | 13,_=>rfl
 | 14,_=>rfl
 | 15,_=>rfl
 | n+16,h=>absurd h (by omega)
theorem XS {k:Int}(I:U W w L)(hk:0≤k∧k≤15):Calls prog 109 #[.int .i64 k] w λe w'=>e=.returned (.int .i64 (wV k))∧U W w' L:=by
 obtain⟨m,rfl⟩:∃ m:Nat,k=m:=⟨k.toNat,by omega⟩;have hm:m≤15:=by omega
 refine EN func109 ntmps109 rfl rfl λa E=>?_;refine RN 3 E I λa E=>?_;refine cp E rfl I underlying53 Ty.t3 rfl rfl rfl rfl (by decide) (by decide) λb4 a w E I ho=>?_;clear ho;refine RN 5 E I λa E=>?_;refine SS E (ae E ((I.bz (XR m hm)))) λa E=>?_;refine RT 1 E I ?_;exact⟨rfl,I.sub⟩
theorem KS {o:gJ}:∀ k:Nat,k<3→([[.int .i64 o.a],[.int .i64 o.b],[.int .i64 o.c]].flatten:List Value)[k]?=some (.int .i64 (A9 o k))
 | 0,_=>rfl
 | 1,_=>rfl
 | 2,_=>rfl
 | n+3,h=>absurd h (by omega)
theorem XT {n:Nat}{o:gJ}(I:U W w L):Calls prog 69 #[.agg (dR o).toArray,.int .i64 n] w λe w'=>∃ r:Bool,e=.returned (.bool r)∧(r=true↔e6 n o)∧U W w' L:=by
 refine EN func69 ntmps69 rfl rfl λa E=>?_;refine BX 1 E I λb2 a w E I=>?_;change U W w (aa b2 114 (dR o)::_) at I;refine BY 7 E I (λbX a E=>?_) λbX a E=>?_
 ·
  refine RT 7 E I ?_;exact⟨false,rfl,⟨λh=>(by cases h),λh=>by have:=(yL.1 h).1;omega⟩,I.sub⟩
 refine IF 4 E I (λaj a E=>?_) λaj a E=>?_
 ·
  refine RT 2 E I ?_;exact⟨false,rfl,⟨λh=>(by cases h),λh=>by have:=(yL.1 h).1;omega⟩,I.sub⟩
 refine RN 7 E I λa E=>?_;refine cp E rfl I underlying53 Ty.t3 rfl rfl rfl rfl (by decide) (by decide) λu1 a w E I ho=>?_;clear ho;refine RN 4 E I λa E=>?_;refine aN (λμ a w=>∃ k:Nat,(μ=3-k∧k≤3∧∀ j,j<k→rZ n o j)∧Fr a 68 [(1,.int .i64 n),(2,pt b2),(5,.slice (some ⟨u1,0,none⟩) 3 3),(6,.int .i64 k)]∧U W w (aa u1 3 [[.int .i64 o.a],[.int .i64 o.b],[.int .i64 o.c]].flatten::aa b2 114 (dR o)::L)) (3) (⟨0,⟨by simp,by simp,λj h=>absurd h (by omega)⟩,E.ab [1,2,5,6],I.sub⟩) ?_;clear E I;rintro μ a w ⟨k,⟨rfl,hk,cD⟩,E,I⟩;refine IF 4 E I (λao a E=>?_) λao a E=>?_
 ·
  refine RN 3 E I λa E=>?_;refine cc (M:=λa w=>(wV o.code≤k∨¬ (o.code=1∧k=1))∧Fr a 68 [(1,.int .i64 n),(2,pt b2),(5,.slice (some ⟨u1,0,none⟩) 3 3),(6,.int .i64 k),(7,.int .i64 (kj n o k))]∧U W w (aa u1 3 [[.int .i64 o.a],[.int .i64 o.b],[.int .i64 o.c]].flatten::aa b2 114 (dR o)::L)) ?_ ?_
  ·
   refine CL 4 E I (XS I (by omega)) λa w E I=>?_;refine IF 2 E I (λay a E=>?_) λay a E=>?_
   ·
    refine RN 1 E I λa E=>?_;refine⟨.inl (by omega),?_,I.sub⟩;rw[show kj n o k=0 from ak (by omega)];exact E.ab [1,2,5,6,7]
   refine BY 5 E I (λbX a E=>?_) λbX a E=>?_
   ·
    refine IF 4 E I (λbk a E=>?_) λbk a E=>?_
    ·
     refine RN 3 E I λa E=>?_;refine⟨3-(k+1),by omega,k+1,⟨rfl,by omega,λj hj=>?_⟩,E.ab [1,2,5,6],I.sub⟩;rcases gR j k with h | h
     ·exact cD j h
     ·obtain rfl:j=k:=by omega
      exact .inl ⟨by omega,by omega,by omega⟩
    refine BY 5 E I (λbX a E=>?_) λbX a E=>?_
    ·
     refine RN 12 E I λa E=>?_;refine⟨.inr (by omega),?_,I.sub⟩;rw[show kj n o k=n from by rw[kj,ag (by omega),ak (by omega)]];exact E.ab [1,2,5,6,7]
    refine BY 4 E I (λjU a E=>?_) λjU a E=>?_
    ·
     refine IF 5 E I (λbN a E=>?_) λbN a E=>?_
     ·
      refine RN 2 E I λa E=>?_;refine⟨.inr (by omega),?_,I.sub⟩;rw[show kj n o k=n from by rw[kj,ag (by omega),ak (by omega)]];exact E.ab [1,2,5,6,7]
     refine RN 0 E I λa E=>?_;refine⟨.inr (by omega),?_,I.sub⟩;rw[show kj n o k=31 from by rw[kj,ag (by omega),ag (by omega)]];exact E.ab [1,2,5,6,7]
    refine RN 6 E I λa E=>?_;refine⟨.inr (by omega),?_,I.sub⟩;rw[show kj n o k=31 from by rw[kj,ag (by omega),ag (by omega)]];exact E.ab [1,2,5,6,7]
   refine BY 10 E I (λbX a E=>?_) λbX a E=>?_
   ·
    refine RN 12 E I λa E=>?_;refine⟨.inr (by omega),?_,I.sub⟩;rw[show kj n o k=n from by rw[kj,ag (by omega),ak (by omega)]];exact E.ab [1,2,5,6,7]
   refine BY 4 E I (λjU a E=>?_) λjU a E=>?_
   ·
    refine IF 5 E I (λbN a E=>?_) λbN a E=>?_
    ·
     refine RN 2 E I λa E=>?_;refine⟨.inr (by omega),?_,I.sub⟩;rw[show kj n o k=n from by rw[kj,ag (by omega),ak (by omega)]];exact E.ab [1,2,5,6,7]
    refine RN 0 E I λa E=>?_;refine⟨.inr (by omega),?_,I.sub⟩;rw[show kj n o k=31 from by rw[kj,ag (by omega),ag (by omega)]];exact E.ab [1,2,5,6,7]
   refine RN 6 E I λa E=>?_;refine⟨.inr (by omega),?_,I.sub⟩;rw[show kj n o k=31 from by rw[kj,ag (by omega),ag (by omega)]];exact E.ab [1,2,5,6,7]
  clear E;(try clear I);rintro a w ⟨DV,E,I⟩;refine RN 4 E I λa E=>?_;refine SS E (ae E ((I.bz (KS k (by omega))))) λa E=>?_;refine BY 2 E I (λjj a E=>?_) λjj a E=>?_
  ·
   refine RT 10 E I ?_;refine⟨false,rfl,⟨λh=>(by cases h),λh=>?_⟩,I.sub⟩;have b0:rZ n o k:=by
    obtain⟨_,h0,h1,h2⟩:=yL.1 h;rcases (by omega:k=0∨k=1∨k=2) with rfl | rfl | rfl
    ·exact h0
    ·exact h1
    ·exact h2
   simp only[rZ]at b0;omega
  refine RN 3 E I λa E=>?_;refine bw E (cw E rfl (s:=60)) (ae E ((I.bz (KS k (by omega))))) rfl λa E=>?_;refine IF 3 E I (λeN a E=>?_) λeN a E=>?_
  ·
   refine RT 2 E I ?_;refine⟨false,rfl,⟨λh=>(by cases h),λh=>?_⟩,I.sub⟩;have b0:rZ n o k:=by
    obtain⟨_,h0,h1,h2⟩:=yL.1 h;rcases (by omega:k=0∨k=1∨k=2) with rfl | rfl | rfl
    ·exact h0
    ·exact h1
    ·exact h2
   simp only[rZ]at b0;omega
  refine RN 3 E I λa E=>?_;refine⟨3-(k+1),by omega,k+1,⟨rfl,by omega,λj hj=>?_⟩,E.ab [1,2,5,6],I.sub⟩;rcases gR j k with h | h
  ·exact cD j h
  ·obtain rfl:j=k:=by omega
   exact .inr ⟨by omega,by omega⟩
 refine RT 2 E I ?_;exact⟨true,rfl,⟨λ_=>yL.2 ⟨by omega,cD 0 (by omega),cD 1 (by omega),cD 2 (by omega)⟩,λ_=>rfl⟩,I.sub⟩
theorem XU {p:Pr}(I:U W w (aA W p aq cO::L))(aH:p.title.size≤1000000000)(ea:p.ops.length≤1000000000) :
   Calls prog 48 #[.agg (bO p aq cO).toArray] w λe w'=>∃ r:Int,e=.returned (.int .i64 r)∧(r = -1↔dm p)∧U W w' (aA W p aq cO::L):=by
 refine EN func48 ntmps48 rfl rfl λa E=>?_;refine BX 1 E I λb1 a w E I=>?_;change U W w (aa b1 45 (bO p aq cO)::_) at I;refine bh 4 E I (XO (I.pick (aA W p aq cO)) aH ea) λr a w E ⟨hr,I⟩=>?_;refine IF 1 E I (λaj a E=>?_) λaj a E=>?_
 ·
  have XV:¬ wH p:=λh=>by rw[hr.2 h]at aj;cases aj
  refine RT 2 E I ?_;exact⟨-2,rfl,⟨λh=>absurd h (by decide),λh=>absurd h.1 XV⟩,I.sub⟩
 have mj:wH p:=hr.1 (by simpa using aj);refine RN 3 E I λa E=>?_;refine aN (λμ a w=>∃ i:Nat,(μ=p.ops.length-i∧i≤p.ops.length∧∀ j o,j<i→p.ops[j]?=some o→e6 p.ops.length o)∧Fr a 25 [(1,pt b1),(3,.int .i64 i)]∧U W w (aa b1 45 (bO p aq cO)::aA W p aq cO::L)) (p.ops.length) (⟨0,⟨by simp,by simp,λj o h=>absurd h (by omega)⟩,E.ab [1,3],I.sub⟩) ?_;clear E I;rintro μ a w ⟨i,⟨rfl,hi,cD⟩,E,I⟩;refine IF 7 E I (λao a E=>?_) λao a E=>?_
 ·
  refine RN 2 E I λa E=>?_;obtain⟨o,ho⟩:∃ o,p.ops[i]?=some o:=⟨_,aD (by omega)⟩;obtain⟨k0,oo,rfl,gK⟩:=I.drew.rT aq (by omega);have fj:=wI gK ho;refine rG 0 (λw'=>Rd w' b1 0 (bO p (some ⟨k0,oo,none⟩) cO)∧Rd w' k0 (oo+i*4) (dR o)) [6,7] [0,2,5,3001,3,3004,1006,1007,1008,9] E I λa E=>?_;replace I:=I.drew;generalize w.drew=w at I fj ⊢;have hC:Rd w b1 0 (bO p (some ⟨k0,oo,none⟩) cO)∧Rd w k0 (oo+i*4) (dR o):=⟨I.ai,fj⟩;have hH:=Hd.any (λw'=>Rd w' b1 0 (bO p (some ⟨k0,oo,none⟩) cO)∧Rd w' k0 (oo+i*4) (dR o));refine RH 3 E I hH hC λa E=>?_;refine QH E (λw hc=>ae E (hc.1 1 _ rfl)) hC λa E=>?_;refine RH 1 E I hH hC λa E=>?_;refine QH E (λw hc=>bT E underlying114 rfl Ty.t114 (hc.2)) hC λa E=>?_;refine RH 0 E I hH hC λa E=>?_;refine SS E (ae E (hC.1 1 _ rfl)) λa E=>?_;refine RH 1 E I hH hC λa E=>?_;refine bh 0 E I (XT (n:=p.ops.length) (o:=o) I) λr a w E ⟨hr,I⟩=>?_;refine RN 1 E I λa E=>?_;refine IF 0 E I (λay a E=>?_) λay a E=>?_
  ·
   have bQ:¬ e6 p.ops.length o:=λh=>by rw[hr.2 h]at ay;cases ay
   refine RT 3 E I ?_;exact⟨i,rfl,⟨λh=>absurd h (by omega),λh=>absurd (h.2 o (bF ho)) bQ⟩,I.sub⟩
  have dr:e6 p.ops.length o:=hr.1 (by simpa using ay);refine RN 3 E I λa E=>?_;refine⟨p.ops.length-(i+1),by omega,i+1,⟨rfl,by omega,λj o' hj kD=>?_⟩,E.ab [1,3],I.sub⟩;rcases gR j i with h | h
  ·exact cD j o' h kD
  ·obtain rfl:j=i:=by omega
   rw[ho]at kD;cases kD;exact dr
 refine RT 2 E I ?_;refine⟨-1,rfl,⟨λ_=>⟨mj,λo ho=>?_⟩,λ_=>rfl⟩,I.sub⟩;obtain⟨j,hj⟩:=j7.1 ho;exact cD j o (by have:=(aY.1 hj).1;omega) hj
end
end
section
theorem Bf {x y:Int}(h1:-2147483648≤y)(h2:y≤2147483647)(h3:x%4294967296=y%4294967296):iv x=y:=by
 simp only[iv,IntKind.wrap,IntKind.signed,IntKind.bits];simp;split <;> omega
section
variable {W w:World}{L:List SP}{p:Pr}{aq adP:Option Addr}{cO cP:Nat}{b:List UInt8}{g:Nat→Int}{fr:Int}
theorem yO {x:Int}(I:U W w L)(h1:-9223372036854775808≤x)(h2:x≤9223372036854775807):Calls prog 151 #[.int .i64 x] w λe w'=>e=.returned (.int .i32 (iv x))∧U W w' L:=by
 have mn:=Int.tmod_lt_of_pos x (b:=4294967296) (by decide);have iy:=Int.lt_tmod_of_pos x (b:=4294967296) (by decide);have yP:(x.tmod 4294967296)%4294967296=x%4294967296:=by
  rw[Int.tmod_eq_emod];split <;> omega
 refine EN func151 ntmps151 rfl rfl λa E=>?_;refine IF 10 E I (λaj a E=>?_) λaj a E=>?_
 ·
  refine IF 7 E I (λao a E=>?_) λao a E=>?_
  ·
   refine SX 5 E I (iw (by omega) (by omega)) λa E=>?_;refine RT 1 E I ?_;exact⟨by rw[Bf (y:=x.tmod 4294967296+4294967296-4294967296) (by omega) (by omega) (by omega)],I⟩
  refine SX 2 E I (iw (by omega) (by omega)) λa E=>?_;refine RT 1 E I ?_;exact⟨by rw[Bf (y:=x.tmod 4294967296+4294967296) (by omega) (by omega) (by omega)],I⟩
 refine IF 4 E I (λao a E=>?_) λao a E=>?_
 ·
  refine SX 5 E I (iw (by omega) (by omega)) λa E=>?_;refine RT 1 E I ?_;exact⟨by rw[Bf (y:=x.tmod 4294967296-4294967296) (by omega) (by omega) (by omega)],I⟩
 refine SX 2 E I (iw (by omega) (by omega)) λa E=>?_;refine RT 1 E I ?_;exact⟨by rw[Bf (y:=x.tmod 4294967296) (by omega) (by omega) (by omega)],I⟩
theorem KT {x:Int}(I:U W w L)(hx:ds x):Calls prog 150 #[.int .i32 x,.int .i64 32] w λe w'=>e=.returned (.int .i64 (kO x))∧U W w' L:=by
 have h1:=Int.tmod_lt_of_pos x (b:=32) (by decide);have h2:=Int.lt_tmod_of_pos x (b:=32) (by decide);have hm:(kO x:Int)=x%32:=by
  have h1:=Int.emod_nonneg x (show (32:Int)≠0 by decide);show (((x%32).toNat:Nat):Int)=_;omega
 have ht:x.tmod 32=if 0≤x then x%32 else -((-x)%32):=by
  split
  ·exact Int.tmod_eq_emod_of_nonneg (by omega)
  ·rw[← Int.neg_neg (x.tmod 32),← Int.neg_tmod,Int.tmod_eq_emod_of_nonneg (by omega)]
 simp only[ds]at hx;refine EN func150 ntmps150 rfl rfl λa E=>?_;refine RN 6 E I λa E=>?_;replace E:=E.aP 7;refine SX 3 E I (fR (by omega) (by omega)) λa E=>?_;refine IF 7 E I (λao a E=>?_) λao a E=>?_
 ·
  refine RN 4 E I λa E=>?_;rw[show x.tmod 32+32=(kO x:Int) from by rw[hm,ht];split <;> omega]at E;refine RT 3 E I ?_;exact⟨rfl,I⟩
 refine RT 3 E I ?_;exact⟨by rw[hm,show x.tmod 32=x%32 from by rw[ht] at *;split at*<;> omega],I⟩
theorem XW {x:Int}(I:U W w L)(hx:ds x)(hb:b.length≤1099511627776)(hp:∀ w',U W w' L→aX w' adP b.length b) :
   Calls prog 149 #[.slice adP b.length cP,.int .i32 x] w λe w'=>e=.returned (.int .i32 (mR b x))∧U W w' L:=by
 simp only[ds]at hx;refine EN func149 ntmps149 rfl rfl λa E=>?_;refine BY 7 E I (λbA a E=>?_) λbA a E=>?_
 ·
  refine RT 9 E I ?_;exact⟨by rw[mR,ag (by omega)],I⟩
 refine SX 1 E I (by rw[fR (by omega) (by omega)]) λa E=>?_;refine IF 4 E I (λaj a E=>?_) λaj a E=>?_
 ·
  refine RT 2 E I ?_;exact⟨by rw[mR,ag (by omega)],I⟩
 refine RN 1 E I λa E=>?_;obtain⟨k,hk⟩:∃ k:Nat,x=(k:Int):=⟨x.toNat,by omega⟩;obtain⟨_,_,a6⟩:=hp _ I;have yF:k<b.length:=by omega
 obtain⟨bp,op,g6,c9⟩:∃ bp op,adP=some ⟨bp,op,none⟩∧Rd w bp op (bc b):=by
  cases hh:adP with
  | none =>
   have:=(hp _ I).2.1 hh;omega
  | some a =>
   obtain⟨b1,o1,rfl,h1⟩:=a6 a hh (by omega);exact⟨b1,o1,rfl,h1⟩
 rw[hk]at E;refine RN 1 E I λa E=>?_;rw[g6]at E;refine RN 2 E I λa E=>?_;refine SS E (ae E (c9 k (.int .u8 b[k].toNat) (by simp[bc,yF]))) λa E=>?_;refine SX 0 E I (by have:=b[k].toNat_lt;exact iw (by omega) (by omega)) λa E=>?_;refine RT 1 E I ?_;refine⟨?_,I⟩;rw[mR,ak (by omega),hk,c8,bm,aD yF];rfl
theorem XX {x y:Int}(I:U W w L)(hx:ds x)(hy:ds y):Calls prog 188 #[.int .i32 x,.int .i32 y] w λe w'=>e=.returned (.int .i32 (if y=0 then 0 else iv (x.tdiv y)))∧U W w' L:=by
 simp only[ds]at hx hy;have hq:y≠0 → -9223372036854775808≤x.tdiv y∧x.tdiv y≤9223372036854775807:=λh=>by
  have h1:(x.tdiv y).natAbs≤x.natAbs:=by rw[Int.natAbs_tdiv];exact Nat.div_le_self _ _
  omega
 refine EN func188 ntmps188 rfl rfl λa E=>?_;refine IF 6 E I (λaj a E=>?_) λaj a E=>?_
 ·
  refine RT 2 E I ?_;exact⟨by rw[ak aj],I⟩
 refine SX 2 E I (fR (by omega) (by omega)) λa E=>?_;refine SX 1 E I (fR (by omega) (by omega)) λa E=>?_;refine RN 0 E I λa E=>?_;refine SS E (I9 E (by omega)) λa E=>?_;rw[fR (hq aj).1 (hq aj).2]at E;refine CL 0 E I (yO I (hq aj).1 (hq aj).2) λa w E I=>?_;refine RT 1 E I ?_;exact⟨by rw[ag aj],I⟩
theorem XY {k x y:Int}(I:U W w L)(hx:ds x)(hy:ds y):Calls prog 152 #[.int .i64 k,.int .i32 x,.int .i32 y] w λe w'=>e=.returned (.int .i32 (ji k x y))∧U W w' L:=by
 have c6:=hx;have jh:=hy;simp only[ds]at c6 jh;have hmul:-9223372036854775808≤x*y∧x*y≤9223372036854775807:=by
  have h1:(x*y).natAbs≤2147483648*2147483648:=by rw[Int.natAbs_mul];exact Nat.mul_le_mul (by omega) (by omega)
  omega
 refine EN func152 ntmps152 rfl rfl λa E=>?_;refine IF 10 E I (λaj a E=>?_) λaj a E=>?_
 ·
  refine SX 2 E I (fR (by omega) (by omega)) λa E=>?_;refine SX 1 E I (fR (by omega) (by omega)) λa E=>?_;refine CL 1 E I (yO I (by omega) (by omega)) λa w E I=>?_;refine RT 1 E I ?_;exact⟨by simp[ji,aj],I⟩
 refine IF 3 E I (λao a E=>?_) λao a E=>?_
 ·
  refine SX 2 E I (fR (by omega) (by omega)) λa E=>?_;refine SX 1 E I (fR (by omega) (by omega)) λa E=>?_;refine CL 1 E I (yO I (by omega) (by omega)) λa w E I=>?_;refine RT 1 E I ?_;exact⟨by simp[ji,ao],I⟩
 refine IF 3 E I (λay a E=>?_) λay a E=>?_
 ·
  refine SX 2 E I (fR (by omega) (by omega)) λa E=>?_;refine SX 1 E I (fR (by omega) (by omega)) λa E=>?_;refine SX 0 E I ⟨(by first | exact hmul.1 | exact hmul.2),(by first | exact hmul.1 | exact hmul.2)⟩ λa E=>?_;refine CL 0 E I (yO I hmul.1 hmul.2) λa w E I=>?_;refine RT 1 E I ?_;exact⟨by simp[ji,ay],I⟩
 refine IF 3 E I (λbk a E=>?_) λbk a E=>?_
 ·
  refine CL 3 E I (XX I hx hy) λa w E I=>?_;refine RT 1 E I ?_;exact⟨by simp[ji,bk],I⟩
 refine IF 3 E I (λbN a E=>?_) λbN a E=>?_
 ·
  refine IF 7 E I (λeN a E=>?_) λeN a E=>?_
  ·
   refine RT 2 E I ?_;exact⟨by simp[ji,bN,eN],I⟩
  refine RT 2 E I ?_;exact⟨by simp[ji,bN];omega,I⟩
 refine IF 7 E I (λeN a E=>?_) λeN a E=>?_
 ·
  refine RT 2 E I ?_;exact⟨by simp[ji,aj,ao,ay,bk,bN,eN],I⟩
 refine RT 2 E I ?_;exact⟨by simp[ji,aj,ao,ay,bk,bN];omega,I⟩
theorem ints_at {w:World}{mW j:Nat}{g:Nat→Int}(h:Rd w mW 0 (ints .i32 32 g))(hj:j<32):w.cell? ⟨mW,j,none⟩=some (.int .i32 (g j)):=by
 have:=h j _ (fV g hj)
 rwa [eG]at this
theorem EZ (I:U W w (aA W p aq cO::L))(a6:dm p)(aH:p.title.size≤1000000000)(hg:dS g)(hb:b.length≤1099511627776)(hf:-4611686018427387904≤fr∧fr≤4611686018427387904)(hp:∀ w',U W w' L→aX w' adP b.length b) :
   Calls prog 104 #[.agg (bO p aq cO).toArray,.agg (ints .i32 32 g).toArray,.int .i64 fr,.slice adP b.length cP] w λe w'=>∃ n:Int,e=.returned (.tuple #[.agg (ints .i32 32 (e7 p fr b g)).toArray,.int .i64 n])∧dS (e7 p fr b g)∧U W w' (aA W p aq cO::L):=by
 have ea:p.ops.length≤64:=a6.1.2.2.1;refine EN func104 ntmps104 rfl rfl λa E=>?_;refine BX 1 E I λb4 a w E I=>?_;change U W w (aa b4 45 (bO p aq cO)::_) at I;refine BX 0 E I λb5 a w E I=>?_;change U W w (aa b5 49 (ints .i32 32 g)::_) at I;refine AL 0 E I λb8 a w E I=>?_;change U W w (aa b8 49 (ints .i32 32 (λ_=>0))::_) at I;refine bh 4 E I (XU (I.pick (aA W p aq cO)) aH (by omega)) λr a w E ⟨hr,I⟩=>?_;obtain rfl:r = -1:=hr.2 a6;refine RN 1 E I λa E=>?_;rw[show decide ((-1:Int) ≠ -1)=false from rfl]at E;replace E:=E.aP 18;refine aZ 7 E I (KQ I aH) λadT cT a w E I=>?_;refine RN 6 E I λa E=>?_;refine aN (λμ a w=>∃ (n aO:Nat) (g':Nat→Int),(μ=200-n∧n≤200∧aO≤p.ops.length∧dS g'∧qP p fr b (200-n) g' aO=e7 p fr b g)∧Fr a 166 [(2,.int .i64 fr),(3,.slice adP b.length cP),(4,pt b4),(5,pt b5),(8,pt b8),(10,.int .i64 aO),(11,.int .i64 n),(12,.slice adT (eg p.title 0).length cT)]∧U W w (aa b5 49 (ints .i32 32 g')::aa b4 45 (bO p aq cO)::aa b8 49 (ints .i32 32 (λ_=>0))::Sl 21 1 adT (eg p.title 0).length cT (RI (eg p.title 0))::aA W p aq cO::L)) (200) (⟨0,0,g,⟨by simp,by simp,by simp,hg,rfl⟩,E.ab [2,3,4,5,8,10,11,12],I.sub⟩) ?_;clear E I;rintro μ a w ⟨n,aO,g',⟨rfl,hn,e8,eK,u2⟩,E,I⟩;refine BY 5 E I (λbA a E=>?_) λbA a E=>?_
 ·
  refine IF 6 E I (λao a E=>?_) λao a E=>?_
  ·
   obtain⟨o,ho⟩:∃ o,p.ops[aO]?=some o:=⟨_,aD (by omega)⟩;obtain⟨k0,oo,rfl,gK⟩:=I.rT aq (by omega);have aS:=EL (p:=p) (fr:=fr) (b:=b) (g:=g') (n:=200-(n+1)) ho;rw[show 200-(n+1)+1=200-n from by omega,u2]at aS;have dr:=a6.2 o (bF ho);have qU:=dr;simp only[e6,e5]at qU;have EJ:o.code=9→qT o.a p.ops.length:=λh=>qT.of (by omega);have kf:o.code≠9→o.code≠0→ml o.a 32:=λh h2=>ml.of (by omega);have EK:o.code=10→qT o.b p.ops.length:=λh=>qT.of (by omega);have oY:o.code≠1→o.code≠15→o.code≠9→o.code≠10→o.code≠0→ml o.b 32:=λ_ _ _ _ _=>ml.of (by omega);have rW:o.code≠0→o.code≠1→o.code≠2→o.code≠9→o.code≠10→o.code≠11→o.code≠12→o.code≠13→o.code≠14→o.code≠15→ml o.c 32:=λ_ _ _ _ _ _ _ _ _ _=>ml.of (by omega);clear qU;refine RN 5 E I λa E=>?_;refine SS E (bT E underlying114 rfl Ty.t114 (wI gK ho)) λa E=>?_;refine AL 0 E I λeO a w E I=>?_;refine SA 0 E I λa w E I=>?_;refine IF 14 E I (λay a E=>?_) λay a E=>?_
   ·
    refine SA 3 E I λa w E I=>?_;refine RT 1 E I ?_;rw[show eu p fr b g' aO o=(g',aO+1,false) from by rw[eu,ak ay]]at aS;refine⟨_,by rw[aS];rfl,?_,I.sub⟩;rw[aS];exact eK
   refine IF 3 E I (λbk a E=>?_) λbk a E=>?_
   ·
    obtain⟨cF,dM,kg⟩:=kf (by omega) (by omega);refine RN 2 E I λa E=>?_;rw[dM]at E;refine RN 2 E I λa E=>?_;refine SS E (gr E underlying3 underlying21) λa E=>?_;refine ST 1 E I (λa w E I=>?_) (hlt:=(by rw[dj];omega));rw[ints_set,show (λi=>if i=cF then IntKind.i32.wrap o.b else g' i)=ck g' (cF) (iv o.b) from rfl]at I;refine RN 0 E I λa E=>?_;have fU:eu p fr b g' aO o=(ck g' (cF) (iv o.b),aO+1,true):=by
     rw[eu,ag (by omega),ag (by omega),ag (by omega),ag (by omega),dM,c8,jR,ak bk]
    rw[fU]at aS;exact⟨200-(n+1),by omega,n+1,aO+1,ck g' (cF) (iv o.b),⟨rfl,by omega,by omega,n2 eK (yt _),aS.symm⟩,E.ab [2,3,4,5,8,10,11,12],I.sub⟩
   refine IF 3 E I (λbN a E=>?_) λbN a E=>?_
   ·
    refine RN 0 E I λa E=>?_;obtain⟨cF,dM,kg⟩:=kf (by omega) (by omega);obtain⟨bB,eb,iP⟩:=oY (by omega) (by omega) (by omega) (by omega) (by omega);refine aV 0 (λw0 w'=>Rd w' eO 0 (dR o)∧Rd w' b5 0 (ints .i32 32 g')) [3,4,5] [0,2,3001,1003,1004,1005,6,1007] E I λa w E I hH=>?_;have hC:=hH.at w ⟨I.ai,I.ai⟩;refine RH 2 E I hH hC λa E=>?_;refine QH E (λw hc=>ae E (hc.1 1 _ rfl)) hC λa E=>?_;rw[dM]at E;refine RH 0 E I hH hC λa E=>?_;refine SS E (ae E (hC.1 2 _ rfl)) λa E=>?_;rw[eb]at E;refine RH 1 E I hH hC λa E=>?_;refine SS E (ae E (ints_at hC.2 iP)) λa E=>?_;refine RH 1 E I hH hC λa E=>?_;refine ST 0 E I (λa w E I=>?_) (hlt:=(by rw[dj];omega));rw[ints_set,show (λi=>if i=cF then g' bB else g' i)=ck g' (cF) (g' bB) from rfl]at I;refine RN 0 E I λa E=>?_;have fU:eu p fr b g' aO o=(ck g' (cF) (g' bB),aO+1,true):=by
     rw[eu,ag (by omega),ag (by omega),ag (by omega),ag (by omega),dM,c8,jR,ag (by omega),ak bN,eb,c8]
    rw[fU]at aS;exact⟨200-(n+1),by omega,n+1,aO+1,ck g' (cF) (g' bB),⟨rfl,by omega,by omega,n2 eK (eK _ iP),aS.symm⟩,E.ab [2,3,4,5,8,10,11,12],I.sub⟩
   refine IF 3 E I (λeN a E=>?_) λeN a E=>?_
   ·
    obtain⟨cF,dM,kg⟩:=EJ eN;refine RN 2 E I λa E=>?_;rw[dM]at E;refine RN 1 E I λa E=>?_;have fU:eu p fr b g' aO o=(g',cF,true):=by
     rw[eu,ag (by omega),ak eN,dM,c8]
    rw[fU]at aS;exact⟨200-(n+1),by omega,n+1,cF,g',⟨rfl,by omega,by omega,eK,aS.symm⟩,E.ab [2,3,4,5,8,10,11,12],I.sub⟩
   refine IF 3 E I (λmi a E=>?_) λmi a E=>?_
   ·
    refine RN 1 E I λa E=>?_;obtain⟨cF,dM,kg⟩:=kf (by omega) (by omega);refine RN 2 E I λa E=>?_;rw[dM]at E;refine RN 1 E I λa E=>?_;refine SS E (ae E ((ints_at I.ai kg))) λa E=>?_;refine IF 1 E I (λmU a E=>?_) λmU a E=>?_
    ·
     obtain⟨bB,eb,iP⟩:=EK mi;refine RN 2 E I λa E=>?_;rw[eb]at E;refine RN 1 E I λa E=>?_;have fU:eu p fr b g' aO o=(g',bB,true):=by
      rw[eu,ag (by omega),ag (by omega),ak mi,dM,c8,ak mU,eb,c8]
     rw[fU]at aS;exact⟨200-(n+1),by omega,n+1,bB,g',⟨rfl,by omega,by omega,eK,aS.symm⟩,E.ab [2,3,4,5,8,10,11,12],I.sub⟩
    refine RN 0 E I λa E=>?_;have fU:eu p fr b g' aO o=(g',aO+1,true):=by
     rw[eu,ag (by omega),ag (by omega),ak mi,dM,c8,ag mU]
    rw[fU]at aS;exact⟨200-(n+1),by omega,n+1,aO+1,g',⟨rfl,by omega,by omega,eK,aS.symm⟩,E.ab [2,3,4,5,8,10,11,12],I.sub⟩
   refine IF 3 E I (λlS a E=>?_) λlS a E=>?_
   ·
    refine RN 0 E I λa E=>?_;obtain⟨cF,dM,kg⟩:=kf (by omega) (by omega);obtain⟨bB,eb,iP⟩:=oY (by omega) (by omega) (by omega) (by omega) (by omega);refine aV 0 (λw0 w'=>Rd w' eO 0 (dR o)∧Rd w' b5 0 (ints .i32 32 g')) [4,5,6,7] [0,2,3,3001,1004,1005,1006,1007,8,1009] E I λa w E I hH=>?_;have hC:=hH.at w ⟨I.ai,I.ai⟩;refine RH 3 E I hH hC λa E=>?_;refine QH E (λw hc=>ae E (hc.1 1 _ rfl)) hC λa E=>?_;rw[dM]at E;refine RH 0 E I hH hC λa E=>?_;refine SS E (ae E (hC.1 2 _ rfl)) λa E=>?_;rw[eb]at E;refine RH 1 E I hH hC λa E=>?_;refine SS E (ae E (ints_at hC.2 iP)) λa E=>?_;refine RH 0 E I hH hC λa E=>?_;refine CL 0 E I (XW I (eK _ iP) hb (λw' h=>hp w' h.sub)) λa w E I=>?_;replace hC:=hH.at w ⟨I.ai,I.ai⟩;refine RH 1 E I hH hC λa E=>?_;refine ST 0 E I (λa w E I=>?_) (hlt:=(by rw[dj];omega));rw[ints_set,show (λi=>if i=cF then mR b (g' bB) else g' i)=ck g' (cF) (mR b (g' bB)) from rfl]at I;refine RN 0 E I λa E=>?_;have fU:eu p fr b g' aO o=(ck g' (cF) (mR b (g' bB)),aO+1,true):=by
     rw[eu,ag (by omega),ag (by omega),ag (by omega),ag (by omega),dM,c8,jR,ag (by omega),ag (by omega),ak lS,eb,c8]
    rw[fU]at aS;exact⟨200-(n+1),by omega,n+1,aO+1,ck g' (cF) (mR b (g' bB)),⟨rfl,by omega,by omega,n2 eK (KC _ _),aS.symm⟩,E.ab [2,3,4,5,8,10,11,12],I.sub⟩
   refine IF 3 E I (λke a E=>?_) λke a E=>?_
   ·
    refine RN 0 E I λa E=>?_;obtain⟨cF,dM,kg⟩:=kf (by omega) (by omega);obtain⟨bB,eb,iP⟩:=oY (by omega) (by omega) (by omega) (by omega) (by omega);have yG:=yr (g' bB);refine aV 0 (λw0 w'=>Rd w' eO 0 (dR o)∧Rd w' b5 0 (ints .i32 32 g')) [3,4,5,6,7,8] [0,2,3001,1003,1004,1005,1006,1007,1008,9,1010] E I λa w E I hH=>?_;have hC:=hH.at w ⟨I.ai,I.ai⟩;refine RH 2 E I hH hC λa E=>?_;refine QH E (λw hc=>ae E (hc.1 1 _ rfl)) hC λa E=>?_;rw[dM]at E;refine RH 0 E I hH hC λa E=>?_;refine SS E (ae E (hC.1 2 _ rfl)) λa E=>?_;rw[eb]at E;refine RH 1 E I hH hC λa E=>?_;refine SS E (ae E (ints_at hC.2 iP)) λa E=>?_;refine RH 0 E I hH hC λa E=>?_;refine CL 0 E I (KT I (eK _ iP)) λa w E I=>?_;replace hC:=hH.at w ⟨I.ai,I.ai⟩;refine RH 1 E I hH hC λa E=>?_;refine SS E (ae E (ints_at hC.2 yG)) λa E=>?_;refine RH 1 E I hH hC λa E=>?_;refine ST 0 E I (λa w E I=>?_) (hlt:=(by rw[dj];omega));rw[ints_set,show (λi=>if i=cF then g' (kO (g' bB)) else g' i)=ck g' (cF) (g' (kO (g' bB))) from rfl]at I;refine RN 0 E I λa E=>?_;have fU:eu p fr b g' aO o=(ck g' (cF) (g' (kO (g' bB))),aO+1,true):=by
     rw[eu,ag (by omega),ag (by omega),ag (by omega),ag (by omega),dM,c8,jR,ag (by omega),ag (by omega),ag (by omega),ak ke,eb,c8]
    rw[fU]at aS;exact⟨200-(n+1),by omega,n+1,aO+1,ck g' (cF) (g' (kO (g' bB))),⟨rfl,by omega,by omega,n2 eK (eK _ yG),aS.symm⟩,E.ab [2,3,4,5,8,10,11,12],I.sub⟩
   refine IF 3 E I (λwO a E=>?_) λwO a E=>?_
   ·
    refine RN 0 E I λa E=>?_;obtain⟨cF,dM,kg⟩:=kf (by omega) (by omega);obtain⟨bB,eb,iP⟩:=oY (by omega) (by omega) (by omega) (by omega) (by omega);have yG:=yr (g' cF);refine aV 0 (λw0 w'=>Rd w' eO 0 (dR o)∧Rd w' b5 0 (ints .i32 32 g')) [4,6,7,8] [0,5,3001,2,3003,3006,3007,3008,1004,9,1010] E I λa w E I hH=>?_;have hC:=hH.at w ⟨I.ai,I.ai⟩;refine RH 2 E I hH hC λa E=>?_;refine QH E (λw hc=>ae E (hc.1 1 _ rfl)) hC λa E=>?_;rw[dM]at E;refine RH 1 E I hH hC λa E=>?_;refine QH E (λw hc=>ae E (ints_at hc.2 kg)) hC λa E=>?_;refine QH E (λw hc=>ae E (hc.1 2 _ rfl)) hC λa E=>?_;rw[eb]at E;refine RH 1 E I hH hC λa E=>?_;refine QH E (λw hc=>ae E (ints_at hc.2 iP)) hC λa E=>?_;refine RH 0 E I hH hC λa E=>?_;refine CL 0 E I (KT I (eK _ kg)) λa w E I=>?_;replace hC:=hH.at w ⟨I.ai,I.ai⟩;refine RH 1 E I hH hC λa E=>?_;refine ST 0 E I (λa w E I=>?_) (hlt:=(by rw[dj];omega));rw[ints_set,show (λi=>if i=kO (g' cF) then g' bB else g' i)=ck g' (kO (g' cF)) (g' bB) from rfl]at I;refine RN 0 E I λa E=>?_;have fU:eu p fr b g' aO o=(ck g' (kO (g' cF)) (g' bB),aO+1,true):=by
     rw[eu,ag (by omega),ag (by omega),ag (by omega),ak wO,dM,c8,eb,c8]
    rw[fU]at aS;exact⟨200-(n+1),by omega,n+1,aO+1,ck g' (kO (g' cF)) (g' bB),⟨rfl,by omega,by omega,n2 eK (eK _ iP),aS.symm⟩,E.ab [2,3,4,5,8,10,11,12],I.sub⟩
   refine IF 3 E I (λts a E=>?_) λts a E=>?_
   ·
    refine RN 1 E I λa E=>?_;obtain⟨cF,dM,kg⟩:=kf (by omega) (by omega);obtain⟨bB,eb,iP⟩:=oY (by omega) (by omega) (by omega) (by omega) (by omega);have o0:=eK _ iP;have EO:=o0;simp only[ds]at EO;refine RN 5 E I λa E=>?_;rw[eb]at E;refine RN 1 E I λa E=>?_;refine SS E (ae E ((ints_at I.ai iP))) λa E=>?_;refine BY 2 E I (λjj a E=>?_) λjj a E=>?_
    ·
     refine RN 2 E I λa E=>?_;rw[eb]at E;refine RN 1 E I λa E=>?_;refine bw E (cw E rfl (s:=136)) (ae E ((ints_at I.ai iP))) rfl λa E=>?_;refine SX 0 E I (fR (by omega) (by omega)) λa E=>?_;refine IF 4 E I (λyC a E=>?_) λyC a E=>?_
     ·
      obtain⟨rn,lT⟩:∃ rn:Nat,g' bB=rn:=⟨(g' bB).toNat,by omega⟩;obtain⟨afN,afO,rfl,E0⟩:=I.bU adT (by omega);obtain⟨E1,wz⟩:∃ E1,(eg p.title 0)[rn]?=some E1:=⟨_,aD (by omega)⟩;refine RN 3 E I λa E=>?_;rw[eb]at E;refine RN 1 E I λa E=>?_;refine SS E (ae E ((ints_at I.ai iP))) λa E=>?_;rw[lT]at E;refine RN 1 E I λa E=>?_;refine SS E (ae E ((E0 rn _ (KR wz)))) λa E=>?_;refine RN 1 E I λa E=>?_;have p3:nm p.title (g' bB)=E1.1:=by rw[nm,ak (by omega),lT,c8,wz];rfl
      rw[← p3]at E;refine RN 2 E I λa E=>?_;rw[dM]at E;refine ST 2 E I (λa w E I=>?_) (hlt:=(by rw[dj];omega));rw[ints_set,show (λi=>if i=cF then nm p.title (g' bB) else g' i)=ck g' cF (nm p.title (g' bB)) from rfl]at I;refine RN 0 E I λa E=>?_;have fU:eu p fr b g' aO o=(ck g' cF (nm p.title (g' bB)),aO+1,true):=by
       rw[eu,ag (by omega),ag (by omega),ag (by omega),ag (by omega),dM,c8,jR,ag (by omega),ag (by omega),ag (by omega),ag (by omega),ak ts,eb,c8]
      rw[fU]at aS;exact⟨200-(n+1),by omega,n+1,aO+1,ck g' cF (nm p.title (g' bB)),⟨rfl,by omega,by omega,n2 eK (KA _ _),aS.symm⟩,E.ab [2,3,4,5,8,10,11,12],I.sub⟩
     refine RN 0 E I λa E=>?_;have afP:True:=trivial;refine RN 2 E I λa E=>?_;rw[dM]at E;refine ST 2 E I (λa w E I=>?_) (hlt:=(by rw[dj];omega));rw[ints_set,show (λi=>if i=cF then 0 else g' i)=ck g' cF 0 from rfl]at I;refine RN 0 E I λa E=>?_;have fU:eu p fr b g' aO o=(ck g' cF 0,aO+1,true):=by
      rw[eu,ag (by omega),ag (by omega),ag (by omega),ag (by omega),dM,c8,jR,ag (by omega),ag (by omega),ag (by omega),ag (by omega),ak ts,eb,c8,nm,ak (by omega),jt (by omega)];rfl
     rw[fU]at aS;exact⟨200-(n+1),by omega,n+1,aO+1,ck g' cF 0,⟨rfl,by omega,by omega,n2 eK (by simp[ds]),aS.symm⟩,E.ab [2,3,4,5,8,10,11,12],I.sub⟩
    refine RN 12 E I λa E=>?_;rw[dM]at E;refine ST 2 E I (λa w E I=>?_) (hlt:=(by rw[dj];omega));rw[ints_set,show (λi=>if i=cF then 0 else g' i)=ck g' cF 0 from rfl]at I;refine RN 0 E I λa E=>?_;have fU:eu p fr b g' aO o=(ck g' cF 0,aO+1,true):=by
     rw[eu,ag (by omega),ag (by omega),ag (by omega),ag (by omega),dM,c8,jR,ag (by omega),ag (by omega),ag (by omega),ag (by omega),ak ts,eb,c8,nm,ag (by omega)]
    rw[fU]at aS;exact⟨200-(n+1),by omega,n+1,aO+1,ck g' cF 0,⟨rfl,by omega,by omega,n2 eK (by simp[ds]),aS.symm⟩,E.ab [2,3,4,5,8,10,11,12],I.sub⟩
   refine IF 3 E I (λwP a E=>?_) λwP a E=>?_
   ·
    refine RN 0 E I λa E=>?_;obtain⟨cF,dM,kg⟩:=kf (by omega) (by omega);refine aV 0 (λw0 w'=>Rd w' eO 0 (dR o)∧Rd w' b5 0 (ints .i32 32 g')) [3] [0,2,3001,1003,4,1005] E I λa w E I hH=>?_;have hC:=hH.at w ⟨I.ai,I.ai⟩;refine RH 2 E I hH hC λa E=>?_;refine QH E (λw hc=>ae E (hc.1 1 _ rfl)) hC λa E=>?_;rw[dM]at E;refine RH 0 E I hH hC λa E=>?_;refine CL 0 E I (yO I (by omega) (by omega)) λa w E I=>?_;replace hC:=hH.at w ⟨I.ai,I.ai⟩;refine RH 1 E I hH hC λa E=>?_;refine ST 0 E I (λa w E I=>?_) (hlt:=(by rw[dj];omega));rw[ints_set,show (λi=>if i=cF then iv fr else g' i)=ck g' (cF) (iv fr) from rfl]at I;refine RN 0 E I λa E=>?_;have fU:eu p fr b g' aO o=(ck g' (cF) (iv fr),aO+1,true):=by
     rw[eu,ag (by omega),ag (by omega),ag (by omega),ag (by omega),dM,c8,jR,ag (by omega),ag (by omega),ag (by omega),ag (by omega),ag (by omega),ak wP]
    rw[fU]at aS;exact⟨200-(n+1),by omega,n+1,aO+1,ck g' (cF) (iv fr),⟨rfl,by omega,by omega,n2 eK (yt _),aS.symm⟩,E.ab [2,3,4,5,8,10,11,12],I.sub⟩
   refine RN 0 E I λa E=>?_;obtain⟨cF,dM,kg⟩:=kf (by omega) (by omega);obtain⟨bB,eb,iP⟩:=oY (by omega) (by omega) (by omega) (by omega) (by omega);obtain⟨uG,pY,KU⟩:=rW (by omega) (by omega) (by omega) (by omega) (by omega) (by omega) (by omega) (by omega) (by omega) (by omega);refine aV 0 (λw0 w'=>Rd w' eO 0 (dR o)∧Rd w' b5 0 (ints .i32 32 g')) [3,5,6,7,9,10,11,12] [0,2,4,8,3001,3003,3005,3006,3007,1009,1010,1011,1012,13,1014] E I λa w E I hH=>?_;have hC:=hH.at w ⟨I.ai,I.ai⟩;refine RH 4 E I hH hC λa E=>?_;refine QH E (λw hc=>ae E (hc.1 1 _ rfl)) hC λa E=>?_;rw[dM]at E;refine RH 0 E I hH hC λa E=>?_;refine QH E (λw hc=>ae E (hc.1 0 _ rfl)) hC λa E=>?_;refine QH E (λw hc=>ae E (hc.1 2 _ rfl)) hC λa E=>?_;rw[eb]at E;refine RH 1 E I hH hC λa E=>?_;refine QH E (λw hc=>ae E (ints_at hc.2 iP)) hC λa E=>?_;refine RH 0 E I hH hC λa E=>?_;refine SS E (ae E (hC.1 3 _ rfl)) λa E=>?_;rw[pY]at E;refine RH 1 E I hH hC λa E=>?_;refine SS E (ae E (ints_at hC.2 KU)) λa E=>?_;refine RH 0 E I hH hC λa E=>?_;refine CL 0 E I (XY I (eK _ iP) (eK _ KU)) λa w E I=>?_;replace hC:=hH.at w ⟨I.ai,I.ai⟩;refine RH 1 E I hH hC λa E=>?_;refine ST 0 E I (λa w E I=>?_) (hlt:=(by rw[dj];omega));rw[ints_set,show (λi=>if i=cF then ji o.code (g' bB) (g' uG) else g' i)=ck g' (cF) (ji o.code (g' bB) (g' uG)) from rfl]at I;refine RN 0 E I λa E=>?_;have fU:eu p fr b g' aO o=(ck g' (cF) (ji o.code (g' bB) (g' uG)),aO+1,true):=by
    rw[eu,ag (by omega),ag (by omega),ag (by omega),ag (by omega),dM,c8,jR,ag (by omega),ag (by omega),ag (by omega),ag (by omega),ag (by omega),ag (by omega),eb,c8,pY,c8]
   rw[fU]at aS;exact⟨200-(n+1),by omega,n+1,aO+1,ck g' (cF) (ji o.code (g' bB) (g' uG)),⟨rfl,by omega,by omega,n2 eK (KB _ _ _),aS.symm⟩,E.ab [2,3,4,5,8,10,11,12],I.sub⟩
  refine SA 3 E I λa w E I=>?_;refine RT 1 E I ?_;rw[EM (by omega)]at u2;exact⟨_,by rw[← u2],by rw[← u2];exact eK,I.sub⟩
 refine SA 10 E I λa w E I=>?_;refine RT 1 E I ?_;rw[show 200-n=0 from by omega]at u2;exact⟨_,by rw[← u2];rfl,by rw[← u2];exact eK,I.sub⟩
theorem XZ {P:List (List UInt8)}{zs:List ee}(I:U W w (aA W p aq cO::L))(a6:dm p)(aH:p.title.size≤1000000000)(hg:dS g)(hP:P.length≤65536∧∀ b∈P,b.length≤1099511627776)(hz:zs.map (·.2.2)=P)(hf:-1099511627776≤fr∧fr≤1099511627776)(hp:∀ w',U W w' L→iM w' adP zs) :
   Calls prog 116 #[.agg (bO p aq cO).toArray,.agg (ints .i32 32 g).toArray,.int .i64 fr,.slice adP P.length cP] w λe w'=>e=.returned (.agg (ints .i32 32 (foldI p fr g P)).toArray)∧dS (foldI p fr g P)∧U W w' (aA W p aq cO::L):=by
 have iL:zs.length=P.length:=by rw[← hz,a8]
 have tB:=hP.1;refine EN func116 ntmps116 rfl rfl λa E=>?_;refine BX 1 E I λb4 a w E I=>?_;change U W w (aa b4 45 (bO p aq cO)::_) at I;refine BX 0 E I λb5 a w E I=>?_;change U W w (aa b5 49 (ints .i32 32 g)::_) at I;refine AL 0 E I λb8 a w E I=>?_;change U W w (aa b8 49 (ints .i32 32 (λ_=>0))::_) at I;refine RN 3 E I λa E=>?_;refine aN (λμ a w=>∃ (i:Nat) (g':Nat→Int),(μ=P.length-i∧i≤P.length∧dS g'∧foldI p fr g P=foldI p (fr+i) g' (P.drop i))∧Fr a 33 [(2,.int .i64 fr),(3,.slice adP P.length cP),(4,pt b4),(5,pt b5),(8,pt b8),(9,.int .i64 i)]∧U W w (aa b5 49 (ints .i32 32 g')::aa b4 45 (bO p aq cO)::aa b8 49 (ints .i32 32 (λ_=>0))::aA W p aq cO::L)) (P.length) (⟨0,g,⟨by simp,by simp,hg,by simp⟩,E.ab [2,3,4,5,8,9],I.sub⟩) ?_;clear E I;rintro μ a w ⟨i,g',⟨rfl,hi,eK,mj⟩,E,I⟩;refine IF 6 E I (λaj a E=>?_) λaj a E=>?_
 ·
  have kQ:zs[i]?=some (zs[i]'(by omega)):=aD (by omega);obtain⟨z,mo⟩:∃ z,zs[i]'(by omega)=z:=⟨_,rfl⟩;rw[mo]at kQ;have Bg:P[i]?=some z.2.2:=by rw[← hz,bl,kQ];rfl
  have fJ:=hp _ (I.sub (M:=L));obtain⟨bp,op,g6,c9⟩:=fJ.1 (by omega);have cn:∀ w',U W w' L→w'.cell? ⟨bp,op+i,none⟩=some (aM z):=λw' h=>by
   obtain⟨b',o',h1,h2⟩:=(hp w' h).1 (by omega);rw[g6]at h1;cases h1;exact h2 i _ (by rw[bl,kQ];rfl)
  clear c9 fJ;have KV:∀ w',U W w' L→aX w' z.1 z.2.2.length z.2.2:=λw' h=>(hp w' h).2 z (bF kQ);have E2:foldI p fr g P=foldI p (fr+(i+1:Nat)) (e7 p (fr+i) z.2.2 g') (P.drop (i+1)):=by
   rw[mj,kH (by omega),foldI];have:P[i]'(by omega)=z.2.2:=by rw[aD (by omega)]at Bg;exact p4 Bg
   rw[this]
   congr 1
   omega
  refine RN 1 E I λa E=>?_;refine cc (M:=λa w=>∃ kK:Nat,dS (e7 p (fr+i) z.2.2 g')∧Fr a 33 [(2,.int .i64 fr),(3,.slice adP P.length cP),(4,pt b4),(5,pt b5),(8,pt b8),(9,.int .i64 i),(10,pt kK)]∧U W w (aa kK 49 (ints .i32 32 (e7 p (fr+i) z.2.2 g'))::aa b5 49 (ints .i32 32 g')::aa b4 45 (bO p aq cO)::aa b8 49 (ints .i32 32 (λ_=>0))::aA W p aq cO::L)) ?_ ?_
  ·
   refine aV 0 (λw0 w'=>Rd w' b4 0 (bO p aq cO)∧Rd w' b5 0 (ints .i32 32 g')∧w'.cell? ⟨bp,op+i,none⟩=some (aM z)) [1,8,13] [2,3,4,5,6,7,3000,3001,3008,2009,10,11,12,1013,1014,15] E I λa w E I hH=>?_;have hC:=hH.at w ⟨I.ai,I.ai,cn _ I.sub⟩;refine RH 5 E I hH hC λa E=>?_;rw[g6]at E;refine RH 1 E I hH hC λa E=>?_;refine QH E (λw hc=>bT E underlying45 rfl Ty.t45 (hc.1)) hC λa E=>?_;refine QH E (λw hc=>bT E underlying49 rfl Ty.t49 (hc.2.1)) hC λa E=>?_;refine QH E (λw hc=>ae E (hc.2.2)) hC λa E=>?_;refine RH 0 E I hH hC λa E=>?_;refine DN [(9,[10,11,12,1013,1014,15]),(13,[1009,10,11,12,1014,15])] (by kernel_rfl) rfl ⟨⟨_,rfl,?_⟩,⟨_,rfl,?_⟩,trivial⟩
   ·
    refine RH 0 E I hH hC λa E=>?_;refine bh 0 E I (EZ (I.pick (aA W p aq cO)) a6 aH eK (hP.2 _ (bF Bg)) (by omega) (λw' h=>KV w' h.sub)) λtu a w E ⟨bA,I⟩=>?_;refine RN 3 E I λa E=>?_;refine eZ E rfl I Ty.t49 rfl λkK a w E I ho=>?_;clear ho;replace hC:=hH.at w ⟨I.ai,I.ai,cn _ I.sub⟩;change U W w (aa kK 49 (ints .i32 32 (λ_=>0))::_) at I;refine RH 0 E I hH hC λa E=>?_;refine SA 0 E I λa w E I=>?_;refine RN 1 E I λa E=>?_;rw[← g6]at E;exact⟨_,bA,E.ab [2,3,4,5,8,9,10],I.sub⟩
   refine RH 0 E I hH hC λa E=>?_;refine eZ E rfl I Ty.t49 rfl λkK a w E I ho=>?_;clear ho;replace hC:=hH.at w ⟨I.ai,I.ai,cn _ I.sub⟩;change U W w (aa kK 49 (ints .i32 32 (λ_=>0))::_) at I;refine RH 0 E I hH hC λa E=>?_;refine bh 0 E I (EZ (I.pick (aA W p aq cO)) a6 aH eK (hP.2 _ (bF Bg)) (by omega) (λw' h=>KV w' h.sub)) λtu a w E ⟨bA,I⟩=>?_;refine SA 3 E I λa w E I=>?_;refine RN 1 E I λa E=>?_;rw[← g6]at E;exact⟨_,bA,E.ab [2,3,4,5,8,9,10],I.sub⟩
  clear E;(try clear I);rintro a w ⟨kK,bA,E,I⟩;refine SA 1 E I λa w E I=>?_;refine RN 3 E I λa E=>?_;exact⟨P.length-(i+1),by omega,i+1,_,⟨rfl,by omega,bA,E2⟩,E.ab [2,3,4,5,8,9],I.sub⟩
 refine RN 1 E I λa E=>?_;obtain rfl:i=P.length:=by omega
 rw[List.drop_length,foldI]at mj;refine SA 1 E I λa w E I=>?_;refine RT 0 E I ?_;exact⟨by rw[mj],by rw[mj];exact eK,I.sub⟩
end
end
section
section
variable {P:Program}{a:Act}{w:World}{n:Nat}{l:List (Nat×Value)}
theorem KW {x y i j t u dst ty ps af g}(E:Fr a n l)[e:Ev l x (.string i)][f:Ev l y (.string j)] :
   (execOp a.eval ⟨dst,.binOp .neq t x y u,ty,ps,af,g⟩).run P w=.ok (.value (.bool (!(i.data.toList==j.data.toList)))) w:=by
 simp[execOp,e.ev a n E,f.ev a n E,eqGuard,binOp,Op.stringOp,ByteArray.toList_eq]
end
end
section
abbrev afQ:=Option Addr×Nat×List ee
end
section
section
theorem X0 {u v:List (List UInt8)}:pQ u v=true↔u.take (min u.length v.length)=v.take (min u.length v.length):=by simp[pQ]
end
end
section
abbrev Kx:=Wk×Nat
def e9 (p:Pr)(aq:Option Addr)(cO tq jq sq:Nat)(x:Kx):SP:=aa x.2 247 (cx p aq cO tq jq sq x.1)
def gW (ks:List Kx):List Value:=ks.map λx=>pt x.2
theorem KX {ks:List Kx}{i:Nat}{k:Wk}{wb:Nat}(h:ks[i]?=some (k,wb)):(gW ks)[i]?=some (pt wb):=by rw[gW,bl,h];rfl
theorem KY {ks:List Kx}{i:Nat}{k k':Wk}{wb:Nat}(h:ks[i]?=some (k,wb)):gW (ks.set i (k',wb))=gW ks:=by
 have hi:=(aY.1 h).1;apply ext_getElem?;intro j;simp only[gW,bl,jO];by_cases hj:i=j
 ·subst hj;rw[ak rfl,ak hi,h];rfl
 ·rw[ag hj]
theorem wW {ks:List Kx}{i:Nat}{k k':Wk}{wb:Nat}(h:ks[i]?=some (k,wb)):(ks.map (·.1)).Perm (k::(ks.eraseIdx i).map (·.1))∧((ks.set i (k',wb)).map (·.1)).Perm (k'::(ks.eraseIdx i).map (·.1)):=by
 obtain⟨hi,he⟩:=aY.1 h;have h1:=(sY ks hi).map (·.1);rw[map_cons,he]at h1;have h2:=(sY (ks.set i (k',wb)) (by simpa using hi)).map (·.1);rw[map_cons,oH,eraseIdx_set_eq]at h2;exact⟨h1,h2⟩
section
variable {W w:World}{L:List SP}{tq jq sq r wb i cO n base:Nat}{aq:Option Addr}{A:Sn}{T:Tr}{J:Js}{k:Wk}{p:Pr}{x:Br}{px:aC}{ks:List Kx}{t:Nat→Nat}
theorem U.KZ (I:U W w (ah (e9 p aq cO tq jq sq) ks::L))(hk:ks[i]?=some (k,wb)):U W w (aa wb 247 (cx p aq cO tq jq sq k)::ah (e9 p aq cO tq jq sq) (ks.eraseIdx i)::L):=by
 obtain⟨hi,he⟩:=aY.1 hk;have:=I.fy hi;rw[he]at this;exact this
theorem U.E3 {k':Wk}(I:U W w (aa wb 247 (cx p aq cO tq jq sq k')::ah (e9 p aq cO tq jq sq) (ks.eraseIdx i)::L))(hk:ks[i]?=some (k,wb)):U W w (ah (e9 p aq cO tq jq sq) (ks.set i (k',wb))::L) :=
 U.kZ (f:=e9 p aq cO tq jq sq) (x:=(k',wb)) (aY.1 hk).1 I
theorem X1 {F:Int}{g0:Nat→Int}(I:U W w (ah (e9 p aq cO tq jq sq) ks::Tree tq sq T::ax sq r A::bI jq J::aA W p aq cO::L))(hk:ks[i]?=some (k,wb))(hI:Inv p F g0 t base A T (ks.map (·.1)))
   (hF:0≤F∧F≤1099511627776) (hp:dm p) (hz:p.title.size≤1000000000) (hn:A.n+1<1099511627776) (kP:J.length≤16) :
   Calls prog 102 #[pt wb] w λe w'=>∃ (z:Bool) (A':Sn) (T':Tr) (J':Js) (k':Wk),e=.returned (.bool z)∧(lN p A T J k z A' T' J' k'∧Inv p F g0 t base A' T' ((ks.set i (k',wb)).map (·.1))∧AV A T J A' T' J') ∧
    U W w' (ah (e9 p aq cO tq jq sq) (ks.set i (k',wb))::Tree tq sq T'::ax sq r A'::bI jq J'::aA W p aq cO::L):=by
 have hA:=(ax.facts (I.store sq)).1;have hT:=Tree.wt (I.tree tq);have X2:k∈ks.map (·.1):=cR.2 ⟨_,bF hk,rfl⟩;have h1:=I.KZ hk;refine (XE (L:=ah (e9 p aq cO tq jq sq) (ks.eraseIdx i)::L) (h1.sub (M:=aa wb 247 (cx p aq cO tq jq sq k)::Tree tq sq T::ax sq r A::bI jq J::aA W p aq cO::ah (e9 p aq cO tq jq sq) (ks.eraseIdx i)::L)) (hI.ready X2 hF hp hz hn kP)).mono λe w' ⟨z,A',T',J',k',he,hb,I⟩=>?_;refine⟨z,A',T',J',k',he,⟨hb,((hI.wM (wW (k':=k') hk).1).bit hA hT hb).wM (wW (k':=k') hk).2.symm,hb.Wy⟩,?_⟩;have h2:=U.E3 (i:=i) (ks:=ks) (k:=k) (k':=k') (I.sub (M:=aa wb 247 (cx p aq cO tq jq sq k')::ah (e9 p aq cO tq jq sq) (ks.eraseIdx i)::Tree tq sq T'::ax sq r A'::bI jq J'::aA W p aq cO::L)) hk;exact h2
theorem X3 {F:Int}{g0:Nat→Int}(I:U W w (ah (e9 p aq cO tq jq sq) ks::ax sq r A::L))(hk:ks[i]?=some (k,wb))(hI:Inv p F g0 t base A T (ks.map (·.1))) :
   Calls prog 145 #[pt wb] w λe w'=>∃ (A':Sn) (k':Wk),e=.returned (.bool k.busy)∧(k'.busy=false∧Inv p F g0 t base A' T ((ks.set i (k',wb)).map (·.1))∧A'.room=A.room∧A'.n=A.n) ∧
    U W w' (ah (e9 p aq cO tq jq sq) (ks.set i (k',wb))::ax sq r A'::L):=by
 have hA:=(ax.facts (I.store sq)).1;have h1:=I.KZ hk;cases hb:k.busy with
 | false =>
  refine (KI h1 hb).mono λe w' ⟨he,I⟩=>⟨A,k,he,⟨hb,(hI.wM (wW (k':=k) hk).1).wM (wW (k':=k) hk).2.symm,rfl,rfl⟩,?_⟩;exact U.E3 (i:=i) (ks:=ks) (k:=k) (k':=k) I hk
 | true =>
  refine (yJ (L:=ah (e9 p aq cO tq jq sq) (ks.eraseIdx i)::L) (h1.sub (M:=aa wb 247 (cx p aq cO tq jq sq k)::ax sq r A::ah (e9 p aq cO tq jq sq) (ks.eraseIdx i)::L)) hb).mono λe w' ⟨he,I⟩=>?_;refine⟨A.eB k.x,{ k with busy:=false },he,⟨rfl,((hI.wM (wW (k':={ k with busy:=false }) hk).1).rest (k':={ k with busy:=false }) hA hb rfl rfl).wM (wW (k':={ k with busy:=false }) hk).2.symm,(oS A _).1,(oS A _).2.1⟩,?_⟩;exact U.E3 (i:=i) (ks:=ks) (k:=k) (k':={ k with busy:=false }) (I.sub (M:=aa wb 247 (cx p aq cO tq jq sq { k with busy:=false })::ah (e9 p aq cO tq jq sq) (ks.eraseIdx i)::ax sq r (A.eB k.x)::L)) hk
theorem X4 (I:U W w L):Calls prog 92 #[.agg (bO p aq cO).toArray,pt tq,pt jq,pt sq] w λe w' =>
   ∃ wb,e=.returned (pt wb)∧U W w' (aa wb 247 (cx p aq cO tq jq sq ld)::L):=by
 refine EN func92 ntmps92 rfl rfl λa E=>?_;refine BX 1 E I λb4 a w E I=>?_;change U W w (aa b4 45 (bO p aq cO)::_) at I;refine RN 3 E I λa E=>?_;change Fr a 15 ((9,.agg (List.toArray [.string p.title,.slice aq p.ops.length cO]))::_) at E;refine BX 4 E I λeO a w E I=>?_;change U W w (aa eO 247 (cx p aq cO tq jq sq ld)::_) at I;refine RT 1 E I ?_;exact⟨eO,rfl,I.sub⟩
theorem X5 {frm:Int}{ad2:Option Addr}{c2 id:Nat}{zs:List ee}{P:List (List UInt8)}(I:U W w (Tree tq sq T::ax sq r A::L))(hr:∀ w',U W w' L→iM w' ad2 zs)(hz:zs.map (·.2.2)=P)(hc:P.length≤c2)(dr:nX P)
   (hx:A.ar[i]?=some px) (b6:px.id=id) (hb:A.n+1<1099511627776) (hl:T.last+1<1099511627776) (hm:T.l.length<T.most) :
   Calls prog 306 #[pt tq,.int .i64 frm,.int .i64 id,.slice ad2 P.length c2] w λe w'=>∃ (z:Nat) (ok:Bool),e=.returned (.tuple #[.int .i64 z,.bool ok]) ∧
    ((ok=false∧(P=[]∨∃ y∈T.l,y.is frm P)∧U W w' (Tree tq sq T::ax sq r A::L)) ∨
     (ok=true∧z=T.last+1∧P≠[]∧(∀ y∈T.l,¬ y.is frm P)∧U W w' (Tree tq sq (T.add frm P (A.last+1))::ax sq r (A.add px.g px.p)::L))):=by
 subst b6;rcases lI P.length with h0 | h0
 ·have hP:=gG h0;exact (J4 I (.inr h0)).mono λe w' ⟨h1,I⟩=>⟨0,false,h1,.inl ⟨rfl,.inl hP,I⟩⟩
 ·have hP:P≠[]:=List.length_pos_iff.1 h0;by_cases hex:∃ y∈T.l,y.is frm P
  ·obtain⟨y,hy,wD⟩:=hex;obtain⟨j,hj⟩:=j7.1 hy;have X6:∀ w',U W w' (ax sq r A::L)→k6 w' ad2 P.length P:=λw' h=>by
    have:=(hr w' h.tail).bb;rw[hz]at this
    rwa [show zs.length=P.length from by rw[← hz,a8]]at this
   exact (VR I X6 hc dr hj wD).mono λe w' ⟨h1,I⟩=>⟨0,false,h1,.inl ⟨rfl,.inr ⟨y,hy,wD⟩,I⟩⟩
  ·have bQ:∀ y∈T.l,¬ y.is frm P:=λy hy h=>hex ⟨y,hy,h⟩;exact (VS I hr hz hc dr hx hb hl bQ hm h0).mono λe w' ⟨h1,I⟩=>⟨T.last+1,true,h1,.inr ⟨rfl,rfl,hP,bQ,I⟩⟩
end
end
section
section
variable {W w:World}{L:List SP}{sq r i:Nat}{A:Sn}{px:aC}
theorem X7 {id:Nat}(I:U W w (ax sq r A::L))(hx:A.ar[i]?=some px)(b6:px.id=id) :
   Calls prog 290 #[pt sq,.int .i64 id] w λe w'=>e=.returned (.tuple #[.agg (ints .i32 32 px.g).toArray,.bool true])∧U W w' (ax sq r A::L):=by
 subst b6;exact Vx I hx
set_option maxHeartbeats 4000000 in
end
end
section
section
variable {P:Program}{ops:Array Oper}{Q:Exit→Act→World→Prop}{a:Act}{w w' W:World}{K:Act→World→Prop}{n d:Nat}{l:List (Nat×Value)}{v:Value}{L R:List SP}
theorem g8 {s x t z sz a2 e ad k c ad2 m c2 news ty ps af g}{cs:List Value}(E:Fr a n l)(hw:Region.wanted ⟨some d,.call ⟨.builtin .append,#[s,x],#[t,t]⟩,ty,ps,af,g⟩ (yielded ops a.tmps)=true)(I:U W w L)
   (ht:P.underlying t=some (.slice e)) (hi:TI P e z sz a2) (hf:okB d n l=true) (hz:z.cells.size=sz) (hb:0<a2)
   [e1:Ev l s (.slice ad k c)] [pk:fS L ad k c e sz cs R] [e2:Ev l x (.slice ad2 m c2)] (hr:0<m→∃ b2 gS,ad2=some ⟨b2,gS,none⟩∧Rd w b2 gS news) (hl:news.length=m*sz) (h1:∀ v∈news,v.oneCell'=true)
   (aH:(k+m)*a2≤140737488355328)
   (h:∀ av c' a' w',Fr a' n ((d,.slice av (k+m) c')::l)→U W w' (Sl e sz av (k+m) c' (cs++news)::R)→K a' w') :
   cJ P ops Q ⟨some d,.call ⟨.builtin .append,#[s,x],#[t,t]⟩,ty,ps,af,g⟩ K a w:=by
 rcases lI m with h0 | h0
 ·subst h0;have rz:=(I.sl ad).2;obtain rfl:news=[]:=gG (by rw[hl,Nat.zero_mul]);refine Ds (ad:=ad) (k:=k) (c:=c) (ad2:=ad2) (c2:=c2) E hw ht hi hf rz λa' dh=>h ad c a' w dh ?_;rw[append_nil];exact I.perm pk.perm
 ·obtain⟨b2,gS,rfl,c9⟩:=hr h0;exact cQ E hw I ht hi hz hf c9 hl h1 h0 hb aH h
end
theorem U.E4 {W w:World}{L:List SP}{b e n:Nat}{cs:List Value}{l:List UInt8}(I:U W w (aa b e cs::L))(he:e=5)(hl:l.length=n)(h:cs=bc l):U W w (Sl 5 1 (some ⟨b,0,none⟩) n n (bc l)::L):=by
 subst h;subst he;have h2:U W w (aa b 5 ([]++bc l++[])::L):=by simpa using I
 exact U.iZ (pre:=[]) (post:=[]) (n:=n) (c:=n) (sz:=1) (cs:=bc l) h2 (by rw[dy,hl,fW]) (a7 _) (by simp)
theorem dU {bs:List UInt8}{i:Nat}(h:i<bs.length):(bc bs)[i]?=some (.int .u8 ((bs[i]).toNat:Int)):=by simp[bc,h]
theorem fM (a b:List UInt8):bc (a++b)=bc a++bc b:=by simp[bc]
theorem aX.get {w:World}{ad:Option Addr}{m:Nat}{bs:List UInt8}(h:aX w ad m bs)(h0:0<m):∃ b o,ad=some ⟨b,o,none⟩∧Rd w b o (bc bs):=by
 obtain⟨_,h2,h3⟩:=h;cases hh:ad with
 | none=>have:=h2 hh;omega
 | some a =>
  obtain⟨b,o,rfl,h1⟩:=h3 a hh h0;exact⟨b,o,rfl,h1⟩
theorem aX.rd {w:World}{b o m:Nat}{bs:List UInt8}(h:aX w (some ⟨b,o,none⟩) m bs)(h0:0<m):Rd w b o (bc bs):=by
 obtain⟨b',o',e,h1⟩:=h.get h0;cases e;exact h1
theorem aX.u3 {w:World}{ad:Option Addr}{bs:List UInt8}{c:Nat}(h:aX w ad bs.length bs){lo:Nat}(hl:lo≤bs.length)(hc:bs.length≤c):aX w (ft ad lo c 1) (bs.drop lo).length (bs.drop lo):=by
 refine⟨rfl,λe=>?_,λx hx h0=>?_⟩
 ·rw[c7];rcases lI (bs.length-lo) with h0 | h0
  ·exact h0
  ·obtain⟨b,o,rfl,_⟩:=h.get (by omega);rw[pE (by omega)]at e;cases e
 ·rw[c7]at h0;obtain⟨b,o,rfl,hr⟩:=h.get (by omega);rw[pE (by omega)]at hx;cases hx;refine⟨b,o+lo*1,rfl,λj v hj=>?_⟩;have h1:=hr (lo+j) v (by rw[bc,bl,← qw,← bl];exact hj)
  rwa [show o+lo*1+j=o+(lo+j) from by omega]
theorem aX.E5 {w:World}{ad:Option Addr}{bs:List UInt8}{m:Nat}(h:aX w ad m bs){hi:Nat}(hl:hi≤bs.length):aX w ad hi (bs.take hi):=by
 obtain⟨h1,h2,h3⟩:=h;refine⟨by rw[eA];omega,λe=>by have:=h2 e;omega,λx hx h0=>?_⟩;obtain⟨b,o,e,hr⟩:=h3 x hx (by omega);refine⟨b,o,e,λj v hj=>hr j v ?_⟩;rw[bc,map_take,vV]at hj;split at hj
 ·exact hj
 ·cases hj
theorem u4 (x:Nat):BitVec.ofInt IntKind.u32.bits (x:Int)=BitVec.ofNat 32 x:=BitVec.ofInt_natCast 32 x
theorem Bh (x:Nat):BitVec.ofInt IntKind.u64.bits (x:Int)=BitVec.ofNat 64 x:=BitVec.ofInt_natCast 64 x
theorem Bi {x y:Nat}(hx:x<4294967296)(hy:y<4294967296):IntKind.u32.wrap (((BitVec.ofInt IntKind.u32.bits (x:Int) ^^^ BitVec.ofInt IntKind.u32.bits (y:Int)).toNat:Nat):Int)=((x ^^^ y:Nat):Int):=by
 rw[u4,u4];show IntKind.u32.wrap (((BitVec.ofNat 32 x ^^^ BitVec.ofNat 32 y).toNat:Nat):Int)=_;rw[BitVec.toNat_xor,BitVec.toNat_ofNat,BitVec.toNat_ofNat,kY (show x<2 ^ 32 from hx),kY (show y<2 ^ 32 from hy),wrap_u32];have:=Nat.xor_lt_two_pow (n:=32) hx hy;omega
theorem X8 {x y:Nat}(hx:x<4294967296)(hy:y<4294967296):IntKind.u32.wrap (((BitVec.ofInt IntKind.u32.bits (x:Int) &&& BitVec.ofInt IntKind.u32.bits (y:Int)).toNat:Nat):Int)=((x &&& y:Nat):Int):=by
 rw[u4,u4];show IntKind.u32.wrap (((BitVec.ofNat 32 x &&& BitVec.ofNat 32 y).toNat:Nat):Int)=_;rw[BitVec.toNat_and,BitVec.toNat_ofNat,BitVec.toNat_ofNat,kY (show x<2 ^ 32 from hx),kY (show y<2 ^ 32 from hy),wrap_u32];have:x &&& y≤x:=Nat.and_le_left;omega
theorem K0 {x:Nat}(h:x<4294967296):IntKind.u32.wrap (((BitVec.ofInt IntKind.u32.bits (if IntKind.u32.signed then -1 else IntKind.u32.max) ^^^ BitVec.ofInt IntKind.u32.bits (x:Int)).toNat:Nat):Int)=((4294967295-x:Nat):Int):=by
 have e:BitVec.ofInt IntKind.u32.bits (if IntKind.u32.signed then -1 else IntKind.u32.max)=BitVec.allOnes 32:=by
  show BitVec.ofInt 32 IntKind.u32.max=_;decide
 rw[e,u4];show IntKind.u32.wrap (((BitVec.allOnes 32 ^^^ BitVec.ofNat 32 x).toNat:Nat):Int)=_;rw[BitVec.allOnes_xor,BitVec.toNat_not,BitVec.toNat_ofNat,wrap_u32];rw[kY (show x<2 ^ 32 from h)];omega
theorem X9 {x y:Nat}(hx:x<18446744073709551616)(hy:y<18446744073709551616):IntKind.u64.wrap (((BitVec.ofInt IntKind.u64.bits (x:Int) ||| BitVec.ofInt IntKind.u64.bits (y:Int)).toNat:Nat):Int)=((x ||| y:Nat):Int):=by
 rw[Bh,Bh];show IntKind.u64.wrap (((BitVec.ofNat 64 x ||| BitVec.ofNat 64 y).toNat:Nat):Int)=_;rw[BitVec.toNat_or,BitVec.toNat_ofNat,BitVec.toNat_ofNat,kY (show x<2 ^ 64 from hx),kY (show y<2 ^ 64 from hy),wrap_u64];have:=Nat.or_lt_two_pow (n:=64) hx hy;omega
theorem Ya {x y:Nat}(hx:x<18446744073709551616)(hy:y<18446744073709551616):IntKind.u64.wrap (((BitVec.ofInt IntKind.u64.bits (x:Int) &&& BitVec.ofInt IntKind.u64.bits (y:Int)).toNat:Nat):Int)=((x &&& y:Nat):Int):=by
 rw[Bh,Bh];show IntKind.u64.wrap (((BitVec.ofNat 64 x &&& BitVec.ofNat 64 y).toNat:Nat):Int)=_;rw[BitVec.toNat_and,BitVec.toNat_ofNat,BitVec.toNat_ofNat,kY (show x<2 ^ 64 from hx),kY (show y<2 ^ 64 from hy),wrap_u64];have:x &&& y≤x:=Nat.and_le_left;omega
theorem lk (b:UInt8):b.toNat<256:=b.toNat_lt
def p5 (x:Nat):Nat:=if x%2=1 then x/2 ^^^ 3988292384 else x/2
def lU:Nat→Nat→Nat
 | 0,y=>y
 | k+1,y=>p5 (lU k y)
def o2 (x:Nat)(b:UInt8):Nat:=lU 8 (x ^^^ b.toNat)
def nt (bs:List UInt8):Nat:=bs.foldl o2 4294967295
def gL (bs:List UInt8):Nat:=4294967295-nt bs
theorem Yb {x:Nat}(h:x<4294967296):p5 x<4294967296:=by
 unfold p5;split
 ·exact Nat.xor_lt_two_pow (n:=32) (by show x/2<4294967296;omega) (by decide)
 ·omega
theorem wX {x:Nat}(h:x<4294967296):∀ k,lU k x<4294967296
 | 0=>h
 | k+1=>Yb (wX h k)
theorem wY {x:Nat}(b:UInt8)(h:x<4294967296):o2 x b<4294967296:=by
 refine wX (Nat.xor_lt_two_pow (n:=32) h ?_) 8;have:=lk b;show b.toNat<4294967296;omega
theorem Yc (bs:List UInt8):∀ {x:Nat},x<4294967296→bs.foldl o2 x<4294967296:=by
 induction bs with
 | nil=>exact λh=>h
 | cons b bs ih=>exact λh=>ih (wY b h)
theorem wZ (bs:List UInt8):nt bs<4294967296:=Yc bs (by decide)
theorem yQ (bs:List UInt8):gL bs<4294967296:=by unfold gL;omega
theorem K1 {bs:List UInt8}{i:Nat}(h:i<bs.length):nt (bs.take (i+1))=o2 (nt (bs.take i)) bs[i]:=by
 rw[nt,jx h,foldl_append];rfl
theorem Yd {x:Nat}(h:x<4294967296):IntKind.u32.wrap (((BitVec.ofInt IntKind.u32.bits (x:Int) &&& BitVec.ofInt IntKind.u32.bits 1).toNat:Nat):Int)=((x%2:Nat):Int):=by
 have h1:=X8 (y:=1) h (by decide);rw[Nat.and_one_is_mod]at h1;exact h1
theorem Ye {m:Nat}(h:m<2):IntKind.u32.wrap (0-(m:Int))=((if m=1 then 4294967295 else 0:Nat):Int):=by
 rcases (by omega:m=0∨m=1) with rfl | rfl <;> decide
theorem Yf (m:Nat):IntKind.u32.wrap (((BitVec.ofInt IntKind.u32.bits 3988292384 &&& BitVec.ofInt IntKind.u32.bits ((if m=1 then 4294967295 else 0:Nat):Int)).toNat:Nat):Int)=((if m=1 then 3988292384 else 0:Nat):Int):=by
 by_cases h:m=1
 ·rw[ak h,ak h];decide
 ·rw[ag h,ag h];decide
theorem Yg {x m:Nat}(hx:x<4294967296):IntKind.u32.wrap (((BitVec.ofInt IntKind.u32.bits ((x/2:Nat):Int) ^^^ BitVec.ofInt IntKind.u32.bits ((if x%2=1 then 3988292384 else 0:Nat):Int)).toNat:Nat):Int)=((p5 x:Nat):Int):=by
 rw[Bi (by omega) (by split <;> decide),p5];split
 ·rfl
 ·rw[Nat.xor_zero]
theorem Yh {x:Nat}(hx:x<4294967296):IntKind.u32.wrap (((BitVec.ofInt IntKind.u32.bits ((x/2:Nat):Int) ^^^ BitVec.ofInt IntKind.u32.bits 3988292384).toNat:Nat):Int)=((x/2 ^^^ 3988292384:Nat):Int):=Bi (y:=3988292384) (by omega) (by decide)
def eL (x:Nat):List UInt8:=[UInt8.ofNat (x/16777216),UInt8.ofNat (x/65536),UInt8.ofNat (x/256),UInt8.ofNat x]
theorem Yi (n:Nat):IntKind.u8.wrap (n:Int)=((UInt8.ofNat n).toNat:Int):=by
 rw[wrap_u8,UInt8.toNat_ofNat'];omega
def p6 (x:Int):Nat:=(x%4294967296).toNat
theorem K2 (x:Int):IntKind.u32.wrap x=((p6 x:Nat):Int):=by rw[wrap_u32,p6];omega
def gx (g:Nat→Int):List UInt8:=(List.range 32).flatMap λi=>eL (p6 (g i))
def mq (g:Nat→Int)(n:Nat):List UInt8:=(List.range n).flatMap λi=>eL (p6 (g i))
theorem E6 (g:Nat→Int)(n:Nat):mq g (n+1)=mq g n++eL (p6 (g n)):=by simp[mq,range_succ]
theorem r0 (g:Nat→Int)(n:Nat):(mq g n).length=4*n:=by
 induction n with
 | zero=>rfl
 | succ n ih=>rw[E6,aJ,ih];simp[eL];omega
theorem u5 (g:Nat→Int):(gx g).length=128:=r0 g 32
section
variable {W w:World}{L:List SP}{n c m:Nat}{ad:Option Addr}{bs:List UInt8}
theorem Yj (I:U W w L)(hb:bs.length≤1099511627776)(hp:∀ w',U W w' L→aX w' ad bs.length bs) :
   Calls prog 205 #[.int .u32 0,.slice ad bs.length c] w λe w'=>e=.returned (.int .u32 (gL bs))∧U W w' L:=by
 refine EN func205 ntmps205 rfl rfl λa E=>?_;refine RN 6 E I λa E=>?_;rw[show IntKind.u32.wrap ((BitVec.ofInt IntKind.u32.bits (if IntKind.u32.signed then -1 else IntKind.u32.max) ^^^ BitVec.ofInt IntKind.u32.bits 0).toNat:Int)=((nt (bs.take 0):Nat):Int) from rfl]at E;refine RN 5 E I λa E=>?_;refine aN (λμ a w=>∃ (i:Nat),(μ=bs.length-i∧i≤bs.length)∧Fr a 33 [(5,.int .u32 (nt (bs.take i))),(10,.slice ad bs.length c),(11,.int .i64 bs.length),(12,.int .i64 i)]∧U W w L) (bs.length) (⟨0,⟨rfl,by omega⟩,E.ab [5,10,11,12],I⟩) ?_;clear E I;rintro μ a w ⟨i,⟨rfl,hi⟩,E,I⟩;refine IF 3 E I (λaj a E=>?_) λaj a E=>?_
 ·
  obtain⟨bb,oo,rfl,hr⟩:=(hp _ I).get (by omega);have aI:i<bs.length:=by omega
  have hx:=wZ (bs.take i);have qY:=lk bs[i];refine RN 3 E I λa E=>?_;refine SS E (ae E (hr i _ (dU aI))) λa E=>?_;refine SX 4 E I (by rw[wrap_u32];omega) λa E=>?_;refine RN 1 E I λa E=>?_;rw[Bi hx (by omega)]at E;refine RN 3 E I λa E=>?_;have hy:nt (bs.take i) ^^^ bs[i].toNat<4294967296:=Nat.xor_lt_two_pow (n:=32) hx (by show _<4294967296;omega);have kB:=K1 aI;rw[o2]at kB;generalize nt (bs.take i) ^^^ bs[i].toNat=y at E hy kB;refine aN (λμ a w=>∃ (k:Nat),(μ=8-k∧k≤8)∧Fr a 33 [(5,.int .u32 (lU k y)),(10,.slice (some ⟨bb,oo,none⟩) bs.length c),(11,.int .i64 bs.length),(12,.int .i64 i),(20,.int .i64 k)]∧U W w L) (8) (⟨0,⟨rfl,by omega⟩,E.ab [5,10,11,12,20],I⟩) ?_;clear E I;rintro μ a w ⟨k,⟨rfl,hk⟩,E,I⟩;refine IF 3 E I (λao a E=>?_) λao a E=>?_
  ·
   have Bj:=wX hy k;refine RN 3 E I λa E=>?_;rw[show ((lU k y:Nat):Int).fdiv (2 ^ 1)=((lU k y/2:Nat):Int) from lf _ 2]at E;refine RN 2 E I λa E=>?_;rw[Yd Bj]at E;refine RN 1 E I λa E=>?_;rw[Ye (Nat.mod_lt _ (by decide))]at E;refine RN 1 E I λa E=>?_;rw[Yf]at E;refine RN 1 E I λa E=>?_;rw[Yg (m:=0) Bj]at E;refine RN 3 E I λa E=>?_;exact⟨8-(k+1),by omega,k+1,⟨rfl,by omega⟩,E.ab [5,10,11,12,20],I⟩
  obtain rfl:k=8:=by omega
  rw[← kB]at E;refine RN 2 E I λa E=>?_;exact⟨bs.length-(i+1),by omega,i+1,⟨rfl,by omega⟩,E.ab [5,10,11,12],I⟩
 obtain rfl:i=bs.length:=by omega
 rw[k4]at E;refine RN 3 E I λa E=>?_;rw[K0 (wZ bs)]at E;refine RT 1 E I ?_;exact⟨rfl,I⟩
theorem K3 (I:U W w L)(hb:bs.length≤1099511627776)(hp:∀ w',U W w' L→aX w' ad bs.length bs) :
   Calls prog 176 #[.slice ad bs.length c] w λe w'=>e=.returned (.int .u32 (gL bs))∧U W w' L:=by
 refine EN func176 ntmps176 rfl rfl λa E=>?_;refine CL 4 E I (Yj I hb hp) λa w E I=>?_;refine RT 1 E I ?_;exact⟨rfl,I⟩
theorem K4 (I:U W w L)(hb:bs.length≤1099511627776)(hp:∀ w',U W w' L→aX w' ad bs.length bs) :
   Calls prog 154 #[.slice ad bs.length c] w λe w'=>e=.returned (.int .u32 (gL bs))∧U W w' L:=by
 refine EN func154 ntmps154 rfl rfl λa E=>?_;refine RN 7 E I λa E=>?_;refine aN (λμ a w=>∃ (i:Nat),(μ=bs.length-i∧i≤bs.length)∧Fr a 33 [(0,.slice ad bs.length c),(3,.int .u32 (nt (bs.take i))),(4,.int .i64 i)]∧U W w L) (bs.length) (⟨0,⟨rfl,by omega⟩,E.ab [0,3,4],I⟩) ?_;clear E I;rintro μ a w ⟨i,⟨rfl,hi⟩,E,I⟩;refine IF 6 E I (λaj a E=>?_) λaj a E=>?_
 ·
  obtain⟨bb,oo,rfl,hr⟩:=(hp _ I).get (by omega);have aI:i<bs.length:=by omega
  have hx:=wZ (bs.take i);have qY:=lk bs[i];refine RN 6 E I λa E=>?_;refine SS E (ae E (hr i _ (dU aI))) λa E=>?_;refine SX 0 E I (by rw[wrap_u32];omega) λa E=>?_;refine RN 1 E I λa E=>?_;rw[Bi hx (by omega)]at E;refine RN 3 E I λa E=>?_;have hy:nt (bs.take i) ^^^ bs[i].toNat<4294967296:=Nat.xor_lt_two_pow (n:=32) hx (by show _<4294967296;omega);have kB:=K1 aI;rw[o2]at kB;generalize nt (bs.take i) ^^^ bs[i].toNat=y at E hy kB;refine aN (λμ a w=>∃ (k:Nat),(μ=8-k∧k≤8)∧Fr a 33 [(0,.slice (some ⟨bb,oo,none⟩) bs.length c),(3,.int .u32 (lU k y)),(4,.int .i64 i),(5,.int .i64 k)]∧U W w L) (8) (⟨0,⟨rfl,by omega⟩,E.ab [0,3,4,5],I⟩) ?_;clear E I;rintro μ a w ⟨k,⟨rfl,hk⟩,E,I⟩;refine IF 4 E I (λao a E=>?_) λao a E=>?_
  ·
   have Bj:=wX hy k;have oT:lU (k+1) y=p5 (lU k y):=rfl;refine SX 3 E I (by decide) λa E=>?_;rw[show ((lU k y:Nat):Int).tmod 2=((lU k y%2:Nat):Int) from oG _ 2]at E;refine IF 1 E I (λay a E=>?_) λay a E=>?_
   ·
    rw[p5,ak (by omega)]at oT;refine RN 2 E I λa E=>?_;rw[show ((lU k y:Nat):Int).fdiv (2 ^ 1)=((lU k y/2:Nat):Int) from lf _ 2]at E;refine RN 1 E I λa E=>?_;rw[Yh Bj,← oT]at E;refine RN 4 E I λa E=>?_;exact⟨8-(k+1),by omega,k+1,⟨rfl,by omega⟩,E.ab [0,3,4,5],I⟩
   rw[p5,ag (by omega)]at oT;refine RN 2 E I λa E=>?_;rw[show ((lU k y:Nat):Int).fdiv (2 ^ 1)=((lU k y/2:Nat):Int) from lf _ 2,← oT]at E;refine RN 4 E I λa E=>?_;exact⟨8-(k+1),by omega,k+1,⟨rfl,by omega⟩,E.ab [0,3,4,5],I⟩
  obtain rfl:k=8:=by omega
  rw[← kB]at E;refine RN 3 E I λa E=>?_;exact⟨bs.length-(i+1),by omega,i+1,⟨rfl,by omega⟩,E.ab [0,3,4],I⟩
 obtain rfl:i=bs.length:=by omega
 rw[k4]at E;refine RN 3 E I λa E=>?_;rw[K0 (wZ bs)]at E;refine RT 1 E I ?_;exact⟨rfl,I⟩
theorem E7 {x:Nat}:[[Value.int .u8 (IntKind.u8.wrap ((x/16777216:Nat):Int))],[Value.int .u8 (IntKind.u8.wrap ((x/65536:Nat):Int))],[Value.int .u8 (IntKind.u8.wrap ((x/256:Nat):Int))],[Value.int .u8 (IntKind.u8.wrap ((x:Nat):Int))]].flatten=bc (eL x):=by
 simp only[Yi];rfl
theorem U.E8 {b:Nat}{cs:List Value}{l:List UInt8}{e:Nat}(I:U W w (aa b e cs::L))(he:e=5)(hl:l.length=4)(h:cs=bc l):U W w (Sl 5 1 (some ⟨b,0,none⟩) 4 4 (bc l)::L):=by
 subst h;subst he;have h2:U W w (aa b 5 ([]++bc l++[])::L):=by simpa using I
 exact U.iZ (pre:=[]) (post:=[]) (n:=4) (c:=4) (sz:=1) (cs:=bc l) h2 (by rw[dy,hl]) (a7 _) (Nat.zero_le _)
theorem K5 {x:Nat}(I:U W w L) :
   Calls prog 337 #[.int .u32 x] w λe w'=>∃ ad,e=.returned (.slice ad 4 4)∧U W w' (Sl 5 1 ad 4 4 (bc (eL x))::L):=by
 refine EN func337 ntmps337 rfl rfl λa E=>?_;refine RN 5 E I λa E=>?_;rw[show ((x:Nat):Int).fdiv (2 ^ 24)=((x/16777216:Nat):Int) from lf _ 16777216]at E;refine SS E (gr E underlying100 underlying5) λa E=>?_;refine RN 2 E I λa E=>?_;rw[show ((x:Nat):Int).fdiv (2 ^ 16)=((x/65536:Nat):Int) from lf _ 65536]at E;refine SS E (gr E underlying100 underlying5) λa E=>?_;refine RN 2 E I λa E=>?_;rw[show ((x:Nat):Int).fdiv (2 ^ 8)=((x/256:Nat):Int) from lf _ 256]at E;refine SS E (gr E underlying100 underlying5) λa E=>?_;refine RN 1 E I λa E=>?_;refine SS E (gr E underlying100 underlying5) λa E=>?_;refine RN 0 E I λa E=>?_;refine cp E rfl I underlying22 Ty.t5 rfl rfl rfl rfl (by decide) (by decide) λeO a w E I ho=>?_;clear ho;refine RT 1 E I ?_;exact⟨_,rfl,I.E8 rfl rfl E7⟩
theorem E9 {x:Nat}(I:U W w L) :
   Calls prog 158 #[.int .u32 x] w λe w'=>∃ ad,e=.returned (.slice ad 4 4)∧U W w' (Sl 5 1 ad 4 4 (bc (eL x))::L):=by
 refine EN func158 ntmps158 rfl rfl λa E=>?_;refine RN 5 E I λa E=>?_;rw[show ((x:Nat):Int).fdiv (2 ^ 24)=((x/16777216:Nat):Int) from lf _ 16777216]at E;refine SS E (gr E underlying100 underlying5) λa E=>?_;refine RN 2 E I λa E=>?_;rw[show ((x:Nat):Int).fdiv (2 ^ 16)=((x/65536:Nat):Int) from lf _ 65536]at E;refine SS E (gr E underlying100 underlying5) λa E=>?_;refine RN 2 E I λa E=>?_;rw[show ((x:Nat):Int).fdiv (2 ^ 8)=((x/256:Nat):Int) from lf _ 256]at E;refine SS E (gr E underlying100 underlying5) λa E=>?_;refine RN 1 E I λa E=>?_;refine SS E (gr E underlying100 underlying5) λa E=>?_;refine RN 0 E I λa E=>?_;refine cp E rfl I underlying22 Ty.t5 rfl rfl rfl rfl (by decide) (by decide) λeO a w E I ho=>?_;clear ho;refine RT 1 E I ?_;exact⟨_,rfl,I.E8 rfl rfl E7⟩
theorem Yk {x:Int}(I:U W w L) :
   Calls prog 206 #[.int .i32 x] w λe w'=>∃ ad,e=.returned (.slice ad 4 4)∧U W w' (Sl 5 1 ad 4 4 (bc (eL (p6 x)))::L):=by
 refine EN func206 ntmps206 rfl rfl λa E=>?_;refine RN 4 E I λa E=>?_;refine SS E (gr E underlying21 underlying100) λa E=>?_;rw[K2]at E;generalize p6 x=x at E ⊢;refine RN 4 E I λa E=>?_;rw[show ((x:Nat):Int).fdiv (2 ^ 24)=((x/16777216:Nat):Int) from lf _ 16777216]at E;refine SS E (gr E underlying100 underlying5) λa E=>?_;refine RN 2 E I λa E=>?_;rw[show ((x:Nat):Int).fdiv (2 ^ 16)=((x/65536:Nat):Int) from lf _ 65536]at E;refine SS E (gr E underlying100 underlying5) λa E=>?_;refine RN 2 E I λa E=>?_;rw[show ((x:Nat):Int).fdiv (2 ^ 8)=((x/256:Nat):Int) from lf _ 256]at E;refine SS E (gr E underlying100 underlying5) λa E=>?_;refine RN 1 E I λa E=>?_;refine SS E (gr E underlying100 underlying5) λa E=>?_;refine RN 0 E I λa E=>?_;refine cp E rfl I underlying22 Ty.t5 rfl rfl rfl rfl (by decide) (by decide) λiz a w E I ho=>?_;clear ho;refine RT 1 E I ?_;exact⟨_,rfl,I.E8 rfl rfl E7⟩
end
end
section
def nu:List UInt8→Nat→Nat→Option (Nat×Nat)
 | [],_,_=>none
 | c::cs,i,u =>
  if i=9∧1<c.toNat then none
  else if 127<c.toNat then nu cs (i+1) (u+c.toNat%128*128 ^ i)
  else if 0<i∧c.toNat=0 then none
  else some (u+c.toNat*128 ^ i,i+1)
def tC (bs:List UInt8):Option (Nat×Nat):=nu bs 0 0
def nv (u:Nat):Int:=if u%2=1 then -((u/2:Nat):Int)-1 else ((u/2:Nat):Int)
theorem Fa (n:Int):nv (zz n)=n:=by
 unfold nv zz;split <;> split <;> omega
theorem Fb {n:Int}(h1:-9223372036854775808≤n)(h2:n≤9223372036854775807):zz n<18446744073709551616:=by
 unfold zz;split <;> omega
theorem yR (i:Nat):128 ^ (i+1)=128 ^ i*128:=Nat.pow_succ ..
theorem Yl (r:List UInt8):∀ (v i u:Nat),v*128 ^ i<18446744073709551616→(i=0∨0<v)→i≤9→nu (aQ v++r) i u=some (u+v*128 ^ i,i+(aQ v).length):=by
 intro v
 induction v using Nat.strongRecOn with
 | _ v ih =>
  intro i u hv h0 hi;by_cases I:v≤127
  ·rw[qR I];have hb:(UInt8.ofNat v).toNat=v:=by rw[UInt8.toNat_ofNat'];omega
   simp only[cons_append,nil_append,nu,hb,jF];have h9:¬ (i=9∧1<v):=by
    rintro⟨r4,h⟩;rw[r4]at hv;have:v*128 ^ 9 ≥ 2*128 ^ 9:=oy _ h;have h9':(128:Nat) ^ 9=9223372036854775808:=by decide
    omega
   rw[ag h9,ag (by omega),ag (by omega)]
  ·rw[wN I];have hb:(UInt8.ofNat (v%128+128)).toNat=v%128+128:=by rw[UInt8.toNat_ofNat'];omega
   simp only[cons_append,nu,hb,eH];have hle:128 ^ (i+1)≤v*128 ^ i:=by rw[yR,Nat.mul_comm];exact oy _ (by omega)
   have r4:i+1≤9:=by
    rcases gR i 9 with h | h
    ·omega
    ·have:128 ^ 10≤128 ^ (i+1):=Nat.pow_le_pow_right (by decide) (by omega);have fg:(128:Nat) ^ 10=1180591620717411303424:=by decide
     omega
   have hdv:v/128*128 ^ (i+1)+v%128*128 ^ i=v*128 ^ i:=by
    rw[yR,show v/128*(128 ^ i*128)=128*(v/128)*128 ^ i from by rw[Nat.mul_comm (128 ^ i),← Nat.mul_assoc,Nat.mul_comm (v/128)],← Nat.add_mul,Nat.div_add_mod]
   rw[ag (by omega),ak (by omega),ih (v/128) (by omega) (i+1) _ (by omega) (.inr (by omega)) r4];rw[show (v%128+128)%128=v%128 from by omega]
   congr 2
   ·omega
   ·omega
theorem Bk {n:Int}(h1:-9223372036854775808≤n)(h2:n≤9223372036854775807)(r:List UInt8):tC (aQ (zz n)++r)=some (zz n,(aQ (zz n)).length):=by
 have:=Yl r (zz n) 0 0 (by have:=Fb h1 h2;omega) (.inl rfl) (by decide);simpa [tC] using this
theorem K6:∀ (bs:List UInt8) (i u:Nat) {v k:Nat},i≤9→u<128 ^ i→nu bs i u=some (v,k)→v<18446744073709551616∧i+1≤k∧k≤i+bs.length∧k≤10
 | [],_,_,_,_,_,_,h=>by cases h
 | c::cs,i,u,v,k,hi,hu,h=>by
  rw[nu]at h;have hc:=lk c;have hp:128 ^ i≤128 ^ 9:=Nat.pow_le_pow_right (by decide) hi;have h9:(128:Nat) ^ 9=9223372036854775808:=by decide
  split at h
  ·cases h
  rename_i n9;split at h
  ·rename_i hb;have hm:c.toNat%128*128 ^ i≤127*128 ^ i:=oy _ (by omega);have:=K6 cs (i+1) _ (by omega) (by rw[yR];omega) h;simp only[eH];omega
  ·rename_i hb;split at h
   ·cases h
   ·obtain⟨rfl,rfl⟩:u+c.toNat*128 ^ i=v∧i+1=k:=by simpa using h
    simp only[eH];refine⟨?_,by omega,by omega,by omega⟩;rcases gR i 9 with h8 | h8
    ·have hp8:128 ^ i≤128 ^ 8:=Nat.pow_le_pow_right (by decide) (by omega);have h88:(128:Nat) ^ 8=72057594037927936:=by decide
     have hm:c.toNat*128 ^ i≤127*128 ^ i:=oy _ (by omega);omega
    ·have:i=9:=by omega
     subst this;have hm:c.toNat*128 ^ 9≤1*128 ^ 9:=oy _ (by omega);omega
theorem Fc {bs:List UInt8}{v k:Nat}(h:tC bs=some (v,k)):v<18446744073709551616∧1≤k∧k≤bs.length∧k≤10:=by
 have:=K6 bs 0 0 (by decide) (by decide) h;omega
def mv (bs:List UInt8)(x:Int)(k:Nat)(er:Int):Prop :=
 (-9223372036854775808≤x∧x≤9223372036854775807)∧(er=0∨er=1∨er=2)∧(er=0→1≤k∧k≤bs.length)∧(er≠0→k=0∧x=0) ∧
 ∀ (n:Int) (r:List UInt8), -9223372036854775808≤n→n≤9223372036854775807→bs=aQ (zz n)++r→x=n∧k=(aQ (zz n)).length∧er=0
theorem mv.bad {bs:List UInt8}{er:Int}(h:tC bs=none)(he:er=1∨er=2):mv bs 0 0 er:=by
 refine⟨by omega,by omega,by omega,λ_=>⟨rfl,rfl⟩,λn r h1 h2 e=>?_⟩;rw[e,Bk h1 h2]at h;cases h
theorem mv.K7 {bs:List UInt8}{u k:Nat}(h:tC bs=some (u,k)):mv bs (nv u) k 0:=by
 have hb:=Fc h;refine⟨?_,by omega,by omega,by omega,λn r h1 h2 e=>?_⟩
 ·unfold nv;split <;> omega
 ·rw[e,Bk h1 h2]at h;obtain⟨rfl,rfl⟩:zz n=u∧(aQ (zz n)).length=k:=by simpa using h
  exact⟨Fa n,rfl,rfl⟩
def runN (x:UInt8):List UInt8→Nat
 | []=>0
 | y::ys=>if y=x then runN x ys+1 else 0
theorem yS (x:UInt8):∀ l:List UInt8,runN x l≤l.length
 | []=>a7 _
 | y::ys=>by
  have:=yS x ys;rw[runN];split <;> simp only[eH] <;> omega
def dA (l:List UInt8)(last:UInt8):List UInt8:=match l with
 | []=>[]
 | x::xs=>aQ (zz ((runN x xs+1:Nat):Int))++(x ^^^ last)::dA (xs.drop (runN x xs)) x
termination_by l.length
decreasing_by simp only[c7,eH];omega
theorem w1 (last:UInt8):dA [] last=[]:=by rw[dA]
theorem tD (x:UInt8)(xs:List UInt8)(last:UInt8):dA (x::xs) last=aQ (zz ((runN x xs+1:Nat):Int))++(x ^^^ last)::dA (xs.drop (runN x xs)) x:=by rw[dA]
theorem Bl (x:UInt8):∀ l:List UInt8,l.take (runN x l)=List.replicate (runN x l) x
 | []=>rfl
 | y::ys=>by
  rw[runN];split
  ·rename_i h;subst h;rw[take_succ_cons,Bl y ys,List.replicate_succ]
  ·rfl
theorem K8 (x:UInt8):∀ (l:List UInt8) (y:UInt8) (r:List UInt8),l.drop (runN x l)=y::r→y≠x
 | [],_,_,h=>by simp[runN]at h
 | z::zs,y,r,h=>by
  rw[runN]at h;split at h
  ·exact K8 x zs y r h
  ·rename_i hn;rw[drop_zero]at h;cases h;exact hn
theorem Ym {x:UInt8}{l:List UInt8}{n:Nat}(h1:∀ i,i<n→l[i]?=some x)(h2:l[n]?≠some x):runN x l=n:=by
 induction l generalizing n with
 | nil =>
  cases n with
  | zero=>rfl
  | succ n=>have:=h1 0 (by omega);simp at this
 | cons y ys ih =>
  cases n with
  | zero =>
   rw[runN,ag];intro e;subst e;simp at h2
  | succ n =>
   have h0:=h1 0 (by omega);simp at h0;rw[runN,ak h0,ih (n:=n) (λi hi=>by have:=h1 (i+1) (by omega);simpa using this) (by simpa using h2)]
theorem yT (l:List UInt8):∀ last,(dA l last).length≤11*l.length:=by
 induction hn:l.length using Nat.strongRecOn generalizing l with
 | _ n ih =>
  intro last;cases l with
  | nil=>rw[w1];simp
  | cons x xs =>
   rw[tD,aJ,eH];have h1:=yS x xs;subst hn;simp only[eH];by_cases hb:xs.length<4611686018427387904
   ·have h2 := qS 9 (zz ((runN x xs + 1 : Nat) : Int)) (by
     have:zz ((runN x xs+1:Nat):Int)=2*(runN x xs+1):=by unfold zz;rw[ag (by omega)];omega
     rw[this];have fg:(128:Nat) ^ (9+1)=1180591620717411303424:=by decide
     omega)
    have h3:=ih (xs.drop (runN x xs)).length (by simp only[c7,eH];omega) (xs.drop (runN x xs)) rfl x;simp only[c7]at h3;omega
   ·have h2 : (aQ (zz ((runN x xs + 1 : Nat) : Int))).length ≤ runN x xs + 10 := by
     have:∀ u,(aQ (2*(u+1))).length≤u+10:=by
      intro u
      induction u using Nat.strongRecOn with
      | _ u ih =>
       by_cases h:2*(u+1)≤127
       ·rw[qR h];simp
       ·rw[wN h,eH];by_cases h2:2*(u+1)/128≤127
        ·rw[qR h2];simp
        ·have hq : ∀ v, (aQ v).length ≤ v + 1 := by
          intro v
          induction v using Nat.strongRecOn with
          | _ v Yn =>
           by_cases h3:v≤127
           ·rw[qR h3];simp
           ·rw[wN h3,eH];have:=Yn (v/128) (by omega);omega
         have:=hq (2*(u+1)/128);omega
     have hz:zz ((runN x xs+1:Nat):Int)=2*(runN x xs+1):=by unfold zz;rw[ag (by omega)];omega
     rw[hz];exact this _
    have h3:=ih (xs.drop (runN x xs)).length (by simp only[c7,eH];omega) (xs.drop (runN x xs)) rfl x;simp only[c7]at h3;omega
theorem Bm (a b:UInt8):b ^^^ (a ^^^ b)=a:=by rw[UInt8.xor_comm,UInt8.xor_assoc,UInt8.xor_self,UInt8.xor_zero]
theorem Yo {a b:UInt8}(h:(a ^^^ b).toNat=0):a=b:=by
 have h0:a ^^^ b=0:=UInt8.toNat_inj.1 (by simpa using h);have:=Bm a b;rw[h0,UInt8.xor_zero]at this;exact this.symm
def mY (p out:List UInt8)(last:UInt8)(rest:List UInt8):Prop:=∃ q,p=out++q∧rest=dA q last∧(out=[]∨∀ y r,q=y::r→y≠last)
theorem mY.start (p:List UInt8):mY p [] 0 (dA p 0):=⟨p,rfl,rfl,.inl rfl⟩
theorem mY.done {p out:List UInt8}{last:UInt8}(h:mY p out last []):p=out:=by
 obtain⟨q,h1,h2,_⟩:=h;cases q with
 | nil=>simpa using h1
 | cons x xs =>
  rw[tD]at h2;have:=dd List.length h2;simp at this
theorem mY.next {p out:List UInt8}{last:UInt8}{rest:List UInt8}(h:mY p out last rest)(h0:rest≠[]):∃ (m:Nat) (x:UInt8) (r:List UInt8),rest=aQ (zz ((m+1:Nat):Int))++(x ^^^ last)::r ∧
   out.length+(m+1)≤p.length∧(out≠[]→(x ^^^ last).toNat≠0)∧mY p (out++List.replicate (m+1) x) x r:=by
 obtain⟨q,h1,h2,h3⟩:=h;cases q with
 | nil=>rw[w1]at h2;exact absurd h2 h0
 | cons x xs =>
  rw[tD]at h2;have hle:=yS x xs;refine⟨runN x xs,x,_,h2,by rw[h1];simp;omega,λho hz=>?_,xs.drop (runN x xs),?_,rfl,.inr λy r hy=>K8 x xs y r hy⟩
  ·rcases h3 with h3 | h3
   ·exact ho h3
   ·exact h3 x xs rfl (Yo hz)
  ·rw[h1,dx]
   congr 1
   rw[List.replicate_succ,← Bl,cons_append,j0]
structure Pk where
 kind:Int
 aW:Int
 to:Int
 id:Int
 first:Int
 dc:Int
 frame:Int
 sum:Nat
 al:List UInt8
def nx:Pk:=⟨0,0,0,0,0,0,0,0,[]⟩
def eM (n:Int):Prop:=0≤n∧n≤1000
instance (n:Int):Decidable (eM n):=inferInstanceAs (Decidable (_∧_))
def ia (p:Pk):Prop:=(0≤p.aW∧p.aW≤7)∧(0≤p.to∧p.to≤7)∧p.aW≠p.to∧(0≤p.id∧p.id≤1099511627776) ∧
 ((p.kind=1∧eM p.first∧eM p.dc∧eM p.frame∧p.al.length≤32)∨(p.kind=2∧p.first=0∧p.dc=0∧p.frame=0∧p.al.length=0∧p.sum=0))
instance (p:Pk):Decidable (ia p):=inferInstanceAs (Decidable (_∧_))
def mw (p:Pk):List UInt8:=eL p.sum++(aQ (zz (p.al.length:Int))++dA p.al 0)
def ny (p:Pk):List UInt8:=if p.kind=1 then aQ (zz p.first)++(aQ (zz p.dc)++(aQ (zz p.frame)++mw p)) else []
def ll (p:Pk):List UInt8:=aQ (zz p.id)++ny p
def lV (p:Pk):List UInt8:=[UInt8.ofNat p.kind.toNat,UInt8.ofNat p.aW.toNat,UInt8.ofNat p.to.toNat]
def eU (p:Pk):List UInt8:=lV p++ll p
def ib (p:Pk):List UInt8:=eU p++eL (gL (eU p))
def aT (p:Pk):List UInt8:=if ia p then ib p else []
theorem lW (x:Nat):(eL x).length=4:=rfl
theorem w3 (p:Pk):(ib p).length=(ll p).length+7:=by
 simp[ib,eU,lV,lW]
theorem Fe {p:Pk}{bs:List UInt8}(h:ib p=bs):(bs.drop 3).take (bs.length-7)=ll p:=by
 subst h;rw[w3,yM,ib];generalize gL (eU p)=c;rw[eU,dx,List.drop_left' (by rfl),List.take_left' rfl]
theorem Ff {p:Pk}{bs:List UInt8}(h:ib p=bs):bs[0]?=some (UInt8.ofNat p.kind.toNat)∧bs[1]?=some (UInt8.ofNat p.aW.toNat)∧bs[2]?=some (UInt8.ofNat p.to.toNat):=by
 subst h;exact⟨rfl,rfl,rfl⟩
def Fg (a b c d:Nat):Nat:=((a*256+b)*256+c)*256+d
theorem Fh {x:Nat}(h:x<4294967296):Fg (UInt8.ofNat (x/16777216)).toNat (UInt8.ofNat (x/65536)).toNat (UInt8.ofNat (x/256)).toNat (UInt8.ofNat x).toNat=x:=by
 simp only[UInt8.toNat_ofNat',Fg];omega
theorem K9 {x y:Nat}(hx:x<4294967296)(hy:y<4294967296)(h:eL x=eL y):x=y:=by
 simp only[eL,List.cons.injEq,and_true]at h;obtain⟨h1,h2,h3,h4⟩:=h;have:=Fh hx;rw[h1,h2,h3,h4,Fh hy]at this;exact this.symm
theorem w4 {n m:Int}{r s:List UInt8}(h1:-9223372036854775808≤n)(h2:n≤9223372036854775807)(h3:-9223372036854775808≤m)(h4:m≤9223372036854775807)(h:aQ (zz n)++r=aQ (zz m)++s):n=m∧r=s:=by
 have e:=Bk h1 h2 r;rw[h,Bk h3 h4]at e;obtain⟨e1,e2⟩:zz m=zz n∧_:=by simpa using e
 have:n=m:=by rw[← Fa n,← Fa m,e1]
 subst this;exact⟨rfl,List.append_cancel_left h⟩
theorem La:∀ (n:Nat) {p q:List UInt8} {l:UInt8},p.length≤n→p.length≤1000000→q.length≤1000000→dA p l=dA q l→p=q
 | n,[],[],_,_,_,_,_=>rfl
 | n,[],y::ys,l,_,_,_,h=>by
  rw[w1,tD]at h;have:=dd List.length h;simp at this
 | n,x::xs,[],l,_,_,_,h=>by
  rw[w1,tD]at h;have:=dd List.length h;simp at this
 | 0,x::xs,y::ys,l,hn,_,_,_=>by simp at hn
 | n+1,x::xs,y::ys,l,hn,hp,hq,h=>by
  have h1:=yS x xs;have h2:=yS y ys;simp only[eH]at hn hp hq;rw[tD,tD]at h;obtain⟨e1,e2⟩:=w4 (by omega) (by omega) (by omega) (by omega) h;rw[List.cons.injEq]at e2;obtain⟨e2,e3⟩:=e2;have Yp:x=y:=by
   have:=Bm x l;rw[e2,Bm]at this;exact this.symm
  subst Yp;have ju:runN x xs=runN x ys:=by omega
  have tx:=La n (by simp;omega) (by simp;omega) (by simp;omega) e3
  congr 1
  rw[← j0 (runN x xs) xs,Bl,tx,ju,← Bl,j0]
theorem Fi {a b:Int}(E:0≤a∧a<256)(hb:0≤b∧b<256)(h:UInt8.ofNat a.toNat=UInt8.ofNat b.toNat):a=b:=by
 have:=dd UInt8.toNat h;simp only[UInt8.toNat_ofNat']at this;omega
theorem Yq {p q:Pk}(hp:ia p)(hq:ia q)(Fj:p.sum<4294967296)(Yr:q.sum<4294967296)(h:ib p=ib q):p=q:=by
 have hm:ll p=ll q:=by rw[← Fe (p:=p) rfl,← Fe (p:=q) rfl,h]
 have h0:=Ff (p:=p) rfl;have h1:=Ff (p:=q) rfl;rw[h]at h0;obtain⟨c0,cU,a3⟩:=h0;obtain⟨b1,b2,b3⟩:=h1;rw[b1]at c0;rw[b2]at cU;rw[b3]at a3;obtain⟨f1,t1,w5,i1,k1⟩:=hp;obtain⟨f2,t2,tu,i2,k2⟩:=hq;have Ys:=Fi (by omega) (by omega) (p4 c0);have Yt:=Fi (by omega) (by omega) (p4 cU);have td:=Fi (by omega) (by omega) (p4 a3);rw[ll,ll]at hm;obtain⟨Yu,hm⟩:=w4 (by omega) (by omega) (by omega) (by omega) hm;obtain⟨pk,afR,pt,pi,Yv,p2,Yw,afS,afT⟩:=p;obtain⟨afU,afV,afW,afX,q1,q2,Bn,Fk,Lb⟩:=q;simp only at *;subst Ys Yt td Yu;rcases k1 with ⟨et,c2,dJ,hX,dF⟩ | ⟨et,c2,dJ,hX,dF,oO⟩
 ·rcases k2 with ⟨d1,d2,d3,d4,d5⟩ | ⟨d1,_⟩
  ·unfold eM at c2 dJ hX d2 d3 d4;rw[ny,ny,ak et,ak d1]at hm;simp only at hm;obtain⟨e1,hm⟩:=w4 (by omega) (by omega) (by omega) (by omega) hm;obtain⟨e2,hm⟩:=w4 (by omega) (by omega) (by omega) (by omega) hm;obtain⟨e3,hm⟩:=w4 (by omega) (by omega) (by omega) (by omega) hm;rw[mw,mw]at hm;simp only at hm;obtain⟨ju,hm⟩:=List.append_inj hm rfl;obtain⟨tx,hm⟩:=w4 (by omega) (by omega) (by omega) (by omega) hm;have Yx:=La _ (a7 _) (by omega) (by omega) hm;have Yy:=K9 Fj Yr ju;subst e1 e2 e3 Yx Yy;rfl
  ·omega
 ·rcases k2 with ⟨d1,_⟩ | ⟨d1,d2,d3,d4,d5,d6⟩
  ·omega
  ·have:=gG dF;have:=gG d5;subst c2 dJ hX oO d2 d3 d4 d6;simp_all
def g9 (bs:List UInt8)(p:Pk):Prop:=ia p∧p.sum<4294967296∧ib p=bs
open Classical in
noncomputable def dN (bs:List UInt8):Option Pk:=if h:∃ p,g9 bs p then some (Classical.choose h) else none
theorem Bo {bs:List UInt8}{p:Pk}(h:g9 bs p):dN bs=some p:=by
 have hx:∃ p,g9 bs p:=⟨p,h⟩;rw[dN,dif_pos hx];have h2:=Classical.choose_spec hx;rw[Yq h2.1 h.1 h2.2.1 h.2.1 (h2.2.2.trans h.2.2.symm)]
theorem Bp {bs:List UInt8}(h:∀ p,¬ g9 bs p):dN bs=none:=by
 rw[dN,dif_neg];exact λ⟨p,hp⟩=>h p hp
theorem Fl {bs:List UInt8}{p:Pk}(h:dN bs=some p):g9 bs p:=by
 rw[dN]at h;split at h
 ·rename_i hx;cases h;exact Classical.choose_spec hx
 ·cases h
theorem Lc {p:Pk}(h:ia p)(I:p.sum<4294967296):dN (aT p)=some p:=by
 rw[aT,ak h];exact Bo ⟨h,I,rfl⟩
theorem Fm {bs:List UInt8}{p:Pk}(h0:bs≠[])(I:p.sum<4294967296):g9 bs p↔aT p=bs:=by
 unfold g9 aT;split
 ·rename_i h;simp[h,I]
 ·rename_i h;simp[h,h0,Ne.symm h0]
theorem Ld {p:Pk}(h:ia p):(ll p).length≤500:=by
 obtain⟨_,_,_,i1,k1⟩:=h;have pl:∀ n:Int,0≤n→n≤1099511627776→(aQ (zz n)).length≤10:=λn h0 h1=>qS 9 _ (by
  have:zz n<18446744073709551616:=Fb (by omega) (by omega);have fg:(128:Nat) ^ (9+1)=1180591620717411303424:=by decide
  omega)
 rw[ll,aJ];have:=pl p.id i1.1 i1.2;rcases k1 with ⟨et,c2,dJ,hX,dF⟩ | ⟨et,_⟩
 ·unfold eM at c2 dJ hX;rw[ny,ak et,mw];simp only[aJ,lW];have h1:=pl p.first (by omega) (by omega);have h2:=pl p.dc (by omega) (by omega);have h3:=pl p.frame (by omega) (by omega);have h4:=pl p.al.length (by omega) (by omega);have h5:=yT p.al 0;omega
 ·rw[ny,ag (by omega)];simp;omega
end
end Go.Proofs.YteoldcfapaiobaaGreat
