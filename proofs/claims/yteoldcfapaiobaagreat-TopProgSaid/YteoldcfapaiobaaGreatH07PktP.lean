/- Plain side of numbers read, of runs and of packets: what is written is read. -/
import Derived.Test.YteoldcfapaiobaaGreatH06Ref
namespace Go.Proofs.YteoldcfapaiobaaGreat
open Tryz
open List (drop_zero take_succ_cons drop_left nil_append drop_eq_nil_of_le cons_append append_nil not_mem_nil replicate_succ')
open Go.RowKit
set_option linter.unusedVariables false
set_option linter.unusedSimpArgs false
set_option maxRecDepth 10000
set_option synthInstance.maxSize 4000
set_option synthInstance.maxHeartbeats 400000
section
def nm:List UInt8→Nat→Nat→Option (Nat×Nat)
 | [],_,_=>none
 | c::cs,i,u =>
  if i=9∧1<c.toNat then none
  else if 127<c.toNat then nm cs (i+1) (u+c.toNat%128*128 ^ i)
  else if 0<i∧c.toNat=0 then none
  else some (u+c.toNat*128 ^ i,i+1)
def tu (bs:List UInt8):Option (Nat×Nat):=nm bs 0 0
def nn (u:Nat):Int:=if u%2=1 then -((u/2:Nat):Int)-1 else ((u/2:Nat):Int)
theorem Fl (n:Int):nn (zz n)=n:=by
 unfold nn zz;split <;> split <;> omega
theorem Fm {n:Int}(h1:-9223372036854775808≤n)(h2:n≤9223372036854775807):zz n<18446744073709551616:=by
 unfold zz;split <;> omega
theorem yW (i:Nat):128 ^ (i+1)=128 ^ i*128:=Nat.pow_succ ..
theorem Yr (r:List UInt8):∀ (v i u:Nat),v*128 ^ i<18446744073709551616→(i=0∨0<v)→i≤9→nm (aO v++r) i u=some (u+v*128 ^ i,i+(aO v).length):=by
 intro v
 induction v using Nat.strongRecOn with
 | _ v ih =>
  intro i u hv h0 hi;by_cases I:v≤127
  ·rw[qI I];have hb:(UInt8.ofNat v).toNat=v:=by rw[UInt8.toNat_ofNat'];omega
   simp only[cons_append,nil_append,nm,hb,jC];have h9:¬ (i=9∧1<v):=by
    rintro⟨rW,h⟩;rw[rW]at hv;have:v*128 ^ 9 ≥ 2*128 ^ 9:=nJ _ h;have h9':(128:Nat) ^ 9=9223372036854775808:=by decide
    omega
   rw[ag h9,ag (by omega),ag (by omega)]
  ·rw[wK I];have hb:(UInt8.ofNat (v%128+128)).toNat=v%128+128:=by rw[UInt8.toNat_ofNat'];omega
   simp only[cons_append,nm,hb,fm];have hle:128 ^ (i+1)≤v*128 ^ i:=by rw[yW,Nat.mul_comm];exact nJ _ (by omega)
   have rW:i+1≤9:=by
    rcases gE i 9 with h | h
    ·omega
    ·have:128 ^ 10≤128 ^ (i+1):=Nat.pow_le_pow_right (by decide) (by omega);have fP:(128:Nat) ^ 10=1180591620717411303424:=by decide
     omega
   have hdv:v/128*128 ^ (i+1)+v%128*128 ^ i=v*128 ^ i:=by
    rw[yW,show v/128*(128 ^ i*128)=128*(v/128)*128 ^ i from by rw[Nat.mul_comm (128 ^ i),← Nat.mul_assoc,Nat.mul_comm (v/128)],← Nat.add_mul,Nat.div_add_mod]
   rw[ag (by omega),ak (by omega),ih (v/128) (by omega) (i+1) _ (by omega) (.inr (by omega)) rW];rw[show (v%128+128)%128=v%128 from by omega]
   congr 2
   ·omega
   ·omega
theorem Bw {n:Int}(h1:-9223372036854775808≤n)(h2:n≤9223372036854775807)(r:List UInt8):tu (aO (zz n)++r)=some (zz n,(aO (zz n)).length):=by
 have:=Yr r (zz n) 0 0 (by have:=Fm h1 h2;omega) (.inl rfl) (by decide);simpa [tu] using this
theorem K5:∀ (bs:List UInt8) (i u:Nat) {v k:Nat},i≤9→u<128 ^ i→nm bs i u=some (v,k)→v<18446744073709551616∧i+1≤k∧k≤i+bs.length∧k≤10
 | [],_,_,_,_,_,_,h=>by cases h
 | c::cs,i,u,v,k,hi,hu,h=>by
  rw[nm]at h;have hc:=lK c;have hp:128 ^ i≤128 ^ 9:=Nat.pow_le_pow_right (by decide) hi;have h9:(128:Nat) ^ 9=9223372036854775808:=by decide
  split at h
  ·cases h
  rename_i n9;split at h
  ·rename_i hb;have hm:c.toNat%128*128 ^ i≤127*128 ^ i:=nJ _ (by omega);have:=K5 cs (i+1) _ (by omega) (by rw[yW];omega) h;simp only[fm];omega
  ·rename_i hb;split at h
   ·cases h
   ·obtain⟨rfl,rfl⟩:u+c.toNat*128 ^ i=v∧i+1=k:=by simpa using h
    simp only[fm];refine⟨?_,by omega,by omega,by omega⟩;rcases gE i 9 with h8 | h8
    ·have hp8:128 ^ i≤128 ^ 8:=Nat.pow_le_pow_right (by decide) (by omega);have h88:(128:Nat) ^ 8=72057594037927936:=by decide
     have hm:c.toNat*128 ^ i≤127*128 ^ i:=nJ _ (by omega);omega
    ·have:i=9:=by omega
     subst this;have hm:c.toNat*128 ^ 9≤1*128 ^ 9:=nJ _ (by omega);omega
theorem Fo {bs:List UInt8}{v k:Nat}(h:tu bs=some (v,k)):v<18446744073709551616∧1≤k∧k≤bs.length∧k≤10:=by
 have:=K5 bs 0 0 (by decide) (by decide) h;omega
def mf (bs:List UInt8)(x:Int)(k:Nat)(er:Int):Prop :=
 (-9223372036854775808≤x∧x≤9223372036854775807)∧(er=0∨er=1∨er=2)∧(er=0→1≤k∧k≤bs.length)∧(er≠0→k=0∧x=0) ∧
 ∀ (n:Int) (r:List UInt8), -9223372036854775808≤n→n≤9223372036854775807→bs=aO (zz n)++r→x=n∧k=(aO (zz n)).length∧er=0
theorem mf.bad {bs:List UInt8}{er:Int}(h:tu bs=none)(he:er=1∨er=2):mf bs 0 0 er:=by
 refine⟨by omega,by omega,by omega,λ_=>⟨rfl,rfl⟩,λn r h1 h2 e=>?_⟩;rw[e,Bw h1 h2]at h;cases h
theorem mf.K6 {bs:List UInt8}{u k:Nat}(h:tu bs=some (u,k)):mf bs (nn u) k 0:=by
 have hb:=Fo h;refine⟨?_,by omega,by omega,by omega,λn r h1 h2 e=>?_⟩
 ·unfold nn;split <;> omega
 ·rw[e,Bw h1 h2]at h;obtain⟨rfl,rfl⟩:zz n=u∧(aO (zz n)).length=k:=by simpa using h
  exact⟨Fl n,rfl,rfl⟩
def runN (x:UInt8):List UInt8→Nat
 | []=>0
 | y::ys=>if y=x then runN x ys+1 else 0
theorem yX (x:UInt8):∀ l:List UInt8,runN x l≤l.length
 | []=>bh _
 | y::ys=>by
  have:=yX x ys;rw[runN];split <;> simp only[fm] <;> omega
def dB (l:List UInt8)(last:UInt8):List UInt8:=match l with
 | []=>[]
 | x::xs=>aO (zz ((runN x xs+1:Nat):Int))++(x ^^^ last)::dB (xs.drop (runN x xs)) x
termination_by l.length
decreasing_by simp only[c4,fm];omega
theorem wX (last:UInt8):dB [] last=[]:=by rw[dB]
theorem tv (x:UInt8)(xs:List UInt8)(last:UInt8):dB (x::xs) last=aO (zz ((runN x xs+1:Nat):Int))++(x ^^^ last)::dB (xs.drop (runN x xs)) x:=by rw[dB]
theorem By (x:UInt8):∀ l:List UInt8,l.take (runN x l)=List.replicate (runN x l) x
 | []=>rfl
 | y::ys=>by
  rw[runN];split
  ·rename_i h;subst h;rw[take_succ_cons,By y ys,List.replicate_succ]
  ·rfl
theorem K7 (x:UInt8):∀ (l:List UInt8) (y:UInt8) (r:List UInt8),l.drop (runN x l)=y::r→y≠x
 | [],_,_,h=>by simp[runN]at h
 | z::zs,y,r,h=>by
  rw[runN]at h;split at h
  ·exact K7 x zs y r h
  ·rename_i hn;rw[drop_zero]at h;cases h;exact hn
theorem Ys {x:UInt8}{l:List UInt8}{n:Nat}(h1:∀ i,i<n→l[i]?=some x)(h2:l[n]?≠some x):runN x l=n:=by
 induction l generalizing n with
 | nil =>
  cases n with
  | zero=>rfl
  | succ n=>have:=h1 0 (by omega);simp at this
 | cons y ys ih =>
  cases n with
  | zero =>
   rw[runN,ag];intro e;subst e;simp at h2
  | succ n =>
   have h0:=h1 0 (by omega);simp at h0;rw[runN,ak h0,ih (n:=n) (λi hi=>by have:=h1 (i+1) (by omega);simpa using this) (by simpa using h2)]
theorem yY (l:List UInt8):∀ last,(dB l last).length≤11*l.length:=by
 induction hn:l.length using Nat.strongRecOn generalizing l with
 | _ n ih =>
  intro last;cases l with
  | nil=>rw[wX];simp
  | cons x xs =>
   rw[tv,aN,fm];have h1:=yX x xs;subst hn;simp only[fm];by_cases hb:xs.length<4611686018427387904
   ·have h2 := qJ 9 (zz ((runN x xs + 1 : Nat) : Int)) (by
     have:zz ((runN x xs+1:Nat):Int)=2*(runN x xs+1):=by unfold zz;rw[ag (by omega)];omega
     rw[this];have fP:(128:Nat) ^ (9+1)=1180591620717411303424:=by decide
     omega)
    have h3:=ih (xs.drop (runN x xs)).length (by simp only[c4,fm];omega) (xs.drop (runN x xs)) rfl x;simp only[c4]at h3;omega
   ·have h2 : (aO (zz ((runN x xs + 1 : Nat) : Int))).length ≤ runN x xs + 10 := by
     have:∀ u,(aO (2*(u+1))).length≤u+10:=by
      intro u
      induction u using Nat.strongRecOn with
      | _ u ih =>
       by_cases h:2*(u+1)≤127
       ·rw[qI h];simp
       ·rw[wK h,fm];by_cases h2:2*(u+1)/128≤127
        ·rw[qI h2];simp
        ·have hq : ∀ v, (aO v).length ≤ v + 1 := by
          intro v
          induction v using Nat.strongRecOn with
          | _ v Yt =>
           by_cases h3:v≤127
           ·rw[qI h3];simp
           ·rw[wK h3,fm];have:=Yt (v/128) (by omega);omega
         have:=hq (2*(u+1)/128);omega
     have hz:zz ((runN x xs+1:Nat):Int)=2*(runN x xs+1):=by unfold zz;rw[ag (by omega)];omega
     rw[hz];exact this _
    have h3:=ih (xs.drop (runN x xs)).length (by simp only[c4,fm];omega) (xs.drop (runN x xs)) rfl x;simp only[c4]at h3;omega
theorem Bz (a b:UInt8):b ^^^ (a ^^^ b)=a:=by rw[UInt8.xor_comm,UInt8.xor_assoc,UInt8.xor_self,UInt8.xor_zero]
theorem Yu {a b:UInt8}(h:(a ^^^ b).toNat=0):a=b:=by
 have h0:a ^^^ b=0:=UInt8.toNat_inj.1 (by simpa using h);have:=Bz a b;rw[h0,UInt8.xor_zero]at this;exact this.symm
def mP (p out:List UInt8)(last:UInt8)(rest:List UInt8):Prop:=∃ q,p=out++q∧rest=dB q last∧(out=[]∨∀ y r,q=y::r→y≠last)
theorem mP.start (p:List UInt8):mP p [] 0 (dB p 0):=⟨p,rfl,rfl,.inl rfl⟩
theorem mP.done {p out:List UInt8}{last:UInt8}(h:mP p out last []):p=out:=by
 obtain⟨q,h1,h2,_⟩:=h;cases q with
 | nil=>simpa using h1
 | cons x xs =>
  rw[tv]at h2;have:=dG List.length h2;simp at this
theorem mP.next {p out:List UInt8}{last:UInt8}{rest:List UInt8}(h:mP p out last rest)(h0:rest≠[]):∃ (m:Nat) (x:UInt8) (r:List UInt8),rest=aO (zz ((m+1:Nat):Int))++(x ^^^ last)::r ∧
   out.length+(m+1)≤p.length∧(out≠[]→(x ^^^ last).toNat≠0)∧mP p (out++List.replicate (m+1) x) x r:=by
 obtain⟨q,h1,h2,h3⟩:=h;cases q with
 | nil=>rw[wX]at h2;exact absurd h2 h0
 | cons x xs =>
  rw[tv]at h2;have hle:=yX x xs;refine⟨runN x xs,x,_,h2,by rw[h1];simp;omega,λho hz=>?_,xs.drop (runN x xs),?_,rfl,.inr λy r hy=>K7 x xs y r hy⟩
  ·rcases h3 with h3 | h3
   ·exact ho h3
   ·exact h3 x xs rfl (Yu hz)
  ·rw[h1,dA]
   congr 1
   rw[List.replicate_succ,← By,cons_append,jW]
structure Pk where
 kind:Int
 aY:Int
 to:Int
 id:Int
 first:Int
 c8:Int
 frame:Int
 sum:Nat
 al:List UInt8
def np:Pk:=⟨0,0,0,0,0,0,0,0,[]⟩
def eR (n:Int):Prop:=0≤n∧n≤1000
instance (n:Int):Decidable (eR n):=inferInstanceAs (Decidable (_∧_))
def hS (p:Pk):Prop:=(0≤p.aY∧p.aY≤7)∧(0≤p.to∧p.to≤7)∧p.aY≠p.to∧(0≤p.id∧p.id≤1099511627776) ∧
 ((p.kind=1∧eR p.first∧eR p.c8∧eR p.frame∧p.al.length≤32)∨(p.kind=2∧p.first=0∧p.c8=0∧p.frame=0∧p.al.length=0∧p.sum=0))
instance (p:Pk):Decidable (hS p):=inferInstanceAs (Decidable (_∧_))
def mg (p:Pk):List UInt8:=fq p.sum++(aO (zz (p.al.length:Int))++dB p.al 0)
def nq (p:Pk):List UInt8:=if p.kind=1 then aO (zz p.first)++(aO (zz p.c8)++(aO (zz p.frame)++mg p)) else []
def lk (p:Pk):List UInt8:=aO (zz p.id)++nq p
def lL (p:Pk):List UInt8:=[UInt8.ofNat p.kind.toNat,UInt8.ofNat p.aY.toNat,UInt8.ofNat p.to.toNat]
def iq (p:Pk):List UInt8:=lL p++lk p
def pV (p:Pk):List UInt8:=iq p++fq (jB (iq p))
def aS (p:Pk):List UInt8:=if hS p then pV p else []
theorem mQ (x:Nat):(fq x).length=4:=rfl
theorem yZ (p:Pk):(pV p).length=(lk p).length+7:=by
 simp[pV,iq,lL,mQ]
theorem Fp {p:Pk}{bs:List UInt8}(h:pV p=bs):(bs.drop 3).take (bs.length-7)=lk p:=by
 subst h;rw[yZ,yS,pV];generalize jB (iq p)=c;rw[iq,dA,List.drop_left' (by rfl),List.take_left' rfl]
theorem Fq {p:Pk}{bs:List UInt8}(h:pV p=bs):bs[0]?=some (UInt8.ofNat p.kind.toNat)∧bs[1]?=some (UInt8.ofNat p.aY.toNat)∧bs[2]?=some (UInt8.ofNat p.to.toNat):=by
 subst h;exact⟨rfl,rfl,rfl⟩
def Fs (a b c d:Nat):Nat:=((a*256+b)*256+c)*256+d
theorem Ft {x:Nat}(h:x<4294967296):Fs (UInt8.ofNat (x/16777216)).toNat (UInt8.ofNat (x/65536)).toNat (UInt8.ofNat (x/256)).toNat (UInt8.ofNat x).toNat=x:=by
 simp only[UInt8.toNat_ofNat',Fs];omega
theorem Yv {x y:Nat}(hx:x<4294967296)(hy:y<4294967296)(h:fq x=fq y):x=y:=by
 simp only[fq,List.cons.injEq,and_true]at h;obtain⟨h1,h2,h3,h4⟩:=h;have:=Ft hx;rw[h1,h2,h3,h4,Ft hy]at this;exact this.symm
theorem wY {n m:Int}{r s:List UInt8}(h1:-9223372036854775808≤n)(h2:n≤9223372036854775807)(h3:-9223372036854775808≤m)(h4:m≤9223372036854775807)(h:aO (zz n)++r=aO (zz m)++s):n=m∧r=s:=by
 have e:=Bw h1 h2 r;rw[h,Bw h3 h4]at e;obtain⟨e1,e2⟩:zz m=zz n∧_:=by simpa using e
 have:n=m:=by rw[← Fl n,← Fl m,e1]
 subst this;exact⟨rfl,List.append_cancel_left h⟩
theorem K8:∀ (n:Nat) {p q:List UInt8} {l:UInt8},p.length≤n→p.length≤1000000→q.length≤1000000→dB p l=dB q l→p=q
 | n,[],[],_,_,_,_,_=>rfl
 | n,[],y::ys,l,_,_,_,h=>by
  rw[wX,tv]at h;have:=dG List.length h;simp at this
 | n,x::xs,[],l,_,_,_,h=>by
  rw[wX,tv]at h;have:=dG List.length h;simp at this
 | 0,x::xs,y::ys,l,hn,_,_,_=>by simp at hn
 | n+1,x::xs,y::ys,l,hn,hp,hq,h=>by
  have h1:=yX x xs;have h2:=yX y ys;simp only[fm]at hn hp hq;rw[tv,tv]at h;obtain⟨e1,e2⟩:=wY (by omega) (by omega) (by omega) (by omega) h;rw[List.cons.injEq]at e2;obtain⟨e2,e3⟩:=e2;have Yw:x=y:=by
   have:=Bz x l;rw[e2,Bz]at this;exact this.symm
  subst Yw;have jr:runN x xs=runN x ys:=by omega
  have tm:=K8 n (by simp;omega) (by simp;omega) (by simp;omega) e3
  congr 1
  rw[← jW (runN x xs) xs,By,tm,jr,← By,jW]
theorem Fu {a b:Int}(E:0≤a∧a<256)(hb:0≤b∧b<256)(h:UInt8.ofNat a.toNat=UInt8.ofNat b.toNat):a=b:=by
 have:=dG UInt8.toNat h;simp only[UInt8.toNat_ofNat']at this;omega
theorem Yx {p q:Pk}(hp:hS p)(hq:hS q)(Fv:p.sum<4294967296)(Yy:q.sum<4294967296)(h:pV p=pV q):p=q:=by
 have hm:lk p=lk q:=by rw[← Fp (p:=p) rfl,← Fp (p:=q) rfl,h]
 have h0:=Fq (p:=p) rfl;have h1:=Fq (p:=q) rfl;rw[h]at h0;obtain⟨df,dz,a3⟩:=h0;obtain⟨b1,b2,b3⟩:=h1;rw[b1]at df;rw[b2]at dz;rw[b3]at a3;obtain⟨f1,t1,wZ,i1,k1⟩:=hp;obtain⟨f2,t2,tj,i2,k2⟩:=hq;have Yz:=Fu (by omega) (by omega) (nX df);have YA:=Fu (by omega) (by omega) (nX dz);have s5:=Fu (by omega) (by omega) (nX a3);rw[lk,lk]at hm;obtain⟨YB,hm⟩:=wY (by omega) (by omega) (by omega) (by omega) hm;obtain⟨pk,afV,pt,pi,K9,p2,La,afW,afX⟩:=p;obtain⟨afY,afZ,af0,af1,q1,q2,wV,Fw,Lb⟩:=q;simp only at *;subst Yz YA s5 YB;rcases k1 with ⟨dD,c2,db,hO,dJ⟩ | ⟨dD,c2,db,hO,dJ,oD⟩
 ·rcases k2 with ⟨d1,d2,d3,d4,d5⟩ | ⟨d1,_⟩
  ·unfold eR at c2 db hO d2 d3 d4;rw[nq,nq,ak dD,ak d1]at hm;simp only at hm;obtain⟨e1,hm⟩:=wY (by omega) (by omega) (by omega) (by omega) hm;obtain⟨e2,hm⟩:=wY (by omega) (by omega) (by omega) (by omega) hm;obtain⟨e3,hm⟩:=wY (by omega) (by omega) (by omega) (by omega) hm;rw[mg,mg]at hm;simp only at hm;obtain⟨jr,hm⟩:=List.append_inj hm rfl;obtain⟨tm,hm⟩:=wY (by omega) (by omega) (by omega) (by omega) hm;have YC:=K8 _ (bh _) (by omega) (by omega) hm;have YD:=Yv Fv Yy jr;subst e1 e2 e3 YC YD;rfl
  ·omega
 ·rcases k2 with ⟨d1,_⟩ | ⟨d1,d2,d3,d4,d5,d6⟩
  ·omega
  ·have:=hG dJ;have:=hG d5;subst c2 db hO oD d2 d3 d4 d6;simp_all
def g4 (bs:List UInt8)(p:Pk):Prop:=hS p∧p.sum<4294967296∧pV p=bs
open Classical in
noncomputable def eJ (bs:List UInt8):Option Pk:=if h:∃ p,g4 bs p then some (Classical.choose h) else none
theorem BA {bs:List UInt8}{p:Pk}(h:g4 bs p):eJ bs=some p:=by
 have hx:∃ p,g4 bs p:=⟨p,h⟩;rw[eJ,dif_pos hx];have h2:=Classical.choose_spec hx;rw[Yx h2.1 h.1 h2.2.1 h.2.1 (h2.2.2.trans h.2.2.symm)]
theorem Fx {bs:List UInt8}(h:∀ p,¬ g4 bs p):eJ bs=none:=by
 rw[eJ,dif_neg];exact λ⟨p,hp⟩=>h p hp
theorem Fy {bs:List UInt8}{p:Pk}(h:eJ bs=some p):g4 bs p:=by
 rw[eJ]at h;split at h
 ·rename_i hx;cases h;exact Classical.choose_spec hx
 ·cases h
theorem Lc {p:Pk}(h:hS p)(I:p.sum<4294967296):eJ (aS p)=some p:=by
 rw[aS,ak h];exact BA ⟨h,I,rfl⟩
theorem Fz {bs:List UInt8}{p:Pk}(h0:bs≠[])(I:p.sum<4294967296):g4 bs p↔aS p=bs:=by
 unfold g4 aS;split
 ·rename_i h;simp[h,I]
 ·rename_i h;simp[h,h0,Ne.symm h0]
theorem Ld {p:Pk}(h:hS p):(lk p).length≤500:=by
 obtain⟨_,_,_,i1,k1⟩:=h;have pl:∀ n:Int,0≤n→n≤1099511627776→(aO (zz n)).length≤10:=λn h0 h1=>qJ 9 _ (by
  have:zz n<18446744073709551616:=Fm (by omega) (by omega);have fP:(128:Nat) ^ (9+1)=1180591620717411303424:=by decide
  omega)
 rw[lk,aN];have:=pl p.id i1.1 i1.2;rcases k1 with ⟨dD,c2,db,hO,dJ⟩ | ⟨dD,_⟩
 ·unfold eR at c2 db hO;rw[nq,ak dD,mg];simp only[aN,mQ];have h1:=pl p.first (by omega) (by omega);have h2:=pl p.c8 (by omega) (by omega);have h3:=pl p.frame (by omega) (by omega);have h4:=pl p.al.length (by omega) (by omega);have h5:=yY p.al 0;omega
 ·rw[nq,ag (by omega)];simp;omega
end
section
theorem YE {x:Nat}(h:x<256):IntKind.u8.wrap ((BitVec.ofInt IntKind.u8.bits (x:Int) &&& BitVec.ofInt IntKind.u8.bits 127).toNat)=((x%128:Nat):Int):=by
 have:∀ y:Fin 256,IntKind.u8.wrap ((BitVec.ofInt IntKind.u8.bits ((y.val:Nat):Int) &&& BitVec.ofInt IntKind.u8.bits 127).toNat)=((y.val%128:Nat):Int):=by decide +kernel
 exact this ⟨x,h⟩
theorem Le (i:Nat):(2:Nat) ^ (7*i)=128 ^ i:=by rw[Nat.pow_mul]
theorem YF {u d i:Nat}(hu:u<128 ^ i):u ||| d*128 ^ i=u+d*128 ^ i:=by
 rw[← Le]at hu ⊢;rw[Nat.mul_comm,Nat.add_comm,Nat.two_pow_add_eq_or_of_lt hu,Nat.or_comm]
theorem FA {i:Nat}(hi:i≤9):128 ^ i≤9223372036854775808∧(i≤8→128 ^ i≤72057594037927936):=by
 have h9:(128:Nat) ^ 9=9223372036854775808:=by decide
 have h8:(128:Nat) ^ 8=72057594037927936:=by decide
 refine⟨h9 ▸ Nat.pow_le_pow_right (by decide) hi,λh=>h8 ▸ Nat.pow_le_pow_right (by decide) h⟩
theorem Lf {i d:Nat}(hi:i≤9)(h:i=9→d≤1)(hd:d≤127):d*128 ^ i≤9223372036854775808∧(i≤8→d*128 ^ i+128 ^ i≤128 ^ (i+1)):=by
 obtain⟨h1,h2⟩:=FA hi;have hm:d*128 ^ i≤127*128 ^ i:=nJ _ hd;refine⟨?_,λh8=>by rw[yW];omega⟩;rcases gE i 9 with h9 | h9
 ·have:=h2 (by omega);omega
 ·have:i=9:=by omega
  have tf:=h this;have:d*128 ^ i≤1*128 ^ i:=nJ _ tf;omega
theorem Lg {bs:List UInt8}{i:Nat}(h:i<bs.length)(u:Nat):nm (bs.drop i) i u=if i=9∧1<bs[i].toNat then none
   else if 127<bs[i].toNat then nm (bs.drop (i+1)) (i+1) (u+bs[i].toNat%128*128 ^ i)
   else if 0<i∧bs[i].toNat=0 then none
   else some (u+bs[i].toNat*128 ^ i,i+1):=by
 rw[kA h,nm]
theorem YG {x:Nat}(h:x<18446744073709551616):IntKind.u64.wrap (((BitVec.ofInt IntKind.u64.bits (x:Int) &&& BitVec.ofInt IntKind.u64.bits 1).toNat:Nat):Int)=((x%2:Nat):Int):=by
 have h1:=Yf (y:=1) h (by decide);rw[Nat.and_one_is_mod]at h1;exact h1
theorem YH {x:Int}(h1:-9223372036854775808≤x)(h2:x≤9223372036854775807):IntKind.i64.wrap (((BitVec.ofInt IntKind.i64.bits (if IntKind.i64.signed then -1 else IntKind.i64.max) ^^^ BitVec.ofInt IntKind.i64.bits x).toNat:Nat):Int) = -x-1:=by
 have e:BitVec.ofInt IntKind.i64.bits (if IntKind.i64.signed then -1 else IntKind.i64.max)=BitVec.allOnes 64:=by
  show BitVec.ofInt 64 (-1)=_;decide
 rw[e];show IntKind.i64.wrap (((BitVec.allOnes 64 ^^^ BitVec.ofInt 64 x).toNat:Nat):Int)=_;rw[BitVec.allOnes_xor,BitVec.toNat_not,BitVec.toNat_ofInt];simp only[IntKind.wrap,IntKind.signed,IntKind.bits];simp;omega
section
variable {W w:World}{L:List SP}{c:Nat}{ad:Option Addr}{bs:List UInt8}
theorem Lh (I:U W w L)(hb:bs.length≤1099511627776)(hp:∀ V,U W V L→aL V ad bs.length bs) :
   Calls prog 339 #[.slice ad bs.length c] w λe V=>∃ (x:Int) (k:Nat) (er:Int),e=.returned (.tuple #[.int .i64 x,.int .i64 k,.int .i64 er])∧mf bs x k er∧U W V L:=by
 refine EN func339 ntmps339 rfl rfl λa E=>?_;refine RN 11 E I λa E=>?_;refine aQ (λμ a w=>∃ (i u:Nat),(μ=bs.length-i∧i≤bs.length∧i≤9∧u<128 ^ i∧nm (bs.drop i) i u=tu bs)∧Fr a 50 [(5,.int .u64 u),(9,.slice ad bs.length c),(10,.int .i64 bs.length),(11,.int .i64 i)]∧U W w L) (bs.length) (⟨0,0,⟨rfl,by omega,by omega,by decide,rfl⟩,E.ab [5,9,10,11],I⟩) ?_;clear E I;rintro μ a w ⟨i,u,⟨rfl,hi,rW,hu,hg⟩,E,I⟩;refine IF 3 E I (λaj a E=>?_) λaj a E=>?_
 ·
  obtain⟨bb,oo,rfl,hr⟩:=(hp _ I).get (by omega);have aF:i<bs.length:=by omega
  have qQ:=lK bs[i];rw[Lg aF]at hg;obtain⟨gF,hZ⟩:=FA rW;refine RN 4 E I λa E=>?_;refine SS E (ae E (hr i _ (dQ aF))) λa E=>?_;refine RN 3 E I λa E=>?_;refine cc (M:=λa w=>∃ z:Bool,(z=true↔(i=9∧1<bs[i].toNat))∧Fr a 50 [(5,.int .u64 u),(6,.int .i64 i),(7,.int .u8 (bs[i].toNat:Int)),(9,.slice (some ⟨bb,oo,none⟩) bs.length c),(10,.int .i64 bs.length),(11,.int .i64 i),(21,.bool z)]∧U W w L) ?_ ?_
  ·
   refine BY 3 E I (λbA a E=>?_) λbA a E=>?_
   ·
    refine RN 3 E I λa E=>?_;exact⟨_,by rw[ct];omega,E.ab [5,6,7,9,10,11,21],I⟩
   refine RN 3 E I λa E=>?_;exact⟨_,by simp;omega,E.ab [5,6,7,9,10,11,21],I⟩
  clear E;(try clear I);rintro a w ⟨z,hz,E,I⟩;refine IF 0 E I (λao a E=>?_) λao a E=>?_
  ·
   rw[ak (hz.1 ao)]at hg;refine RT 4 E I ?_;exact⟨_,_,_,rfl,mf.bad hg.symm (by omega),I⟩
  have kN:¬ (i=9∧1<bs[i].toNat):=λh=>absurd (hz.2 h) (by simp[ao]);rw[ag kN]at hg;obtain⟨tf,kG⟩:=Lf (d:=bs[i].toNat%128) rW (by omega) (by omega);refine RN 4 E I λa E=>?_;rw[YE qQ]at E;refine SX 0 E I (by rw[wrap_u64];omega) λa E=>?_;refine RN 2 E I λa E=>?_;rw[show (7:Int)*(i:Int)=((7*i:Nat):Int) from by omega]at E;refine SS E (I4 E (jn:=7*i) (by show 7*i≤64;omega)) λa E=>?_;rw[show ((bs[i].toNat%128:Nat):Int)*2 ^ (7*i)=((bs[i].toNat%128*128 ^ i:Nat):Int) from by rw[Int.natCast_mul,← Le];simp,show IntKind.u64.wrap ((bs[i].toNat%128*128 ^ i:Nat):Int)=((bs[i].toNat%128*128 ^ i:Nat):Int) from by rw[wrap_u64];omega]at E;refine RN 1 E I λa E=>?_;rw[Ye (by omega) (by omega),YF hu]at E;refine IF 5 E I (λay a E=>?_) λay a E=>?_
  ·
   rw[ak (by omega)]at hg;refine RN 2 E I λa E=>?_;exact⟨bs.length-(i+1),by omega,i+1,_,⟨rfl,by omega,by omega,by have:=kG (by omega);omega,hg⟩,E.ab [5,9,10,11],I⟩
  rw[ag (by omega)]at hg;rw[kX (show bs[i].toNat<128 from by omega)]at E tf kG;refine RN 1 E I λa E=>?_;refine cc (M:=λa w=>∃ z:Bool,(z=true↔(0<i∧bs[i].toNat=0))∧Fr a 50 [(5,.int .u64 ((u+bs[i].toNat*128 ^ i:Nat):Int)),(6,.int .i64 i),(37,.bool z)]∧U W w L) ?_ ?_
  ·
   refine BY 3 E I (λbA a E=>?_) λbA a E=>?_
   ·
    refine RN 3 E I λa E=>?_;exact⟨_,by rw[ct];omega,E.ab [5,6,37],I⟩
   refine RN 3 E I λa E=>?_;exact⟨_,by simp;omega,E.ab [5,6,37],I⟩
  clear E;(try clear I);rintro a w ⟨z,hz,E,I⟩;refine IF 0 E I (λbj a E=>?_) λbj a E=>?_
  ·
   rw[ak (hz.1 bj)]at hg;refine RT 4 E I ?_;exact⟨_,_,_,rfl,mf.bad hg.symm (by omega),I⟩
  rw[ag (λh=>absurd (hz.2 h) (by simp[bj]))]at hg;generalize u+bs[i].toNat*128 ^ i=v at E hg;have hv:=(Fo hg.symm).1;refine RN 3 E I λa E=>?_;rw[show ((v:Nat):Int).fdiv (2 ^ 1)=((v/2:Nat):Int) from ld _ 2]at E;refine SS E (gr E underlying319 underlying2) λa E=>?_;rw[show IntKind.i64.wrap ((v/2:Nat):Int)=((v/2:Nat):Int) from fU (by omega) (by omega)]at E;refine RN 1 E I λa E=>?_;refine cc (M:=λa w=>Fr a 50 [(6,.int .i64 i),(8,.int .i64 (nn v))]∧U W w L) ?_ ?_
  ·
   refine RN 3 E I λa E=>?_;rw[YG hv]at E;refine IF 1 E I (λbO a E=>?_) λbO a E=>?_
   ·
    refine RN 2 E I λa E=>?_;rw[YH (by omega) (by omega)]at E;refine RN 1 E I λa E=>?_;rw[show -((v/2:Nat):Int)-1=nn v from by rw[nn,ak (by omega)]]at E;exact⟨E.ab [6,8],I⟩
   refine RN 0 E I λa E=>?_;rw[show ((v/2:Nat):Int)=nn v from by rw[nn,ag (by omega)]]at E;exact⟨E.ab [6,8],I⟩
  clear E;(try clear I);rintro a w ⟨E,I⟩;refine RT 7 E I ?_;exact⟨_,_,_,rfl,mf.K6 hg.symm,I⟩
 rw[drop_eq_nil_of_le (by omega),nm]at hg;refine RT 4 E I ?_;exact⟨_,_,_,rfl,mf.bad hg.symm (by omega),I⟩
theorem FB (I:U W w L)(hb:bs.length≤1099511627776)(hp:∀ V,U W V L→aL V ad bs.length bs) :
   Calls prog 215 #[.slice ad bs.length c] w λe V=>∃ (x:Int) (k:Nat) (er:Int),e=.returned (.tuple #[.int .i64 x,.int .i64 k,.int .i64 er])∧mf bs x k er∧U W V L:=by
 refine EN func215 ntmps215 rfl rfl λa E=>?_;refine RN 11 E I λa E=>?_;refine aQ (λμ a w=>∃ (i u:Nat),(μ=bs.length-i∧i≤bs.length∧i≤9∧u<128 ^ i∧nm (bs.drop i) i u=tu bs)∧Fr a 64 [(0,.slice ad bs.length c),(5,.int .u64 u),(6,.int .u64 ((128 ^ i:Nat):Int)),(7,.int .i64 i)]∧U W w L) (bs.length) (⟨0,0,⟨rfl,by omega,by omega,by decide,rfl⟩,E.ab [0,5,6,7],I⟩) ?_;clear E I;rintro μ a w ⟨i,u,⟨rfl,hi,rW,hu,hg⟩,E,I⟩;refine IF 6 E I (λaj a E=>?_) λaj a E=>?_
 ·
  obtain⟨bb,oo,rfl,hr⟩:=(hp _ I).get (by omega);have aF:i<bs.length:=by omega
  have qQ:=lK bs[i];rw[Lg aF]at hg;obtain⟨gF,hZ⟩:=FA rW;refine RN 2 E I λa E=>?_;refine cc (M:=λa w=>∃ z:Bool,(z=true↔(i=9∧1<bs[i].toNat)∨(0<i∧bs[i].toNat=0))∧Fr a 64 [(0,.slice (some ⟨bb,oo,none⟩) bs.length c),(5,.int .u64 u),(6,.int .u64 ((128 ^ i:Nat):Int)),(7,.int .i64 i),(34,.bool z)]∧U W w L) ?_ ?_
  ·
   refine BY 3 E I (λbA a E=>?_) λbA a E=>?_
   ·
    refine RN 3 E I λa E=>?_;refine bu E (cu E rfl (s:=17)) (ae E (hr i _ (dQ aF))) rfl λa E=>?_;refine BY 3 E I (λu1 a E=>?_) λu1 a E=>?_
    ·
     refine RN 10 E I λa E=>?_;refine⟨_,?_,E.ab [0,5,6,7,34],I⟩
     (try simp only[ct]);(try simp only[Bool.false_eq_true,true_iff,false_iff]);omega
    refine BY 3 E I (λic a E=>?_) λic a E=>?_
    ·
     refine RN 3 E I λa E=>?_;refine bu E (cu E rfl (s:=27)) (ae E (hr i _ (dQ aF))) rfl λa E=>?_;refine RN 3 E I λa E=>?_;refine⟨_,?_,E.ab [0,5,6,7,34],I⟩
     (try simp only[ct]);(try simp only[Bool.false_eq_true,true_iff,false_iff]);omega
    refine RN 7 E I λa E=>?_;refine⟨_,?_,E.ab [0,5,6,7,34],I⟩
    (try simp only[ct]);(try simp only[Bool.false_eq_true,true_iff,false_iff]);omega
   refine BY 10 E I (λic a E=>?_) λic a E=>?_
   ·
    refine RN 3 E I λa E=>?_;refine bu E (cu E rfl (s:=27)) (ae E (hr i _ (dQ aF))) rfl λa E=>?_;refine RN 3 E I λa E=>?_;refine⟨_,?_,E.ab [0,5,6,7,34],I⟩
    (try simp only[ct]);(try simp only[Bool.false_eq_true,true_iff,false_iff]);omega
   refine RN 7 E I λa E=>?_;refine⟨_,?_,E.ab [0,5,6,7,34],I⟩
   (try simp only[ct]);(try simp only[Bool.false_eq_true,true_iff,false_iff]);omega
  clear E;(try clear I);rintro a w ⟨z,hz,E,I⟩;refine IF 0 E I (λao a E=>?_) λao a E=>?_
  ·
   have cv:=hz.1 ao;have AG:tu bs=none:=by
    rw[← hg];by_cases h9:i=9∧1<bs[i].toNat
    ·rw[ak h9]
    ·rw[ag h9,ag (by omega),ak (by omega)]
   refine RT 4 E I ?_;exact⟨_,_,_,rfl,mf.bad AG (by omega),I⟩
  have kN:¬ ((i=9∧1<bs[i].toNat)∨(0<i∧bs[i].toNat=0)):=λh=>absurd (hz.2 h) (by simp[ao]);have hr:=(hp _ I).rd (by omega);obtain⟨tf,kG⟩:=Lf (d:=bs[i].toNat%128) rW (by omega) (by omega);refine RN 5 E I λa E=>?_;refine SS E (ae E (hr i _ (dQ aF))) λa E=>?_;refine SX 0 E I (by decide) λa E=>?_;rw[show ((bs[i].toNat:Nat):Int).tmod 128=((bs[i].toNat%128:Nat):Int) from ot _ 128]at E;refine SX 0 E I (by rw[wrap_u64];omega) λa E=>?_;refine RN 2 E I λa E=>?_;rw[show ((bs[i].toNat%128:Nat):Int)*((128 ^ i:Nat):Int)=((bs[i].toNat%128*128 ^ i:Nat):Int) from (Int.natCast_mul ..).symm,show IntKind.u64.wrap ((bs[i].toNat%128*128 ^ i:Nat):Int)=((bs[i].toNat%128*128 ^ i:Nat):Int) from by rw[wrap_u64];omega]at E;refine RN 1 E I λa E=>?_;rw[show IntKind.u64.wrap ((u:Int)+((bs[i].toNat%128*128 ^ i:Nat):Int))=((u+bs[i].toNat%128*128 ^ i:Nat):Int) from by rw[wrap_u64];omega]at E;refine RN 9 E I λa E=>?_;refine SS E (ae E (hr i _ (dQ aF))) λa E=>?_;refine IF 1 E I (λay a E=>?_) λay a E=>?_
  ·
   rw[ag (by omega),ag (by omega),ag (by omega)]at hg;rw[kX (show bs[i].toNat<128 from by omega)]at E tf kG;generalize u+bs[i].toNat*128 ^ i=v at E hg;have hv:=(Fo hg.symm).1;refine RN 2 E I λa E=>?_;refine SS E (wa E (by decide) (by rw[show ((v:Nat):Int).tdiv 2=((v/2:Nat):Int) from ru _ 2,wrap_u64];omega)) λa E=>?_;rw[show ((v:Nat):Int).tdiv 2=((v/2:Nat):Int) from ru _ 2]at E;refine RN 0 E I λa E=>?_;refine SS E (gr E underlying319 underlying2) λa E=>?_;rw[show IntKind.i64.wrap ((v/2:Nat):Int)=((v/2:Nat):Int) from fU (by omega) (by omega)]at E;refine RN 1 E I λa E=>?_;refine cc (M:=λa w=>Fr a 64 [(7,.int .i64 i),(8,.int .i64 (nn v))]∧U W w L) ?_ ?_
   ·
    refine SX 2 E I (by decide) λa E=>?_;rw[show ((v:Nat):Int).tmod 2=((v%2:Nat):Int) from ot _ 2]at E;refine IF 1 E I (λbj a E=>?_) λbj a E=>?_
    ·
     refine RN 2 E I λa E=>?_;rw[show IntKind.i64.wrap (0-((v/2:Nat):Int)) = -((v/2:Nat):Int) from by rw[fU (by omega) (by omega)];omega]at E;refine RN 2 E I λa E=>?_;rw[show -((v/2:Nat):Int)-1=nn v from by rw[nn,ak (by omega)]]at E;exact⟨E.ab [7,8],I⟩
    refine RN 0 E I λa E=>?_;rw[show ((v/2:Nat):Int)=nn v from by rw[nn,ag (by omega)]]at E;exact⟨E.ab [7,8],I⟩
   clear E;(try clear I);rintro a w ⟨E,I⟩;refine RT 7 E I ?_;exact⟨_,_,_,rfl,mf.K6 hg.symm,I⟩
  rw[ag (by omega),ak (by omega)]at hg;have Li:i≤8:=by omega
  rw[show IntKind.u64.wrap (((128 ^ i:Nat):Int)*128)=((128 ^ (i+1):Nat):Int) from by rw[wrap_u64,yW];have:=hZ Li;omega]at E;refine RN 3 E I λa E=>?_;exact⟨bs.length-(i+1),by omega,i+1,_,⟨rfl,by omega,by omega,by have:=kG (by omega);omega,hg⟩,E.ab [0,5,6,7],I⟩
 rw[drop_eq_nil_of_le (by omega),nm]at hg;refine RT 4 E I ?_;exact⟨_,_,_,rfl,mf.bad hg.symm (by omega),I⟩
theorem tw {N:Int}(I:U W w L)(h1:-9223372036854775808≤N)(h2:N≤9223372036854775807) :
   Calls prog 157 #[.int .i64 N] w λe V=>∃ au c',e=.returned (.slice au (aO (zz N)).length c')∧U W V (Sl 5 1 au (aO (zz N)).length c' (bc (aO (zz N)))::L):=by
 refine EN func157 ntmps157 rfl rfl λa E=>?_;refine RN 4 E I λa E=>?_;refine SS E (gr E underlying2 underlying319) λa E=>?_;refine RN 1 E I λa E=>?_;rw[wrap_u64,wrap_u64]at E;refine RN 1 E I λa E=>?_;obtain⟨U0,EG⟩:∃ U0:Nat,(N%18446744073709551616*2)%18446744073709551616=(U0:Int):=⟨((N%18446744073709551616*2)%18446744073709551616).toNat,by omega⟩;rw[EG]at E;have EH:U0<18446744073709551616:=by omega
 refine cc (M:=λa w=>Fr a 28 [(3,.int .u64 ((zz N:Nat):Int))]∧U W w L) ?_ ?_
 ·
  refine IF 3 E I (λaj a E=>?_) λaj a E=>?_
  ·
   refine RN 2 E I λa E=>?_;rw[Kl EH]at E;refine RN 1 E I λa E=>?_;rw[show 18446744073709551615-U0=zz N from by rw[zz,ak aj];omega]at E;exact⟨E.ab [3],I⟩
  refine RN 0 E I λa E=>?_;rw[show U0=zz N from by rw[zz,ag (by omega)];omega]at E;exact⟨E.ab [3],I⟩
 clear E;(try clear I);rintro a w ⟨E,I⟩;refine RN 3 E I λa E=>?_;refine aQ (λμ a w=>∃ (ej c':Nat) (au:Option Addr) (dn:List UInt8),(μ=ej∧dn++aO ej=aO (zz N)∧ej≤zz N)∧Fr a 28 [(3,.int .u64 (ej:Int)),(4,.slice au dn.length c')]∧U W w (Sl 5 1 au dn.length c' (bc dn)::L)) (zz N) (⟨zz N,0,none,[],⟨rfl,rfl,by omega⟩,E.ab [3,4],I.bR 5 1 none⟩) ?_;clear E I;rintro μ a w ⟨ej,c',au,dn,⟨yG,c7,WA⟩,E,I⟩;refine RN 2 E I λa E=>?_;have cv:zz N<18446744073709551616:=by rw[zz];split <;> omega
 have gF:=qJ 9 (zz N) (by simp;omega);have mL:dn.length≤10:=by
  have:=dG List.length c7;rw[aN]at this;omega
 clear gF;refine IF 2 E I (λao a E=>?_) λao a E=>?_
 ·
  refine SX 3 E I (by decide) λa E=>?_;rw[show ((ej:Nat):Int).tmod 128=((ej%128:Nat):Int) from ot _ 128]at E;refine RN 1 E I λa E=>?_;rw[show IntKind.u64.wrap (((ej%128:Nat):Int)+128)=((ej%128+128:Nat):Int) from by rw[wrap_u64];omega]at E;refine SX 0 E I (by rw[wrap_u8];omega) λa E=>?_;refine RN 0 E I λa E=>?_;refine cn E rfl I underlying22 Ty.t5 rfl rfl rfl rfl (by decide) (by decide) λna a w E I ho=>?_;clear ho;refine RN 0 E I λa E=>?_;refine cK E rfl I underlying22 Ty.t5 rfl rfl I.ai rfl (by simp[Value.oneCell']) (by decide) (by decide) (by omega) λyH EI a w E I=>?_;have aT:bc dn++[[Value.int .u8 ((ej%128+128:Nat):Int)]].flatten=bc (dn++[UInt8.ofNat (ej%128+128)]):=by
   simp[bc,UInt8.toNat_ofNat'];omega
  rw[aT]at I;refine RN 2 E I λa E=>?_;refine SS E (wa E (by decide) (by rw[show ((ej:Nat):Int).tdiv 128=((ej/128:Nat):Int) from ru _ 128,wrap_u64];omega)) λa E=>?_;rw[show ((ej:Nat):Int).tdiv 128=((ej/128:Nat):Int) from ru _ 128]at E;refine RN 1 E I λa E=>?_;exact⟨ej/128,by omega,ej/128,_,yH,dn++[UInt8.ofNat (ej%128+128)],⟨rfl,by rw[← c7,wK (u:=ej) (by omega),dA];rfl,by omega⟩,by rw[aN];exact E.ab [3,4],by rw[aN];exact I.sub⟩
 refine SX 3 E I (by rw[wrap_u8];omega) λa E=>?_;refine RN 0 E I λa E=>?_;refine cn E rfl I underlying22 Ty.t5 rfl rfl rfl rfl (by decide) (by decide) λKm a w E I ho=>?_;clear ho;refine RN 0 E I λa E=>?_;refine cK E rfl I underlying22 Ty.t5 rfl rfl I.ai rfl (by simp[Value.oneCell']) (by decide) (by decide) (by omega) λEJ EK a w E I=>?_;have aT:bc dn++[[Value.int .u8 ((ej:Nat):Int)]].flatten=bc (dn++[UInt8.ofNat ej]):=by
  simp[bc,UInt8.toNat_ofNat'];omega
 rw[aT,← qI (by omega),c7]at I;refine RT 1 E I ?_;have hl:dn.length+1=(aO (zz N)).length:=by rw[← c7,qI (by omega),aN];rfl
 rw[hl]at I ⊢;exact⟨_,_,rfl,I.sub⟩
end
end
section
theorem rX {n:Int}(h1:-9223372036854775808≤n)(h2:n≤9223372036854775807):(aO (zz n)).length≤10:=qJ 9 _ (by
 have:=Fm h1 h2;have fP:(128:Nat) ^ (9+1)=1180591620717411303424:=by decide
 omega)
theorem u2 {l:List UInt8}{x:UInt8}:bc l++[[Value.int .u8 (x.toNat:Int)]].flatten=bc (l++[x]):=by simp[bc]
structure nr (bs:List UInt8)(i e:Nat):Prop where
 lt:i<e
 le:e≤bs.length
 same:∀ (j:Nat) (h:j<bs.length),i≤j→j<e→bs[j]=bs[i]'(by omega)
theorem nr.one {bs:List UInt8}{i:Nat}(h:i<bs.length):nr bs i (i+1):=⟨by omega,by omega,λj hj h1 h2=>by
 have:j=i:=by omega
 subst this;rfl⟩
theorem nr.more {bs:List UInt8}{i e:Nat}(h:nr bs i e)(he:e<bs.length)(hb:bs[e]'he=bs[i]'(by have:=h.lt;omega)):nr bs i (e+1):=⟨by have:=h.lt;omega,by omega,λj hj h1 h2=>by
 by_cases YI:j=e
 ·subst YI;exact hb
 ·exact h.same j hj h1 (by omega)⟩
theorem nr.runs {bs:List UInt8}{i e:Nat}(h:nr bs i e)(hi:i<bs.length)(hn:∀ he:e<bs.length,bs[e]≠bs[i])(last:UInt8) :
   dB (bs.drop i) last=aO (zz ((e-i:Nat):Int))++(bs[i] ^^^ last)::dB (bs.drop e) bs[i]:=by
 have h1:=h.lt;have h2:=h.le;have hr:runN bs[i] (bs.drop (i+1))=e-i-1:=by
  refine Ys (λj hj=>?_) ?_
  ·rw[pj,aD (by omega),h.same (i+1+j) (by omega) (by omega) (by omega)]
  ·rw[pj,show i+1+(e-i-1)=e from by omega];rcases gE e bs.length with he | he
   ·rw[aD he];exact λhx=>hn he (nX hx)
   ·rw[iD he];simp
 rw[kA hi,tv,hr,kr,show i+1+(e-i-1)=e from by omega,show e-i-1+1=e-i from by omega]
theorem ll {bs:List UInt8}{i:Nat}(h:i<bs.length):(bc bs)[i]?=some (.int .u8 ((bs.getD i 0).toNat:Int)):=by rw[dQ h,bl,aD h];rfl
theorem mP.get {p dn rest:List UInt8}{last:UInt8}{x:Int}{k:Nat}{er:Int}(h:mP p dn last rest)(hp:p.length≤1000000)(h0:rest≠[])(hg:mf rest x k er) :
   er=0∧1≤x∧k<rest.length∧(dn≠[]→(rest.getD k 0).toNat≠0)∧(dn.length:Int)+x≤p.length∧mP p (dn++List.replicate x.toNat (last ^^^ rest.getD k 0)) (last ^^^ rest.getD k 0) (rest.drop (k+1)):=by
 obtain⟨m,y,r,e1,e2,e3,jr⟩:=h.next h0;obtain⟨rfl,rfl,rfl⟩:=hg.2.2.2.2 ((m+1:Nat):Int) _ (by omega) (by omega) e1;have hk:rest.getD (aO (zz ((m+1:Nat):Int))).length 0=y ^^^ last:=by rw[e1,bl,pn (bh _)];simp
 refine⟨rfl,by omega,by rw[e1];simp,by rw[hk];exact e3,by omega,?_⟩;rw[hk,Bz,show ((m+1:Nat):Int).toNat=m+1 from by omega];have hd:rest.drop ((aO (zz ((m+1:Nat):Int))).length+1)=r:=by
  rw[e1,← kr,drop_left];rfl
 rw[hd];exact jr
def tx (bs:List UInt8)(m:Nat)(out:List UInt8)(er:Int):Prop:=(er=0∨er=1∨er=4)∧out.length≤m∧∀ p:List UInt8,p.length≤m→bs=dB p 0→out=p∧er=0
theorem Lj (bs:List UInt8)(i k:Nat):(bs.drop i).getD k 0=bs.getD (i+k) 0:=by simp[bl,pj]
theorem tx.bad {bs dn rest:List UInt8}{last:UInt8}{m k:Nat}{x er FC:Int}(ni:∀ p:List UInt8,p.length≤m→bs=dB p 0→mP p dn last rest)(hm:m≤1000000)(h0:rest≠[])(hg:mf rest x k er)
   (j8:er≠0∨x<1∨rest.length≤k∨(dn≠[]∧(rest.getD k 0).toNat=0)∨(m:Int)<dn.length+x) (he:FC=1∨FC=4):tx bs m [] FC:=by
 refine⟨by omega,by simp,λp hp e=>?_⟩;exfalso;obtain⟨g1,jZ,nO,ov,ts,_⟩:=(ni p hp e).get (by omega) h0 hg;rcases j8 with h | h | h | h | h
 ·exact h g1
 ·omega
 ·omega
 ·exact ov h.1 h.2
 ·omega
section
variable {W w:World}{L:List SP}{n c m:Nat}{ad:Option Addr}{bs:List UInt8}
theorem YJ (I:U W w L)(hb:bs.length≤65536)(hp:∀ V,U W V L→aL V ad bs.length bs) :
   Calls prog 338 #[.slice ad bs.length c] w λe V=>∃ au c',e=.returned (.slice au (dB bs 0).length c')∧U W V (Sl 5 1 au (dB bs 0).length c' (bc (dB bs 0))::L):=by
 have ia:=yY bs 0;refine EN func338 ntmps338 rfl rfl λa E=>?_;refine RN 9 E I λa E=>?_;refine aQ (λμ a w=>∃ (i c':Nat) (au:Option Addr) (dn:List UInt8) (last:UInt8),(μ=bs.length-i∧i≤bs.length∧dn++dB (bs.drop i) last=dB bs 0)∧Fr a 48 [(0,.slice ad bs.length c),(3,.slice au dn.length c'),(4,.int .u8 (last.toNat:Int)),(5,.int .i64 i)]∧U W w (Sl 5 1 au dn.length c' (bc dn)::L)) (bs.length) (⟨0,0,none,[],0,⟨rfl,by omega,rfl⟩,E.ab [0,3,4,5],I.bR 5 1 none⟩) ?_;clear E I;rintro μ a w ⟨i,c',au,dn,last,⟨rfl,hi,c7⟩,E,I⟩;refine IF 6 E I (λaj a E=>?_) λaj a E=>?_
 ·
  obtain⟨bb,oo,rfl,_⟩:=(hp _ I.tail).get (by omega);have aF:i<bs.length:=by omega
  have mL:dn.length≤11*bs.length:=by
   have:=dG List.length c7;rw[aN]at this;omega
  refine RN 4 E I λa E=>?_;refine aQ (λμ a w=>∃ (k:Nat),(μ=bs.length-k∧i≤k∧k≤bs.length∧(k=i∨nr bs i k))∧Fr a 48 [(0,.slice (some ⟨bb,oo,none⟩) bs.length c),(3,.slice au dn.length c'),(4,.int .u8 (last.toNat:Int)),(5,.int .i64 i),(6,.int .i64 k)]∧U W w (Sl 5 1 au dn.length c' (bc dn)::L)) (bs.length-i) (⟨i,⟨rfl,by omega,by omega,.inl rfl⟩,E.ab [0,3,4,5,6],I⟩) ?_;clear E I;rintro μ a w ⟨k,⟨rfl,pN,hk,kO⟩,E,I⟩;refine RN 1 E I λa E=>?_;refine cc (M:=λa w=>∃ z:Bool,(z=true→nr bs i (k+1))∧(z=false→nr bs i k∧∀ he:k<bs.length,bs[k]≠bs[i])∧Fr a 48 [(0,.slice (some ⟨bb,oo,none⟩) bs.length c),(3,.slice au dn.length c'),(4,.int .u8 (last.toNat:Int)),(5,.int .i64 i),(6,.int .i64 k),(26,.bool z)]∧U W w (Sl 5 1 au dn.length c' (bc dn)::L)) ?_ ?_
  ·
   refine bW 0 [12] [0,1,2,3,4,5,6,7,9,10,11,3008,1012,13,14] E I λa w E I hH hC=>?_;have hr:=(hp _ I.tail).rd (by omega);refine RH 5 E I hH hC λa E=>?_;refine E.by (s:=16) (λdk E=>?_) (λdk E=>?_)
   ·
    refine RH 6 E I hH hC λa E=>?_;refine QH E (λw hc=>ae E ((hc.rd hr) k _ (dQ (i:=k) (bs:=bs) (show k<bs.length by omega)))) hC λa E=>?_;refine RH 0 E I hH hC λa E=>?_;refine bu E (cu E rfl (s:=16)) (ae E ((hC.rd hr) i _ (dQ aF))) rfl λa E=>?_;refine RH 2 E I hH hC λa E=>?_;have dS:k<bs.length:=by omega
    refine⟨_,λh=>?_,λh=>?_,E.ab [0,3,4,5,6,26],I⟩
    ·have he:bs[k]=bs[i]:=UInt8.toNat_inj.1 (by have:=m3 h;omega);rcases kO with rfl | kO
     ·exact nr.one aF
     ·exact kO.more dS he
    ·have he:bs[k]≠bs[i]:=λe=>of_decide_eq_false h (by rw[e]);rcases kO with rfl | kO
     ·exact absurd rfl he
     ·exact⟨kO,λ_=>he⟩
   refine RH 10 E I hH hC λa E=>?_;refine⟨_,λh=>(by cases h),λh=>?_,E.ab [0,3,4,5,6,26],I⟩;rcases kO with rfl | kO
   ·omega
   ·exact⟨kO,λ_=>absurd (show k<bs.length by assumption) (by omega)⟩
  clear E;(try clear I);rintro a w ⟨z,cv,kN,E,I⟩;refine IF 0 E I (λao a E=>?_) λao a E=>?_
  ·
   have pW:=cv ao;refine RN 3 E I λa E=>?_;exact⟨bs.length-(k+1),by have:=pW.le;omega,k+1,⟨rfl,by omega,pW.le,.inr pW⟩,E.ab [0,3,4,5,6],I⟩
  obtain⟨pW,bT⟩:=kN ao;rw[pW.runs aF bT last]at c7;have dS:=pW.lt;have yD:=pW.le;refine a1 1 (λw0 w=>Rd w bb oo (bc bs)) [4] [0,1,2,3,5,6,7,9,3008,10,2004,1011,1012,13] E I λa w E I hH=>?_;have hC:=(hp _ I.tail).rd (by omega);have eO:=rX (n:=((k-i:Nat):Int)) (by omega) (by omega);refine RH 4 E I hH hC λa E=>?_;rw[show ((k:Nat):Int)-((i:Nat):Int)=((k-i:Nat):Int) from by omega]at E;refine RH 4 E I hH hC λa E=>?_;refine QH E (λw hc=>ae E (hc i _ (dQ aF))) hC λa E=>?_;refine RH 1 E I hH hC λa E=>?_;refine DN [(4,[1011,1012,13]),(11,[1004,1012,13])] (by kernel_rfl) rfl ⟨⟨_,rfl,?_⟩,⟨_,rfl,?_⟩,trivial⟩
  ·
   refine RH 0 E I hH hC λa E=>?_;refine aX 0 E I (tg (N:=((k-i:Nat):Int)) (I.pick (Sl 5 1 au dn.length c' (bc dn))) (by omega) (by omega) (by omega)) λcX dU a w E I=>?_;replace hC:=hH.at w ((hp _ I.sub).rd (by omega));refine RH 0 E I hH hC λa E=>?_;refine cn E rfl I underlying22 Ty.t5 rfl rfl rfl rfl (by decide) (by decide) λJd a w E I ho=>?_;clear ho;refine RN 0 E I λa E=>?_;refine cK E rfl I underlying22 Ty.t5 rfl rfl I.ai rfl (by simp[Value.oneCell']) (by decide) (by decide) (by rw[aN];omega) λy1 FD a w E I=>?_;refine RN 1 E I λa E=>?_;rw[u2]at I;have nt:(dn++aO (zz ((k-i:Nat):Int))++[bs[i] ^^^ last])++dB (bs.drop k) bs[i]=dB bs 0:=by rw[← c7];simp
   rw[show (dn++aO (zz ((k-i:Nat):Int))).length+1=(dn++aO (zz ((k-i:Nat):Int))++[bs[i] ^^^ last]).length from by simp only[aN,jC]]at E I;generalize dn++aO (zz ((k-i:Nat):Int))++[bs[i] ^^^ last]=rZ at E I nt;refine RN 4 E I λa E=>?_;refine SS E (ae E (((hp _ I.sub).rd (by omega)) i _ (dQ aF))) λa E=>?_;refine RN 3 E I λa E=>?_;exact⟨bs.length-k,by omega,k,_,y1,rZ,bs[i],⟨rfl,by omega,nt⟩,E.ab [0,3,4,5],I.sub⟩
  refine RH 0 E I hH hC λa E=>?_;refine cn E rfl I underlying22 Ty.t5 rfl rfl rfl rfl (by decide) (by decide) λJd a w E I ho=>?_;clear ho;refine aX 0 E I (tg (N:=((k-i:Nat):Int)) (I.pick (Sl 5 1 au dn.length c' (bc dn))) (by omega) (by omega) (by omega)) λcX dU a w E I=>?_;replace hC:=hH.at w ((hp _ I.sub).rd (by omega));refine RH 0 E I hH hC λa E=>?_;refine cK E rfl I underlying22 Ty.t5 rfl rfl I.ai rfl (by simp[Value.oneCell']) (by decide) (by decide) (by rw[aN];omega) λy1 FD a w E I=>?_;refine RN 1 E I λa E=>?_;rw[u2]at I;have nt:(dn++aO (zz ((k-i:Nat):Int))++[bs[i] ^^^ last])++dB (bs.drop k) bs[i]=dB bs 0:=by rw[← c7];simp
  rw[show (dn++aO (zz ((k-i:Nat):Int))).length+1=(dn++aO (zz ((k-i:Nat):Int))++[bs[i] ^^^ last]).length from by simp only[aN,jC]]at E I;generalize dn++aO (zz ((k-i:Nat):Int))++[bs[i] ^^^ last]=rZ at E I nt;refine RN 4 E I λa E=>?_;refine SS E (ae E (((hp _ I.sub).rd (by omega)) i _ (dQ aF))) λa E=>?_;refine RN 3 E I λa E=>?_;exact⟨bs.length-k,by omega,k,_,y1,rZ,bs[i],⟨rfl,by omega,nt⟩,E.ab [0,3,4,5],I.sub⟩
 rw[drop_eq_nil_of_le (by omega),wX,append_nil]at c7;refine RT 3 E I ?_;exact⟨_,_,by rw[← c7],by rw[← c7];exact I⟩
theorem YK (I:U W w L)(hb:bs.length≤65536)(hp:∀ V,U W V L→aL V ad bs.length bs) :
   Calls prog 159 #[.slice ad bs.length c] w λe V=>∃ au c',e=.returned (.slice au (dB bs 0).length c')∧U W V (Sl 5 1 au (dB bs 0).length c' (bc (dB bs 0))::L):=by
 have ia:=yY bs 0;refine EN func159 ntmps159 rfl rfl λa E=>?_;refine RN 9 E I λa E=>?_;refine aQ (λμ a w=>∃ (i c':Nat) (au:Option Addr) (dn:List UInt8) (last:UInt8),(μ=bs.length-i∧i≤bs.length∧dn++dB (bs.drop i) last=dB bs 0)∧Fr a 52 [(0,.slice ad bs.length c),(3,.slice au dn.length c'),(4,.int .u8 (last.toNat:Int)),(5,.int .i64 i)]∧U W w (Sl 5 1 au dn.length c' (bc dn)::L)) (bs.length) (⟨0,0,none,[],0,⟨rfl,by omega,rfl⟩,E.ab [0,3,4,5],I.bR 5 1 none⟩) ?_;clear E I;rintro μ a w ⟨i,c',au,dn,last,⟨rfl,hi,c7⟩,E,I⟩;refine IF 6 E I (λaj a E=>?_) λaj a E=>?_
 ·
  obtain⟨bb,oo,rfl,_⟩:=(hp _ I.tail).get (by omega);have aF:i<bs.length:=by omega
  have mL:dn.length≤11*bs.length:=by
   have:=dG List.length c7;rw[aN]at this;omega
  refine RN 3 E I λa E=>?_;refine aQ (λμ a w=>∃ (k:Nat),(μ=bs.length-k∧k≤bs.length∧nr bs i k)∧Fr a 52 [(0,.slice (some ⟨bb,oo,none⟩) bs.length c),(3,.slice au dn.length c'),(4,.int .u8 (last.toNat:Int)),(5,.int .i64 i),(6,.int .i64 ((k-i:Nat):Int))]∧U W w (Sl 5 1 au dn.length c' (bc dn)::L)) (bs.length-(i+1)) (⟨i+1,⟨rfl,by omega,nr.one aF⟩,by rw[show i+1-i=1 from by omega];exact E.ab [0,3,4,5,6],I⟩) ?_;clear E I;rintro μ a w ⟨k,⟨rfl,hk,kO⟩,E,I⟩;refine RN 1 E I λa E=>?_;refine cc (M:=λa w=>∃ z:Bool,(z=true→nr bs i (k+1))∧(z=false→∀ he:k<bs.length,bs[k]≠bs[i])∧Fr a 52 [(0,.slice (some ⟨bb,oo,none⟩) bs.length c),(3,.slice au dn.length c'),(4,.int .u8 (last.toNat:Int)),(5,.int .i64 i),(6,.int .i64 ((k-i:Nat):Int)),(29,.bool z)]∧U W w (Sl 5 1 au dn.length c' (bc dn)::L)) ?_ ?_
  ·
   refine RN 0 E I λa E=>?_;have pN:=kO.lt;refine bW 0 [16] [0,1,2,3,4,5,6,7,8,9,10,11,13,14,15,3012,1016,17,18] E I λa w E I hH hC=>?_;have hr:=(hp _ I.tail).rd (by omega);refine RH 3 E I hH hC λa E=>?_;rw[show ((i:Nat):Int)+((k-i:Nat):Int)=(k:Int) from by omega]at E;refine RH 4 E I hH hC λa E=>?_;refine E.by (s:=17) (λj9 E=>?_) (λj9 E=>?_)
   ·
    refine RH 4 E I hH hC λa E=>?_;rw[show ((i:Nat):Int)+((k-i:Nat):Int)=(k:Int) from by omega]at E;refine RH 4 E I hH hC λa E=>?_;refine QH E (λw hc=>ae E ((hc.rd hr) k _ (dQ (i:=k) (bs:=bs) (show k<bs.length by omega)))) hC λa E=>?_;refine RH 0 E I hH hC λa E=>?_;refine bu E (cu E rfl (s:=17)) (ae E ((hC.rd hr) i _ (dQ aF))) rfl λa E=>?_;refine RH 2 E I hH hC λa E=>?_;have dS:k<bs.length:=by omega
    refine⟨_,λh=>?_,λh=>?_,E.ab [0,3,4,5,6,29],I⟩
    ·have he:bs[k]=bs[i]:=UInt8.toNat_inj.1 (by have:=m3 h;omega);exact kO.more dS he
    ·have he:bs[k]≠bs[i]:=λe=>of_decide_eq_false h (by rw[e]);exact λ_=>he
   refine RH 12 E I hH hC λa E=>?_;refine⟨_,λh=>(by cases h),λh=>?_,E.ab [0,3,4,5,6,29],I⟩;exact λ_=>absurd (show k<bs.length by assumption) (by omega)
  clear E;(try clear I);rintro a w ⟨z,cv,kN,E,I⟩;refine IF 0 E I (λao a E=>?_) λao a E=>?_
  ·
   have pW:=cv ao;refine RN 1 E I λa E=>?_;have pN:=kO.lt;have ca:((k-i:Nat):Int)≤65536:=by omega
   refine RN 1 E I λa E=>?_;rw[show ((k-i:Nat):Int)+1=((k+1-i:Nat):Int) from by omega]at E;refine RN 1 E I λa E=>?_;exact⟨bs.length-(k+1),by have:=pW.le;omega,k+1,⟨rfl,pW.le,pW⟩,E.ab [0,3,4,5,6],I⟩
  have bT:=kN ao;rw[kO.runs aF bT last]at c7;have dS:=kO.lt;have yD:=kO.le;refine a1 1 (λw0 w=>Rd w bb oo (bc bs)) [2,3] [0,1,4,5,6,8,3007,9,2002,2003,1010,1011,12] E I λa w E I hH=>?_;have hC:=(hp _ I.tail).rd (by omega);have eO:=rX (n:=((k-i:Nat):Int)) (by omega) (by omega);refine RH 6 E I hH hC λa E=>?_;refine QH E (λw hc=>ae E (hc i _ (dQ aF))) hC λa E=>?_;refine RH 1 E I hH hC λa E=>?_;refine DN [(2,[2003,1010,1011,12]),(10,[1002,1003,1011,12])] (by kernel_rfl) rfl ⟨⟨_,rfl,?_⟩,⟨_,rfl,?_⟩,trivial⟩
  ·
   refine RH 0 E I hH hC λa E=>?_;refine aX 0 E I (tw (N:=((k-i:Nat):Int)) I (by omega) (by omega)) λcX dU a w E I=>?_;replace hC:=hH.at w ((hp _ I.sub).rd (by omega));refine RH 0 E I hH hC λa E=>?_;refine DN [(3,[1010,1011,12]),(10,[1003,1011,12])] (by kernel_rfl) rfl ⟨⟨_,rfl,?_⟩,⟨_,rfl,?_⟩,trivial⟩
   ·
    obtain⟨bp,op,rfl,fp⟩:=(I.cr cX (aO (zz ((k-i:Nat):Int))) rfl rfl).get (rP _);refine RH 0 E I hH hC λa E=>?_;refine cK E rfl I underlying22 Ty.t5 rfl rfl fp (by rw[dt,fD]) (eF _) (rP _) (by decide) (by omega) λFE FF a w E I=>?_;replace hC:=hH.at w ((hp _ I.sub).rd (by omega));refine RH 0 E I hH hC λa E=>?_;refine cn E rfl I underlying22 Ty.t5 rfl rfl rfl rfl (by decide) (by decide) λLl a w E I ho=>?_;clear ho;refine RN 0 E I λa E=>?_;refine cK E rfl I underlying22 Ty.t5 rfl rfl I.ai rfl (by simp[Value.oneCell']) (by decide) (by decide) (by omega) λw1 FG a w E I=>?_;refine RN 1 E I λa E=>?_;rw[← fR,u2]at I;have nt:(dn++aO (zz ((k-i:Nat):Int))++[bs[i] ^^^ last])++dB (bs.drop k) bs[i]=dB bs 0:=by rw[← c7];simp
    rw[show dn.length+(aO (zz ((k-i:Nat):Int))).length+1=(dn++aO (zz ((k-i:Nat):Int))++[bs[i] ^^^ last]).length from by simp only[aN,jC]]at E I;generalize dn++aO (zz ((k-i:Nat):Int))++[bs[i] ^^^ last]=rZ at E I nt;refine RN 4 E I λa E=>?_;refine SS E (ae E (((hp _ I.sub).rd (by omega)) i _ (dQ aF))) λa E=>?_;refine RN 4 E I λa E=>?_;rw[show ((i:Nat):Int)+((k-i:Nat):Int)=(k:Int) from by omega]at E;refine RN 1 E I λa E=>?_;exact⟨bs.length-k,by omega,k,_,w1,rZ,bs[i],⟨rfl,by omega,nt⟩,E.ab [0,3,4,5],I.sub⟩
   refine RH 0 E I hH hC λa E=>?_;refine cn E rfl I underlying22 Ty.t5 rfl rfl rfl rfl (by decide) (by decide) λLl a w E I ho=>?_;clear ho;obtain⟨bp,op,rfl,fp⟩:=(I.cr cX (aO (zz ((k-i:Nat):Int))) rfl rfl).get (rP _);refine RN 0 E I λa E=>?_;refine cK E rfl I underlying22 Ty.t5 rfl rfl fp (by rw[dt,fD]) (eF _) (rP _) (by decide) (by omega) λFE FF a w E I=>?_;replace hC:=hH.at w ((hp _ I.sub).rd (by omega));refine RH 0 E I hH hC λa E=>?_;refine cK E rfl I underlying22 Ty.t5 rfl rfl I.ai rfl (by simp[Value.oneCell']) (by decide) (by decide) (by omega) λw1 FG a w E I=>?_;refine RN 1 E I λa E=>?_;rw[← fR,u2]at I;have nt:(dn++aO (zz ((k-i:Nat):Int))++[bs[i] ^^^ last])++dB (bs.drop k) bs[i]=dB bs 0:=by rw[← c7];simp
   rw[show dn.length+(aO (zz ((k-i:Nat):Int))).length+1=(dn++aO (zz ((k-i:Nat):Int))++[bs[i] ^^^ last]).length from by simp only[aN,jC]]at E I;generalize dn++aO (zz ((k-i:Nat):Int))++[bs[i] ^^^ last]=rZ at E I nt;refine RN 4 E I λa E=>?_;refine SS E (ae E (((hp _ I.sub).rd (by omega)) i _ (dQ aF))) λa E=>?_;refine RN 4 E I λa E=>?_;rw[show ((i:Nat):Int)+((k-i:Nat):Int)=(k:Int) from by omega]at E;refine RN 1 E I λa E=>?_;exact⟨bs.length-k,by omega,k,_,w1,rZ,bs[i],⟨rfl,by omega,nt⟩,E.ab [0,3,4,5],I.sub⟩
  refine RH 0 E I hH hC λa E=>?_;refine cn E rfl I underlying22 Ty.t5 rfl rfl rfl rfl (by decide) (by decide) λLl a w E I ho=>?_;clear ho;refine aX 0 E I (tw (N:=((k-i:Nat):Int)) I (by omega) (by omega)) λcX dU a w E I=>?_;replace hC:=hH.at w ((hp _ I.sub).rd (by omega));obtain⟨bp,op,rfl,fp⟩:=(I.cr cX (aO (zz ((k-i:Nat):Int))) rfl rfl).get (rP _);refine RH 0 E I hH hC λa E=>?_;refine cK E rfl I underlying22 Ty.t5 rfl rfl fp (by rw[dt,fD]) (eF _) (rP _) (by decide) (by omega) λFE FF a w E I=>?_;replace hC:=hH.at w ((hp _ I.sub).rd (by omega));refine RH 0 E I hH hC λa E=>?_;refine cK E rfl I underlying22 Ty.t5 rfl rfl I.ai rfl (by simp[Value.oneCell']) (by decide) (by decide) (by omega) λw1 FG a w E I=>?_;refine RN 1 E I λa E=>?_;rw[← fR,u2]at I;have nt:(dn++aO (zz ((k-i:Nat):Int))++[bs[i] ^^^ last])++dB (bs.drop k) bs[i]=dB bs 0:=by rw[← c7];simp
  rw[show dn.length+(aO (zz ((k-i:Nat):Int))).length+1=(dn++aO (zz ((k-i:Nat):Int))++[bs[i] ^^^ last]).length from by simp only[aN,jC]]at E I;generalize dn++aO (zz ((k-i:Nat):Int))++[bs[i] ^^^ last]=rZ at E I nt;refine RN 4 E I λa E=>?_;refine SS E (ae E (((hp _ I.sub).rd (by omega)) i _ (dQ aF))) λa E=>?_;refine RN 4 E I λa E=>?_;rw[show ((i:Nat):Int)+((k-i:Nat):Int)=(k:Int) from by omega]at E;refine RN 1 E I λa E=>?_;exact⟨bs.length-k,by omega,k,_,w1,rZ,bs[i],⟨rfl,by omega,nt⟩,E.ab [0,3,4,5],I.sub⟩
 rw[drop_eq_nil_of_le (by omega),wX,append_nil]at c7;refine RT 3 E I ?_;exact⟨_,_,by rw[← c7],by rw[← c7];exact I⟩
theorem YL (I:U W w L)(hb:bs.length≤65536)(hc:bs.length≤c)(hm:m≤1000000)(hp:∀ V,U W V L→aL V ad bs.length bs) :
   Calls prog 333 #[.slice ad bs.length c,.int .i64 m] w λe V=>∃ (out:List UInt8) (au:Option Addr) (c':Nat) (er:Int),e=.returned (.tuple #[.slice au out.length c',.int .i64 er])∧tx bs m out er∧U W V (Sl 5 1 au out.length c' (bc out)::L):=by
 refine EN func333 ntmps333 rfl rfl λa E=>?_;refine RN 10 E I λa E=>?_;refine aQ (λμ a w=>∃ (i c':Nat) (au:Option Addr) (dn:List UInt8) (last:UInt8),(μ=bs.length-i∧i≤bs.length∧dn.length≤m∧(0<i→dn≠[])∧∀ p:List UInt8,p.length≤m→bs=dB p 0→mP p dn last (bs.drop i))∧Fr a 79 [(0,.slice ad bs.length c),(1,.int .i64 m),(6,.slice au dn.length c'),(7,.int .u8 (last.toNat:Int)),(8,.int .i64 i)]∧U W w (Sl 5 1 au dn.length c' (bc dn)::L)) (bs.length) (⟨0,0,none,[],0,⟨rfl,by omega,by simp,by omega,λp _ e=>by rw[drop_zero,e];exact mP.start p⟩,E.ab [0,1,6,7,8],I.bR 5 1 none⟩) ?_;clear E I;rintro μ a w ⟨i,c',au,dn,last,⟨rfl,hi,FH,FI,ni⟩,E,I⟩;refine IF 6 E I (λaj a E=>?_) λaj a E=>?_
 ·
  obtain⟨bb,oo,rfl,_⟩:=(hp _ I.tail).get (by omega);have aF:i<bs.length:=by omega
  have bT:bs.drop i≠[]:=λe=>by have:=dG List.length e;simp at this;omega
  refine RN 4 E I λa E=>?_;rw[show bs.length-i=(bs.drop i).length from by simp]at E;refine j1 0 E I (Lh (bs:=bs.drop i) I (by simp;omega) (λV hw=>(hp V hw.tail).uY hi hc)) λx k er a w E ⟨hg,I⟩=>?_;refine RN 8 E I λa E=>?_;refine cc (M:=λa w=>∃ z:Bool,(z=true↔(er≠0∨x<1∨bs.length≤i+k∨((bs.getD (i+k) 0).toNat=0∧0<i)))∧Fr a 79 [(0,.slice (some ⟨bb,oo,none⟩) bs.length c),(1,.int .i64 m),(6,.slice au dn.length c'),(7,.int .u8 (last.toNat:Int)),(8,.int .i64 i),(9,.int .i64 x),(10,.int .i64 k),(50,.bool z)]∧U W w (Sl 5 1 au dn.length c' (bc dn)::L)) ?_ ?_
  ·
   have mL:(bs.drop i).length=bs.length-i:=by simp
   have pX:=hg.2.2.1;have nK:=hg.2.1;have oR:=hg.1;have dS:k≤bs.length:=by
    by_cases h0:er=0
    ·have:=pX h0;omega
    ·have:=(hg.2.2.2.1 h0).1;omega
   refine BY 3 E I (λbA a E=>?_) λbA a E=>?_
   ·
    refine RN 24 E I λa E=>?_;exact⟨_,by first | (rw[ct];omega) | exact⟨λh=>(by cases h),λh=>absurd h (by omega)⟩ | exact⟨λ_=>by omega,λ_=>rfl⟩,E.ab [0,1,6,7,8,9,10,50],I⟩
   refine BY 4 E I (λj9 a E=>?_) λj9 a E=>?_
   ·
    refine RN 20 E I λa E=>?_;exact⟨_,by first | (rw[ct];omega) | exact⟨λh=>(by cases h),λh=>absurd h (by omega)⟩ | exact⟨λ_=>by omega,λ_=>rfl⟩,E.ab [0,1,6,7,8,9,10,50],I⟩
   refine BY 8 E I (λjO a E=>?_) λjO a E=>?_
   ·
    refine RN 12 E I λa E=>?_;exact⟨_,by first | (rw[ct];omega) | exact⟨λh=>(by cases h),λh=>absurd h (by omega)⟩ | exact⟨λ_=>by omega,λ_=>rfl⟩,E.ab [0,1,6,7,8,9,10,50],I⟩
   refine RN 4 E I λa E=>?_;rw[show ((i:Nat):Int)+((k:Nat):Int)=((i+k:Nat):Int) from by omega]at E;refine RN 1 E I λa E=>?_;refine bu E (cu E rfl (s:=38)) (ae E (((hp _ I.tail).rd (by omega)) (i+k) _ (ll (by omega)))) rfl λa E=>?_;refine BY 2 E I (λpY a E=>?_) λpY a E=>?_
   ·
    refine RN 4 E I λa E=>?_;exact⟨_,by first | (rw[ct];omega) | exact⟨λh=>(by cases h),λh=>absurd h (by omega)⟩ | exact⟨λ_=>by omega,λ_=>rfl⟩,E.ab [0,1,6,7,8,9,10,50],I⟩
   refine RN 4 E I λa E=>?_;exact⟨_,by first | (rw[ct];omega) | exact⟨λh=>(by cases h),λh=>absurd h (by omega)⟩ | exact⟨λ_=>by omega,λ_=>rfl⟩,E.ab [0,1,6,7,8,9,10,50],I⟩
  clear E;(try clear I);rintro a w ⟨z,hz,E,I⟩;refine IF 0 E I (λao a E=>?_) λao a E=>?_
  ·
   have j8:=hz.1 ao;refine RT 3 E I ?_;exact⟨[],none,0,1,rfl,tx.bad ni hm bT hg (by rw[Lj,c4];rcases j8 with h | h | h | h;exact .inl h;exact .inr (.inl h);exact .inr (.inr (.inl (by omega)));exact .inr (.inr (.inr (.inl ⟨FI h.2,h.1⟩)))) (.inl rfl),I.tail.bR _ _ _⟩
  have E8:¬ (er≠0∨x<1∨bs.length≤i+k∨((bs.getD (i+k) 0).toNat=0∧0<i)):=λh=>absurd (hz.2 h) (by simp[ao]);refine IF 9 E I (λay a E=>?_) λay a E=>?_
  ·
   refine RT 3 E I ?_;exact⟨[],none,0,4,rfl,tx.bad ni hm bT hg (.inr (.inr (.inr (.inr (by omega))))) (.inr rfl),I.tail.bR _ _ _⟩
  refine RN 6 E I λa E=>?_;rw[show ((i:Nat):Int)+((k:Nat):Int)=((i+k:Nat):Int) from by omega]at E;refine RN 1 E I λa E=>?_;refine SS E (ae E (((hp _ I.tail).rd (by omega)) (i+k) _ (ll (by omega)))) λa E=>?_;refine RN 2 E I λa E=>?_;generalize hy:last ^^^ bs.getD (i+k) 0=y at E;refine RN 4 E I λa E=>?_;refine aQ (λμ a w=>∃ (j c2:Nat) (ad2:Option Addr),(μ=x.toNat-j∧j≤x.toNat)∧Fr a 79 [(0,.slice (some ⟨bb,oo,none⟩) bs.length c),(1,.int .i64 m),(6,.slice ad2 (dn++List.replicate j y).length c2),(7,.int .u8 (y.toNat:Int)),(8,.int .i64 i),(10,.int .i64 k),(66,.int .i64 x),(67,.int .i64 j)]∧U W w (Sl 5 1 ad2 (dn++List.replicate j y).length c2 (bc (dn++List.replicate j y))::L)) (x.toNat) (⟨0,c',au,⟨rfl,by omega⟩,by rw[List.replicate_zero,append_nil];exact E.ab [0,1,6,7,8,10,66,67],by rw[List.replicate_zero,append_nil];exact I⟩) ?_;clear E I;rintro μ a w ⟨j,c2,ad2,⟨rfl,hj⟩,E,I⟩;refine IF 3 E I (λbj a E=>?_) λbj a E=>?_
  ·
   refine RN 1 E I λa E=>?_;have ea:(dn++List.replicate j y).length=dn.length+j:=by simp
   refine RN 2 E I λa E=>?_;refine cn E rfl I underlying22 Ty.t5 rfl rfl rfl rfl (by decide) (by decide) λYM a w E I ho=>?_;clear ho;refine RN 0 E I λa E=>?_;refine cK E rfl I underlying22 Ty.t5 rfl rfl I.ai rfl (by simp[Value.oneCell']) (by decide) (by decide) (by omega) λLm Lo a w E I=>?_;refine RN 1 E I λa E=>?_;rw[u2,show (dn++List.replicate j y)++[y]=dn++List.replicate (j+1) y from by rw[dA,← replicate_succ']]at I;rw[show (dn++List.replicate j y).length+1=(dn++List.replicate (j+1) y).length from by simp;omega]at E I;refine RN 2 E I λa E=>?_;exact⟨x.toNat-(j+1),by omega,j+1,_,_,⟨rfl,by omega⟩,E.ab [0,1,6,7,8,10,66,67],I.sub⟩
  obtain rfl:j=x.toNat:=by omega
  refine RN 0 E I λa E=>?_;have oM:(dn++List.replicate x.toNat y).length=dn.length+x.toNat:=by simp
  refine RN 4 E I λa E=>?_;rw[show ((i:Nat):Int)+(((k:Nat):Int)+1)=((i+k+1:Nat):Int) from by omega]at E;refine RN 1 E I λa E=>?_;exact⟨bs.length-(i+k+1),by omega,i+k+1,_,_,_,y,⟨rfl,by omega,by omega,λ_ e=>(by rw[e]at oM;simp at oM;omega),λp u3 e=>(by
   have h2:=((ni p u3 e).get (by omega) bT hg).2.2.2.2.2;rw[Lj,hy,kr]at h2;exact h2)⟩,E.ab [0,1,6,7,8],I⟩
 refine RT 4 E I ?_;exact⟨dn,_,_,0,rfl,⟨by omega,FH,λp u3 e=>⟨by have h2:=ni p u3 e;rw[drop_eq_nil_of_le (by omega)]at h2;exact h2.done.symm,rfl⟩⟩,I⟩
theorem YN (I:U W w L)(hb:bs.length≤65536)(hc:bs.length≤c)(hm:m≤1000000)(hp:∀ V,U W V L→aL V ad bs.length bs) :
   Calls prog 216 #[.slice ad bs.length c,.int .i64 m] w λe V=>∃ (out:List UInt8) (au:Option Addr) (c':Nat) (er:Int),e=.returned (.tuple #[.slice au out.length c',.int .i64 er])∧tx bs m out er∧U W V (Sl 5 1 au out.length c' (bc out)::L):=by
 refine EN func216 ntmps216 rfl rfl λa E=>?_;refine RN 10 E I λa E=>?_;refine aQ (λμ a w=>∃ (i c' oW:Nat) (au r0:Option Addr) (dn rest:List UInt8) (last:UInt8) (fi:Bool),(μ=rest.length∧rest.length≤bs.length∧rest.length≤oW∧dn.length≤m∧(fi=false→dn≠[])∧(∀ V,U W V L→aL V r0 rest.length rest)∧∀ p:List UInt8,p.length≤m→bs=dB p 0→mP p dn last rest)∧Fr a 72 [(0,.slice r0 rest.length oW),(1,.int .i64 m),(6,.slice au dn.length c'),(7,.int .u8 (last.toNat:Int)),(8,.bool fi)]∧U W w (Sl 5 1 au dn.length c' (bc dn)::L)) (bs.length) (⟨0,0,c,none,ad,[],bs,0,true,⟨rfl,by omega,hc,by simp,(by simp),hp,λp _ e=>by rw[e];exact mP.start p⟩,E.ab [0,1,6,7,8],I.bR 5 1 none⟩) ?_;clear E I;rintro μ a w ⟨i,c',oW,au,r0,dn,rest,last,fi,⟨rfl,w4,jQ,FH,FI,a7,ni⟩,E,I⟩;refine IF 5 E I (λaj a E=>?_) λaj a E=>?_
 ·
  obtain⟨bb,oo,rfl,_⟩:=(a7 _ I.tail).get (by omega);have bT:rest≠[]:=λe=>by rw[e]at aj;simp at aj
  refine j1 3 E I (FB (bs:=rest) I (by omega) (λV hw=>a7 V hw.tail)) λx k er a w E ⟨hg,I⟩=>?_;refine RN 8 E I λa E=>?_;refine cc (M:=λa w=>∃ z:Bool,(z=true↔(er≠0∨x<1∨rest.length≤k∨((rest.getD k 0).toNat=0∧fi=false)))∧Fr a 72 [(0,.slice (some ⟨bb,oo,none⟩) rest.length oW),(1,.int .i64 m),(6,.slice au dn.length c'),(7,.int .u8 (last.toNat:Int)),(8,.bool fi),(9,.int .i64 x),(10,.int .i64 k),(44,.bool z)]∧U W w (Sl 5 1 au dn.length c' (bc dn)::L)) ?_ ?_
  ·
   have pX:=hg.2.2.1;have nK:=hg.2.1;have oR:=hg.1;have dS:k≤rest.length:=by
    by_cases h0:er=0
    ·have:=pX h0;omega
    ·have:=(hg.2.2.2.1 h0).1;omega
   refine BY 3 E I (λbA a E=>?_) λbA a E=>?_
   ·
    refine RN 20 E I λa E=>?_;exact⟨_,by first | (rw[ct];omega) | exact⟨λh=>(by cases h),λh=>absurd h (by omega)⟩ | exact⟨λ_=>by omega,λ_=>rfl⟩ | (cases fi;exact⟨λ_=>.inr (.inr (.inr ⟨by omega,rfl⟩)),λ_=>rfl⟩;exact⟨λh=>(by cases h),λh=>by rcases h with h | h | h | h;exact absurd h (by omega);exact absurd h (by omega);exact absurd h (by omega);exact absurd h.2 (by decide)⟩),E.ab [0,1,6,7,8,9,10,44],I⟩
   refine BY 4 E I (λj9 a E=>?_) λj9 a E=>?_
   ·
    refine RN 16 E I λa E=>?_;exact⟨_,by first | (rw[ct];omega) | exact⟨λh=>(by cases h),λh=>absurd h (by omega)⟩ | exact⟨λ_=>by omega,λ_=>rfl⟩ | (cases fi;exact⟨λ_=>.inr (.inr (.inr ⟨by omega,rfl⟩)),λ_=>rfl⟩;exact⟨λh=>(by cases h),λh=>by rcases h with h | h | h | h;exact absurd h (by omega);exact absurd h (by omega);exact absurd h (by omega);exact absurd h.2 (by decide)⟩),E.ab [0,1,6,7,8,9,10,44],I⟩
   refine BY 6 E I (λic a E=>?_) λic a E=>?_
   ·
    refine RN 10 E I λa E=>?_;exact⟨_,by first | (rw[ct];omega) | exact⟨λh=>(by cases h),λh=>absurd h (by omega)⟩ | exact⟨λ_=>by omega,λ_=>rfl⟩ | (cases fi;exact⟨λ_=>.inr (.inr (.inr ⟨by omega,rfl⟩)),λ_=>rfl⟩;exact⟨λh=>(by cases h),λh=>by rcases h with h | h | h | h;exact absurd h (by omega);exact absurd h (by omega);exact absurd h (by omega);exact absurd h.2 (by decide)⟩),E.ab [0,1,6,7,8,9,10,44],I⟩
   refine RN 3 E I λa E=>?_;refine bu E (cu E rfl (s:=34)) (ae E (((a7 _ I.tail).rd (by omega)) k _ (ll (by omega)))) rfl λa E=>?_;refine BY 2 E I (λpI a E=>?_) λpI a E=>?_
   ·
    refine RN 4 E I λa E=>?_;exact⟨_,by first | (rw[ct];omega) | exact⟨λh=>(by cases h),λh=>absurd h (by omega)⟩ | exact⟨λ_=>by omega,λ_=>rfl⟩ | (cases fi;exact⟨λ_=>.inr (.inr (.inr ⟨by omega,rfl⟩)),λ_=>rfl⟩;exact⟨λh=>(by cases h),λh=>by rcases h with h | h | h | h;exact absurd h (by omega);exact absurd h (by omega);exact absurd h (by omega);exact absurd h.2 (by decide)⟩),E.ab [0,1,6,7,8,9,10,44],I⟩
   refine RN 4 E I λa E=>?_;exact⟨_,by first | (rw[ct];omega) | exact⟨λh=>(by cases h),λh=>absurd h (by omega)⟩ | exact⟨λ_=>by omega,λ_=>rfl⟩ | (cases fi;exact⟨λ_=>.inr (.inr (.inr ⟨by omega,rfl⟩)),λ_=>rfl⟩;exact⟨λh=>(by cases h),λh=>by rcases h with h | h | h | h;exact absurd h (by omega);exact absurd h (by omega);exact absurd h (by omega);exact absurd h.2 (by decide)⟩),E.ab [0,1,6,7,8,9,10,44],I⟩
  clear E;(try clear I);rintro a w ⟨z,hz,E,I⟩;refine IF 0 E I (λao a E=>?_) λao a E=>?_
  ·
   have j8:=hz.1 ao;refine RT 3 E I ?_;exact⟨[],none,0,1,rfl,tx.bad ni hm bT hg (by rcases j8 with h | h | h | h;exact .inl h;exact .inr (.inl h);exact .inr (.inr (.inl (by omega)));exact .inr (.inr (.inr (.inl ⟨FI h.2,h.1⟩)))) (.inl rfl),I.tail.bR _ _ _⟩
  have E8:¬ (er≠0∨x<1∨rest.length≤k∨((rest.getD k 0).toNat=0∧fi=false)):=λh=>absurd (hz.2 h) (by simp[ao]);refine IF 9 E I (λay a E=>?_) λay a E=>?_
  ·
   refine RT 3 E I ?_;exact⟨[],none,0,4,rfl,tx.bad ni hm bT hg (.inr (.inr (.inr (.inr (by omega))))) (.inr rfl),I.tail.bR _ _ _⟩
  refine RN 5 E I λa E=>?_;refine SS E (ae E (((a7 _ I.tail).rd (by omega)) k _ (ll (by omega)))) λa E=>?_;refine RN 2 E I λa E=>?_;generalize hy:last ^^^ rest.getD k 0=y at E;refine RN 3 E I λa E=>?_;refine aQ (λμ a w=>∃ (j c2:Nat) (ad2:Option Addr),(μ=x.toNat-j∧j≤x.toNat)∧Fr a 72 [(0,.slice (some ⟨bb,oo,none⟩) rest.length oW),(1,.int .i64 m),(6,.slice ad2 (dn++List.replicate j y).length c2),(7,.int .u8 (y.toNat:Int)),(8,.bool fi),(9,.int .i64 x),(10,.int .i64 k),(12,.int .i64 j)]∧U W w (Sl 5 1 ad2 (dn++List.replicate j y).length c2 (bc (dn++List.replicate j y))::L)) (x.toNat) (⟨0,c',au,⟨rfl,by omega⟩,by rw[List.replicate_zero,append_nil];exact E.ab [0,1,6,7,8,9,10,12],by rw[List.replicate_zero,append_nil];exact I⟩) ?_;clear E I;rintro μ a w ⟨j,c2,ad2,⟨rfl,hj⟩,E,I⟩;refine IF 5 E I (λbj a E=>?_) λbj a E=>?_
  ·
   refine RN 1 E I λa E=>?_;have ea:(dn++List.replicate j y).length=dn.length+j:=by simp
   refine RN 2 E I λa E=>?_;refine cn E rfl I underlying22 Ty.t5 rfl rfl rfl rfl (by decide) (by decide) λSa a w E I ho=>?_;clear ho;refine RN 0 E I λa E=>?_;refine cK E rfl I underlying22 Ty.t5 rfl rfl I.ai rfl (by simp[Value.oneCell']) (by decide) (by decide) (by omega) λaf2 c66 a w E I=>?_;refine RN 1 E I λa E=>?_;rw[u2,show (dn++List.replicate j y)++[y]=dn++List.replicate (j+1) y from by rw[dA,← replicate_succ']]at I;rw[show (dn++List.replicate j y).length+1=(dn++List.replicate (j+1) y).length from by simp;omega]at E I;refine RN 3 E I λa E=>?_;exact⟨x.toNat-(j+1),by omega,j+1,_,_,⟨rfl,by omega⟩,E.ab [0,1,6,7,8,9,10,12],I.sub⟩
  obtain rfl:j=x.toNat:=by omega
  refine RN 0 E I λa E=>?_;have oM:(dn++List.replicate x.toNat y).length=dn.length+x.toNat:=by simp
  refine RN 5 E I λa E=>?_;rw[show rest.length-(k+1)=(rest.drop (k+1)).length from by simp]at E;refine RN 1 E I λa E=>?_;exact⟨(rest.drop (k+1)).length,by simp;omega,0,_,_,_,_,_,rest.drop (k+1),y,false,⟨rfl,by simp;omega,by simp;omega,by omega,λ_ e=>(by rw[e]at oM;simp at oM;omega),λV hw=>(a7 V hw).uY (by omega) jQ,λp u3 e=>(by
   have h2:=((ni p u3 e).get (by omega) bT hg).2.2.2.2.2;rw[hy]at h2;exact h2)⟩,E.ab [0,1,6,7,8],I⟩
 refine RT 4 E I ?_;have YO:rest=[]:=hG (by omega);exact⟨dn,_,_,0,rfl,⟨by omega,FH,λp u3 e=>⟨by have h2:=ni p u3 e;rw[YO]at h2;exact h2.done.symm,rfl⟩⟩,I⟩
end
end
section
abbrev dR (p:Pk)(ad:Option Addr)(c:Nat):List Value:=[.int .i64 p.kind,.int .i64 p.aY,.int .i64 p.to,.int .i64 p.id,.int .i64 p.first,.slice ad p.al.length c,.int .i64 p.c8,.int .i64 p.frame,.int .u32 p.sum]
def pZ (m:Int)(ns:List Int):Prop:=∀ n∈ns,0≤n∧n≤m
def FJ (ns:List Int):List Value:=ns.map λn=>.int .i64 n
theorem YP {ns:List Int}{i:Nat}(h:i<ns.length):(FJ ns)[i]?=some (.int .i64 ns[i]):=by simp[FJ,h]
def iO (p:Pk):Prop:=(0≤p.aY∧p.aY≤7)∧(0≤p.to∧p.to≤7)∧p.aY≠p.to∧(0≤p.id∧p.id≤1099511627776)
theorem FK {p:Pk}(h:iO p)(hk:p.kind=1):hS p↔(pZ 1000 [p.first,p.c8,p.frame]∧p.al.length≤32):=by
 unfold iO at h;simp only[hS,pZ,eR,wN,not_mem_nil,false_implies,implies_true,and_true];omega
theorem FL {p:Pk}(h:iO p)(hk:p.kind=2):hS p↔(pZ 0 [p.first,p.c8,p.frame,(p.al.length:Int)]∧p.sum=0):=by
 unfold iO at h;simp only[hS,pZ,eR,wN,not_mem_nil,false_implies,implies_true,and_true];omega
theorem BB {p:Pk}(h:hS p):iO p:=⟨h.1,h.2.1,h.2.2.1,h.2.2.2.1⟩
theorem y2 {p:Pk}(h:hS p):p.kind=1∨p.kind=2:=by
 rcases h.2.2.2.2 with h | h
 ·exact .inl h.1
 ·exact .inr h.1
section
variable {W w:World}{L:List SP}{n c:Nat}{ad:Option Addr}{p:Pk}
theorem FM {ns:List Int}{b:Nat}{M:Int}(I:U W w L)(hb:ns.length≤1000)(hp:∀ V,U W V L→Rd V b 0 (FJ ns)) :
   Calls prog 342 #[.int .i64 M,.slice (some ⟨b,0,none⟩) ns.length ns.length] w λe V=>∃ r:Bool,e=.returned (.bool r)∧(r=true↔pZ M ns)∧U W V L:=by
 refine EN func342 ntmps342 rfl rfl λa E=>?_;refine RN 7 E I λa E=>?_;refine aQ (λμ a w=>∃ (i:Nat),(μ=ns.length-i∧i≤ns.length∧pZ M (ns.take i))∧Fr a 21 [(0,.int .i64 M),(7,.slice (some ⟨b,0,none⟩) ns.length ns.length),(8,.int .i64 ns.length),(9,.int .i64 i)]∧U W w L) (ns.length) (⟨0,⟨rfl,by omega,λn h=>by simp at h⟩,E.ab [0,7,8,9],I⟩) ?_;clear E I;rintro μ a w ⟨i,⟨rfl,hi,cF⟩,E,I⟩;refine IF 3 E I (λaj a E=>?_) λaj a E=>?_
 ·
  have aF:i<ns.length:=by omega
  refine RN 3 E I λa E=>?_;refine SS E (ae E (by have:=hp _ I i _ (YP aF);rwa [ep]at this)) λa E=>?_;refine RN 1 E I λa E=>?_;refine cc (M:=λa w=>∃ z:Bool,(z=true↔¬ (0≤ns[i]∧ns[i]≤M))∧Fr a 21 [(0,.int .i64 M),(7,.slice (some ⟨b,0,none⟩) ns.length ns.length),(8,.int .i64 ns.length),(9,.int .i64 i),(19,.bool z)]∧U W w L) ?_ ?_
  ·
   refine BY 3 E I (λbA a E=>?_) λbA a E=>?_
   ·
    refine RN 4 E I λa E=>?_;exact⟨_,by first | (rw[ct];omega) | exact⟨λh=>(by cases h),λh=>absurd h (by omega)⟩ | exact⟨λ_=>by omega,λ_=>rfl⟩,E.ab [0,7,8,9,19],I⟩
   refine RN 4 E I λa E=>?_;exact⟨_,by first | (rw[ct];omega) | exact⟨λh=>(by cases h),λh=>absurd h (by omega)⟩ | exact⟨λ_=>by omega,λ_=>rfl⟩,E.ab [0,7,8,9,19],I⟩
  clear E;(try clear I);rintro a w ⟨z,hz,E,I⟩;refine IF 0 E I (λao a E=>?_) λao a E=>?_
  ·
   refine RT 2 E I ?_;exact⟨_,rfl,⟨λh=>(by cases h),λh=>absurd (h _ (iI aF)) (hz.1 ao)⟩,I⟩
  refine RN 2 E I λa E=>?_;exact⟨ns.length-(i+1),by omega,i+1,⟨rfl,by omega,λn hn=>by
   rw[jv aF,eX,iF]at hn;rcases hn with hn | rfl
   ·exact cF n hn
   ·exact Classical.byContradiction λh=>by have:=hz.2 h;rw[ao]at this;cases this⟩,E.ab [0,7,8,9],I⟩
 refine RT 2 E I ?_;rw[fO (by omega)]at cF;exact⟨_,rfl,⟨λ_=>cF,λ_=>rfl⟩,I⟩
theorem Lp {M a b:Int}:pZ M [a,b]↔(0≤a∧a≤M)∧(0≤b∧b≤M):=by simp[pZ]
theorem YQ {M a b c:Int}:pZ M [a,b,c]↔(0≤a∧a≤M)∧(0≤b∧b≤M)∧(0≤c∧c≤M):=by simp[pZ]
theorem YR (I:U W w L):Calls prog 336 #[.agg (dR p ad c).toArray] w λe V=>∃ r:Bool,e=.returned (.bool r)∧(r=true↔hS p)∧U W V L:=by
 have r4:=I;refine EN func336 ntmps336 rfl rfl λa E=>?_;refine BX 1 E I λb1 a w E I=>?_;refine RN 2 E I λa E=>?_;refine cc (M:=λa w=>∃ (z:Bool) (b1:Nat),(z=true↔¬ iO p)∧Fr a 63 [(1,pt b1),(26,.bool z)]∧U W w (aa b1 203 (dR p ad c)::L)) ?_ ?_
 ·
  refine RN 4 E I λa E=>?_;refine cn E rfl I underlying53 Ty.t3 rfl rfl rfl rfl (by decide) (by decide) λdv a w E I ho=>?_;clear ho;refine aW 0 E I (FM (ns:=[p.aY,p.to]) I (by simp) (λV hw=>hw.ai)) λr1 a w E ⟨eB,I⟩=>?_;refine BY 2 E I (λiN a E=>?_) λiN a E=>?_
  ·
   have hh:¬ iO p:=λh=>by
    have:=eB.2 (Lp.2 ⟨h.1,h.2.1⟩);rw[iN]at this;cases this
   refine RN 16 E I λa E=>?_;exact⟨_,_,⟨λ_=>hh,λ_=>rfl⟩,E.ab [1,26],I.sub⟩
  have hh:=Lp.1 (eB.1 iN);refine BY 7 E I (λjO a E=>?_) λjO a E=>?_
  ·
   refine RN 9 E I λa E=>?_;exact⟨_,_,by unfold iO;first | (rw[ct];omega) | exact⟨λh=>(by cases h),λh=>absurd h (by omega)⟩ | exact⟨λ_=>by omega,λ_=>rfl⟩,E.ab [1,26],I.sub⟩
  refine BY 5 E I (λp0 a E=>?_) λp0 a E=>?_
  ·
   refine RN 4 E I λa E=>?_;exact⟨_,_,by unfold iO;first | (rw[ct];omega) | exact⟨λh=>(by cases h),λh=>absurd h (by omega)⟩ | exact⟨λ_=>by omega,λ_=>rfl⟩,E.ab [1,26],I.sub⟩
  refine RN 4 E I λa E=>?_;exact⟨_,_,by unfold iO;first | (rw[ct];omega) | exact⟨λh=>(by cases h),λh=>absurd h (by omega)⟩ | exact⟨λ_=>by omega,λ_=>rfl⟩,E.ab [1,26],I.sub⟩
 clear E;(try clear I);rintro a w ⟨z,b1,hz,E,I⟩;refine IF 0 E I (λaj a E=>?_) λaj a E=>?_
 ·
  have hn:=hz.1 aj;refine RT 2 E I ?_;exact⟨_,rfl,⟨λh=>(by cases h),λh=>absurd (BB h) hn⟩,I.sub⟩
 have hh:iO p:=Classical.byContradiction λh=>by have:=hz.2 h;rw[aj]at this;cases this
 refine IF 7 E I (λao a E=>?_) λao a E=>?_
 ·
  have gZ:p.kind=1:=ao;refine RN 7 E I λa E=>?_;refine cn E rfl I underlying53 Ty.t3 rfl rfl rfl rfl (by decide) (by decide) λVY a w E I ho=>?_;clear ho;refine aW 0 E I (FM (ns:=[p.first,p.c8,p.frame]) I (by simp) (λV hw=>hw.ai)) λYS a w E ⟨oX,I⟩=>?_;refine BY 1 E I (λek a E=>?_) λek a E=>?_
  ·
   refine RT 6 E I ?_;refine⟨_,rfl,?_,I.sub⟩;rw[FK hh gZ,ct];exact⟨λh=>⟨oX.1 ek,by omega⟩,λh=>by omega⟩
  refine RT 6 E I ?_;exact⟨_,rfl,⟨λh=>(by cases h),λh=>by have:=oX.2 ((FK hh gZ).1 h).1;rw[ek]at this;cases this⟩,I.sub⟩
 refine IF 3 E I (λay a E=>?_) λay a E=>?_
 ·
  have ca:p.kind=2:=ay;refine RN 10 E I λa E=>?_;refine cn E rfl I underlying53 Ty.t3 rfl rfl rfl rfl (by decide) (by decide) λYT a w E I ho=>?_;clear ho;refine aW 0 E I (FM (ns:=[p.first,p.c8,p.frame,(p.al.length:Int)]) I (by simp) (λV hw=>hw.ai)) λaf3 a w E ⟨w5,I⟩=>?_;refine BY 1 E I (λk9 a E=>?_) λk9 a E=>?_
  ·
   refine RT 5 E I ?_;refine⟨_,rfl,?_,I.sub⟩;rw[FL hh ca,ct];exact⟨λh=>⟨w5.1 k9,by omega⟩,λh=>by omega⟩
  refine RT 5 E I ?_;exact⟨_,rfl,⟨λh=>(by cases h),λh=>by have:=w5.2 ((FL hh ca).1 h).1;rw[k9]at this;cases this⟩,I.sub⟩
 refine RT 2 E I ?_;exact⟨_,rfl,⟨λh=>(by cases h),λh=>by rcases y2 h with h | h;exact absurd h ao;exact absurd h ay⟩,I.sub⟩
theorem FN {x:Int}(I:U W w L):Calls prog 191 #[.int .i64 x] w λe V=>∃ r:Bool,e=.returned (.bool r)∧(r=true↔eR x)∧U W V L:=by
 refine EN func191 ntmps191 rfl rfl λa E=>?_;refine BY 6 E I (λbA a E=>?_) λbA a E=>?_
 ·
  refine RT 4 E I ?_;exact⟨_,rfl,by unfold eR;first | (rw[ct];omega) | exact⟨λh=>(by cases h),λh=>absurd h (by omega)⟩,I⟩
 refine RT 4 E I ?_;exact⟨_,rfl,by unfold eR;first | (rw[ct];omega) | exact⟨λh=>(by cases h),λh=>absurd h (by omega)⟩,I⟩
theorem YU (I:U W w L):Calls prog 156 #[.agg (dR p ad c).toArray] w λe V=>∃ r:Bool,e=.returned (.bool r)∧(r=true↔hS p)∧U W V L:=by
 refine EN func156 ntmps156 rfl rfl λa E=>?_;refine BX 1 E I λb1 a w E I=>?_;refine RN 2 E I λa E=>?_;refine cc (M:=λa w=>∃ (z:Bool) (b1:Nat),(z=true↔¬ (iO p∧1≤p.kind∧p.kind≤2))∧Fr a 94 [(1,pt b1),(47,.bool z)]∧U W w (aa b1 203 (dR p ad c)::L)) ?_ ?_
 ·
  refine BY 4 E I (λbE a E=>?_) λbE a E=>?_
  ·
   refine RN 41 E I λa E=>?_;exact⟨_,_,by unfold iO;first | (rw[ct];omega) | exact⟨λh=>(by cases h),λh=>absurd h (by omega)⟩ | exact⟨λ_=>by omega,λ_=>rfl⟩,E.ab [1,47],I.sub⟩
  refine BY 5 E I (λek a E=>?_) λek a E=>?_
  ·
   refine RN 36 E I λa E=>?_;exact⟨_,_,by unfold iO;first | (rw[ct];omega) | exact⟨λh=>(by cases h),λh=>absurd h (by omega)⟩ | exact⟨λ_=>by omega,λ_=>rfl⟩,E.ab [1,47],I.sub⟩
  refine BY 5 E I (λkP a E=>?_) λkP a E=>?_
  ·
   refine RN 31 E I λa E=>?_;exact⟨_,_,by unfold iO;first | (rw[ct];omega) | exact⟨λh=>(by cases h),λh=>absurd h (by omega)⟩ | exact⟨λ_=>by omega,λ_=>rfl⟩,E.ab [1,47],I.sub⟩
  refine BY 5 E I (λpI a E=>?_) λpI a E=>?_
  ·
   refine RN 26 E I λa E=>?_;exact⟨_,_,by unfold iO;first | (rw[ct];omega) | exact⟨λh=>(by cases h),λh=>absurd h (by omega)⟩ | exact⟨λ_=>by omega,λ_=>rfl⟩,E.ab [1,47],I.sub⟩
  refine BY 5 E I (λkJ a E=>?_) λkJ a E=>?_
  ·
   refine RN 21 E I λa E=>?_;exact⟨_,_,by unfold iO;first | (rw[ct];omega) | exact⟨λh=>(by cases h),λh=>absurd h (by omega)⟩ | exact⟨λ_=>by omega,λ_=>rfl⟩,E.ab [1,47],I.sub⟩
  refine BY 5 E I (λYV a E=>?_) λYV a E=>?_
  ·
   refine RN 16 E I λa E=>?_;exact⟨_,_,by unfold iO;first | (rw[ct];omega) | exact⟨λh=>(by cases h),λh=>absurd h (by omega)⟩ | exact⟨λ_=>by omega,λ_=>rfl⟩,E.ab [1,47],I.sub⟩
  refine BY 7 E I (λw6 a E=>?_) λw6 a E=>?_
  ·
   refine RN 9 E I λa E=>?_;exact⟨_,_,by unfold iO;first | (rw[ct];omega) | exact⟨λh=>(by cases h),λh=>absurd h (by omega)⟩ | exact⟨λ_=>by omega,λ_=>rfl⟩,E.ab [1,47],I.sub⟩
  refine BY 5 E I (λYW a E=>?_) λYW a E=>?_
  ·
   refine RN 4 E I λa E=>?_;exact⟨_,_,by unfold iO;first | (rw[ct];omega) | exact⟨λh=>(by cases h),λh=>absurd h (by omega)⟩ | exact⟨λ_=>by omega,λ_=>rfl⟩,E.ab [1,47],I.sub⟩
  refine RN 4 E I λa E=>?_;exact⟨_,_,by unfold iO;first | (rw[ct];omega) | exact⟨λh=>(by cases h),λh=>absurd h (by omega)⟩ | exact⟨λ_=>by omega,λ_=>rfl⟩,E.ab [1,47],I.sub⟩
 clear E;(try clear I);rintro a w ⟨z,b1,hz,E,I⟩;refine IF 0 E I (λaj a E=>?_) λaj a E=>?_
 ·
  have hn:=hz.1 aj;refine RT 2 E I ?_;exact⟨_,rfl,⟨λh=>(by cases h),λh=>absurd ⟨BB h,by have:=y2 h;omega⟩ hn⟩,I.sub⟩
 have hh:iO p∧1≤p.kind∧p.kind≤2:=Classical.byContradiction λh=>by have:=hz.2 h;rw[aj]at this;cases this
 refine IF 5 E I (λao a E=>?_) λao a E=>?_
 ·
  have ca:p.kind=2:=ao;have iE:=FL hh.1 ca;simp only[pZ,wN,not_mem_nil,false_implies,implies_true,and_true]at iE;refine BY 5 E I (λbE a E=>?_) λbE a E=>?_
  ·
   refine BY 6 E I (λu1 a E=>?_) λu1 a E=>?_
   ·
    refine BY 5 E I (λjO a E=>?_) λjO a E=>?_
    ·
     refine BY 5 E I (λp0 a E=>?_) λp0 a E=>?_
     ·
      refine RT 5 E I ?_
      first | exact⟨_,rfl,by rw[iE];first | (rw[ct];omega) | exact⟨λh=>(by cases h),λh=>absurd h (by omega)⟩ | exact⟨λ_=>by omega,λ_=>rfl⟩,I.sub⟩ | exact⟨_,rfl,by rw[gO];first | (rw[ct];omega) | exact⟨λh=>(by cases h),λh=>absurd h (by omega)⟩ | exact⟨λ_=>by omega,λ_=>rfl⟩,I.sub⟩
     refine RT 5 E I ?_
     first | exact⟨_,rfl,by rw[iE];first | (rw[ct];omega) | exact⟨λh=>(by cases h),λh=>absurd h (by omega)⟩ | exact⟨λ_=>by omega,λ_=>rfl⟩,I.sub⟩ | exact⟨_,rfl,by rw[gO];first | (rw[ct];omega) | exact⟨λh=>(by cases h),λh=>absurd h (by omega)⟩ | exact⟨λ_=>by omega,λ_=>rfl⟩,I.sub⟩
    refine RT 10 E I ?_
    first | exact⟨_,rfl,by rw[iE];first | (rw[ct];omega) | exact⟨λh=>(by cases h),λh=>absurd h (by omega)⟩ | exact⟨λ_=>by omega,λ_=>rfl⟩,I.sub⟩ | exact⟨_,rfl,by rw[gO];first | (rw[ct];omega) | exact⟨λh=>(by cases h),λh=>absurd h (by omega)⟩ | exact⟨λ_=>by omega,λ_=>rfl⟩,I.sub⟩
   refine RT 15 E I ?_
   first | exact⟨_,rfl,by rw[iE];first | (rw[ct];omega) | exact⟨λh=>(by cases h),λh=>absurd h (by omega)⟩ | exact⟨λ_=>by omega,λ_=>rfl⟩,I.sub⟩ | exact⟨_,rfl,by rw[gO];first | (rw[ct];omega) | exact⟨λh=>(by cases h),λh=>absurd h (by omega)⟩ | exact⟨λ_=>by omega,λ_=>rfl⟩,I.sub⟩
  refine RT 21 E I ?_
  first | exact⟨_,rfl,by rw[iE];first | (rw[ct];omega) | exact⟨λh=>(by cases h),λh=>absurd h (by omega)⟩ | exact⟨λ_=>by omega,λ_=>rfl⟩,I.sub⟩ | exact⟨_,rfl,by rw[gO];first | (rw[ct];omega) | exact⟨λh=>(by cases h),λh=>absurd h (by omega)⟩ | exact⟨λ_=>by omega,λ_=>rfl⟩,I.sub⟩
 have gZ:p.kind=1:=by omega
 have gO:=FK hh.1 gZ;rw[YQ]at gO;refine aW 3 E I (FN I) λf1 a w E ⟨ju,I⟩=>?_;refine BY 1 E I (λbE a E=>?_) λbE a E=>?_
 ·
  have k1:=ju.1 bE;unfold eR at k1;refine aW 2 E I (FN I) λf2 a w E ⟨jM,I⟩=>?_;refine BY 2 E I (λek a E=>?_) λek a E=>?_
  ·
   have k2:=jM.1 ek;unfold eR at k2;refine aW 2 E I (FN I) λf3 a w E ⟨Lq,I⟩=>?_;refine BY 2 E I (λkP a E=>?_) λkP a E=>?_
   ·
    have k3:=Lq.1 kP;unfold eR at k3;refine RT 6 E I ?_
    first | exact⟨_,rfl,by rw[iE];first | (rw[ct];omega) | exact⟨λh=>(by cases h),λh=>absurd h (by omega)⟩ | exact⟨λ_=>by omega,λ_=>rfl⟩,I.sub⟩ | exact⟨_,rfl,by rw[gO];first | (rw[ct];omega) | exact⟨λh=>(by cases h),λh=>absurd h (by omega)⟩ | exact⟨λ_=>by omega,λ_=>rfl⟩,I.sub⟩
   have k3:¬ eR p.frame:=λh=>by rw[Lq.2 h]at kP;cases kP
   unfold eR at k3;refine RT 6 E I ?_
   first | exact⟨_,rfl,by rw[iE];first | (rw[ct];omega) | exact⟨λh=>(by cases h),λh=>absurd h (by omega)⟩ | exact⟨λ_=>by omega,λ_=>rfl⟩,I.sub⟩ | exact⟨_,rfl,by rw[gO];first | (rw[ct];omega) | exact⟨λh=>(by cases h),λh=>absurd h (by omega)⟩ | exact⟨λ_=>by omega,λ_=>rfl⟩,I.sub⟩
  have k2:¬ eR p.c8:=λh=>by rw[jM.2 h]at ek;cases ek
  unfold eR at k2;refine RT 11 E I ?_
  first | exact⟨_,rfl,by rw[iE];first | (rw[ct];omega) | exact⟨λh=>(by cases h),λh=>absurd h (by omega)⟩ | exact⟨λ_=>by omega,λ_=>rfl⟩,I.sub⟩ | exact⟨_,rfl,by rw[gO];first | (rw[ct];omega) | exact⟨λh=>(by cases h),λh=>absurd h (by omega)⟩ | exact⟨λ_=>by omega,λ_=>rfl⟩,I.sub⟩
 have k1:¬ eR p.first:=λh=>by rw[ju.2 h]at bE;cases bE
 unfold eR at k1;refine RT 16 E I ?_
 first | exact⟨_,rfl,by rw[iE];first | (rw[ct];omega) | exact⟨λh=>(by cases h),λh=>absurd h (by omega)⟩ | exact⟨λ_=>by omega,λ_=>rfl⟩,I.sub⟩ | exact⟨_,rfl,by rw[gO];first | (rw[ct];omega) | exact⟨λh=>(by cases h),λh=>absurd h (by omega)⟩ | exact⟨λ_=>by omega,λ_=>rfl⟩,I.sub⟩
end
end
section
def r5 (p:Pk):List Int:=[p.first,p.c8,p.frame]
def hU (p:Pk)(i:Nat):List UInt8:=lL p++(aO (zz p.id)++((r5 p).take i).flatMap λn=>aO (zz n))
theorem YX {p:Pk}{i:Nat}(h:i<3):hU p (i+1)=hU p i++aO (zz ((r5 p).getD i 0)):=by
 have hl:i<(r5 p).length:=h;rw[hU,hU,jv hl,List.flatMap_append,dA,dA,bl,aD hl];simp
theorem Lr {p:Pk}(h:p.kind=1):hU p 3++(fq p.sum++(aO (zz (p.al.length:Int))++dB p.al 0))=iq p:=by
 simp[hU,iq,lk,nq,h,mg,r5]
theorem Ls {p:Pk}(h:p.kind≠1):hU p 0=iq p:=by simp[hU,iq,lk,nq,h]
theorem FO {p:Pk}(h:hS p){i:Nat}(hi:i≤3):(hU p i).length≤43:=by
 obtain⟨h1,h2,h3,h4,h5⟩:=h;have hq:∀ n:Int,0≤n→n≤1099511627776→(aO (zz n)).length≤10:=λn a b=>rX (by omega) (by omega);have hf:(0≤p.first∧p.first≤1000)∧(0≤p.c8∧p.c8≤1000)∧(0≤p.frame∧p.frame≤1000):=by unfold eR at h5;omega
 have a0:=hq p.id (by omega) (by omega);have df:=hq p.first (by omega) (by omega);have dz:=hq p.c8 (by omega) (by omega);have a3:=hq p.frame (by omega) (by omega);rcases (by omega:i=0∨i=1∨i=2∨i=3) with rfl | rfl | rfl | rfl <;> simp[hU,lL,r5] <;> omega
theorem YY {p:Pk}{i:Nat}(h:i<3):([Value.int .i64 p.first,.int .i64 p.c8,.int .i64 p.frame]:List Value)[i]?=some (.int .i64 ((r5 p).getD i 0)):=by
 rcases (by omega:i=0∨i=1∨i=2) with rfl | rfl | rfl <;> rfl
theorem YZ {p:Pk}(h:hS p)(i:Nat):0≤(r5 p).getD i 0∧(r5 p).getD i 0≤1000:=by
 have h5:=h.2.2.2.2;have hf:(0≤p.first∧p.first≤1000)∧(0≤p.c8∧p.c8≤1000)∧(0≤p.frame∧p.frame≤1000):=by unfold eR at h5;omega
 match i with
 | 0=>exact hf.1
 | 1=>exact hf.2.1
 | 2=>exact hf.2.2
 | _+3=>exact⟨Int.le_refl _,by show (0:Int)≤1000;omega⟩
theorem FP {p:Pk}(h:hS p):[[Value.int .u8 p.kind],[Value.int .u8 p.aY],[Value.int .u8 p.to]].flatten=bc (lL p):=by
 have hk:=y2 h;obtain⟨h1,h2,h3,h4,h5⟩:=h;simp[bc,lL,UInt8.toNat_ofNat'];omega
theorem Lt {p:Pk}(h:hS p):(iq p).length≤503:=by
 have:=Ld h;simp[iq,lL];omega
section
variable {W w:World}{L:List SP}{n c:Nat}{ad:Option Addr}{bs:List UInt8}{p:Pk}
theorem Lu (I:U W w L)(mh:p.sum<4294967296)(hp:∀ V,U W V L→aL V ad p.al.length p.al) :
   Calls prog 330 #[.agg (dR p ad c).toArray] w λe V=>∃ au c',e=.returned (.slice au (aS p).length c')∧U W V (Sl 5 1 au (aS p).length c' (bc (aS p))::L):=by
 refine EN func330 ntmps330 rfl rfl λa E=>?_;refine BX 1 E I λb1 a w E I=>?_;refine aW 4 E I (YR (p:=p) (ad:=ad) (c:=c) I) λr1 a w E ⟨eB,I⟩=>?_;refine IF 1 E I (λaj a E=>?_) λaj a E=>?_
 ·
  have hn:¬ hS p:=λh=>by rw[eB.2 h]at aj;cases aj
  refine RT 2 E I ?_;have he:aS p=[]:=by rw[aS,ag hn]
  rw[he];exact⟨none,0,rfl,I.tail.bR _ _ _⟩
 have hm:hS p:=eB.1 aj;have hk:=y2 hm;have hh:=BB hm;unfold iO at hh;have he:aS p=iq p++fq (jB (iq p)):=by rw[aS,ak hm,pV]
 have oC:=Lt hm;refine SX 3 E I (by rw[wrap_u8];omega) λa E=>?_;refine SX 2 E I (by rw[wrap_u8];omega) λa E=>?_;refine SX 2 E I (by rw[wrap_u8];omega) λa E=>?_;refine RN 0 E I λa E=>?_;refine cn E rfl I underlying22 Ty.t5 rfl rfl rfl rfl (by decide) (by decide) λtp a w E I ho=>?_;clear ho;replace I:=I.Ff (l:=lL p) rfl rfl (FP hm);refine aX 2 E I (tg (bs:=lL p) (N:=p.id) I (by omega) (by omega) (by simp[lL])) λfy db a w E I=>?_;refine RN 1 E I λa E=>?_;rw[show lL p++aO (zz p.id)=hU p 0 from by simp[hU]]at E I;refine cc (M:=λa w=>∃ (fy:Option Addr) (db:Nat),Fr a 58 [(3,.slice fy (iq p).length db)]∧U W w (Sl 5 1 fy (iq p).length db (bc (iq p))::L)) ?_ ?_
 ·
  refine IF 4 E I (λao a E=>?_) λao a E=>?_
  ·
   have gZ:p.kind=1:=ao;have eO:p.al.length≤32:=by have:=hm.2.2.2.2;omega
   refine RN 8 E I λa E=>?_;refine SS E (DL E underlying429 Ty.t429 Ty.t3 rfl rfl) λa E=>?_;refine RN 1 E I λa E=>?_;refine aQ (λμ a w=>∃ (i db:Nat) (fy:Option Addr),(μ=3-i∧i≤3)∧Fr a 58 [(1,pt b1),(3,.slice fy (hU p i).length db),(31,.agg #[.int .i64 p.first,.int .i64 p.c8,.int .i64 p.frame]),(32,.int .i64 i)]∧U W w (Sl 5 1 fy (hU p i).length db (bc (hU p i))::aa b1 203 (dR p ad c)::L)) (3) (⟨0,db,fy,⟨rfl,by omega⟩,E.ab [1,3,31,32],I⟩) ?_;clear E I;rintro μ a w ⟨i,db,fy,⟨rfl,hi⟩,E,I⟩;refine IF 3 E I (λay a E=>?_) λay a E=>?_
   ·
    refine RN 2 E I λa E=>?_;refine SS E (sP E underlying429 underlying3 rfl Ty.t3 (by omega) (YY (p:=p) (by omega))) λa E=>?_;refine RN 1 E I λa E=>?_;have cF:=YZ hm i;have rE:=FO hm (show i≤3 by omega);refine aX 2 E I (tg I (by omega) (by omega) (by omega)) λmG hO a w E I=>?_;refine RN 1 E I λa E=>?_;rw[← YX (by omega)]at E I;refine RN 2 E I λa E=>?_;exact⟨3-(i+1),by omega,i+1,_,_,⟨rfl,by omega⟩,E.ab [1,3,31,32],I.sub⟩
   obtain rfl:i=3:=by omega
   have rE:=FO hm (bh 3);have g5:=rX (n:=(p.al.length:Int)) (by omega) (by omega);have jA:=Lr gZ;generalize hU p 3=Y0 at E I rE jA;refine a1 1 (λw0 w=>Rd w b1 0 (dR p ad c)) [3,4,6,7] [0,1,5,3002,3006,3007,1003,1004,1008,9] E I λa w E I hH=>?_;have hC:Rd w b1 0 (dR p ad c):=I.ai;refine RH 3 E I hH hC λa E=>?_;refine QH E (λw hc=>ae E (hc 8 _ rfl)) hC λa E=>?_;refine QH E (λw hc=>ae E (hc 5 _ rfl)) hC λa E=>?_;refine RH 1 E I hH hC λa E=>?_;refine aW 0 E I (K4 I) λen a w E I=>?_;replace hC:=hH.at w I.ai;refine RH 0 E I hH hC λa E=>?_;refine g3 E rfl I underlying22 Ty.t5 rfl rfl (by decide) (λh0=>(I.cr en (fq p.sum) rfl rfl).get h0) (by rw[dt];rfl) (eF _) (by rw[mQ];omega) λw1 FG a w E I=>?_;replace hC:=hH.at w I.ai;rw[← fR,← aN]at I;rw[← aN]at E;refine RH 0 E I hH hC λa E=>?_;refine aX 0 E I (tg I (by omega) (by omega) (by rw[aN,mQ];omega)) λtc oD a w E I=>?_;refine RN 1 E I λa E=>?_;have ia:=yY p.al 0;generalize hu:Y0++fq p.sum++aO (zz (p.al.length:Int))=w7 at E I;have af4:w7.length≤60:=by rw[← hu];simp[mQ];omega
   refine aX 3 E I (YJ (bs:=p.al) I (by omega) (λV hw=>hp V hw.sub)) λsX rD a w E I=>?_;refine RN 0 E I λa E=>?_;refine g3 E rfl I underlying22 Ty.t5 rfl rfl (by decide) (λh0=>(I.cr sX _ rfl rfl).get h0) (by rw[dt,fD]) (eF _) (by omega) λr7 r8 a w E I=>?_;refine RN 1 E I λa E=>?_;rw[← fR,show w7.length+(dB p.al 0).length=(w7++dB p.al 0).length from by rw[aN]]at I;rw[show w7.length+(dB p.al 0).length=(w7++dB p.al 0).length from by rw[aN]]at E;rw[show w7++dB p.al 0=iq p from by rw[← hu,← jA];simp]at E I;exact⟨_,_,E.ab [3],I.sub⟩
  rw[Ls (by omega)]at E I;refine RN 0 E I λa E=>?_;exact⟨_,_,E.ab [3],I.sub⟩
 clear E;(try clear I);rintro a w ⟨fy,db,E,I⟩;refine CL 3 E I (K2 I (by omega) (λV hw=>hw.cr fy _ rfl rfl)) λa w E I=>?_;refine aW 0 E I (K4 I) λBC a w E I=>?_;refine RN 0 E I λa E=>?_;refine g3 E rfl I underlying22 Ty.t5 rfl rfl (by decide) (λh0=>(I.cr BC (fq (jB (iq p))) rfl rfl).get h0) (by rw[dt];rfl) (eF _) (by rw[mQ];omega) λFQ FR a w E I=>?_;refine RT 1 E I ?_;rw[he];rw[← fR,← aN]at I;rw[← aN];exact⟨_,_,rfl,I.sub⟩
theorem FT (I:U W w L)(mh:p.sum<4294967296)(hp:∀ V,U W V L→aL V ad p.al.length p.al) :
   Calls prog 114 #[.agg (dR p ad c).toArray] w λe V=>∃ au c',e=.returned (.slice au (aS p).length c')∧U W V (Sl 5 1 au (aS p).length c' (bc (aS p))::L):=by
 refine EN func114 ntmps114 rfl rfl λa E=>?_;refine BX 1 E I λb1 a w E I=>?_;refine aW 4 E I (YU (p:=p) (ad:=ad) (c:=c) I) λr1 a w E ⟨eB,I⟩=>?_;refine IF 1 E I (λaj a E=>?_) λaj a E=>?_
 ·
  have hn:¬ hS p:=λh=>by rw[eB.2 h]at aj;cases aj
  refine RT 2 E I ?_;have he:aS p=[]:=by rw[aS,ag hn]
  rw[he];exact⟨none,0,rfl,I.tail.bR _ _ _⟩
 have hm:hS p:=eB.1 aj;have hk:=y2 hm;have hh:=BB hm;unfold iO at hh;have he:aS p=iq p++fq (jB (iq p)):=by rw[aS,ak hm,pV]
 have oC:=Lt hm;have bX:=rX (n:=p.id) (by omega) (by omega);refine RN 0 E I λa E=>?_;refine cc (M:=λa w=>∃ (a3:Option Addr) (db:Nat),Fr a 57 [(1,pt b1),(3,.slice a3 (hU p 0).length db)]∧U W w (Sl 5 1 a3 (hU p 0).length db (bc (hU p 0))::aa b1 203 (dR p ad c)::L)) ?_ ?_
 ·
  refine a1 0 (λw0 w=>Rd w b1 0 (dR p ad c)) [4,5,7,8,9,11,12] [0,3,6,10,3001,2,3004,3005,3007,3008,3011,2009,1012,1013,14] E I λa w E I hH=>?_;have hC:Rd w b1 0 (dR p ad c):=I.ai;refine RH 4 E I hH hC λa E=>?_;refine QH E (λw hc=>ae E (hc 0 _ rfl)) hC λa E=>?_;refine QP E (λw=>pw E underlying3 underlying5 (by rw[wrap_u8];omega)) λa E=>?_;refine QH E (λw hc=>ae E (hc 1 _ rfl)) hC λa E=>?_;refine QH E (λw hc=>pw E underlying3 underlying5 (by rw[wrap_u8];omega)) hC λa E=>?_;refine QH E (λw hc=>ae E (hc 2 _ rfl)) hC λa E=>?_;refine QH E (λw hc=>pw E underlying3 underlying5 (by rw[wrap_u8];omega)) hC λa E=>?_;refine QH E (λw hc=>ae E (hc 3 _ rfl)) hC λa E=>?_;refine RH 0 E I hH hC λa E=>?_;refine DN [(9,[1012,1013,14]),(12,[1009,1013,14])] (by kernel_rfl) rfl ⟨⟨_,rfl,?_⟩,⟨_,rfl,?_⟩,trivial⟩
  ·
   refine RH 0 E I hH hC λa E=>?_;refine cn E rfl I underlying22 Ty.t5 rfl rfl rfl rfl (by decide) (by decide) λu4 a w E I ho=>?_;clear ho;replace hC:=hH.at w I.ai;replace I:=I.Ff (l:=lL p) rfl rfl (FP hm);refine RH 0 E I hH hC λa E=>?_;refine aX 0 E I (tw (N:=p.id) I (by omega) (by omega)) λcX dU a w E I=>?_;replace hC:=hH.at w I.ai;refine RH 0 E I hH hC λa E=>?_;refine g3 E rfl I underlying22 Ty.t5 rfl rfl (by decide) (λh0=>(I.cr cX (aO (zz p.id)) rfl rfl).get h0) (by rw[dt,fD]) (eF _) (by omega) λyH EI a w E I=>?_;refine RN 1 E I λa E=>?_;rw[show 3+(aO (zz p.id)).length=(lL p++aO (zz p.id)).length from by rw[aN];rfl]at E I;rw[← fR]at I;rw[show lL p++aO (zz p.id)=hU p 0 from by simp[hU]]at E I
   skip
   exact⟨_,_,E.ab [1,3],I.sub⟩
  refine RH 0 E I hH hC λa E=>?_;refine aX 0 E I (tw (N:=p.id) I (by omega) (by omega)) λcX dU a w E I=>?_;replace hC:=hH.at w I.ai;refine RH 0 E I hH hC λa E=>?_;refine cn E rfl I underlying22 Ty.t5 rfl rfl rfl rfl (by decide) (by decide) λu4 a w E I ho=>?_;clear ho;replace hC:=hH.at w I.ai;replace I:=I.Ff (l:=lL p) rfl rfl (FP hm);refine RH 0 E I hH hC λa E=>?_;refine g3 E rfl I underlying22 Ty.t5 rfl rfl (by decide) (λh0=>(I.cr cX (aO (zz p.id)) rfl rfl).get h0) (by rw[dt,fD]) (eF _) (by omega) λyH EI a w E I=>?_;refine RN 1 E I λa E=>?_;rw[show 3+(aO (zz p.id)).length=(lL p++aO (zz p.id)).length from by rw[aN];rfl]at E I;rw[← fR]at I;rw[show lL p++aO (zz p.id)=hU p 0 from by simp[hU]]at E I
  skip
  exact⟨_,_,E.ab [1,3],I.sub⟩
 clear E;(try clear I);rintro a w ⟨a3,db,E,I⟩;refine cc (M:=λa w=>∃ (fy:Option Addr) (db:Nat),Fr a 57 [(3,.slice fy (iq p).length db)]∧U W w (Sl 5 1 fy (iq p).length db (bc (iq p))::L)) ?_ ?_
 ·
  refine IF 4 E I (λao a E=>?_) λao a E=>?_
  ·
   have gZ:p.kind=1:=ao;have eO:p.al.length≤32:=by have:=hm.2.2.2.2;omega
   have oY:(0≤p.first∧p.first≤1000)∧(0≤p.c8∧p.c8≤1000)∧(0≤p.frame∧p.frame≤1000):=by have:=hm.2.2.2.2;unfold eR at this;omega
   have q1:=rX (n:=p.first) (by omega) (by omega);have q2:=rX (n:=p.c8) (by omega) (by omega);have wV:=rX (n:=p.frame) (by omega) (by omega);have Fw:=rX (n:=(p.al.length:Int)) (by omega) (by omega);have rE:=FO hm (show 0≤3 by decide);have jA:hU p 0++aO (zz p.first)++aO (zz p.c8)++aO (zz p.frame)++fq p.sum++aO (zz (p.al.length:Int))++dB p.al 0=iq p:=by rw[← Lr gZ];simp[hU,r5]
   generalize hu0:hU p 0=y3 at E I rE jA;refine a1 1 (λw0 w=>Rd w b1 0 (dR p ad c)) [3,4,6] [0,1,5,3002,3006,1003,1004,1007,1008,9] E I λa w E I hH=>?_;have hC:Rd w b1 0 (dR p ad c):=I.ai;refine RH 3 E I hH hC λa E=>?_;refine QH E (λw hc=>ae E (hc 4 _ rfl)) hC λa E=>?_;refine QH E (λw hc=>ae E (hc 6 _ rfl)) hC λa E=>?_;refine RH 0 E I hH hC λa E=>?_;refine aX 0 E I (tw I (by omega) (by omega)) λdf dD a w E I=>?_;replace hC:=hH.at w I.ai;refine RH 0 E I hH hC λa E=>?_;refine g3 E rfl I underlying22 Ty.t5 rfl rfl (by decide) (λh0=>(I.cr df (aO (zz p.first)) rfl rfl).get h0) (by rw[dt,fD]) (eF _) (by omega) λaf5 c28 a w E I=>?_;replace hC:=hH.at w I.ai;rw[← fR,← aN]at I;rw[← aN]at E;refine RH 0 E I hH hC λa E=>?_;refine aX 0 E I (tw I (by omega) (by omega)) λdz c2 a w E I=>?_;have k7:(y3++aO (zz p.first)).length≤53:=by rw[aN];omega
   refine RN 0 E I λa E=>?_;refine g3 E rfl I underlying22 Ty.t5 rfl rfl (by decide) (λh0=>(I.cr dz (aO (zz p.c8)) rfl rfl).get h0) (by rw[dt,fD]) (eF _) (by omega) λY1 Y2 a w E I=>?_;rw[← fR,← aN]at I;rw[← aN]at E;refine RN 1 E I λa E=>?_;replace I:=I.sub (M:=Sl 5 1 Y1 (y3++aO (zz p.first)++aO (zz p.c8)).length Y2 (bc (y3++aO (zz p.first)++aO (zz p.c8)))::aa b1 203 (dR p ad c)::L);have mF:(y3++aO (zz p.first)++aO (zz p.c8)).length≤63:=by rw[aN];omega
   generalize y3++aO (zz p.first)++aO (zz p.c8)=y4 at E I mF jA;refine a1 1 (λw0 w=>Rd w b1 0 (dR p ad c)) [3,4,6] [0,1,5,3002,3006,1003,1004,1007,1008,9] E I λa w E I hH=>?_;have hC:Rd w b1 0 (dR p ad c):=I.ai;refine RH 3 E I hH hC λa E=>?_;refine QH E (λw hc=>ae E (hc 7 _ rfl)) hC λa E=>?_;refine QH E (λw hc=>ae E (hc 8 _ rfl)) hC λa E=>?_;refine RH 0 E I hH hC λa E=>?_;refine aX 0 E I (tw I (by omega) (by omega)) λdf dD a w E I=>?_;replace hC:=hH.at w I.ai;refine RH 0 E I hH hC λa E=>?_;refine g3 E rfl I underlying22 Ty.t5 rfl rfl (by decide) (λh0=>(I.cr df (aO (zz p.frame)) rfl rfl).get h0) (by rw[dt,fD]) (eF _) (by omega) λY3 Y4 a w E I=>?_;replace hC:=hH.at w I.ai;rw[← fR,← aN]at I;rw[← aN]at E;refine RH 0 E I hH hC λa E=>?_;refine aW 0 E I (Fk I) λdz a w E I=>?_;have k7:(y4++aO (zz p.frame)).length≤73:=by rw[aN];omega
   refine RN 0 E I λa E=>?_;refine g3 E rfl I underlying22 Ty.t5 rfl rfl (by decide) (λh0=>(I.cr dz (fq p.sum) rfl rfl).get h0) (by rw[dt];rfl) (eF _) (by rw[mQ];omega) λy1 FD a w E I=>?_;rw[← fR,← aN]at I;rw[← aN]at E;refine RN 1 E I λa E=>?_;replace I:=I.sub (M:=Sl 5 1 y1 (y4++aO (zz p.frame)++fq p.sum).length FD (bc (y4++aO (zz p.frame)++fq p.sum))::aa b1 203 (dR p ad c)::L);have mF:(y4++aO (zz p.frame)++fq p.sum).length≤77:=by rw[aN,mQ];omega
   generalize y4++aO (zz p.frame)++fq p.sum=Y5 at E I mF jA;refine a1 0 (λw0 w=>Rd w b1 0 (dR p ad c)) [4,5,7] [0,1,6,3002,3,3007,1004,1005,1008,1009,10] E I λa w E I hH=>?_;have hC:Rd w b1 0 (dR p ad c):=I.ai;have ia:=yY p.al 0;refine RH 3 E I hH hC λa E=>?_;refine QH E (λw hc=>ae E (hc 5 _ rfl)) hC λa E=>?_;refine RH 1 E I hH hC λa E=>?_;refine QH E (λw hc=>ae E (hc 5 _ rfl)) hC λa E=>?_;refine RH 0 E I hH hC λa E=>?_;refine aX 0 E I (tw I (by omega) (by omega)) λdf dD a w E I=>?_;replace hC:=hH.at w I.ai;refine RH 0 E I hH hC λa E=>?_;refine g3 E rfl I underlying22 Ty.t5 rfl rfl (by decide) (λh0=>(I.cr df (aO (zz (p.al.length:Int))) rfl rfl).get h0) (by rw[dt,fD]) (eF _) (by omega) λp1 r9 a w E I=>?_;replace hC:=hH.at w I.ai;rw[← fR,← aN]at I;rw[← aN]at E;refine RH 0 E I hH hC λa E=>?_;refine aX 0 E I (YK (bs:=p.al) I (by omega) (λV hw=>hp V hw.sub)) λdz c2 a w E I=>?_;have k7:(Y5++aO (zz (p.al.length:Int))).length≤87:=by rw[aN];omega
   refine RN 0 E I λa E=>?_;refine g3 E rfl I underlying22 Ty.t5 rfl rfl (by decide) (λh0=>(I.cr dz (dB p.al 0) rfl rfl).get h0) (by rw[dt,fD]) (eF _) (by omega) λLw Ly a w E I=>?_;rw[← fR,← aN]at I;rw[← aN]at E;refine RN 1 E I λa E=>?_;rw[jA]at E I;exact⟨_,_,E.ab [3],I.sub⟩
  rw[Ls (by omega)]at E I;refine RN 0 E I λa E=>?_;exact⟨_,_,E.ab [3],I.sub⟩
 clear E;(try clear I);rintro a w ⟨fy,db,E,I⟩;refine CL 3 E I (K3 I (by omega) (λV hw=>hw.cr fy _ rfl rfl)) λa w E I=>?_;refine aW 0 E I (Fk I) λBC a w E I=>?_;refine RN 0 E I λa E=>?_;refine g3 E rfl I underlying22 Ty.t5 rfl rfl (by decide) (λh0=>(I.cr BC (fq (jB (iq p))) rfl rfl).get h0) (by rw[dt];rfl) (eF _) (by rw[mQ];omega) λaf6 c56 a w E I=>?_;refine RT 1 E I ?_;rw[he];rw[← fR,← aN]at I;rw[← aN];exact⟨_,_,rfl,I.sub⟩
end
end
end Go.Proofs.YteoldcfapaiobaaGreat
