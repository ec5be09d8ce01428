/- Plain side of numbers read, of runs and of packets: what is written is read. -/
import Derived.Test.YteoldcfapaiobaaGreatI06Ref
namespace Go.Proofs.YteoldcfapaiobaaGreat
open Tryz
open List (drop_zero take_succ_cons drop_left nil_append drop_eq_nil_of_le cons_append append_nil not_mem_nil replicate_succ')
open Go.RowKit
set_option linter.unusedVariables false
set_option linter.unusedSimpArgs false
set_option maxRecDepth 10000
set_option synthInstance.maxSize 4000
set_option synthInstance.maxHeartbeats 400000
section
def nD:List UInt8→Nat→Nat→Option (Nat×Nat)
 | [],_,_=>none
 | c::cs,i,u =>
  if i=9∧1<c.toNat then none
  else if 127<c.toNat then nD cs (i+1) (u+c.toNat%128*128 ^ i)
  else if 0<i∧c.toNat=0 then none
  else some (u+c.toNat*128 ^ i,i+1)
def ua (bs:List UInt8):Option (Nat×Nat):=nD bs 0 0
def nE (u:Nat):Int:=if u%2=1 then -((u/2:Nat):Int)-1 else ((u/2:Nat):Int)
theorem Gy (n:Int):nE (zz n)=n:=by
 unfold nE zz;split <;> split <;> omega
theorem Gz {n:Int}(h1:-9223372036854775808≤n)(h2:n≤9223372036854775807):zz n<18446744073709551616:=by
 unfold zz;split <;> omega
theorem zt (i:Nat):128 ^ (i+1)=128 ^ i*128:=Nat.pow_succ ..
theorem Zz (r:List UInt8):∀ (v i u:Nat),v*128 ^ i<18446744073709551616→(i=0∨0<v)→i≤9→nD (aO v++r) i u=some (u+v*128 ^ i,i+(aO v).length):=by
 intro v
 induction v using Nat.strongRecOn with
 | _ v ih =>
  intro i u hv h0 hi;by_cases I:v≤127
  ·rw[q0 I];have hb:(UInt8.ofNat v).toNat=v:=by rw[UInt8.toNat_ofNat'];omega
   simp only[cons_append,nil_append,nD,hb,jJ];have h9:¬ (i=9∧1<v):=by
    rintro⟨su,h⟩;rw[su]at hv;have:v*128 ^ 9 ≥ 2*128 ^ 9:=oJ _ h;have h9':(128:Nat) ^ 9=9223372036854775808:=by decide
    omega
   rw[ag h9,ag (by omega),ag (by omega)]
  ·rw[xn I];have hb:(UInt8.ofNat (v%128+128)).toNat=v%128+128:=by rw[UInt8.toNat_ofNat'];omega
   simp only[cons_append,nD,hb,eV];have hle:128 ^ (i+1)≤v*128 ^ i:=by rw[zt,Nat.mul_comm];exact oJ _ (by omega)
   have su:i+1≤9:=by
    rcases gX i 9 with h | h
    ·omega
    ·have:128 ^ 10≤128 ^ (i+1):=Nat.pow_le_pow_right (by decide) (by omega);have fO:(128:Nat) ^ 10=1180591620717411303424:=by decide
     omega
   have hdv:v/128*128 ^ (i+1)+v%128*128 ^ i=v*128 ^ i:=by
    rw[zt,show v/128*(128 ^ i*128)=128*(v/128)*128 ^ i from by rw[Nat.mul_comm (128 ^ i),← Nat.mul_assoc,Nat.mul_comm (v/128)],← Nat.add_mul,Nat.div_add_mod]
   rw[ag (by omega),aj (by omega),ih (v/128) (by omega) (i+1) _ (by omega) (.inr (by omega)) su];rw[show (v%128+128)%128=v%128 from by omega]
   congr 2
   ·omega
   ·omega
theorem Ch {n:Int}(h1:-9223372036854775808≤n)(h2:n≤9223372036854775807)(r:List UInt8):ua (aO (zz n)++r)=some (zz n,(aO (zz n)).length):=by
 have:=Zz r (zz n) 0 0 (by have:=Gz h1 h2;omega) (.inl rfl) (by decide);simpa [ua] using this
theorem Mp:∀ (bs:List UInt8) (i u:Nat) {v k:Nat},i≤9→u<128 ^ i→nD bs i u=some (v,k)→v<18446744073709551616∧i+1≤k∧k≤i+bs.length∧k≤10
 | [],_,_,_,_,_,_,h=>by cases h
 | c::cs,i,u,v,k,hi,hu,h=>by
  rw[nD]at h;have hc:=mA c;have hp:128 ^ i≤128 ^ 9:=Nat.pow_le_pow_right (by decide) hi;have h9:(128:Nat) ^ 9=9223372036854775808:=by decide
  split at h
  ·cases h
  rename_i n9;split at h
  ·rename_i hb;have hm:c.toNat%128*128 ^ i≤127*128 ^ i:=oJ _ (by omega);have:=Mp cs (i+1) _ (by omega) (by rw[zt];omega) h;simp only[eV];omega
  ·rename_i hb;split at h
   ·cases h
   ·obtain⟨rfl,rfl⟩:u+c.toNat*128 ^ i=v∧i+1=k:=by simpa using h
    simp only[eV];refine⟨?_,by omega,by omega,by omega⟩;rcases gX i 9 with h8 | h8
    ·have hp8:128 ^ i≤128 ^ 8:=Nat.pow_le_pow_right (by decide) (by omega);have h88:(128:Nat) ^ 8=72057594037927936:=by decide
     have hm:c.toNat*128 ^ i≤127*128 ^ i:=oJ _ (by omega);omega
    ·have:i=9:=by omega
     subst this;have hm:c.toNat*128 ^ 9≤1*128 ^ 9:=oJ _ (by omega);omega
theorem GA {bs:List UInt8}{v k:Nat}(h:ua bs=some (v,k)):v<18446744073709551616∧1≤k∧k≤bs.length∧k≤10:=by
 have:=Mp bs 0 0 (by decide) (by decide) h;omega
def mC (bs:List UInt8)(x:Int)(k:Nat)(er:Int):Prop :=
 (-9223372036854775808≤x∧x≤9223372036854775807)∧(er=0∨er=1∨er=2)∧(er=0→1≤k∧k≤bs.length)∧(er≠0→k=0∧x=0) ∧
 ∀ (n:Int) (r:List UInt8), -9223372036854775808≤n→n≤9223372036854775807→bs=aO (zz n)++r→x=n∧k=(aO (zz n)).length∧er=0
theorem mC.bad {bs:List UInt8}{er:Int}(h:ua bs=none)(he:er=1∨er=2):mC bs 0 0 er:=by
 refine⟨by omega,by omega,by omega,λ_=>⟨rfl,rfl⟩,λn r h1 h2 e=>?_⟩;rw[e,Ch h1 h2]at h;cases h
theorem mC.Mq {bs:List UInt8}{u k:Nat}(h:ua bs=some (u,k)):mC bs (nE u) k 0:=by
 have hb:=GA h;refine⟨?_,by omega,by omega,by omega,λn r h1 h2 e=>?_⟩
 ·unfold nE;split <;> omega
 ·rw[e,Ch h1 h2]at h;obtain⟨rfl,rfl⟩:zz n=u∧(aO (zz n)).length=k:=by simpa using h
  exact⟨Gy n,rfl,rfl⟩
def runN (x:UInt8):List UInt8→Nat
 | []=>0
 | y::ys=>if y=x then runN x ys+1 else 0
theorem zu (x:UInt8):∀ l:List UInt8,runN x l≤l.length
 | []=>a7 _
 | y::ys=>by
  have:=zu x ys;rw[runN];split <;> simp only[eV] <;> omega
def dC (l:List UInt8)(last:UInt8):List UInt8:=match l with
 | []=>[]
 | x::xs=>aO (zz ((runN x xs+1:Nat):Int))++(x ^^^ last)::dC (xs.drop (runN x xs)) x
termination_by l.length
decreasing_by simp only[c8,eV];omega
theorem xA (last:UInt8):dC [] last=[]:=by rw[dC]
theorem ub (x:UInt8)(xs:List UInt8)(last:UInt8):dC (x::xs) last=aO (zz ((runN x xs+1:Nat):Int))++(x ^^^ last)::dC (xs.drop (runN x xs)) x:=by rw[dC]
theorem Ci (x:UInt8):∀ l:List UInt8,l.take (runN x l)=List.replicate (runN x l) x
 | []=>rfl
 | y::ys=>by
  rw[runN];split
  ·rename_i h;subst h;rw[take_succ_cons,Ci y ys,List.replicate_succ]
  ·rfl
theorem Mr (x:UInt8):∀ (l:List UInt8) (y:UInt8) (r:List UInt8),l.drop (runN x l)=y::r→y≠x
 | [],_,_,h=>by simp[runN]at h
 | z::zs,y,r,h=>by
  rw[runN]at h;split at h
  ·exact Mr x zs y r h
  ·rename_i hn;rw[drop_zero]at h;cases h;exact hn
theorem ZA {x:UInt8}{l:List UInt8}{n:Nat}(h1:∀ i,i<n→l[i]?=some x)(h2:l[n]?≠some x):runN x l=n:=by
 induction l generalizing n with
 | nil =>
  cases n with
  | zero=>rfl
  | succ n=>have:=h1 0 (by omega);simp at this
 | cons y ys ih =>
  cases n with
  | zero =>
   rw[runN,ag];intro e;subst e;simp at h2
  | succ n =>
   have h0:=h1 0 (by omega);simp at h0;rw[runN,aj h0,ih (n:=n) (λi hi=>by have:=h1 (i+1) (by omega);simpa using this) (by simpa using h2)]
theorem zw (l:List UInt8):∀ last,(dC l last).length≤11*l.length:=by
 induction hn:l.length using Nat.strongRecOn generalizing l with
 | _ n ih =>
  intro last;cases l with
  | nil=>rw[xA];simp
  | cons x xs =>
   rw[ub,aM,eV];have h1:=zu x xs;subst hn;simp only[eV];by_cases hb:xs.length<4611686018427387904
   ·have h2 := q3 9 (zz ((runN x xs + 1 : Nat) : Int)) (by
     have:zz ((runN x xs+1:Nat):Int)=2*(runN x xs+1):=by unfold zz;rw[ag (by omega)];omega
     rw[this];have fO:(128:Nat) ^ (9+1)=1180591620717411303424:=by decide
     omega)
    have h3:=ih (xs.drop (runN x xs)).length (by simp only[c8,eV];omega) (xs.drop (runN x xs)) rfl x;simp only[c8]at h3;omega
   ·have h2 : (aO (zz ((runN x xs + 1 : Nat) : Int))).length ≤ runN x xs + 10 := by
     have:∀ u,(aO (2*(u+1))).length≤u+10:=by
      intro u
      induction u using Nat.strongRecOn with
      | _ u ih =>
       by_cases h:2*(u+1)≤127
       ·rw[q0 h];simp
       ·rw[xn h,eV];by_cases h2:2*(u+1)/128≤127
        ·rw[q0 h2];simp
        ·have hq : ∀ v, (aO v).length ≤ v + 1 := by
          intro v
          induction v using Nat.strongRecOn with
          | _ v ZB =>
           by_cases h3:v≤127
           ·rw[q0 h3];simp
           ·rw[xn h3,eV];have:=ZB (v/128) (by omega);omega
         have:=hq (2*(u+1)/128);omega
     have hz:zz ((runN x xs+1:Nat):Int)=2*(runN x xs+1):=by unfold zz;rw[ag (by omega)];omega
     rw[hz];exact this _
    have h3:=ih (xs.drop (runN x xs)).length (by simp only[c8,eV];omega) (xs.drop (runN x xs)) rfl x;simp only[c8]at h3;omega
theorem Cj (a b:UInt8):b ^^^ (a ^^^ b)=a:=by rw[UInt8.xor_comm,UInt8.xor_assoc,UInt8.xor_self,UInt8.xor_zero]
theorem ZC {a b:UInt8}(h:(a ^^^ b).toNat=0):a=b:=by
 have h0:a ^^^ b=0:=UInt8.toNat_inj.1 (by simpa using h);have:=Cj a b;rw[h0,UInt8.xor_zero]at this;exact this.symm
def m4 (p out:List UInt8)(last:UInt8)(rest:List UInt8):Prop:=∃ q,p=out++q∧rest=dC q last∧(out=[]∨∀ y r,q=y::r→y≠last)
theorem m4.start (p:List UInt8):m4 p [] 0 (dC p 0):=⟨p,rfl,rfl,.inl rfl⟩
theorem m4.done {p out:List UInt8}{last:UInt8}(h:m4 p out last []):p=out:=by
 obtain⟨q,h1,h2,_⟩:=h;cases q with
 | nil=>simpa using h1
 | cons x xs =>
  rw[ub]at h2;have:=dJ List.length h2;simp at this
theorem m4.next {p out:List UInt8}{last:UInt8}{rest:List UInt8}(h:m4 p out last rest)(h0:rest≠[]):∃ (m:Nat) (x:UInt8) (r:List UInt8),rest=aO (zz ((m+1:Nat):Int))++(x ^^^ last)::r ∧
   out.length+(m+1)≤p.length∧(out≠[]→(x ^^^ last).toNat≠0)∧m4 p (out++List.replicate (m+1) x) x r:=by
 obtain⟨q,h1,h2,h3⟩:=h;cases q with
 | nil=>rw[xA]at h2;exact absurd h2 h0
 | cons x xs =>
  rw[ub]at h2;have hle:=zu x xs;refine⟨runN x xs,x,_,h2,by rw[h1];simp;omega,λho hz=>?_,xs.drop (runN x xs),?_,rfl,.inr λy r hy=>Mr x xs y r hy⟩
  ·rcases h3 with h3 | h3
   ·exact ho h3
   ·exact h3 x xs rfl (ZC hz)
  ·rw[h1,dz]
   congr 1
   rw[List.replicate_succ,← Ci,cons_append,j6]
structure Pk where
 kind:Int
 aW:Int
 to:Int
 id:Int
 first:Int
 dd:Int
 frame:Int
 sum:Nat
 al:List UInt8
def nF:Pk:=⟨0,0,0,0,0,0,0,0,[]⟩
def eM (n:Int):Prop:=0≤n∧n≤1000
instance (n:Int):Decidable (eM n):=inferInstanceAs (Decidable (_∧_))
def ik (p:Pk):Prop:=(0≤p.aW∧p.aW≤7)∧(0≤p.to∧p.to≤7)∧p.aW≠p.to∧(0≤p.id∧p.id≤1099511627776) ∧
 ((p.kind=1∧eM p.first∧eM p.dd∧eM p.frame∧p.al.length≤32)∨(p.kind=2∧p.first=0∧p.dd=0∧p.frame=0∧p.al.length=0∧p.sum=0))
instance (p:Pk):Decidable (ik p):=inferInstanceAs (Decidable (_∧_))
def mD (p:Pk):List UInt8:=fp p.sum++(aO (zz (p.al.length:Int))++dC p.al 0)
def nG (p:Pk):List UInt8:=if p.kind=1 then aO (zz p.first)++(aO (zz p.dd)++(aO (zz p.frame)++mD p)) else []
def lz (p:Pk):List UInt8:=aO (zz p.id)++nG p
def lZ (p:Pk):List UInt8:=[UInt8.ofNat p.kind.toNat,UInt8.ofNat p.aW.toNat,UInt8.ofNat p.to.toNat]
def iE (p:Pk):List UInt8:=lZ p++lz p
def qf (p:Pk):List UInt8:=iE p++fp (jI (iE p))
def aT (p:Pk):List UInt8:=if ik p then qf p else []
theorem m5 (x:Nat):(fp x).length=4:=rfl
theorem zx (p:Pk):(qf p).length=(lz p).length+7:=by
 simp[qf,iE,lZ,m5]
theorem GC {p:Pk}{bs:List UInt8}(h:qf p=bs):(bs.drop 3).take (bs.length-7)=lz p:=by
 subst h;rw[zx,zo,qf];generalize jI (iE p)=c;rw[iE,dz,List.drop_left' (by rfl),List.take_left' rfl]
theorem GD {p:Pk}{bs:List UInt8}(h:qf p=bs):bs[0]?=some (UInt8.ofNat p.kind.toNat)∧bs[1]?=some (UInt8.ofNat p.aW.toNat)∧bs[2]?=some (UInt8.ofNat p.to.toNat):=by
 subst h;exact⟨rfl,rfl,rfl⟩
def GF (a b c d:Nat):Nat:=((a*256+b)*256+c)*256+d
theorem GG {x:Nat}(h:x<4294967296):GF (UInt8.ofNat (x/16777216)).toNat (UInt8.ofNat (x/65536)).toNat (UInt8.ofNat (x/256)).toNat (UInt8.ofNat x).toNat=x:=by
 simp only[UInt8.toNat_ofNat',GF];omega
theorem ZD {x y:Nat}(hx:x<4294967296)(hy:y<4294967296)(h:fp x=fp y):x=y:=by
 simp only[fp,List.cons.injEq,and_true]at h;obtain⟨h1,h2,h3,h4⟩:=h;have:=GG hx;rw[h1,h2,h3,h4,GG hy]at this;exact this.symm
theorem xB {n m:Int}{r s:List UInt8}(h1:-9223372036854775808≤n)(h2:n≤9223372036854775807)(h3:-9223372036854775808≤m)(h4:m≤9223372036854775807)(h:aO (zz n)++r=aO (zz m)++s):n=m∧r=s:=by
 have e:=Ch h1 h2 r;rw[h,Ch h3 h4]at e;obtain⟨e1,e2⟩:zz m=zz n∧_:=by simpa using e
 have:n=m:=by rw[← Gy n,← Gy m,e1]
 subst this;exact⟨rfl,List.append_cancel_left h⟩
theorem Ms:∀ (n:Nat) {p q:List UInt8} {l:UInt8},p.length≤n→p.length≤1000000→q.length≤1000000→dC p l=dC q l→p=q
 | n,[],[],_,_,_,_,_=>rfl
 | n,[],y::ys,l,_,_,_,h=>by
  rw[xA,ub]at h;have:=dJ List.length h;simp at this
 | n,x::xs,[],l,_,_,_,h=>by
  rw[xA,ub]at h;have:=dJ List.length h;simp at this
 | 0,x::xs,y::ys,l,hn,_,_,_=>by simp at hn
 | n+1,x::xs,y::ys,l,hn,hp,hq,h=>by
  have h1:=zu x xs;have h2:=zu y ys;simp only[eV]at hn hp hq;rw[ub,ub]at h;obtain⟨e1,e2⟩:=xB (by omega) (by omega) (by omega) (by omega) h;rw[List.cons.injEq]at e2;obtain⟨e2,e3⟩:=e2;have ZE:x=y:=by
   have:=Cj x l;rw[e2,Cj]at this;exact this.symm
  subst ZE;have ia:runN x xs=runN x ys:=by omega
  have tU:=Ms n (by simp;omega) (by simp;omega) (by simp;omega) e3
  congr 1
  rw[← j6 (runN x xs) xs,Ci,tU,ia,← Ci,j6]
theorem GH {a b:Int}(E:0≤a∧a<256)(hb:0≤b∧b<256)(h:UInt8.ofNat a.toNat=UInt8.ofNat b.toNat):a=b:=by
 have:=dJ UInt8.toNat h;simp only[UInt8.toNat_ofNat']at this;omega
theorem ZF {p q:Pk}(hp:ik p)(hq:ik q)(GI:p.sum<4294967296)(ZG:q.sum<4294967296)(h:qf p=qf q):p=q:=by
 have hm:lz p=lz q:=by rw[← GC (p:=p) rfl,← GC (p:=q) rfl,h]
 have h0:=GD (p:=p) rfl;have h1:=GD (p:=q) rfl;rw[h]at h0;obtain⟨cV,cc,a3⟩:=h0;obtain⟨b1,b2,b3⟩:=h1;rw[b1]at cV;rw[b2]at cc;rw[b3]at a3;obtain⟨f1,t1,xC,i1,k1⟩:=hp;obtain⟨f2,t2,tR,i2,k2⟩:=hq;have ZH:=GH (by omega) (by omega) (re cV);have ZI:=GH (by omega) (by omega) (re cc);have tA:=GH (by omega) (by omega) (re a3);rw[lz,lz]at hm;obtain⟨ZJ,hm⟩:=xB (by omega) (by omega) (by omega) (by omega) hm;obtain⟨pk,agD,pt,pi,ZK,p2,ZL,ZM,ZN⟩:=p;obtain⟨agE,agF,agG,agH,q1,q2,Ck,Cl,GJ⟩:=q;simp only at *;subst ZH ZI tA ZJ;rcases k1 with ⟨eW,c2,c3,en,dL⟩ | ⟨eW,c2,c3,en,dL,oX⟩
 ·rcases k2 with ⟨d1,d2,d3,d4,d5⟩ | ⟨d1,_⟩
  ·unfold eM at c2 c3 en d2 d3 d4;rw[nG,nG,aj eW,aj d1]at hm;simp only at hm;obtain⟨e1,hm⟩:=xB (by omega) (by omega) (by omega) (by omega) hm;obtain⟨e2,hm⟩:=xB (by omega) (by omega) (by omega) (by omega) hm;obtain⟨e3,hm⟩:=xB (by omega) (by omega) (by omega) (by omega) hm;rw[mD,mD]at hm;simp only at hm;obtain⟨ia,hm⟩:=List.append_inj hm rfl;obtain⟨tU,hm⟩:=xB (by omega) (by omega) (by omega) (by omega) hm;have ZO:=Ms _ (a7 _) (by omega) (by omega) hm;have ZP:=ZD GI ZG ia;subst e1 e2 e3 ZO ZP;rfl
  ·omega
 ·rcases k2 with ⟨d1,_⟩ | ⟨d1,d2,d3,d4,d5,d6⟩
  ·omega
  ·have:=hs dL;have:=hs d5;subst c2 c3 en oX d2 d3 d4 d6;simp_all
def hQ (bs:List UInt8)(p:Pk):Prop:=ik p∧p.sum<4294967296∧qf p=bs
open Classical in
noncomputable def eC (bs:List UInt8):Option Pk:=if h:∃ p,hQ bs p then some (Classical.choose h) else none
theorem Cm {bs:List UInt8}{p:Pk}(h:hQ bs p):eC bs=some p:=by
 have hx:∃ p,hQ bs p:=⟨p,h⟩;rw[eC,dif_pos hx];have h2:=Classical.choose_spec hx;rw[ZF h2.1 h.1 h2.2.1 h.2.1 (h2.2.2.trans h.2.2.symm)]
theorem GK {bs:List UInt8}(h:∀ p,¬ hQ bs p):eC bs=none:=by
 rw[eC,dif_neg];exact λ⟨p,hp⟩=>h p hp
theorem GL {bs:List UInt8}{p:Pk}(h:eC bs=some p):hQ bs p:=by
 rw[eC]at h;split at h
 ·rename_i hx;cases h;exact Classical.choose_spec hx
 ·cases h
theorem Mt {p:Pk}(h:ik p)(I:p.sum<4294967296):eC (aT p)=some p:=by
 rw[aT,aj h];exact Cm ⟨h,I,rfl⟩
theorem GM {bs:List UInt8}{p:Pk}(h0:bs≠[])(I:p.sum<4294967296):hQ bs p↔aT p=bs:=by
 unfold hQ aT;split
 ·rename_i h;simp[h,I]
 ·rename_i h;simp[h,h0,Ne.symm h0]
theorem Mv {p:Pk}(h:ik p):(lz p).length≤500:=by
 obtain⟨_,_,_,i1,k1⟩:=h;have pl:∀ n:Int,0≤n→n≤1099511627776→(aO (zz n)).length≤10:=λn h0 h1=>q3 9 _ (by
  have:zz n<18446744073709551616:=Gz (by omega) (by omega);have fO:(128:Nat) ^ (9+1)=1180591620717411303424:=by decide
  omega)
 rw[lz,aM];have:=pl p.id i1.1 i1.2;rcases k1 with ⟨eW,c2,c3,en,dL⟩ | ⟨eW,_⟩
 ·unfold eM at c2 c3 en;rw[nG,aj eW,mD];simp only[aM,m5];have h1:=pl p.first (by omega) (by omega);have h2:=pl p.dd (by omega) (by omega);have h3:=pl p.frame (by omega) (by omega);have h4:=pl p.al.length (by omega) (by omega);have h5:=zw p.al 0;omega
 ·rw[nG,ag (by omega)];simp;omega
end
section
theorem ZQ {x:Nat}(h:x<256):IntKind.u8.wrap ((BitVec.ofInt IntKind.u8.bits (x:Int) &&& BitVec.ofInt IntKind.u8.bits 127).toNat)=((x%128:Nat):Int):=by
 have:∀ y:Fin 256,IntKind.u8.wrap ((BitVec.ofInt IntKind.u8.bits ((y.val:Nat):Int) &&& BitVec.ofInt IntKind.u8.bits 127).toNat)=((y.val%128:Nat):Int):=by decide +kernel
 exact this ⟨x,h⟩
theorem Mw (i:Nat):(2:Nat) ^ (7*i)=128 ^ i:=by rw[Nat.pow_mul]
theorem ZR {u d i:Nat}(hu:u<128 ^ i):u ||| d*128 ^ i=u+d*128 ^ i:=by
 rw[← Mw]at hu ⊢;rw[Nat.mul_comm,Nat.add_comm,Nat.two_pow_add_eq_or_of_lt hu,Nat.or_comm]
theorem GN {i:Nat}(hi:i≤9):128 ^ i≤9223372036854775808∧(i≤8→128 ^ i≤72057594037927936):=by
 have h9:(128:Nat) ^ 9=9223372036854775808:=by decide
 have h8:(128:Nat) ^ 8=72057594037927936:=by decide
 refine⟨h9 ▸ Nat.pow_le_pow_right (by decide) hi,λh=>h8 ▸ Nat.pow_le_pow_right (by decide) h⟩
theorem My {i d:Nat}(hi:i≤9)(h:i=9→d≤1)(hd:d≤127):d*128 ^ i≤9223372036854775808∧(i≤8→d*128 ^ i+128 ^ i≤128 ^ (i+1)):=by
 obtain⟨h1,h2⟩:=GN hi;have hm:d*128 ^ i≤127*128 ^ i:=oJ _ hd;refine⟨?_,λh8=>by rw[zt];omega⟩;rcases gX i 9 with h9 | h9
 ·have:=h2 (by omega);omega
 ·have:i=9:=by omega
  have tL:=h this;have:d*128 ^ i≤1*128 ^ i:=oJ _ tL;omega
theorem Mz {bs:List UInt8}{i:Nat}(h:i<bs.length)(u:Nat):nD (bs.drop i) i u=if i=9∧1<bs[i].toNat then none
   else if 127<bs[i].toNat then nD (bs.drop (i+1)) (i+1) (u+bs[i].toNat%128*128 ^ i)
   else if 0<i∧bs[i].toNat=0 then none
   else some (u+bs[i].toNat*128 ^ i,i+1):=by
 rw[kL h,nD]
theorem ZS {x:Nat}(h:x<18446744073709551616):IntKind.u64.wrap (((BitVec.ofInt IntKind.u64.bits (x:Int) &&& BitVec.ofInt IntKind.u64.bits 1).toNat:Nat):Int)=((x%2:Nat):Int):=by
 have h1:=Zm (y:=1) h (by decide);rw[Nat.and_one_is_mod]at h1;exact h1
theorem ZT {x:Int}(h1:-9223372036854775808≤x)(h2:x≤9223372036854775807):IntKind.i64.wrap (((BitVec.ofInt IntKind.i64.bits (if IntKind.i64.signed then -1 else IntKind.i64.max) ^^^ BitVec.ofInt IntKind.i64.bits x).toNat:Nat):Int) = -x-1:=by
 have e:BitVec.ofInt IntKind.i64.bits (if IntKind.i64.signed then -1 else IntKind.i64.max)=BitVec.allOnes 64:=by
  show BitVec.ofInt 64 (-1)=_;decide
 rw[e];show IntKind.i64.wrap (((BitVec.allOnes 64 ^^^ BitVec.ofInt 64 x).toNat:Nat):Int)=_;rw[BitVec.allOnes_xor,BitVec.toNat_not,BitVec.toNat_ofInt];simp only[IntKind.wrap,IntKind.signed,IntKind.bits];simp;omega
section
variable {W w:World}{L:List SP}{c:Nat}{ad:Option Addr}{bs:List UInt8}
theorem MA (I:U W w L)(hb:bs.length≤1099511627776)(hp:∀ w',U W w' L→aX w' ad bs.length bs) :
   Calls prog 339 #[.slice ad bs.length c] w λe w'=>∃ (x:Int) (k:Nat) (er:Int),e=.returned (.tuple #[.int .i64 x,.int .i64 k,.int .i64 er])∧mC bs x k er∧U W w' L:=by
 refine EN func339 ntmps339 rfl rfl λa E=>?_;refine RN 11 E I λa E=>?_;refine aL (λμ a w=>∃ (i u:Nat),(μ=bs.length-i∧i≤bs.length∧i≤9∧u<128 ^ i∧nD (bs.drop i) i u=ua bs)∧Fr a 50 [(5,.int .u64 u),(9,.slice ad bs.length c),(10,.int .i64 bs.length),(11,.int .i64 i)]∧U W w L) (bs.length) (⟨0,0,⟨rfl,by omega,by omega,by decide,rfl⟩,E.ab [5,9,10,11],I⟩) ?_;clear E I;rintro μ a w ⟨i,u,⟨rfl,hi,su,hu,hg⟩,E,I⟩;refine IF 3 E I (λak a E=>?_) λak a E=>?_
 ·
  obtain⟨bb,oo,rfl,hr⟩:=(hp _ I).get (by omega);have aG:i<bs.length:=by omega
  have rf:=mA bs[i];rw[Mz aG]at hg;obtain⟨fN,ix⟩:=GN su;refine RN 4 E I λa E=>?_;refine SS E (ae E (hr i _ (dV aG))) λa E=>?_;refine RN 3 E I λa E=>?_;refine b6 (M:=λa w=>∃ z:Bool,(z=true↔(i=9∧1<bs[i].toNat))∧Fr a 50 [(5,.int .u64 u),(6,.int .i64 i),(7,.int .u8 (bs[i].toNat:Int)),(9,.slice (some ⟨bb,oo,none⟩) bs.length c),(10,.int .i64 bs.length),(11,.int .i64 i),(21,.bool z)]∧U W w L) ?_ ?_
  ·
   refine BY 3 E I (λbD a E=>?_) λbD a E=>?_
   ·
    refine RN 3 E I λa E=>?_;exact⟨_,by rw[cu];omega,E.ab [5,6,7,9,10,11,21],I⟩
   refine RN 3 E I λa E=>?_;exact⟨_,by simp;omega,E.ab [5,6,7,9,10,11,21],I⟩
  clear E;(try clear I);rintro a w ⟨z,hz,E,I⟩;refine IF 0 E I (λao a E=>?_) λao a E=>?_
  ·
   rw[aj (hz.1 ao)]at hg;refine RT 4 E I ?_;exact⟨_,_,_,rfl,mC.bad hg.symm (by omega),I⟩
  have kW:¬ (i=9∧1<bs[i].toNat):=λh=>absurd (hz.2 h) (by simp[ao]);rw[ag kW]at hg;obtain⟨tL,kQ⟩:=My (d:=bs[i].toNat%128) su (by omega) (by omega);refine RN 4 E I λa E=>?_;rw[ZQ rf]at E;refine SX 0 E I (by rw[wrap_u64];omega) λa E=>?_;refine RN 2 E I λa E=>?_;rw[show (7:Int)*(i:Int)=((7*i:Nat):Int) from by omega]at E;refine SS E (Kl E (jn:=7*i) (by show 7*i≤64;omega)) λa E=>?_;rw[show ((bs[i].toNat%128:Nat):Int)*2 ^ (7*i)=((bs[i].toNat%128*128 ^ i:Nat):Int) from by rw[Int.natCast_mul,← Mw];simp,show IntKind.u64.wrap ((bs[i].toNat%128*128 ^ i:Nat):Int)=((bs[i].toNat%128*128 ^ i:Nat):Int) from by rw[wrap_u64];omega]at E;refine RN 1 E I λa E=>?_;rw[Zl (by omega) (by omega),ZR hu]at E;refine IF 5 E I (λay a E=>?_) λay a E=>?_
  ·
   rw[aj (by omega)]at hg;refine RN 2 E I λa E=>?_;exact⟨bs.length-(i+1),by omega,i+1,_,⟨rfl,by omega,by omega,by have:=kQ (by omega);omega,hg⟩,E.ab [5,9,10,11],I⟩
  rw[ag (by omega)]at hg;rw[k9 (show bs[i].toNat<128 from by omega)]at E tL kQ;refine RN 1 E I λa E=>?_;refine b6 (M:=λa w=>∃ z:Bool,(z=true↔(0<i∧bs[i].toNat=0))∧Fr a 50 [(5,.int .u64 ((u+bs[i].toNat*128 ^ i:Nat):Int)),(6,.int .i64 i),(37,.bool z)]∧U W w L) ?_ ?_
  ·
   refine BY 3 E I (λbD a E=>?_) λbD a E=>?_
   ·
    refine RN 3 E I λa E=>?_;exact⟨_,by rw[cu];omega,E.ab [5,6,37],I⟩
   refine RN 3 E I λa E=>?_;exact⟨_,by simp;omega,E.ab [5,6,37],I⟩
  clear E;(try clear I);rintro a w ⟨z,hz,E,I⟩;refine IF 0 E I (λbl a E=>?_) λbl a E=>?_
  ·
   rw[aj (hz.1 bl)]at hg;refine RT 4 E I ?_;exact⟨_,_,_,rfl,mC.bad hg.symm (by omega),I⟩
  rw[ag (λh=>absurd (hz.2 h) (by simp[bl]))]at hg;generalize u+bs[i].toNat*128 ^ i=v at E hg;have hv:=(GA hg.symm).1;refine RN 3 E I λa E=>?_;rw[show ((v:Nat):Int).fdiv (2 ^ 1)=((v/2:Nat):Int) from lu _ 2]at E;refine SS E (gA E tr yP) λa E=>?_;rw[show IntKind.i64.wrap ((v/2:Nat):Int)=((v/2:Nat):Int) from gy (by omega) (by omega)]at E;refine RN 1 E I λa E=>?_;refine b6 (M:=λa w=>Fr a 50 [(6,.int .i64 i),(8,.int .i64 (nE v))]∧U W w L) ?_ ?_
  ·
   refine RN 3 E I λa E=>?_;rw[ZS hv]at E;refine IF 1 E I (λbO a E=>?_) λbO a E=>?_
   ·
    refine RN 2 E I λa E=>?_;rw[ZT (by omega) (by omega)]at E;refine RN 1 E I λa E=>?_;rw[show -((v/2:Nat):Int)-1=nE v from by rw[nE,aj (by omega)]]at E;exact⟨E.ab [6,8],I⟩
   refine RN 0 E I λa E=>?_;rw[show ((v/2:Nat):Int)=nE v from by rw[nE,ag (by omega)]]at E;exact⟨E.ab [6,8],I⟩
  clear E;(try clear I);rintro a w ⟨E,I⟩;refine RT 7 E I ?_;exact⟨_,_,_,rfl,mC.Mq hg.symm,I⟩
 rw[drop_eq_nil_of_le (by omega),nD]at hg;refine RT 4 E I ?_;exact⟨_,_,_,rfl,mC.bad hg.symm (by omega),I⟩
theorem GO (I:U W w L)(hb:bs.length≤1099511627776)(hp:∀ w',U W w' L→aX w' ad bs.length bs) :
   Calls prog 215 #[.slice ad bs.length c] w λe w'=>∃ (x:Int) (k:Nat) (er:Int),e=.returned (.tuple #[.int .i64 x,.int .i64 k,.int .i64 er])∧mC bs x k er∧U W w' L:=by
 refine EN func215 ntmps215 rfl rfl λa E=>?_;refine RN 11 E I λa E=>?_;refine aL (λμ a w=>∃ (i u:Nat),(μ=bs.length-i∧i≤bs.length∧i≤9∧u<128 ^ i∧nD (bs.drop i) i u=ua bs)∧Fr a 64 [(0,.slice ad bs.length c),(5,.int .u64 u),(6,.int .u64 ((128 ^ i:Nat):Int)),(7,.int .i64 i)]∧U W w L) (bs.length) (⟨0,0,⟨rfl,by omega,by omega,by decide,rfl⟩,E.ab [0,5,6,7],I⟩) ?_;clear E I;rintro μ a w ⟨i,u,⟨rfl,hi,su,hu,hg⟩,E,I⟩;refine IF 6 E I (λak a E=>?_) λak a E=>?_
 ·
  obtain⟨bb,oo,rfl,hr⟩:=(hp _ I).get (by omega);have aG:i<bs.length:=by omega
  have rf:=mA bs[i];rw[Mz aG]at hg;obtain⟨fN,ix⟩:=GN su;refine RN 2 E I λa E=>?_;refine b6 (M:=λa w=>∃ z:Bool,(z=true↔(i=9∧1<bs[i].toNat)∨(0<i∧bs[i].toNat=0))∧Fr a 64 [(0,.slice (some ⟨bb,oo,none⟩) bs.length c),(5,.int .u64 u),(6,.int .u64 ((128 ^ i:Nat):Int)),(7,.int .i64 i),(34,.bool z)]∧U W w L) ?_ ?_
  ·
   refine BY 3 E I (λbD a E=>?_) λbD a E=>?_
   ·
    refine RN 3 E I λa E=>?_;refine bA E (cv E rfl (s:=17)) (ae E (hr i _ (dV aG))) rfl λa E=>?_;refine BY 3 E I (λvx a E=>?_) λvx a E=>?_
    ·
     refine RN 10 E I λa E=>?_;refine⟨_,?_,E.ab [0,5,6,7,34],I⟩
     (try simp only[cu]);(try simp only[Bool.false_eq_true,true_iff,false_iff]);omega
    refine BY 3 E I (λhJ a E=>?_) λhJ a E=>?_
    ·
     refine RN 3 E I λa E=>?_;refine bA E (cv E rfl (s:=27)) (ae E (hr i _ (dV aG))) rfl λa E=>?_;refine RN 3 E I λa E=>?_;refine⟨_,?_,E.ab [0,5,6,7,34],I⟩
     (try simp only[cu]);(try simp only[Bool.false_eq_true,true_iff,false_iff]);omega
    refine RN 7 E I λa E=>?_;refine⟨_,?_,E.ab [0,5,6,7,34],I⟩
    (try simp only[cu]);(try simp only[Bool.false_eq_true,true_iff,false_iff]);omega
   refine BY 10 E I (λhJ a E=>?_) λhJ a E=>?_
   ·
    refine RN 3 E I λa E=>?_;refine bA E (cv E rfl (s:=27)) (ae E (hr i _ (dV aG))) rfl λa E=>?_;refine RN 3 E I λa E=>?_;refine⟨_,?_,E.ab [0,5,6,7,34],I⟩
    (try simp only[cu]);(try simp only[Bool.false_eq_true,true_iff,false_iff]);omega
   refine RN 7 E I λa E=>?_;refine⟨_,?_,E.ab [0,5,6,7,34],I⟩
   (try simp only[cu]);(try simp only[Bool.false_eq_true,true_iff,false_iff]);omega
  clear E;(try clear I);rintro a w ⟨z,hz,E,I⟩;refine IF 0 E I (λao a E=>?_) λao a E=>?_
  ·
   have cW:=hz.1 ao;have Bu:ua bs=none:=by
    rw[← hg];by_cases h9:i=9∧1<bs[i].toNat
    ·rw[aj h9]
    ·rw[ag h9,ag (by omega),aj (by omega)]
   refine RT 4 E I ?_;exact⟨_,_,_,rfl,mC.bad Bu (by omega),I⟩
  have kW:¬ ((i=9∧1<bs[i].toNat)∨(0<i∧bs[i].toNat=0)):=λh=>absurd (hz.2 h) (by simp[ao]);have hr:=(hp _ I).rd (by omega);obtain⟨tL,kQ⟩:=My (d:=bs[i].toNat%128) su (by omega) (by omega);refine RN 5 E I λa E=>?_;refine SS E (ae E (hr i _ (dV aG))) λa E=>?_;refine SX 0 E I (by decide) λa E=>?_;rw[show ((bs[i].toNat:Nat):Int).tmod 128=((bs[i].toNat%128:Nat):Int) from oO _ 128]at E;refine SX 0 E I (by rw[wrap_u64];omega) λa E=>?_;refine RN 2 E I λa E=>?_;rw[show ((bs[i].toNat%128:Nat):Int)*((128 ^ i:Nat):Int)=((bs[i].toNat%128*128 ^ i:Nat):Int) from (Int.natCast_mul ..).symm,show IntKind.u64.wrap ((bs[i].toNat%128*128 ^ i:Nat):Int)=((bs[i].toNat%128*128 ^ i:Nat):Int) from by rw[wrap_u64];omega]at E;refine RN 1 E I λa E=>?_;rw[show IntKind.u64.wrap ((u:Int)+((bs[i].toNat%128*128 ^ i:Nat):Int))=((u+bs[i].toNat%128*128 ^ i:Nat):Int) from by rw[wrap_u64];omega]at E;refine RN 9 E I λa E=>?_;refine SS E (ae E (hr i _ (dV aG))) λa E=>?_;refine IF 1 E I (λay a E=>?_) λay a E=>?_
  ·
   rw[ag (by omega),ag (by omega),ag (by omega)]at hg;rw[k9 (show bs[i].toNat<128 from by omega)]at E tL kQ;generalize u+bs[i].toNat*128 ^ i=v at E hg;have hv:=(GA hg.symm).1;refine RN 2 E I λa E=>?_;refine SS E (wP E (by decide) (by rw[show ((v:Nat):Int).tdiv 2=((v/2:Nat):Int) from rM _ 2,wrap_u64];omega)) λa E=>?_;rw[show ((v:Nat):Int).tdiv 2=((v/2:Nat):Int) from rM _ 2]at E;refine RN 0 E I λa E=>?_;refine SS E (gA E tr yP) λa E=>?_;rw[show IntKind.i64.wrap ((v/2:Nat):Int)=((v/2:Nat):Int) from gy (by omega) (by omega)]at E;refine RN 1 E I λa E=>?_;refine b6 (M:=λa w=>Fr a 64 [(7,.int .i64 i),(8,.int .i64 (nE v))]∧U W w L) ?_ ?_
   ·
    refine SX 2 E I (by decide) λa E=>?_;rw[show ((v:Nat):Int).tmod 2=((v%2:Nat):Int) from oO _ 2]at E;refine IF 1 E I (λbl a E=>?_) λbl a E=>?_
    ·
     refine RN 2 E I λa E=>?_;rw[show IntKind.i64.wrap (0-((v/2:Nat):Int)) = -((v/2:Nat):Int) from by rw[gy (by omega) (by omega)];omega]at E;refine RN 2 E I λa E=>?_;rw[show -((v/2:Nat):Int)-1=nE v from by rw[nE,aj (by omega)]]at E;exact⟨E.ab [7,8],I⟩
    refine RN 0 E I λa E=>?_;rw[show ((v/2:Nat):Int)=nE v from by rw[nE,ag (by omega)]]at E;exact⟨E.ab [7,8],I⟩
   clear E;(try clear I);rintro a w ⟨E,I⟩;refine RT 7 E I ?_;exact⟨_,_,_,rfl,mC.Mq hg.symm,I⟩
  rw[ag (by omega),aj (by omega)]at hg;have MB:i≤8:=by omega
  rw[show IntKind.u64.wrap (((128 ^ i:Nat):Int)*128)=((128 ^ (i+1):Nat):Int) from by rw[wrap_u64,zt];have:=ix MB;omega]at E;refine RN 3 E I λa E=>?_;exact⟨bs.length-(i+1),by omega,i+1,_,⟨rfl,by omega,by omega,by have:=kQ (by omega);omega,hg⟩,E.ab [0,5,6,7],I⟩
 rw[drop_eq_nil_of_le (by omega),nD]at hg;refine RT 4 E I ?_;exact⟨_,_,_,rfl,mC.bad hg.symm (by omega),I⟩
theorem uc {N:Int}(I:U W w L)(h1:-9223372036854775808≤N)(h2:N≤9223372036854775807) :
   Calls prog 157 #[.int .i64 N] w λe w'=>∃ av c',e=.returned (.slice av (aO (zz N)).length c')∧U W w' (Sl 5 1 av (aO (zz N)).length c' (bc (aO (zz N)))::L):=by
 refine EN func157 ntmps157 rfl rfl λa E=>?_;refine RN 4 E I λa E=>?_;refine SS E (gA E yP tr) λa E=>?_;refine RN 1 E I λa E=>?_;rw[wrap_u64,wrap_u64]at E;refine RN 1 E I λa E=>?_;obtain⟨U0,FM⟩:∃ U0:Nat,(N%18446744073709551616*2)%18446744073709551616=(U0:Int):=⟨((N%18446744073709551616*2)%18446744073709551616).toNat,by omega⟩;rw[FM]at E;have FN:U0<18446744073709551616:=by omega
 refine b6 (M:=λa w=>Fr a 28 [(3,.int .u64 ((zz N:Nat):Int))]∧U W w L) ?_ ?_
 ·
  refine IF 3 E I (λak a E=>?_) λak a E=>?_
  ·
   refine RN 2 E I λa E=>?_;rw[LG FN]at E;refine RN 1 E I λa E=>?_;rw[show 18446744073709551615-U0=zz N from by rw[zz,aj ak];omega]at E;exact⟨E.ab [3],I⟩
  refine RN 0 E I λa E=>?_;rw[show U0=zz N from by rw[zz,ag (by omega)];omega]at E;exact⟨E.ab [3],I⟩
 clear E;(try clear I);rintro a w ⟨E,I⟩;refine RN 3 E I λa E=>?_;refine aL (λμ a w=>∃ (eg c':Nat) (av:Option Addr) (dn:List UInt8),(μ=eg∧dn++aO eg=aO (zz N)∧eg≤zz N)∧Fr a 28 [(3,.int .u64 (eg:Int)),(4,.slice av dn.length c')]∧U W w (Sl 5 1 av dn.length c' (bc dn)::L)) (zz N) (⟨zz N,0,none,[],⟨rfl,rfl,by omega⟩,E.ab [3,4],I.bQ 5 1 none⟩) ?_;clear E I;rintro μ a w ⟨eg,c',av,dn,⟨ze,dc,XX⟩,E,I⟩;refine RN 2 E I λa E=>?_;have cW:zz N<18446744073709551616:=by rw[zz];split <;> omega
 have fN:=q3 9 (zz N) (by simp;omega);have mZ:dn.length≤10:=by
  have:=dJ List.length dc;rw[aM]at this;omega
 clear fN;refine IF 2 E I (λao a E=>?_) λao a E=>?_
 ·
  refine SX 3 E I (by decide) λa E=>?_;rw[show ((eg:Nat):Int).tmod 128=((eg%128:Nat):Int) from oO _ 128]at E;refine RN 1 E I λa E=>?_;rw[show IntKind.u64.wrap (((eg%128:Nat):Int)+128)=((eg%128+128:Nat):Int) from by rw[wrap_u64];omega]at E;refine SX 0 E I (by rw[wrap_u8];omega) λa E=>?_;refine RN 0 E I λa E=>?_;refine ct E rfl I bj Ty.t5 rfl rfl rfl rfl (by decide) (by decide) λfR a w E I ho=>?_;clear ho;refine RN 0 E I λa E=>?_;refine cR E rfl I bj Ty.t5 rfl rfl I.ai rfl (by simp[Value.oneCell']) (by decide) (by decide) (by omega) λzf FO a w E I=>?_;have aS:bc dn++[[Value.int .u8 ((eg%128+128:Nat):Int)]].flatten=bc (dn++[UInt8.ofNat (eg%128+128)]):=by
   simp[bc,UInt8.toNat_ofNat'];omega
  rw[aS]at I;refine RN 2 E I λa E=>?_;refine SS E (wP E (by decide) (by rw[show ((eg:Nat):Int).tdiv 128=((eg/128:Nat):Int) from rM _ 128,wrap_u64];omega)) λa E=>?_;rw[show ((eg:Nat):Int).tdiv 128=((eg/128:Nat):Int) from rM _ 128]at E;refine RN 1 E I λa E=>?_;exact⟨eg/128,by omega,eg/128,_,zf,dn++[UInt8.ofNat (eg%128+128)],⟨rfl,by rw[← dc,xn (u:=eg) (by omega),dz];rfl,by omega⟩,by rw[aM];exact E.ab [3,4],by rw[aM];exact I.sub⟩
 refine SX 3 E I (by rw[wrap_u8];omega) λa E=>?_;refine RN 0 E I λa E=>?_;refine ct E rfl I bj Ty.t5 rfl rfl rfl rfl (by decide) (by decide) λLH a w E I ho=>?_;clear ho;refine RN 0 E I λa E=>?_;refine cR E rfl I bj Ty.t5 rfl rfl I.ai rfl (by simp[Value.oneCell']) (by decide) (by decide) (by omega) λFP FQ a w E I=>?_;have aS:bc dn++[[Value.int .u8 ((eg:Nat):Int)]].flatten=bc (dn++[UInt8.ofNat eg]):=by
  simp[bc,UInt8.toNat_ofNat'];omega
 rw[aS,← q0 (by omega),dc]at I;refine RT 1 E I ?_;have hl:dn.length+1=(aO (zz N)).length:=by rw[← dc,q0 (by omega),aM];rfl
 rw[hl]at I ⊢;exact⟨_,_,rfl,I.sub⟩
end
end
section
theorem sw {n:Int}(h1:-9223372036854775808≤n)(h2:n≤9223372036854775807):(aO (zz n)).length≤10:=q3 9 _ (by
 have:=Gz h1 h2;have fO:(128:Nat) ^ (9+1)=1180591620717411303424:=by decide
 omega)
theorem vy {l:List UInt8}{x:UInt8}:bc l++[[Value.int .u8 (x.toNat:Int)]].flatten=bc (l++[x]):=by simp[bc]
structure nH (bs:List UInt8)(i e:Nat):Prop where
 lt:i<e
 le:e≤bs.length
 same:∀ (j:Nat) (h:j<bs.length),i≤j→j<e→bs[j]=bs[i]'(by omega)
theorem nH.one {bs:List UInt8}{i:Nat}(h:i<bs.length):nH bs i (i+1):=⟨by omega,by omega,λj hj h1 h2=>by
 have:j=i:=by omega
 subst this;rfl⟩
theorem nH.more {bs:List UInt8}{i e:Nat}(h:nH bs i e)(he:e<bs.length)(hb:bs[e]'he=bs[i]'(by have:=h.lt;omega)):nH bs i (e+1):=⟨by have:=h.lt;omega,by omega,λj hj h1 h2=>by
 by_cases ZU:j=e
 ·subst ZU;exact hb
 ·exact h.same j hj h1 (by omega)⟩
theorem nH.runs {bs:List UInt8}{i e:Nat}(h:nH bs i e)(hi:i<bs.length)(hn:∀ he:e<bs.length,bs[e]≠bs[i])(last:UInt8) :
   dC (bs.drop i) last=aO (zz ((e-i:Nat):Int))++(bs[i] ^^^ last)::dC (bs.drop e) bs[i]:=by
 have h1:=h.lt;have h2:=h.le;have hr:runN bs[i] (bs.drop (i+1))=e-i-1:=by
  refine ZA (λj hj=>?_) ?_
  ·rw[qE,aD (by omega),h.same (i+1+j) (by omega) (by omega) (by omega)]
  ·rw[qE,show i+1+(e-i-1)=e from by omega];rcases gX e bs.length with he | he
   ·rw[aD he];exact λhx=>hn he (re hx)
   ·rw[iO he];simp
 rw[kL hi,ub,hr,kF,show i+1+(e-i-1)=e from by omega,show e-i-1+1=e-i from by omega]
theorem lA {bs:List UInt8}{i:Nat}(h:i<bs.length):(bc bs)[i]?=some (.int .u8 ((bs.getD i 0).toNat:Int)):=by rw[dV h,br,aD h];rfl
theorem m4.get {p dn rest:List UInt8}{last:UInt8}{x:Int}{k:Nat}{er:Int}(h:m4 p dn last rest)(hp:p.length≤1000000)(h0:rest≠[])(hg:mC rest x k er) :
   er=0∧1≤x∧k<rest.length∧(dn≠[]→(rest.getD k 0).toNat≠0)∧(dn.length:Int)+x≤p.length∧m4 p (dn++List.replicate x.toNat (last ^^^ rest.getD k 0)) (last ^^^ rest.getD k 0) (rest.drop (k+1)):=by
 obtain⟨m,y,r,e1,e2,e3,ia⟩:=h.next h0;obtain⟨rfl,rfl,rfl⟩:=hg.2.2.2.2 ((m+1:Nat):Int) _ (by omega) (by omega) e1;have hk:rest.getD (aO (zz ((m+1:Nat):Int))).length 0=y ^^^ last:=by rw[e1,br,pJ (a7 _)];simp
 refine⟨rfl,by omega,by rw[e1];simp,by rw[hk];exact e3,by omega,?_⟩;rw[hk,Cj,show ((m+1:Nat):Int).toNat=m+1 from by omega];have hd:rest.drop ((aO (zz ((m+1:Nat):Int))).length+1)=r:=by
  rw[e1,← kF,drop_left];rfl
 rw[hd];exact ia
def ud (bs:List UInt8)(m:Nat)(out:List UInt8)(er:Int):Prop:=(er=0∨er=1∨er=4)∧out.length≤m∧∀ p:List UInt8,p.length≤m→bs=dC p 0→out=p∧er=0
theorem MC (bs:List UInt8)(i k:Nat):(bs.drop i).getD k 0=bs.getD (i+k) 0:=by simp[br,qE]
theorem ud.bad {bs dn rest:List UInt8}{last:UInt8}{m k:Nat}{x er GP:Int}(nC:∀ p:List UInt8,p.length≤m→bs=dC p 0→m4 p dn last rest)(hm:m≤1000000)(h0:rest≠[])(hg:mC rest x k er)
   (kh:er≠0∨x<1∨rest.length≤k∨(dn≠[]∧(rest.getD k 0).toNat=0)∨(m:Int)<dn.length+x) (he:GP=1∨GP=4):ud bs m [] GP:=by
 refine⟨by omega,by simp,λp hp e=>?_⟩;exfalso;obtain⟨g1,nr,rN,ti,xD,_⟩:=(nC p hp e).get (by omega) h0 hg;rcases kh with h | h | h | h | h
 ·exact h g1
 ·omega
 ·omega
 ·exact ti h.1 h.2
 ·omega
section
variable {W w:World}{L:List SP}{n c m:Nat}{ad:Option Addr}{bs:List UInt8}
theorem ZV (I:U W w L)(hb:bs.length≤65536)(hp:∀ w',U W w' L→aX w' ad bs.length bs) :
   Calls prog 338 #[.slice ad bs.length c] w λe w'=>∃ av c',e=.returned (.slice av (dC bs 0).length c')∧U W w' (Sl 5 1 av (dC bs 0).length c' (bc (dC bs 0))::L):=by
 have gD:=zw bs 0;refine EN func338 ntmps338 rfl rfl λa E=>?_;refine RN 9 E I λa E=>?_;refine aL (λμ a w=>∃ (i c':Nat) (av:Option Addr) (dn:List UInt8) (last:UInt8),(μ=bs.length-i∧i≤bs.length∧dn++dC (bs.drop i) last=dC bs 0)∧Fr a 48 [(0,.slice ad bs.length c),(3,.slice av dn.length c'),(4,.int .u8 (last.toNat:Int)),(5,.int .i64 i)]∧U W w (Sl 5 1 av dn.length c' (bc dn)::L)) (bs.length) (⟨0,0,none,[],0,⟨rfl,by omega,rfl⟩,E.ab [0,3,4,5],I.bQ 5 1 none⟩) ?_;clear E I;rintro μ a w ⟨i,c',av,dn,last,⟨rfl,hi,dc⟩,E,I⟩;refine IF 6 E I (λak a E=>?_) λak a E=>?_
 ·
  obtain⟨bb,oo,rfl,_⟩:=(hp _ I.tail).get (by omega);have aG:i<bs.length:=by omega
  have mZ:dn.length≤11*bs.length:=by
   have:=dJ List.length dc;rw[aM]at this;omega
  refine RN 4 E I λa E=>?_;refine aL (λμ a w=>∃ (k:Nat),(μ=bs.length-k∧i≤k∧k≤bs.length∧(k=i∨nH bs i k))∧Fr a 48 [(0,.slice (some ⟨bb,oo,none⟩) bs.length c),(3,.slice av dn.length c'),(4,.int .u8 (last.toNat:Int)),(5,.int .i64 i),(6,.int .i64 k)]∧U W w (Sl 5 1 av dn.length c' (bc dn)::L)) (bs.length-i) (⟨i,⟨rfl,by omega,by omega,.inl rfl⟩,E.ab [0,3,4,5,6],I⟩) ?_;clear E I;rintro μ a w ⟨k,⟨rfl,p6,hk,kX⟩,E,I⟩;refine RN 1 E I λa E=>?_;refine b6 (M:=λa w=>∃ z:Bool,(z=true→nH bs i (k+1))∧(z=false→nH bs i k∧∀ he:k<bs.length,bs[k]≠bs[i])∧Fr a 48 [(0,.slice (some ⟨bb,oo,none⟩) bs.length c),(3,.slice av dn.length c'),(4,.int .u8 (last.toNat:Int)),(5,.int .i64 i),(6,.int .i64 k),(26,.bool z)]∧U W w (Sl 5 1 av dn.length c' (bc dn)::L)) ?_ ?_
  ·
   refine bM 0 [12] [0,1,2,3,4,5,6,7,9,10,11,3008,1012,13,14] E I λa w E I hH hC=>?_;have hr:=(hp _ I.tail).rd (by omega);refine RH 5 E I hH hC λa E=>?_;refine E.by (s:=16) (λdt E=>?_) (λdt E=>?_)
   ·
    refine RH 6 E I hH hC λa E=>?_;refine QH E (λw hc=>ae E ((hc.rd hr) k _ (dV (i:=k) (bs:=bs) (show k<bs.length by omega)))) hC λa E=>?_;refine RH 0 E I hH hC λa E=>?_;refine bA E (cv E rfl (s:=16)) (ae E ((hC.rd hr) i _ (dV aG))) rfl λa E=>?_;refine RH 2 E I hH hC λa E=>?_;have dR:k<bs.length:=by omega
    refine⟨_,λh=>?_,λh=>?_,E.ab [0,3,4,5,6,26],I⟩
    ·have he:bs[k]=bs[i]:=UInt8.toNat_inj.1 (by have:=pN h;omega);rcases kX with rfl | kX
     ·exact nH.one aG
     ·exact kX.more dR he
    ·have he:bs[k]≠bs[i]:=λe=>of_decide_eq_false h (by rw[e]);rcases kX with rfl | kX
     ·exact absurd rfl he
     ·exact⟨kX,λ_=>he⟩
   refine RH 10 E I hH hC λa E=>?_;refine⟨_,λh=>(by cases h),λh=>?_,E.ab [0,3,4,5,6,26],I⟩;rcases kX with rfl | kX
   ·omega
   ·exact⟨kX,λ_=>absurd (show k<bs.length by assumption) (by omega)⟩
  clear E;(try clear I);rintro a w ⟨z,cW,kW,E,I⟩;refine IF 0 E I (λao a E=>?_) λao a E=>?_
  ·
   have qg:=cW ao;refine RN 3 E I λa E=>?_;exact⟨bs.length-(k+1),by have:=qg.le;omega,k+1,⟨rfl,by omega,qg.le,.inr qg⟩,E.ab [0,3,4,5,6],I⟩
  obtain⟨qg,bq⟩:=kW ao;rw[qg.runs aG bq last]at dc;have dR:=qg.lt;have zb:=qg.le;refine aV 1 (λw0 w=>Rd w bb oo (bc bs)) [4] [0,1,2,3,5,6,7,9,3008,10,2004,1011,1012,13] E I λa w E I hH=>?_;have hC:=(hp _ I.tail).rd (by omega);have eI:=sw (n:=((k-i:Nat):Int)) (by omega) (by omega);refine RH 4 E I hH hC λa E=>?_;rw[show ((k:Nat):Int)-((i:Nat):Int)=((k-i:Nat):Int) from by omega]at E;refine RH 4 E I hH hC λa E=>?_;refine QH E (λw hc=>ae E (hc i _ (dV aG))) hC λa E=>?_;refine RH 1 E I hH hC λa E=>?_;refine DN [(4,[1011,1012,13]),(11,[1004,1012,13])] (by kernel_rfl) rfl ⟨⟨_,rfl,?_⟩,⟨_,rfl,?_⟩,trivial⟩
  ·
   refine RH 0 E I hH hC λa E=>?_;refine aY 0 E I (tM (N:=((k-i:Nat):Int)) (I.pick (Sl 5 1 av dn.length c' (bc dn))) (by omega) (by omega) (by omega)) λc4 dU a w E I=>?_;replace hC:=hH.at w ((hp _ I.sub).rd (by omega));refine RH 0 E I hH hC λa E=>?_;refine ct E rfl I bj Ty.t5 rfl rfl rfl rfl (by decide) (by decide) λKv a w E I ho=>?_;clear ho;refine RN 0 E I λa E=>?_;refine cR E rfl I bj Ty.t5 rfl rfl I.ai rfl (by simp[Value.oneCell']) (by decide) (by decide) (by rw[aM];omega) λzy GQ a w E I=>?_;refine RN 1 E I λa E=>?_;rw[vy]at I;have nI:(dn++aO (zz ((k-i:Nat):Int))++[bs[i] ^^^ last])++dC (bs.drop k) bs[i]=dC bs 0:=by rw[← dc];simp
   rw[show (dn++aO (zz ((k-i:Nat):Int))).length+1=(dn++aO (zz ((k-i:Nat):Int))++[bs[i] ^^^ last]).length from by simp only[aM,jJ]]at E I;generalize dn++aO (zz ((k-i:Nat):Int))++[bs[i] ^^^ last]=sx at E I nI;refine RN 4 E I λa E=>?_;refine SS E (ae E (((hp _ I.sub).rd (by omega)) i _ (dV aG))) λa E=>?_;refine RN 3 E I λa E=>?_;exact⟨bs.length-k,by omega,k,_,zy,sx,bs[i],⟨rfl,by omega,nI⟩,E.ab [0,3,4,5],I.sub⟩
  refine RH 0 E I hH hC λa E=>?_;refine ct E rfl I bj Ty.t5 rfl rfl rfl rfl (by decide) (by decide) λKv a w E I ho=>?_;clear ho;refine aY 0 E I (tM (N:=((k-i:Nat):Int)) (I.pick (Sl 5 1 av dn.length c' (bc dn))) (by omega) (by omega) (by omega)) λc4 dU a w E I=>?_;replace hC:=hH.at w ((hp _ I.sub).rd (by omega));refine RH 0 E I hH hC λa E=>?_;refine cR E rfl I bj Ty.t5 rfl rfl I.ai rfl (by simp[Value.oneCell']) (by decide) (by decide) (by rw[aM];omega) λzy GQ a w E I=>?_;refine RN 1 E I λa E=>?_;rw[vy]at I;have nI:(dn++aO (zz ((k-i:Nat):Int))++[bs[i] ^^^ last])++dC (bs.drop k) bs[i]=dC bs 0:=by rw[← dc];simp
  rw[show (dn++aO (zz ((k-i:Nat):Int))).length+1=(dn++aO (zz ((k-i:Nat):Int))++[bs[i] ^^^ last]).length from by simp only[aM,jJ]]at E I;generalize dn++aO (zz ((k-i:Nat):Int))++[bs[i] ^^^ last]=sx at E I nI;refine RN 4 E I λa E=>?_;refine SS E (ae E (((hp _ I.sub).rd (by omega)) i _ (dV aG))) λa E=>?_;refine RN 3 E I λa E=>?_;exact⟨bs.length-k,by omega,k,_,zy,sx,bs[i],⟨rfl,by omega,nI⟩,E.ab [0,3,4,5],I.sub⟩
 rw[drop_eq_nil_of_le (by omega),xA,append_nil]at dc;refine RT 3 E I ?_;exact⟨_,_,by rw[← dc],by rw[← dc];exact I⟩
theorem ZW (I:U W w L)(hb:bs.length≤65536)(hp:∀ w',U W w' L→aX w' ad bs.length bs) :
   Calls prog 159 #[.slice ad bs.length c] w λe w'=>∃ av c',e=.returned (.slice av (dC bs 0).length c')∧U W w' (Sl 5 1 av (dC bs 0).length c' (bc (dC bs 0))::L):=by
 have gD:=zw bs 0;refine EN func159 ntmps159 rfl rfl λa E=>?_;refine RN 9 E I λa E=>?_;refine aL (λμ a w=>∃ (i c':Nat) (av:Option Addr) (dn:List UInt8) (last:UInt8),(μ=bs.length-i∧i≤bs.length∧dn++dC (bs.drop i) last=dC bs 0)∧Fr a 52 [(0,.slice ad bs.length c),(3,.slice av dn.length c'),(4,.int .u8 (last.toNat:Int)),(5,.int .i64 i)]∧U W w (Sl 5 1 av dn.length c' (bc dn)::L)) (bs.length) (⟨0,0,none,[],0,⟨rfl,by omega,rfl⟩,E.ab [0,3,4,5],I.bQ 5 1 none⟩) ?_;clear E I;rintro μ a w ⟨i,c',av,dn,last,⟨rfl,hi,dc⟩,E,I⟩;refine IF 6 E I (λak a E=>?_) λak a E=>?_
 ·
  obtain⟨bb,oo,rfl,_⟩:=(hp _ I.tail).get (by omega);have aG:i<bs.length:=by omega
  have mZ:dn.length≤11*bs.length:=by
   have:=dJ List.length dc;rw[aM]at this;omega
  refine RN 3 E I λa E=>?_;refine aL (λμ a w=>∃ (k:Nat),(μ=bs.length-k∧k≤bs.length∧nH bs i k)∧Fr a 52 [(0,.slice (some ⟨bb,oo,none⟩) bs.length c),(3,.slice av dn.length c'),(4,.int .u8 (last.toNat:Int)),(5,.int .i64 i),(6,.int .i64 ((k-i:Nat):Int))]∧U W w (Sl 5 1 av dn.length c' (bc dn)::L)) (bs.length-(i+1)) (⟨i+1,⟨rfl,by omega,nH.one aG⟩,by rw[show i+1-i=1 from by omega];exact E.ab [0,3,4,5,6],I⟩) ?_;clear E I;rintro μ a w ⟨k,⟨rfl,hk,kX⟩,E,I⟩;refine RN 1 E I λa E=>?_;refine b6 (M:=λa w=>∃ z:Bool,(z=true→nH bs i (k+1))∧(z=false→∀ he:k<bs.length,bs[k]≠bs[i])∧Fr a 52 [(0,.slice (some ⟨bb,oo,none⟩) bs.length c),(3,.slice av dn.length c'),(4,.int .u8 (last.toNat:Int)),(5,.int .i64 i),(6,.int .i64 ((k-i:Nat):Int)),(29,.bool z)]∧U W w (Sl 5 1 av dn.length c' (bc dn)::L)) ?_ ?_
  ·
   refine RN 0 E I λa E=>?_;have p6:=kX.lt;refine bM 0 [16] [0,1,2,3,4,5,6,7,8,9,10,11,13,14,15,3012,1016,17,18] E I λa w E I hH hC=>?_;have hr:=(hp _ I.tail).rd (by omega);refine RH 3 E I hH hC λa E=>?_;rw[show ((i:Nat):Int)+((k-i:Nat):Int)=(k:Int) from by omega]at E;refine RH 4 E I hH hC λa E=>?_;refine E.by (s:=17) (λki E=>?_) (λki E=>?_)
   ·
    refine RH 4 E I hH hC λa E=>?_;rw[show ((i:Nat):Int)+((k-i:Nat):Int)=(k:Int) from by omega]at E;refine RH 4 E I hH hC λa E=>?_;refine QH E (λw hc=>ae E ((hc.rd hr) k _ (dV (i:=k) (bs:=bs) (show k<bs.length by omega)))) hC λa E=>?_;refine RH 0 E I hH hC λa E=>?_;refine bA E (cv E rfl (s:=17)) (ae E ((hC.rd hr) i _ (dV aG))) rfl λa E=>?_;refine RH 2 E I hH hC λa E=>?_;have dR:k<bs.length:=by omega
    refine⟨_,λh=>?_,λh=>?_,E.ab [0,3,4,5,6,29],I⟩
    ·have he:bs[k]=bs[i]:=UInt8.toNat_inj.1 (by have:=pN h;omega);exact kX.more dR he
    ·have he:bs[k]≠bs[i]:=λe=>of_decide_eq_false h (by rw[e]);exact λ_=>he
   refine RH 12 E I hH hC λa E=>?_;refine⟨_,λh=>(by cases h),λh=>?_,E.ab [0,3,4,5,6,29],I⟩;exact λ_=>absurd (show k<bs.length by assumption) (by omega)
  clear E;(try clear I);rintro a w ⟨z,cW,kW,E,I⟩;refine IF 0 E I (λao a E=>?_) λao a E=>?_
  ·
   have qg:=cW ao;refine RN 1 E I λa E=>?_;have p6:=kX.lt;have ch:((k-i:Nat):Int)≤65536:=by omega
   refine RN 1 E I λa E=>?_;rw[show ((k-i:Nat):Int)+1=((k+1-i:Nat):Int) from by omega]at E;refine RN 1 E I λa E=>?_;exact⟨bs.length-(k+1),by have:=qg.le;omega,k+1,⟨rfl,qg.le,qg⟩,E.ab [0,3,4,5,6],I⟩
  have bq:=kW ao;rw[kX.runs aG bq last]at dc;have dR:=kX.lt;have zb:=kX.le;refine aV 1 (λw0 w=>Rd w bb oo (bc bs)) [2,3] [0,1,4,5,6,8,3007,9,2002,2003,1010,1011,12] E I λa w E I hH=>?_;have hC:=(hp _ I.tail).rd (by omega);have eI:=sw (n:=((k-i:Nat):Int)) (by omega) (by omega);refine RH 6 E I hH hC λa E=>?_;refine QH E (λw hc=>ae E (hc i _ (dV aG))) hC λa E=>?_;refine RH 1 E I hH hC λa E=>?_;refine DN [(2,[2003,1010,1011,12]),(10,[1002,1003,1011,12])] (by kernel_rfl) rfl ⟨⟨_,rfl,?_⟩,⟨_,rfl,?_⟩,trivial⟩
  ·
   refine RH 0 E I hH hC λa E=>?_;refine aY 0 E I (uc (N:=((k-i:Nat):Int)) I (by omega) (by omega)) λc4 dU a w E I=>?_;replace hC:=hH.at w ((hp _ I.sub).rd (by omega));refine RH 0 E I hH hC λa E=>?_;refine DN [(3,[1010,1011,12]),(10,[1003,1011,12])] (by kernel_rfl) rfl ⟨⟨_,rfl,?_⟩,⟨_,rfl,?_⟩,trivial⟩
   ·
    obtain⟨bp,op,rfl,fo⟩:=(I.cw c4 (aO (zz ((k-i:Nat):Int))) rfl rfl).get (sj _);refine RH 0 E I hH hC λa E=>?_;refine cR E rfl I bj Ty.t5 rfl rfl fo (by rw[dA,fB]) (ez _) (sj _) (by decide) (by omega) λGR GS a w E I=>?_;replace hC:=hH.at w ((hp _ I.sub).rd (by omega));refine RH 0 E I hH hC λa E=>?_;refine ct E rfl I bj Ty.t5 rfl rfl rfl rfl (by decide) (by decide) λMD a w E I ho=>?_;clear ho;refine RN 0 E I λa E=>?_;refine cR E rfl I bj Ty.t5 rfl rfl I.ai rfl (by simp[Value.oneCell']) (by decide) (by decide) (by omega) λxE GU a w E I=>?_;refine RN 1 E I λa E=>?_;rw[← fS,vy]at I;have nI:(dn++aO (zz ((k-i:Nat):Int))++[bs[i] ^^^ last])++dC (bs.drop k) bs[i]=dC bs 0:=by rw[← dc];simp
    rw[show dn.length+(aO (zz ((k-i:Nat):Int))).length+1=(dn++aO (zz ((k-i:Nat):Int))++[bs[i] ^^^ last]).length from by simp only[aM,jJ]]at E I;generalize dn++aO (zz ((k-i:Nat):Int))++[bs[i] ^^^ last]=sx at E I nI;refine RN 4 E I λa E=>?_;refine SS E (ae E (((hp _ I.sub).rd (by omega)) i _ (dV aG))) λa E=>?_;refine RN 4 E I λa E=>?_;rw[show ((i:Nat):Int)+((k-i:Nat):Int)=(k:Int) from by omega]at E;refine RN 1 E I λa E=>?_;exact⟨bs.length-k,by omega,k,_,xE,sx,bs[i],⟨rfl,by omega,nI⟩,E.ab [0,3,4,5],I.sub⟩
   refine RH 0 E I hH hC λa E=>?_;refine ct E rfl I bj Ty.t5 rfl rfl rfl rfl (by decide) (by decide) λMD a w E I ho=>?_;clear ho;obtain⟨bp,op,rfl,fo⟩:=(I.cw c4 (aO (zz ((k-i:Nat):Int))) rfl rfl).get (sj _);refine RN 0 E I λa E=>?_;refine cR E rfl I bj Ty.t5 rfl rfl fo (by rw[dA,fB]) (ez _) (sj _) (by decide) (by omega) λGR GS a w E I=>?_;replace hC:=hH.at w ((hp _ I.sub).rd (by omega));refine RH 0 E I hH hC λa E=>?_;refine cR E rfl I bj Ty.t5 rfl rfl I.ai rfl (by simp[Value.oneCell']) (by decide) (by decide) (by omega) λxE GU a w E I=>?_;refine RN 1 E I λa E=>?_;rw[← fS,vy]at I;have nI:(dn++aO (zz ((k-i:Nat):Int))++[bs[i] ^^^ last])++dC (bs.drop k) bs[i]=dC bs 0:=by rw[← dc];simp
   rw[show dn.length+(aO (zz ((k-i:Nat):Int))).length+1=(dn++aO (zz ((k-i:Nat):Int))++[bs[i] ^^^ last]).length from by simp only[aM,jJ]]at E I;generalize dn++aO (zz ((k-i:Nat):Int))++[bs[i] ^^^ last]=sx at E I nI;refine RN 4 E I λa E=>?_;refine SS E (ae E (((hp _ I.sub).rd (by omega)) i _ (dV aG))) λa E=>?_;refine RN 4 E I λa E=>?_;rw[show ((i:Nat):Int)+((k-i:Nat):Int)=(k:Int) from by omega]at E;refine RN 1 E I λa E=>?_;exact⟨bs.length-k,by omega,k,_,xE,sx,bs[i],⟨rfl,by omega,nI⟩,E.ab [0,3,4,5],I.sub⟩
  refine RH 0 E I hH hC λa E=>?_;refine ct E rfl I bj Ty.t5 rfl rfl rfl rfl (by decide) (by decide) λMD a w E I ho=>?_;clear ho;refine aY 0 E I (uc (N:=((k-i:Nat):Int)) I (by omega) (by omega)) λc4 dU a w E I=>?_;replace hC:=hH.at w ((hp _ I.sub).rd (by omega));obtain⟨bp,op,rfl,fo⟩:=(I.cw c4 (aO (zz ((k-i:Nat):Int))) rfl rfl).get (sj _);refine RH 0 E I hH hC λa E=>?_;refine cR E rfl I bj Ty.t5 rfl rfl fo (by rw[dA,fB]) (ez _) (sj _) (by decide) (by omega) λGR GS a w E I=>?_;replace hC:=hH.at w ((hp _ I.sub).rd (by omega));refine RH 0 E I hH hC λa E=>?_;refine cR E rfl I bj Ty.t5 rfl rfl I.ai rfl (by simp[Value.oneCell']) (by decide) (by decide) (by omega) λxE GU a w E I=>?_;refine RN 1 E I λa E=>?_;rw[← fS,vy]at I;have nI:(dn++aO (zz ((k-i:Nat):Int))++[bs[i] ^^^ last])++dC (bs.drop k) bs[i]=dC bs 0:=by rw[← dc];simp
  rw[show dn.length+(aO (zz ((k-i:Nat):Int))).length+1=(dn++aO (zz ((k-i:Nat):Int))++[bs[i] ^^^ last]).length from by simp only[aM,jJ]]at E I;generalize dn++aO (zz ((k-i:Nat):Int))++[bs[i] ^^^ last]=sx at E I nI;refine RN 4 E I λa E=>?_;refine SS E (ae E (((hp _ I.sub).rd (by omega)) i _ (dV aG))) λa E=>?_;refine RN 4 E I λa E=>?_;rw[show ((i:Nat):Int)+((k-i:Nat):Int)=(k:Int) from by omega]at E;refine RN 1 E I λa E=>?_;exact⟨bs.length-k,by omega,k,_,xE,sx,bs[i],⟨rfl,by omega,nI⟩,E.ab [0,3,4,5],I.sub⟩
 rw[drop_eq_nil_of_le (by omega),xA,append_nil]at dc;refine RT 3 E I ?_;exact⟨_,_,by rw[← dc],by rw[← dc];exact I⟩
theorem ZX (I:U W w L)(hb:bs.length≤65536)(hc:bs.length≤c)(hm:m≤1000000)(hp:∀ w',U W w' L→aX w' ad bs.length bs) :
   Calls prog 333 #[.slice ad bs.length c,.int .i64 m] w λe w'=>∃ (out:List UInt8) (av:Option Addr) (c':Nat) (er:Int),e=.returned (.tuple #[.slice av out.length c',.int .i64 er])∧ud bs m out er∧U W w' (Sl 5 1 av out.length c' (bc out)::L):=by
 refine EN func333 ntmps333 rfl rfl λa E=>?_;refine RN 10 E I λa E=>?_;refine aL (λμ a w=>∃ (i c':Nat) (av:Option Addr) (dn:List UInt8) (last:UInt8),(μ=bs.length-i∧i≤bs.length∧dn.length≤m∧(0<i→dn≠[])∧∀ p:List UInt8,p.length≤m→bs=dC p 0→m4 p dn last (bs.drop i))∧Fr a 79 [(0,.slice ad bs.length c),(1,.int .i64 m),(6,.slice av dn.length c'),(7,.int .u8 (last.toNat:Int)),(8,.int .i64 i)]∧U W w (Sl 5 1 av dn.length c' (bc dn)::L)) (bs.length) (⟨0,0,none,[],0,⟨rfl,by omega,by simp,by omega,λp _ e=>by rw[drop_zero,e];exact m4.start p⟩,E.ab [0,1,6,7,8],I.bQ 5 1 none⟩) ?_;clear E I;rintro μ a w ⟨i,c',av,dn,last,⟨rfl,hi,GV,GW,nC⟩,E,I⟩;refine IF 6 E I (λak a E=>?_) λak a E=>?_
 ·
  obtain⟨bb,oo,rfl,_⟩:=(hp _ I.tail).get (by omega);have aG:i<bs.length:=by omega
  have bq:bs.drop i≠[]:=λe=>by have:=dJ List.length e;simp at this;omega
  refine RN 4 E I λa E=>?_;rw[show bs.length-i=(bs.drop i).length from by simp]at E;refine j9 0 E I (MA (bs:=bs.drop i) I (by simp;omega) (λw' hw=>(hp w' hw.tail).vu hi hc)) λx k er a w E ⟨hg,I⟩=>?_;refine RN 8 E I λa E=>?_;refine b6 (M:=λa w=>∃ z:Bool,(z=true↔(er≠0∨x<1∨bs.length≤i+k∨((bs.getD (i+k) 0).toNat=0∧0<i)))∧Fr a 79 [(0,.slice (some ⟨bb,oo,none⟩) bs.length c),(1,.int .i64 m),(6,.slice av dn.length c'),(7,.int .u8 (last.toNat:Int)),(8,.int .i64 i),(9,.int .i64 x),(10,.int .i64 k),(50,.bool z)]∧U W w (Sl 5 1 av dn.length c' (bc dn)::L)) ?_ ?_
  ·
   have mZ:(bs.drop i).length=bs.length-i:=by simp
   have qh:=hg.2.2.1;have nY:=hg.2.1;have pa:=hg.1;have dR:k≤bs.length:=by
    by_cases h0:er=0
    ·have:=qh h0;omega
    ·have:=(hg.2.2.2.1 h0).1;omega
   refine BY 3 E I (λbD a E=>?_) λbD a E=>?_
   ·
    refine RN 24 E I λa E=>?_;exact⟨_,by first | (rw[cu];omega) | exact⟨λh=>(by cases h),λh=>absurd h (by omega)⟩ | exact⟨λ_=>by omega,λ_=>rfl⟩,E.ab [0,1,6,7,8,9,10,50],I⟩
   refine BY 4 E I (λki a E=>?_) λki a E=>?_
   ·
    refine RN 20 E I λa E=>?_;exact⟨_,by first | (rw[cu];omega) | exact⟨λh=>(by cases h),λh=>absurd h (by omega)⟩ | exact⟨λ_=>by omega,λ_=>rfl⟩,E.ab [0,1,6,7,8,9,10,50],I⟩
   refine BY 8 E I (λlp a E=>?_) λlp a E=>?_
   ·
    refine RN 12 E I λa E=>?_;exact⟨_,by first | (rw[cu];omega) | exact⟨λh=>(by cases h),λh=>absurd h (by omega)⟩ | exact⟨λ_=>by omega,λ_=>rfl⟩,E.ab [0,1,6,7,8,9,10,50],I⟩
   refine RN 4 E I λa E=>?_;rw[show ((i:Nat):Int)+((k:Nat):Int)=((i+k:Nat):Int) from by omega]at E;refine RN 1 E I λa E=>?_;refine bA E (cv E rfl (s:=38)) (ae E (((hp _ I.tail).rd (by omega)) (i+k) _ (lA (by omega)))) rfl λa E=>?_;refine BY 2 E I (λqi a E=>?_) λqi a E=>?_
   ·
    refine RN 4 E I λa E=>?_;exact⟨_,by first | (rw[cu];omega) | exact⟨λh=>(by cases h),λh=>absurd h (by omega)⟩ | exact⟨λ_=>by omega,λ_=>rfl⟩,E.ab [0,1,6,7,8,9,10,50],I⟩
   refine RN 4 E I λa E=>?_;exact⟨_,by first | (rw[cu];omega) | exact⟨λh=>(by cases h),λh=>absurd h (by omega)⟩ | exact⟨λ_=>by omega,λ_=>rfl⟩,E.ab [0,1,6,7,8,9,10,50],I⟩
  clear E;(try clear I);rintro a w ⟨z,hz,E,I⟩;refine IF 0 E I (λao a E=>?_) λao a E=>?_
  ·
   have kh:=hz.1 ao;refine RT 3 E I ?_;exact⟨[],none,0,1,rfl,ud.bad nC hm bq hg (by rw[MC,c8];rcases kh with h | h | h | h;exact .inl h;exact .inr (.inl h);exact .inr (.inr (.inl (by omega)));exact .inr (.inr (.inr (.inl ⟨GW h.2,h.1⟩)))) (.inl rfl),I.tail.bQ _ _ _⟩
  have Gf:¬ (er≠0∨x<1∨bs.length≤i+k∨((bs.getD (i+k) 0).toNat=0∧0<i)):=λh=>absurd (hz.2 h) (by simp[ao]);refine IF 9 E I (λay a E=>?_) λay a E=>?_
  ·
   refine RT 3 E I ?_;exact⟨[],none,0,4,rfl,ud.bad nC hm bq hg (.inr (.inr (.inr (.inr (by omega))))) (.inr rfl),I.tail.bQ _ _ _⟩
  refine RN 6 E I λa E=>?_;rw[show ((i:Nat):Int)+((k:Nat):Int)=((i+k:Nat):Int) from by omega]at E;refine RN 1 E I λa E=>?_;refine SS E (ae E (((hp _ I.tail).rd (by omega)) (i+k) _ (lA (by omega)))) λa E=>?_;refine RN 2 E I λa E=>?_;generalize hy:last ^^^ bs.getD (i+k) 0=y at E;refine RN 4 E I λa E=>?_;refine aL (λμ a w=>∃ (j c2:Nat) (ad2:Option Addr),(μ=x.toNat-j∧j≤x.toNat)∧Fr a 79 [(0,.slice (some ⟨bb,oo,none⟩) bs.length c),(1,.int .i64 m),(6,.slice ad2 (dn++List.replicate j y).length c2),(7,.int .u8 (y.toNat:Int)),(8,.int .i64 i),(10,.int .i64 k),(66,.int .i64 x),(67,.int .i64 j)]∧U W w (Sl 5 1 ad2 (dn++List.replicate j y).length c2 (bc (dn++List.replicate j y))::L)) (x.toNat) (⟨0,c',av,⟨rfl,by omega⟩,by rw[List.replicate_zero,append_nil];exact E.ab [0,1,6,7,8,10,66,67],by rw[List.replicate_zero,append_nil];exact I⟩) ?_;clear E I;rintro μ a w ⟨j,c2,ad2,⟨rfl,hj⟩,E,I⟩;refine IF 3 E I (λbl a E=>?_) λbl a E=>?_
  ·
   refine RN 1 E I λa E=>?_;have dO:(dn++List.replicate j y).length=dn.length+j:=by simp
   refine RN 2 E I λa E=>?_;refine ct E rfl I bj Ty.t5 rfl rfl rfl rfl (by decide) (by decide) λZY a w E I ho=>?_;clear ho;refine RN 0 E I λa E=>?_;refine cR E rfl I bj Ty.t5 rfl rfl I.ai rfl (by simp[Value.oneCell']) (by decide) (by decide) (by omega) λME MF a w E I=>?_;refine RN 1 E I λa E=>?_;rw[vy,show (dn++List.replicate j y)++[y]=dn++List.replicate (j+1) y from by rw[dz,← replicate_succ']]at I;rw[show (dn++List.replicate j y).length+1=(dn++List.replicate (j+1) y).length from by simp;omega]at E I;refine RN 2 E I λa E=>?_;exact⟨x.toNat-(j+1),by omega,j+1,_,_,⟨rfl,by omega⟩,E.ab [0,1,6,7,8,10,66,67],I.sub⟩
  obtain rfl:j=x.toNat:=by omega
  refine RN 0 E I λa E=>?_;have p8:(dn++List.replicate x.toNat y).length=dn.length+x.toNat:=by simp
  refine RN 4 E I λa E=>?_;rw[show ((i:Nat):Int)+(((k:Nat):Int)+1)=((i+k+1:Nat):Int) from by omega]at E;refine RN 1 E I λa E=>?_;exact⟨bs.length-(i+k+1),by omega,i+k+1,_,_,_,y,⟨rfl,by omega,by omega,λ_ e=>(by rw[e]at p8;simp at p8;omega),λp vz e=>(by
   have h2:=((nC p vz e).get (by omega) bq hg).2.2.2.2.2;rw[MC,hy,kF]at h2;exact h2)⟩,E.ab [0,1,6,7,8],I⟩
 refine RT 4 E I ?_;exact⟨dn,_,_,0,rfl,⟨by omega,GV,λp vz e=>⟨by have h2:=nC p vz e;rw[drop_eq_nil_of_le (by omega)]at h2;exact h2.done.symm,rfl⟩⟩,I⟩
theorem ZZ (I:U W w L)(hb:bs.length≤65536)(hc:bs.length≤c)(hm:m≤1000000)(hp:∀ w',U W w' L→aX w' ad bs.length bs) :
   Calls prog 216 #[.slice ad bs.length c,.int .i64 m] w λe w'=>∃ (out:List UInt8) (av:Option Addr) (c':Nat) (er:Int),e=.returned (.tuple #[.slice av out.length c',.int .i64 er])∧ud bs m out er∧U W w' (Sl 5 1 av out.length c' (bc out)::L):=by
 refine EN func216 ntmps216 rfl rfl λa E=>?_;refine RN 10 E I λa E=>?_;refine aL (λμ a w=>∃ (i c' pf:Nat) (av sy:Option Addr) (dn rest:List UInt8) (last:UInt8) (fi:Bool),(μ=rest.length∧rest.length≤bs.length∧rest.length≤pf∧dn.length≤m∧(fi=false→dn≠[])∧(∀ w',U W w' L→aX w' sy rest.length rest)∧∀ p:List UInt8,p.length≤m→bs=dC p 0→m4 p dn last rest)∧Fr a 72 [(0,.slice sy rest.length pf),(1,.int .i64 m),(6,.slice av dn.length c'),(7,.int .u8 (last.toNat:Int)),(8,.bool fi)]∧U W w (Sl 5 1 av dn.length c' (bc dn)::L)) (bs.length) (⟨0,0,c,none,ad,[],bs,0,true,⟨rfl,by omega,hc,by simp,(by simp),hp,λp _ e=>by rw[e];exact m4.start p⟩,E.ab [0,1,6,7,8],I.bQ 5 1 none⟩) ?_;clear E I;rintro μ a w ⟨i,c',pf,av,sy,dn,rest,last,fi,⟨rfl,Cn,j0,GV,GW,a6,nC⟩,E,I⟩;refine IF 5 E I (λak a E=>?_) λak a E=>?_
 ·
  obtain⟨bb,oo,rfl,_⟩:=(a6 _ I.tail).get (by omega);have bq:rest≠[]:=λe=>by rw[e]at ak;simp at ak
  refine j9 3 E I (GO (bs:=rest) I (by omega) (λw' hw=>a6 w' hw.tail)) λx k er a w E ⟨hg,I⟩=>?_;refine RN 8 E I λa E=>?_;refine b6 (M:=λa w=>∃ z:Bool,(z=true↔(er≠0∨x<1∨rest.length≤k∨((rest.getD k 0).toNat=0∧fi=false)))∧Fr a 72 [(0,.slice (some ⟨bb,oo,none⟩) rest.length pf),(1,.int .i64 m),(6,.slice av dn.length c'),(7,.int .u8 (last.toNat:Int)),(8,.bool fi),(9,.int .i64 x),(10,.int .i64 k),(44,.bool z)]∧U W w (Sl 5 1 av dn.length c' (bc dn)::L)) ?_ ?_
  ·
   have qh:=hg.2.2.1;have nY:=hg.2.1;have pa:=hg.1;have dR:k≤rest.length:=by
    by_cases h0:er=0
    ·have:=qh h0;omega
    ·have:=(hg.2.2.2.1 h0).1;omega
   refine BY 3 E I (λbD a E=>?_) λbD a E=>?_
   ·
    refine RN 20 E I λa E=>?_;exact⟨_,by first | (rw[cu];omega) | exact⟨λh=>(by cases h),λh=>absurd h (by omega)⟩ | exact⟨λ_=>by omega,λ_=>rfl⟩ | (cases fi;exact⟨λ_=>.inr (.inr (.inr ⟨by omega,rfl⟩)),λ_=>rfl⟩;exact⟨λh=>(by cases h),λh=>by rcases h with h | h | h | h;exact absurd h (by omega);exact absurd h (by omega);exact absurd h (by omega);exact absurd h.2 (by decide)⟩),E.ab [0,1,6,7,8,9,10,44],I⟩
   refine BY 4 E I (λki a E=>?_) λki a E=>?_
   ·
    refine RN 16 E I λa E=>?_;exact⟨_,by first | (rw[cu];omega) | exact⟨λh=>(by cases h),λh=>absurd h (by omega)⟩ | exact⟨λ_=>by omega,λ_=>rfl⟩ | (cases fi;exact⟨λ_=>.inr (.inr (.inr ⟨by omega,rfl⟩)),λ_=>rfl⟩;exact⟨λh=>(by cases h),λh=>by rcases h with h | h | h | h;exact absurd h (by omega);exact absurd h (by omega);exact absurd h (by omega);exact absurd h.2 (by decide)⟩),E.ab [0,1,6,7,8,9,10,44],I⟩
   refine BY 6 E I (λhJ a E=>?_) λhJ a E=>?_
   ·
    refine RN 10 E I λa E=>?_;exact⟨_,by first | (rw[cu];omega) | exact⟨λh=>(by cases h),λh=>absurd h (by omega)⟩ | exact⟨λ_=>by omega,λ_=>rfl⟩ | (cases fi;exact⟨λ_=>.inr (.inr (.inr ⟨by omega,rfl⟩)),λ_=>rfl⟩;exact⟨λh=>(by cases h),λh=>by rcases h with h | h | h | h;exact absurd h (by omega);exact absurd h (by omega);exact absurd h (by omega);exact absurd h.2 (by decide)⟩),E.ab [0,1,6,7,8,9,10,44],I⟩
   refine RN 3 E I λa E=>?_;refine bA E (cv E rfl (s:=34)) (ae E (((a6 _ I.tail).rd (by omega)) k _ (lA (by omega)))) rfl λa E=>?_;refine BY 2 E I (λvg a E=>?_) λvg a E=>?_
   ·
    refine RN 4 E I λa E=>?_;exact⟨_,by first | (rw[cu];omega) | exact⟨λh=>(by cases h),λh=>absurd h (by omega)⟩ | exact⟨λ_=>by omega,λ_=>rfl⟩ | (cases fi;exact⟨λ_=>.inr (.inr (.inr ⟨by omega,rfl⟩)),λ_=>rfl⟩;exact⟨λh=>(by cases h),λh=>by rcases h with h | h | h | h;exact absurd h (by omega);exact absurd h (by omega);exact absurd h (by omega);exact absurd h.2 (by decide)⟩),E.ab [0,1,6,7,8,9,10,44],I⟩
   refine RN 4 E I λa E=>?_;exact⟨_,by first | (rw[cu];omega) | exact⟨λh=>(by cases h),λh=>absurd h (by omega)⟩ | exact⟨λ_=>by omega,λ_=>rfl⟩ | (cases fi;exact⟨λ_=>.inr (.inr (.inr ⟨by omega,rfl⟩)),λ_=>rfl⟩;exact⟨λh=>(by cases h),λh=>by rcases h with h | h | h | h;exact absurd h (by omega);exact absurd h (by omega);exact absurd h (by omega);exact absurd h.2 (by decide)⟩),E.ab [0,1,6,7,8,9,10,44],I⟩
  clear E;(try clear I);rintro a w ⟨z,hz,E,I⟩;refine IF 0 E I (λao a E=>?_) λao a E=>?_
  ·
   have kh:=hz.1 ao;refine RT 3 E I ?_;exact⟨[],none,0,1,rfl,ud.bad nC hm bq hg (by rcases kh with h | h | h | h;exact .inl h;exact .inr (.inl h);exact .inr (.inr (.inl (by omega)));exact .inr (.inr (.inr (.inl ⟨GW h.2,h.1⟩)))) (.inl rfl),I.tail.bQ _ _ _⟩
  have Gf:¬ (er≠0∨x<1∨rest.length≤k∨((rest.getD k 0).toNat=0∧fi=false)):=λh=>absurd (hz.2 h) (by simp[ao]);refine IF 9 E I (λay a E=>?_) λay a E=>?_
  ·
   refine RT 3 E I ?_;exact⟨[],none,0,4,rfl,ud.bad nC hm bq hg (.inr (.inr (.inr (.inr (by omega))))) (.inr rfl),I.tail.bQ _ _ _⟩
  refine RN 5 E I λa E=>?_;refine SS E (ae E (((a6 _ I.tail).rd (by omega)) k _ (lA (by omega)))) λa E=>?_;refine RN 2 E I λa E=>?_;generalize hy:last ^^^ rest.getD k 0=y at E;refine RN 3 E I λa E=>?_;refine aL (λμ a w=>∃ (j c2:Nat) (ad2:Option Addr),(μ=x.toNat-j∧j≤x.toNat)∧Fr a 72 [(0,.slice (some ⟨bb,oo,none⟩) rest.length pf),(1,.int .i64 m),(6,.slice ad2 (dn++List.replicate j y).length c2),(7,.int .u8 (y.toNat:Int)),(8,.bool fi),(9,.int .i64 x),(10,.int .i64 k),(12,.int .i64 j)]∧U W w (Sl 5 1 ad2 (dn++List.replicate j y).length c2 (bc (dn++List.replicate j y))::L)) (x.toNat) (⟨0,c',av,⟨rfl,by omega⟩,by rw[List.replicate_zero,append_nil];exact E.ab [0,1,6,7,8,9,10,12],by rw[List.replicate_zero,append_nil];exact I⟩) ?_;clear E I;rintro μ a w ⟨j,c2,ad2,⟨rfl,hj⟩,E,I⟩;refine IF 5 E I (λbl a E=>?_) λbl a E=>?_
  ·
   refine RN 1 E I λa E=>?_;have dO:(dn++List.replicate j y).length=dn.length+j:=by simp
   refine RN 2 E I λa E=>?_;refine ct E rfl I bj Ty.t5 rfl rfl rfl rfl (by decide) (by decide) λTH a w E I ho=>?_;clear ho;refine RN 0 E I λa E=>?_;refine cR E rfl I bj Ty.t5 rfl rfl I.ai rfl (by simp[Value.oneCell']) (by decide) (by decide) (by omega) λagI c66 a w E I=>?_;refine RN 1 E I λa E=>?_;rw[vy,show (dn++List.replicate j y)++[y]=dn++List.replicate (j+1) y from by rw[dz,← replicate_succ']]at I;rw[show (dn++List.replicate j y).length+1=(dn++List.replicate (j+1) y).length from by simp;omega]at E I;refine RN 3 E I λa E=>?_;exact⟨x.toNat-(j+1),by omega,j+1,_,_,⟨rfl,by omega⟩,E.ab [0,1,6,7,8,9,10,12],I.sub⟩
  obtain rfl:j=x.toNat:=by omega
  refine RN 0 E I λa E=>?_;have p8:(dn++List.replicate x.toNat y).length=dn.length+x.toNat:=by simp
  refine RN 5 E I λa E=>?_;rw[show rest.length-(k+1)=(rest.drop (k+1)).length from by simp]at E;refine RN 1 E I λa E=>?_;exact⟨(rest.drop (k+1)).length,by simp;omega,0,_,_,_,_,_,rest.drop (k+1),y,false,⟨rfl,by simp;omega,by simp;omega,by omega,λ_ e=>(by rw[e]at p8;simp at p8;omega),λw' hw=>(a6 w' hw).vu (by omega) j0,λp vz e=>(by
   have h2:=((nC p vz e).get (by omega) bq hg).2.2.2.2.2;rw[hy]at h2;exact h2)⟩,E.ab [0,1,6,7,8],I⟩
 refine RT 4 E I ?_;have Z0:rest=[]:=hs (by omega);exact⟨dn,_,_,0,rfl,⟨by omega,GV,λp vz e=>⟨by have h2:=nC p vz e;rw[Z0]at h2;exact h2.done.symm,rfl⟩⟩,I⟩
end
end
section
abbrev dQ (p:Pk)(ad:Option Addr)(c:Nat):List Value:=[.int .i64 p.kind,.int .i64 p.aW,.int .i64 p.to,.int .i64 p.id,.int .i64 p.first,.slice ad p.al.length c,.int .i64 p.dd,.int .i64 p.frame,.int .u32 p.sum]
def qj (m:Int)(ns:List Int):Prop:=∀ n∈ns,0≤n∧n≤m
def GX (ns:List Int):List Value:=ns.map λn=>.int .i64 n
theorem Z1 {ns:List Int}{i:Nat}(h:i<ns.length):(GX ns)[i]?=some (.int .i64 ns[i]):=by simp[GX,h]
def iV (p:Pk):Prop:=(0≤p.aW∧p.aW≤7)∧(0≤p.to∧p.to≤7)∧p.aW≠p.to∧(0≤p.id∧p.id≤1099511627776)
theorem GY {p:Pk}(h:iV p)(hk:p.kind=1):ik p↔(qj 1000 [p.first,p.dd,p.frame]∧p.al.length≤32):=by
 unfold iV at h;simp only[ik,qj,eM,xr,not_mem_nil,false_implies,implies_true,and_true];omega
theorem GZ {p:Pk}(h:iV p)(hk:p.kind=2):ik p↔(qj 0 [p.first,p.dd,p.frame,(p.al.length:Int)]∧p.sum=0):=by
 unfold iV at h;simp only[ik,qj,eM,xr,not_mem_nil,false_implies,implies_true,and_true];omega
theorem Co {p:Pk}(h:ik p):iV p:=⟨h.1,h.2.1,h.2.2.1,h.2.2.2.1⟩
theorem zA {p:Pk}(h:ik p):p.kind=1∨p.kind=2:=by
 rcases h.2.2.2.2 with h | h
 ·exact .inl h.1
 ·exact .inr h.1
section
variable {W w:World}{L:List SP}{n c:Nat}{ad:Option Addr}{p:Pk}
theorem G0 {ns:List Int}{b:Nat}{M:Int}(I:U W w L)(hb:ns.length≤1000)(hp:∀ w',U W w' L→Rd w' b 0 (GX ns)) :
   Calls prog 342 #[.int .i64 M,.slice (some ⟨b,0,none⟩) ns.length ns.length] w λe w'=>∃ r:Bool,e=.returned (.bool r)∧(r=true↔qj M ns)∧U W w' L:=by
 refine EN func342 ntmps342 rfl rfl λa E=>?_;refine RN 7 E I λa E=>?_;refine aL (λμ a w=>∃ (i:Nat),(μ=ns.length-i∧i≤ns.length∧qj M (ns.take i))∧Fr a 21 [(0,.int .i64 M),(7,.slice (some ⟨b,0,none⟩) ns.length ns.length),(8,.int .i64 ns.length),(9,.int .i64 i)]∧U W w L) (ns.length) (⟨0,⟨rfl,by omega,λn h=>by simp at h⟩,E.ab [0,7,8,9],I⟩) ?_;clear E I;rintro μ a w ⟨i,⟨rfl,hi,cI⟩,E,I⟩;refine IF 3 E I (λak a E=>?_) λak a E=>?_
 ·
  have aG:i<ns.length:=by omega
  refine RN 3 E I λa E=>?_;refine SS E (ae E (by have:=hp _ I i _ (Z1 aG);rwa [ei]at this)) λa E=>?_;refine RN 1 E I λa E=>?_;refine b6 (M:=λa w=>∃ z:Bool,(z=true↔¬ (0≤ns[i]∧ns[i]≤M))∧Fr a 21 [(0,.int .i64 M),(7,.slice (some ⟨b,0,none⟩) ns.length ns.length),(8,.int .i64 ns.length),(9,.int .i64 i),(19,.bool z)]∧U W w L) ?_ ?_
  ·
   refine BY 3 E I (λbD a E=>?_) λbD a E=>?_
   ·
    refine RN 4 E I λa E=>?_;exact⟨_,by first | (rw[cu];omega) | exact⟨λh=>(by cases h),λh=>absurd h (by omega)⟩ | exact⟨λ_=>by omega,λ_=>rfl⟩,E.ab [0,7,8,9,19],I⟩
   refine RN 4 E I λa E=>?_;exact⟨_,by first | (rw[cu];omega) | exact⟨λh=>(by cases h),λh=>absurd h (by omega)⟩ | exact⟨λ_=>by omega,λ_=>rfl⟩,E.ab [0,7,8,9,19],I⟩
  clear E;(try clear I);rintro a w ⟨z,hz,E,I⟩;refine IF 0 E I (λao a E=>?_) λao a E=>?_
  ·
   refine RT 2 E I ?_;exact⟨_,rfl,⟨λh=>(by cases h),λh=>absurd (h _ (jj aG)) (hz.1 ao)⟩,I⟩
  refine RN 2 E I λa E=>?_;exact⟨ns.length-(i+1),by omega,i+1,⟨rfl,by omega,λn hn=>by
   rw[jD aG,e7,iP]at hn;rcases hn with hn | rfl
   ·exact cI n hn
   ·exact Classical.byContradiction λh=>by have:=hz.2 h;rw[ao]at this;cases this⟩,E.ab [0,7,8,9],I⟩
 refine RT 2 E I ?_;rw[gl (by omega)]at cI;exact⟨_,rfl,⟨λ_=>cI,λ_=>rfl⟩,I⟩
theorem MG {M a b:Int}:qj M [a,b]↔(0≤a∧a≤M)∧(0≤b∧b≤M):=by simp[qj]
theorem Z2 {M a b c:Int}:qj M [a,b,c]↔(0≤a∧a≤M)∧(0≤b∧b≤M)∧(0≤c∧c≤M):=by simp[qj]
theorem Z3 (I:U W w L):Calls prog 336 #[.agg (dQ p ad c).toArray] w λe w'=>∃ r:Bool,e=.returned (.bool r)∧(r=true↔ik p)∧U W w' L:=by
 have jK:=I;refine EN func336 ntmps336 rfl rfl λa E=>?_;refine BX 1 E I λb1 a w E I=>?_;refine RN 2 E I λa E=>?_;refine b6 (M:=λa w=>∃ (z:Bool) (b1:Nat),(z=true↔¬ iV p)∧Fr a 63 [(1,pt b1),(26,.bool z)]∧U W w (aa b1 203 (dQ p ad c)::L)) ?_ ?_
 ·
  refine RN 4 E I λa E=>?_;refine ct E rfl I lR Ty.t3 rfl rfl rfl rfl (by decide) (by decide) λdv a w E I ho=>?_;clear ho;refine bg 0 E I (G0 (ns:=[p.aW,p.to]) I (by simp) (λw' hw=>hw.ai)) λr1 a w E ⟨fl,I⟩=>?_;refine BY 2 E I (λjY a E=>?_) λjY a E=>?_
  ·
   have hh:¬ iV p:=λh=>by
    have:=fl.2 (MG.2 ⟨h.1,h.2.1⟩);rw[jY]at this;cases this
   refine RN 16 E I λa E=>?_;exact⟨_,_,⟨λ_=>hh,λ_=>rfl⟩,E.ab [1,26],I.sub⟩
  have hh:=MG.1 (fl.1 jY);refine BY 7 E I (λlp a E=>?_) λlp a E=>?_
  ·
   refine RN 9 E I λa E=>?_;exact⟨_,_,by unfold iV;first | (rw[cu];omega) | exact⟨λh=>(by cases h),λh=>absurd h (by omega)⟩ | exact⟨λ_=>by omega,λ_=>rfl⟩,E.ab [1,26],I.sub⟩
  refine BY 5 E I (λqk a E=>?_) λqk a E=>?_
  ·
   refine RN 4 E I λa E=>?_;exact⟨_,_,by unfold iV;first | (rw[cu];omega) | exact⟨λh=>(by cases h),λh=>absurd h (by omega)⟩ | exact⟨λ_=>by omega,λ_=>rfl⟩,E.ab [1,26],I.sub⟩
  refine RN 4 E I λa E=>?_;exact⟨_,_,by unfold iV;first | (rw[cu];omega) | exact⟨λh=>(by cases h),λh=>absurd h (by omega)⟩ | exact⟨λ_=>by omega,λ_=>rfl⟩,E.ab [1,26],I.sub⟩
 clear E;(try clear I);rintro a w ⟨z,b1,hz,E,I⟩;refine IF 0 E I (λak a E=>?_) λak a E=>?_
 ·
  have hn:=hz.1 ak;refine RT 2 E I ?_;exact⟨_,rfl,⟨λh=>(by cases h),λh=>absurd (Co h) hn⟩,I.sub⟩
 have hh:iV p:=Classical.byContradiction λh=>by have:=hz.2 h;rw[ak]at this;cases this
 refine IF 7 E I (λao a E=>?_) λao a E=>?_
 ·
  have hL:p.kind=1:=ao;refine RN 7 E I λa E=>?_;refine ct E rfl I lR Ty.t3 rfl rfl rfl rfl (by decide) (by decide) λXo a w E I ho=>?_;clear ho;refine bg 0 E I (G0 (ns:=[p.first,p.dd,p.frame]) I (by simp) (λw' hw=>hw.ai)) λMH a w E ⟨ue,I⟩=>?_;refine BY 1 E I (λfm a E=>?_) λfm a E=>?_
  ·
   refine RT 6 E I ?_;refine⟨_,rfl,?_,I.sub⟩;rw[GY hh hL,cu];exact⟨λh=>⟨ue.1 fm,by omega⟩,λh=>by omega⟩
  refine RT 6 E I ?_;exact⟨_,rfl,⟨λh=>(by cases h),λh=>by have:=ue.2 ((GY hh hL).1 h).1;rw[fm]at this;cases this⟩,I.sub⟩
 refine IF 3 E I (λay a E=>?_) λay a E=>?_
 ·
  have ch:p.kind=2:=ay;refine RN 10 E I λa E=>?_;refine ct E rfl I lR Ty.t3 rfl rfl rfl rfl (by decide) (by decide) λZ4 a w E I ho=>?_;clear ho;refine bg 0 E I (G0 (ns:=[p.first,p.dd,p.frame,(p.al.length:Int)]) I (by simp) (λw' hw=>hw.ai)) λagJ a w E ⟨xF,I⟩=>?_;refine BY 1 E I (λlq a E=>?_) λlq a E=>?_
  ·
   refine RT 5 E I ?_;refine⟨_,rfl,?_,I.sub⟩;rw[GZ hh ch,cu];exact⟨λh=>⟨xF.1 lq,by omega⟩,λh=>by omega⟩
  refine RT 5 E I ?_;exact⟨_,rfl,⟨λh=>(by cases h),λh=>by have:=xF.2 ((GZ hh ch).1 h).1;rw[lq]at this;cases this⟩,I.sub⟩
 refine RT 2 E I ?_;exact⟨_,rfl,⟨λh=>(by cases h),λh=>by rcases zA h with h | h;exact absurd h ao;exact absurd h ay⟩,I.sub⟩
theorem G1 {x:Int}(I:U W w L):Calls prog 191 #[.int .i64 x] w λe w'=>∃ r:Bool,e=.returned (.bool r)∧(r=true↔eM x)∧U W w' L:=by
 refine EN func191 ntmps191 rfl rfl λa E=>?_;refine BY 6 E I (λbD a E=>?_) λbD a E=>?_
 ·
  refine RT 4 E I ?_;exact⟨_,rfl,by unfold eM;first | (rw[cu];omega) | exact⟨λh=>(by cases h),λh=>absurd h (by omega)⟩,I⟩
 refine RT 4 E I ?_;exact⟨_,rfl,by unfold eM;first | (rw[cu];omega) | exact⟨λh=>(by cases h),λh=>absurd h (by omega)⟩,I⟩
theorem Z5 (I:U W w L):Calls prog 156 #[.agg (dQ p ad c).toArray] w λe w'=>∃ r:Bool,e=.returned (.bool r)∧(r=true↔ik p)∧U W w' L:=by
 refine EN func156 ntmps156 rfl rfl λa E=>?_;refine BX 1 E I λb1 a w E I=>?_;refine RN 2 E I λa E=>?_;refine b6 (M:=λa w=>∃ (z:Bool) (b1:Nat),(z=true↔¬ (iV p∧1≤p.kind∧p.kind≤2))∧Fr a 94 [(1,pt b1),(47,.bool z)]∧U W w (aa b1 203 (dQ p ad c)::L)) ?_ ?_
 ·
  refine BY 4 E I (λbW a E=>?_) λbW a E=>?_
  ·
   refine RN 41 E I λa E=>?_;exact⟨_,_,by unfold iV;first | (rw[cu];omega) | exact⟨λh=>(by cases h),λh=>absurd h (by omega)⟩ | exact⟨λ_=>by omega,λ_=>rfl⟩,E.ab [1,47],I.sub⟩
  refine BY 5 E I (λfm a E=>?_) λfm a E=>?_
  ·
   refine RN 36 E I λa E=>?_;exact⟨_,_,by unfold iV;first | (rw[cu];omega) | exact⟨λh=>(by cases h),λh=>absurd h (by omega)⟩ | exact⟨λ_=>by omega,λ_=>rfl⟩,E.ab [1,47],I.sub⟩
  refine BY 5 E I (λnJ a E=>?_) λnJ a E=>?_
  ·
   refine RN 31 E I λa E=>?_;exact⟨_,_,by unfold iV;first | (rw[cu];omega) | exact⟨λh=>(by cases h),λh=>absurd h (by omega)⟩ | exact⟨λ_=>by omega,λ_=>rfl⟩,E.ab [1,47],I.sub⟩
  refine BY 5 E I (λvg a E=>?_) λvg a E=>?_
  ·
   refine RN 26 E I λa E=>?_;exact⟨_,_,by unfold iV;first | (rw[cu];omega) | exact⟨λh=>(by cases h),λh=>absurd h (by omega)⟩ | exact⟨λ_=>by omega,λ_=>rfl⟩,E.ab [1,47],I.sub⟩
  refine BY 5 E I (λm1 a E=>?_) λm1 a E=>?_
  ·
   refine RN 21 E I λa E=>?_;exact⟨_,_,by unfold iV;first | (rw[cu];omega) | exact⟨λh=>(by cases h),λh=>absurd h (by omega)⟩ | exact⟨λ_=>by omega,λ_=>rfl⟩,E.ab [1,47],I.sub⟩
  refine BY 5 E I (λZ6 a E=>?_) λZ6 a E=>?_
  ·
   refine RN 16 E I λa E=>?_;exact⟨_,_,by unfold iV;first | (rw[cu];omega) | exact⟨λh=>(by cases h),λh=>absurd h (by omega)⟩ | exact⟨λ_=>by omega,λ_=>rfl⟩,E.ab [1,47],I.sub⟩
  refine BY 7 E I (λZ7 a E=>?_) λZ7 a E=>?_
  ·
   refine RN 9 E I λa E=>?_;exact⟨_,_,by unfold iV;first | (rw[cu];omega) | exact⟨λh=>(by cases h),λh=>absurd h (by omega)⟩ | exact⟨λ_=>by omega,λ_=>rfl⟩,E.ab [1,47],I.sub⟩
  refine BY 5 E I (λZ8 a E=>?_) λZ8 a E=>?_
  ·
   refine RN 4 E I λa E=>?_;exact⟨_,_,by unfold iV;first | (rw[cu];omega) | exact⟨λh=>(by cases h),λh=>absurd h (by omega)⟩ | exact⟨λ_=>by omega,λ_=>rfl⟩,E.ab [1,47],I.sub⟩
  refine RN 4 E I λa E=>?_;exact⟨_,_,by unfold iV;first | (rw[cu];omega) | exact⟨λh=>(by cases h),λh=>absurd h (by omega)⟩ | exact⟨λ_=>by omega,λ_=>rfl⟩,E.ab [1,47],I.sub⟩
 clear E;(try clear I);rintro a w ⟨z,b1,hz,E,I⟩;refine IF 0 E I (λak a E=>?_) λak a E=>?_
 ·
  have hn:=hz.1 ak;refine RT 2 E I ?_;exact⟨_,rfl,⟨λh=>(by cases h),λh=>absurd ⟨Co h,by have:=zA h;omega⟩ hn⟩,I.sub⟩
 have hh:iV p∧1≤p.kind∧p.kind≤2:=Classical.byContradiction λh=>by have:=hz.2 h;rw[ak]at this;cases this
 refine IF 5 E I (λao a E=>?_) λao a E=>?_
 ·
  have ch:p.kind=2:=ao;have kG:=GZ hh.1 ch;simp only[qj,xr,not_mem_nil,false_implies,implies_true,and_true]at kG;refine BY 5 E I (λbW a E=>?_) λbW a E=>?_
  ·
   refine BY 6 E I (λvx a E=>?_) λvx a E=>?_
   ·
    refine BY 5 E I (λlp a E=>?_) λlp a E=>?_
    ·
     refine BY 5 E I (λqk a E=>?_) λqk a E=>?_
     ·
      refine RT 5 E I ?_
      first | exact⟨_,rfl,by rw[kG];first | (rw[cu];omega) | exact⟨λh=>(by cases h),λh=>absurd h (by omega)⟩ | exact⟨λ_=>by omega,λ_=>rfl⟩,I.sub⟩ | exact⟨_,rfl,by rw[gz];first | (rw[cu];omega) | exact⟨λh=>(by cases h),λh=>absurd h (by omega)⟩ | exact⟨λ_=>by omega,λ_=>rfl⟩,I.sub⟩
     refine RT 5 E I ?_
     first | exact⟨_,rfl,by rw[kG];first | (rw[cu];omega) | exact⟨λh=>(by cases h),λh=>absurd h (by omega)⟩ | exact⟨λ_=>by omega,λ_=>rfl⟩,I.sub⟩ | exact⟨_,rfl,by rw[gz];first | (rw[cu];omega) | exact⟨λh=>(by cases h),λh=>absurd h (by omega)⟩ | exact⟨λ_=>by omega,λ_=>rfl⟩,I.sub⟩
    refine RT 10 E I ?_
    first | exact⟨_,rfl,by rw[kG];first | (rw[cu];omega) | exact⟨λh=>(by cases h),λh=>absurd h (by omega)⟩ | exact⟨λ_=>by omega,λ_=>rfl⟩,I.sub⟩ | exact⟨_,rfl,by rw[gz];first | (rw[cu];omega) | exact⟨λh=>(by cases h),λh=>absurd h (by omega)⟩ | exact⟨λ_=>by omega,λ_=>rfl⟩,I.sub⟩
   refine RT 15 E I ?_
   first | exact⟨_,rfl,by rw[kG];first | (rw[cu];omega) | exact⟨λh=>(by cases h),λh=>absurd h (by omega)⟩ | exact⟨λ_=>by omega,λ_=>rfl⟩,I.sub⟩ | exact⟨_,rfl,by rw[gz];first | (rw[cu];omega) | exact⟨λh=>(by cases h),λh=>absurd h (by omega)⟩ | exact⟨λ_=>by omega,λ_=>rfl⟩,I.sub⟩
  refine RT 21 E I ?_
  first | exact⟨_,rfl,by rw[kG];first | (rw[cu];omega) | exact⟨λh=>(by cases h),λh=>absurd h (by omega)⟩ | exact⟨λ_=>by omega,λ_=>rfl⟩,I.sub⟩ | exact⟨_,rfl,by rw[gz];first | (rw[cu];omega) | exact⟨λh=>(by cases h),λh=>absurd h (by omega)⟩ | exact⟨λ_=>by omega,λ_=>rfl⟩,I.sub⟩
 have hL:p.kind=1:=by omega
 have gz:=GY hh.1 hL;rw[Z2]at gz;refine bg 3 E I (G1 I) λf1 a w E ⟨jA,I⟩=>?_;refine BY 1 E I (λbW a E=>?_) λbW a E=>?_
 ·
  have k1:=jA.1 bW;unfold eM at k1;refine bg 2 E I (G1 I) λf2 a w E ⟨jT,I⟩=>?_;refine BY 2 E I (λfm a E=>?_) λfm a E=>?_
  ·
   have k2:=jT.1 fm;unfold eM at k2;refine bg 2 E I (G1 I) λf3 a w E ⟨MJ,I⟩=>?_;refine BY 2 E I (λnJ a E=>?_) λnJ a E=>?_
   ·
    have k3:=MJ.1 nJ;unfold eM at k3;refine RT 6 E I ?_
    first | exact⟨_,rfl,by rw[kG];first | (rw[cu];omega) | exact⟨λh=>(by cases h),λh=>absurd h (by omega)⟩ | exact⟨λ_=>by omega,λ_=>rfl⟩,I.sub⟩ | exact⟨_,rfl,by rw[gz];first | (rw[cu];omega) | exact⟨λh=>(by cases h),λh=>absurd h (by omega)⟩ | exact⟨λ_=>by omega,λ_=>rfl⟩,I.sub⟩
   have k3:¬ eM p.frame:=λh=>by rw[MJ.2 h]at nJ;cases nJ
   unfold eM at k3;refine RT 6 E I ?_
   first | exact⟨_,rfl,by rw[kG];first | (rw[cu];omega) | exact⟨λh=>(by cases h),λh=>absurd h (by omega)⟩ | exact⟨λ_=>by omega,λ_=>rfl⟩,I.sub⟩ | exact⟨_,rfl,by rw[gz];first | (rw[cu];omega) | exact⟨λh=>(by cases h),λh=>absurd h (by omega)⟩ | exact⟨λ_=>by omega,λ_=>rfl⟩,I.sub⟩
  have k2:¬ eM p.dd:=λh=>by rw[jT.2 h]at fm;cases fm
  unfold eM at k2;refine RT 11 E I ?_
  first | exact⟨_,rfl,by rw[kG];first | (rw[cu];omega) | exact⟨λh=>(by cases h),λh=>absurd h (by omega)⟩ | exact⟨λ_=>by omega,λ_=>rfl⟩,I.sub⟩ | exact⟨_,rfl,by rw[gz];first | (rw[cu];omega) | exact⟨λh=>(by cases h),λh=>absurd h (by omega)⟩ | exact⟨λ_=>by omega,λ_=>rfl⟩,I.sub⟩
 have k1:¬ eM p.first:=λh=>by rw[jA.2 h]at bW;cases bW
 unfold eM at k1;refine RT 16 E I ?_
 first | exact⟨_,rfl,by rw[kG];first | (rw[cu];omega) | exact⟨λh=>(by cases h),λh=>absurd h (by omega)⟩ | exact⟨λ_=>by omega,λ_=>rfl⟩,I.sub⟩ | exact⟨_,rfl,by rw[gz];first | (rw[cu];omega) | exact⟨λh=>(by cases h),λh=>absurd h (by omega)⟩ | exact⟨λ_=>by omega,λ_=>rfl⟩,I.sub⟩
end
end
section
def sA (p:Pk):List Int:=[p.first,p.dd,p.frame]
def il (p:Pk)(i:Nat):List UInt8:=lZ p++(aO (zz p.id)++((sA p).take i).flatMap λn=>aO (zz n))
theorem Z9 {p:Pk}{i:Nat}(h:i<3):il p (i+1)=il p i++aO (zz ((sA p).getD i 0)):=by
 have hl:i<(sA p).length:=h;rw[il,il,jD hl,List.flatMap_append,dz,dz,br,aD hl];simp
theorem MK {p:Pk}(h:p.kind=1):il p 3++(fp p.sum++(aO (zz (p.al.length:Int))++dC p.al 0))=iE p:=by
 simp[il,iE,lz,nG,h,mD,sA]
theorem ML {p:Pk}(h:p.kind≠1):il p 0=iE p:=by simp[il,iE,lz,nG,h]
theorem G2 {p:Pk}(h:ik p){i:Nat}(hi:i≤3):(il p i).length≤43:=by
 obtain⟨h1,h2,h3,h4,h5⟩:=h;have hq:∀ n:Int,0≤n→n≤1099511627776→(aO (zz n)).length≤10:=λn a b=>sw (by omega) (by omega);have hf:(0≤p.first∧p.first≤1000)∧(0≤p.dd∧p.dd≤1000)∧(0≤p.frame∧p.frame≤1000):=by unfold eM at h5;omega
 have a0:=hq p.id (by omega) (by omega);have cV:=hq p.first (by omega) (by omega);have cc:=hq p.dd (by omega) (by omega);have a3:=hq p.frame (by omega) (by omega);rcases (by omega:i=0∨i=1∨i=2∨i=3) with rfl | rfl | rfl | rfl <;> simp[il,lZ,sA] <;> omega
theorem aaa {p:Pk}{i:Nat}(h:i<3):([Value.int .i64 p.first,.int .i64 p.dd,.int .i64 p.frame]:List Value)[i]?=some (.int .i64 ((sA p).getD i 0)):=by
 rcases (by omega:i=0∨i=1∨i=2) with rfl | rfl | rfl <;> rfl
theorem aab {p:Pk}(h:ik p)(i:Nat):0≤(sA p).getD i 0∧(sA p).getD i 0≤1000:=by
 have h5:=h.2.2.2.2;have hf:(0≤p.first∧p.first≤1000)∧(0≤p.dd∧p.dd≤1000)∧(0≤p.frame∧p.frame≤1000):=by unfold eM at h5;omega
 match i with
 | 0=>exact hf.1
 | 1=>exact hf.2.1
 | 2=>exact hf.2.2
 | _+3=>exact⟨Int.le_refl _,by show (0:Int)≤1000;omega⟩
theorem G3 {p:Pk}(h:ik p):[[Value.int .u8 p.kind],[Value.int .u8 p.aW],[Value.int .u8 p.to]].flatten=bc (lZ p):=by
 have hk:=zA h;obtain⟨h1,h2,h3,h4,h5⟩:=h;simp[bc,lZ,UInt8.toNat_ofNat'];omega
theorem MM {p:Pk}(h:ik p):(iE p).length≤503:=by
 have:=Mv h;simp[iE,lZ];omega
section
variable {W w:World}{L:List SP}{n c:Nat}{ad:Option Addr}{bs:List UInt8}{p:Pk}
theorem MN (I:U W w L)(mE:p.sum<4294967296)(hp:∀ w',U W w' L→aX w' ad p.al.length p.al) :
   Calls prog 330 #[.agg (dQ p ad c).toArray] w λe w'=>∃ av c',e=.returned (.slice av (aT p).length c')∧U W w' (Sl 5 1 av (aT p).length c' (bc (aT p))::L):=by
 refine EN func330 ntmps330 rfl rfl λa E=>?_;refine BX 1 E I λb1 a w E I=>?_;refine bg 4 E I (Z3 (p:=p) (ad:=ad) (c:=c) I) λr1 a w E ⟨fl,I⟩=>?_;refine IF 1 E I (λak a E=>?_) λak a E=>?_
 ·
  have hn:¬ ik p:=λh=>by rw[fl.2 h]at ak;cases ak
  refine RT 2 E I ?_;have he:aT p=[]:=by rw[aT,ag hn]
  rw[he];exact⟨none,0,rfl,I.tail.bQ _ _ _⟩
 have hm:ik p:=fl.1 ak;have hk:=zA hm;have hh:=Co hm;unfold iV at hh;have he:aT p=iE p++fp (jI (iE p)):=by rw[aT,aj hm,qf]
 have oW:=MM hm;refine SX 3 E I (by rw[wrap_u8];omega) λa E=>?_;refine SX 2 E I (by rw[wrap_u8];omega) λa E=>?_;refine SX 2 E I (by rw[wrap_u8];omega) λa E=>?_;refine RN 0 E I λa E=>?_;refine ct E rfl I bj Ty.t5 rfl rfl rfl rfl (by decide) (by decide) λtW a w E I ho=>?_;clear ho;replace I:=I.Gn (l:=lZ p) rfl rfl (G3 hm);refine aY 2 E I (tM (bs:=lZ p) (N:=p.id) I (by omega) (by omega) (by simp[lZ])) λfx c3 a w E I=>?_;refine RN 1 E I λa E=>?_;rw[show lZ p++aO (zz p.id)=il p 0 from by simp[il]]at E I;refine b6 (M:=λa w=>∃ (fx:Option Addr) (c3:Nat),Fr a 58 [(3,.slice fx (iE p).length c3)]∧U W w (Sl 5 1 fx (iE p).length c3 (bc (iE p))::L)) ?_ ?_
 ·
  refine IF 4 E I (λao a E=>?_) λao a E=>?_
  ·
   have hL:p.kind=1:=ao;have eI:p.al.length≤32:=by have:=hm.2.2.2.2;omega
   refine RN 8 E I λa E=>?_;refine SS E (EB E E3 Ty.t429 Ty.t3 rfl rfl) λa E=>?_;refine RN 1 E I λa E=>?_;refine aL (λμ a w=>∃ (i c3:Nat) (fx:Option Addr),(μ=3-i∧i≤3)∧Fr a 58 [(1,pt b1),(3,.slice fx (il p i).length c3),(31,.agg #[.int .i64 p.first,.int .i64 p.dd,.int .i64 p.frame]),(32,.int .i64 i)]∧U W w (Sl 5 1 fx (il p i).length c3 (bc (il p i))::aa b1 203 (dQ p ad c)::L)) (3) (⟨0,c3,fx,⟨rfl,by omega⟩,E.ab [1,3,31,32],I⟩) ?_;clear E I;rintro μ a w ⟨i,c3,fx,⟨rfl,hi⟩,E,I⟩;refine IF 3 E I (λay a E=>?_) λay a E=>?_
   ·
    refine RN 2 E I λa E=>?_;refine SS E (te E E3 fk rfl Ty.t3 (by omega) (aaa (p:=p) (by omega))) λa E=>?_;refine RN 1 E I λa E=>?_;have cI:=aab hm i;have r7:=G2 hm (show i≤3 by omega);refine aY 2 E I (tM I (by omega) (by omega) (by omega)) λmU en a w E I=>?_;refine RN 1 E I λa E=>?_;rw[← Z9 (by omega)]at E I;refine RN 2 E I λa E=>?_;exact⟨3-(i+1),by omega,i+1,_,_,⟨rfl,by omega⟩,E.ab [1,3,31,32],I.sub⟩
   obtain rfl:i=3:=by omega
   have r7:=G2 hm (a7 3);have hR:=sw (n:=(p.al.length:Int)) (by omega) (by omega);have jo:=MK hL;generalize il p 3=aac at E I r7 jo;refine aV 1 (λw0 w=>Rd w b1 0 (dQ p ad c)) [3,4,6,7] [0,1,5,3002,3006,3007,1003,1004,1008,9] E I λa w E I hH=>?_;have hC:Rd w b1 0 (dQ p ad c):=I.ai;refine RH 3 E I hH hC λa E=>?_;refine QH E (λw hc=>ae E (hc 8 _ rfl)) hC λa E=>?_;refine QH E (λw hc=>ae E (hc 5 _ rfl)) hC λa E=>?_;refine RH 1 E I hH hC λa E=>?_;refine bg 0 E I (Mo I) λeh a w E I=>?_;replace hC:=hH.at w I.ai;refine RH 0 E I hH hC λa E=>?_;refine hO E rfl I bj Ty.t5 rfl rfl (by decide) (λh0=>(I.cw eh (fp p.sum) rfl rfl).get h0) (by rw[dA];rfl) (ez _) (by rw[m5];omega) λxE GU a w E I=>?_;replace hC:=hH.at w I.ai;rw[← fS,← aM]at I;rw[← aM]at E;refine RH 0 E I hH hC λa E=>?_;refine aY 0 E I (tM I (by omega) (by omega) (by rw[aM,m5];omega)) λtI oX a w E I=>?_;refine RN 1 E I λa E=>?_;have gD:=zw p.al 0;generalize hu:aac++fp p.sum++aO (zz (p.al.length:Int))=xG at E I;have agK:xG.length≤60:=by rw[← hu];simp[m5];omega
   refine aY 3 E I (ZV (bs:=p.al) I (by omega) (λw' hw=>hp w' hw.sub)) λtt r4 a w E I=>?_;refine RN 0 E I λa E=>?_;refine hO E rfl I bj Ty.t5 rfl rfl (by decide) (λh0=>(I.cw tt _ rfl rfl).get h0) (by rw[dA,fB]) (ez _) (by omega) λsB sC a w E I=>?_;refine RN 1 E I λa E=>?_;rw[← fS,show xG.length+(dC p.al 0).length=(xG++dC p.al 0).length from by rw[aM]]at I;rw[show xG.length+(dC p.al 0).length=(xG++dC p.al 0).length from by rw[aM]]at E;rw[show xG++dC p.al 0=iE p from by rw[← hu,← jo];simp]at E I;exact⟨_,_,E.ab [3],I.sub⟩
  rw[ML (by omega)]at E I;refine RN 0 E I λa E=>?_;exact⟨_,_,E.ab [3],I.sub⟩
 clear E;(try clear I);rintro a w ⟨fx,c3,E,I⟩;refine CL 3 E I (Mm I (by omega) (λw' hw=>hw.cw fx _ rfl rfl)) λa w E I=>?_;refine bg 0 E I (Mo I) λCp a w E I=>?_;refine RN 0 E I λa E=>?_;refine hO E rfl I bj Ty.t5 rfl rfl (by decide) (λh0=>(I.cw Cp (fp (jI (iE p))) rfl rfl).get h0) (by rw[dA];rfl) (ez _) (by rw[m5];omega) λG4 G5 a w E I=>?_;refine RT 1 E I ?_;rw[he];rw[← fS,← aM]at I;rw[← aM];exact⟨_,_,rfl,I.sub⟩
theorem G6 (I:U W w L)(mE:p.sum<4294967296)(hp:∀ w',U W w' L→aX w' ad p.al.length p.al) :
   Calls prog 114 #[.agg (dQ p ad c).toArray] w λe w'=>∃ av c',e=.returned (.slice av (aT p).length c')∧U W w' (Sl 5 1 av (aT p).length c' (bc (aT p))::L):=by
 refine EN func114 ntmps114 rfl rfl λa E=>?_;refine BX 1 E I λb1 a w E I=>?_;refine bg 4 E I (Z5 (p:=p) (ad:=ad) (c:=c) I) λr1 a w E ⟨fl,I⟩=>?_;refine IF 1 E I (λak a E=>?_) λak a E=>?_
 ·
  have hn:¬ ik p:=λh=>by rw[fl.2 h]at ak;cases ak
  refine RT 2 E I ?_;have he:aT p=[]:=by rw[aT,ag hn]
  rw[he];exact⟨none,0,rfl,I.tail.bQ _ _ _⟩
 have hm:ik p:=fl.1 ak;have hk:=zA hm;have hh:=Co hm;unfold iV at hh;have he:aT p=iE p++fp (jI (iE p)):=by rw[aT,aj hm,qf]
 have oW:=MM hm;have b9:=sw (n:=p.id) (by omega) (by omega);refine RN 0 E I λa E=>?_;refine b6 (M:=λa w=>∃ (a3:Option Addr) (c3:Nat),Fr a 57 [(1,pt b1),(3,.slice a3 (il p 0).length c3)]∧U W w (Sl 5 1 a3 (il p 0).length c3 (bc (il p 0))::aa b1 203 (dQ p ad c)::L)) ?_ ?_
 ·
  refine aV 0 (λw0 w=>Rd w b1 0 (dQ p ad c)) [4,5,7,8,9,11,12] [0,3,6,10,3001,2,3004,3005,3007,3008,3011,2009,1012,1013,14] E I λa w E I hH=>?_;have hC:Rd w b1 0 (dQ p ad c):=I.ai;refine RH 4 E I hH hC λa E=>?_;refine QH E (λw hc=>ae E (hc 0 _ rfl)) hC λa E=>?_;refine QP E (λw=>pO E fk dF (by rw[wrap_u8];omega)) λa E=>?_;refine QH E (λw hc=>ae E (hc 1 _ rfl)) hC λa E=>?_;refine QH E (λw hc=>pO E fk dF (by rw[wrap_u8];omega)) hC λa E=>?_;refine QH E (λw hc=>ae E (hc 2 _ rfl)) hC λa E=>?_;refine QH E (λw hc=>pO E fk dF (by rw[wrap_u8];omega)) hC λa E=>?_;refine QH E (λw hc=>ae E (hc 3 _ rfl)) hC λa E=>?_;refine RH 0 E I hH hC λa E=>?_;refine DN [(9,[1012,1013,14]),(12,[1009,1013,14])] (by kernel_rfl) rfl ⟨⟨_,rfl,?_⟩,⟨_,rfl,?_⟩,trivial⟩
  ·
   refine RH 0 E I hH hC λa E=>?_;refine ct E rfl I bj Ty.t5 rfl rfl rfl rfl (by decide) (by decide) λfT a w E I ho=>?_;clear ho;replace hC:=hH.at w I.ai;replace I:=I.Gn (l:=lZ p) rfl rfl (G3 hm);refine RH 0 E I hH hC λa E=>?_;refine aY 0 E I (uc (N:=p.id) I (by omega) (by omega)) λc4 dU a w E I=>?_;replace hC:=hH.at w I.ai;refine RH 0 E I hH hC λa E=>?_;refine hO E rfl I bj Ty.t5 rfl rfl (by decide) (λh0=>(I.cw c4 (aO (zz p.id)) rfl rfl).get h0) (by rw[dA,fB]) (ez _) (by omega) λzf FO a w E I=>?_;refine RN 1 E I λa E=>?_;rw[show 3+(aO (zz p.id)).length=(lZ p++aO (zz p.id)).length from by rw[aM];rfl]at E I;rw[← fS]at I;rw[show lZ p++aO (zz p.id)=il p 0 from by simp[il]]at E I
   skip
   exact⟨_,_,E.ab [1,3],I.sub⟩
  refine RH 0 E I hH hC λa E=>?_;refine aY 0 E I (uc (N:=p.id) I (by omega) (by omega)) λc4 dU a w E I=>?_;replace hC:=hH.at w I.ai;refine RH 0 E I hH hC λa E=>?_;refine ct E rfl I bj Ty.t5 rfl rfl rfl rfl (by decide) (by decide) λfT a w E I ho=>?_;clear ho;replace hC:=hH.at w I.ai;replace I:=I.Gn (l:=lZ p) rfl rfl (G3 hm);refine RH 0 E I hH hC λa E=>?_;refine hO E rfl I bj Ty.t5 rfl rfl (by decide) (λh0=>(I.cw c4 (aO (zz p.id)) rfl rfl).get h0) (by rw[dA,fB]) (ez _) (by omega) λzf FO a w E I=>?_;refine RN 1 E I λa E=>?_;rw[show 3+(aO (zz p.id)).length=(lZ p++aO (zz p.id)).length from by rw[aM];rfl]at E I;rw[← fS]at I;rw[show lZ p++aO (zz p.id)=il p 0 from by simp[il]]at E I
  skip
  exact⟨_,_,E.ab [1,3],I.sub⟩
 clear E;(try clear I);rintro a w ⟨a3,c3,E,I⟩;refine b6 (M:=λa w=>∃ (fx:Option Addr) (c3:Nat),Fr a 57 [(3,.slice fx (iE p).length c3)]∧U W w (Sl 5 1 fx (iE p).length c3 (bc (iE p))::L)) ?_ ?_
 ·
  refine IF 4 E I (λao a E=>?_) λao a E=>?_
  ·
   have hL:p.kind=1:=ao;have eI:p.al.length≤32:=by have:=hm.2.2.2.2;omega
   have pg:(0≤p.first∧p.first≤1000)∧(0≤p.dd∧p.dd≤1000)∧(0≤p.frame∧p.frame≤1000):=by have:=hm.2.2.2.2;unfold eM at this;omega
   have q1:=sw (n:=p.first) (by omega) (by omega);have q2:=sw (n:=p.dd) (by omega) (by omega);have Ck:=sw (n:=p.frame) (by omega) (by omega);have Cl:=sw (n:=(p.al.length:Int)) (by omega) (by omega);have r7:=G2 hm (show 0≤3 by decide);have jo:il p 0++aO (zz p.first)++aO (zz p.dd)++aO (zz p.frame)++fp p.sum++aO (zz (p.al.length:Int))++dC p.al 0=iE p:=by rw[← MK hL];simp[il,sA]
   generalize hu0:il p 0=zB at E I r7 jo;refine aV 1 (λw0 w=>Rd w b1 0 (dQ p ad c)) [3,4,6] [0,1,5,3002,3006,1003,1004,1007,1008,9] E I λa w E I hH=>?_;have hC:Rd w b1 0 (dQ p ad c):=I.ai;refine RH 3 E I hH hC λa E=>?_;refine QH E (λw hc=>ae E (hc 4 _ rfl)) hC λa E=>?_;refine QH E (λw hc=>ae E (hc 6 _ rfl)) hC λa E=>?_;refine RH 0 E I hH hC λa E=>?_;refine aY 0 E I (uc I (by omega) (by omega)) λcV eW a w E I=>?_;replace hC:=hH.at w I.ai;refine RH 0 E I hH hC λa E=>?_;refine hO E rfl I bj Ty.t5 rfl rfl (by decide) (λh0=>(I.cw cV (aO (zz p.first)) rfl rfl).get h0) (by rw[dA,fB]) (ez _) (by omega) λagL c28 a w E I=>?_;replace hC:=hH.at w I.ai;rw[← fS,← aM]at I;rw[← aM]at E;refine RH 0 E I hH hC λa E=>?_;refine aY 0 E I (uc I (by omega) (by omega)) λcc c2 a w E I=>?_;have ll:(zB++aO (zz p.first)).length≤53:=by rw[aM];omega
   refine RN 0 E I λa E=>?_;refine hO E rfl I bj Ty.t5 rfl rfl (by decide) (λh0=>(I.cw cc (aO (zz p.dd)) rfl rfl).get h0) (by rw[dA,fB]) (ez _) (by omega) λaad c32 a w E I=>?_;rw[← fS,← aM]at I;rw[← aM]at E;refine RN 1 E I λa E=>?_;replace I:=I.sub (M:=Sl 5 1 aad (zB++aO (zz p.first)++aO (zz p.dd)).length c32 (bc (zB++aO (zz p.first)++aO (zz p.dd)))::aa b1 203 (dQ p ad c)::L);have mm:(zB++aO (zz p.first)++aO (zz p.dd)).length≤63:=by rw[aM];omega
   generalize zB++aO (zz p.first)++aO (zz p.dd)=zC at E I mm jo;refine aV 1 (λw0 w=>Rd w b1 0 (dQ p ad c)) [3,4,6] [0,1,5,3002,3006,1003,1004,1007,1008,9] E I λa w E I hH=>?_;have hC:Rd w b1 0 (dQ p ad c):=I.ai;refine RH 3 E I hH hC λa E=>?_;refine QH E (λw hc=>ae E (hc 7 _ rfl)) hC λa E=>?_;refine QH E (λw hc=>ae E (hc 8 _ rfl)) hC λa E=>?_;refine RH 0 E I hH hC λa E=>?_;refine aY 0 E I (uc I (by omega) (by omega)) λcV eW a w E I=>?_;replace hC:=hH.at w I.ai;refine RH 0 E I hH hC λa E=>?_;refine hO E rfl I bj Ty.t5 rfl rfl (by decide) (λh0=>(I.cw cV (aO (zz p.frame)) rfl rfl).get h0) (by rw[dA,fB]) (ez _) (by omega) λaae c37 a w E I=>?_;replace hC:=hH.at w I.ai;rw[← fS,← aM]at I;rw[← aM]at E;refine RH 0 E I hH hC λa E=>?_;refine bg 0 E I (Gx I) λcc a w E I=>?_;have ll:(zC++aO (zz p.frame)).length≤73:=by rw[aM];omega
   refine RN 0 E I λa E=>?_;refine hO E rfl I bj Ty.t5 rfl rfl (by decide) (λh0=>(I.cw cc (fp p.sum) rfl rfl).get h0) (by rw[dA];rfl) (ez _) (by rw[m5];omega) λzy GQ a w E I=>?_;rw[← fS,← aM]at I;rw[← aM]at E;refine RN 1 E I λa E=>?_;replace I:=I.sub (M:=Sl 5 1 zy (zC++aO (zz p.frame)++fp p.sum).length GQ (bc (zC++aO (zz p.frame)++fp p.sum))::aa b1 203 (dQ p ad c)::L);have mm:(zC++aO (zz p.frame)++fp p.sum).length≤77:=by rw[aM,m5];omega
   generalize zC++aO (zz p.frame)++fp p.sum=aaf at E I mm jo;refine aV 0 (λw0 w=>Rd w b1 0 (dQ p ad c)) [4,5,7] [0,1,6,3002,3,3007,1004,1005,1008,1009,10] E I λa w E I hH=>?_;have hC:Rd w b1 0 (dQ p ad c):=I.ai;have gD:=zw p.al 0;refine RH 3 E I hH hC λa E=>?_;refine QH E (λw hc=>ae E (hc 5 _ rfl)) hC λa E=>?_;refine RH 1 E I hH hC λa E=>?_;refine QH E (λw hc=>ae E (hc 5 _ rfl)) hC λa E=>?_;refine RH 0 E I hH hC λa E=>?_;refine aY 0 E I (uc I (by omega) (by omega)) λcV eW a w E I=>?_;replace hC:=hH.at w I.ai;refine RH 0 E I hH hC λa E=>?_;refine hO E rfl I bj Ty.t5 rfl rfl (by decide) (λh0=>(I.cw cV (aO (zz (p.al.length:Int))) rfl rfl).get h0) (by rw[dA,fB]) (ez _) (by omega) λql sD a w E I=>?_;replace hC:=hH.at w I.ai;rw[← fS,← aM]at I;rw[← aM]at E;refine RH 0 E I hH hC λa E=>?_;refine aY 0 E I (ZW (bs:=p.al) I (by omega) (λw' hw=>hp w' hw.sub)) λcc c2 a w E I=>?_;have ll:(aaf++aO (zz (p.al.length:Int))).length≤87:=by rw[aM];omega
   refine RN 0 E I λa E=>?_;refine hO E rfl I bj Ty.t5 rfl rfl (by decide) (λh0=>(I.cw cc (dC p.al 0) rfl rfl).get h0) (by rw[dA,fB]) (ez _) (by omega) λMO MP a w E I=>?_;rw[← fS,← aM]at I;rw[← aM]at E;refine RN 1 E I λa E=>?_;rw[jo]at E I;exact⟨_,_,E.ab [3],I.sub⟩
  rw[ML (by omega)]at E I;refine RN 0 E I λa E=>?_;exact⟨_,_,E.ab [3],I.sub⟩
 clear E;(try clear I);rintro a w ⟨fx,c3,E,I⟩;refine CL 3 E I (Mn I (by omega) (λw' hw=>hw.cw fx _ rfl rfl)) λa w E I=>?_;refine bg 0 E I (Gx I) λCp a w E I=>?_;refine RN 0 E I λa E=>?_;refine hO E rfl I bj Ty.t5 rfl rfl (by decide) (λh0=>(I.cw Cp (fp (jI (iE p))) rfl rfl).get h0) (by rw[dA];rfl) (ez _) (by rw[m5];omega) λagM c56 a w E I=>?_;refine RT 1 E I ?_;rw[he];rw[← fS,← aM]at I;rw[← aM];exact⟨_,_,rfl,I.sub⟩
end
end
end Go.Proofs.YteoldcfapaiobaaGreat
