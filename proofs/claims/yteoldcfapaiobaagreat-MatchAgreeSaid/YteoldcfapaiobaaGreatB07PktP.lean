/- Plain side of numbers read, of runs and of packets: what is written is read. -/
import Derived.Test.YteoldcfapaiobaaGreatB06Ref
namespace Go.Proofs.YteoldcfapaiobaaGreat
open Tryz
open List (drop_zero take_succ_cons getElem?_drop getElem?_append_right drop_drop drop_left nil_append drop_eq_nil_of_le cons_append append_nil getElem_mem mem_singleton forall_mem_cons not_mem_nil replicate_succ')
open Go.RowKit
set_option linter.unusedVariables false
set_option linter.unusedSimpArgs false
set_option maxRecDepth 10000
set_option synthInstance.maxSize 4000
set_option synthInstance.maxHeartbeats 400000
section
def mY:List UInt8→Nat→Nat→Option (Nat×Nat)
 | [],_,_=>none
 | c::cs,i,u =>
  if i=9∧1<c.toNat then none
  else if 127<c.toNat then mY cs (i+1) (u+c.toNat%128*128 ^ i)
  else if 0<i∧c.toNat=0 then none
  else some (u+c.toNat*128 ^ i,i+1)
def sF (bs:List UInt8):Option (Nat×Nat):=mY bs 0 0
def mZ (u:Nat):Int:=if u%2=1 then -((u/2:Nat):Int)-1 else ((u/2:Nat):Int)
theorem D7 (n:Int):mZ (zz n)=n:=by
 unfold mZ zz;split <;> split <;> omega
theorem D8 {n:Int}(h1:-9223372036854775808≤n)(h2:n≤9223372036854775807):zz n<18446744073709551616:=by
 unfold zz;split <;> omega
theorem xQ (i:Nat):128 ^ (i+1)=128 ^ i*128:=Nat.pow_succ ..
theorem Xb (r:List UInt8):∀ (v i u:Nat),v*128 ^ i<18446744073709551616→(i=0∨0<v)→i≤9→mY (aN v++r) i u=some (u+v*128 ^ i,i+(aN v).length):=by
 intro v
 induction v using Nat.strongRecOn with
 | _ v ih =>
  intro i u hv h0 hi;by_cases I:v≤127
  ·rw[p9 I];have hb:(UInt8.ofNat v).toNat=v:=by rw[UInt8.toNat_ofNat'];omega
   simp only[cons_append,nil_append,mY,hb,ji];have h9:¬ (i=9∧1<v):=by
    rintro⟨q4,h⟩;rw[q4]at hv;have:v*128 ^ 9 ≥ 2*128 ^ 9:=Nat.mul_le_mul_right _ h;have h9':(128:Nat) ^ 9=9223372036854775808:=by decide
    omega
   rw[ag h9,ag (by omega),ag (by omega)]
  ·rw[vC I];have hb:(UInt8.ofNat (v%128+128)).toNat=v%128+128:=by rw[UInt8.toNat_ofNat'];omega
   simp only[cons_append,mY,hb,fc];have hle:128 ^ (i+1)≤v*128 ^ i:=by rw[xQ,Nat.mul_comm];exact Nat.mul_le_mul_right _ (by omega)
   have q4:i+1≤9:=by
    rcases Nat.lt_or_ge i 9 with h | h
    ·omega
    ·have:128 ^ 10≤128 ^ (i+1):=Nat.pow_le_pow_right (by decide) (by omega);have fF:(128:Nat) ^ 10=1180591620717411303424:=by decide
     omega
   have hdv:v/128*128 ^ (i+1)+v%128*128 ^ i=v*128 ^ i:=by
    rw[xQ,show v/128*(128 ^ i*128)=128*(v/128)*128 ^ i from by rw[Nat.mul_comm (128 ^ i),← Nat.mul_assoc,Nat.mul_comm (v/128)],← Nat.add_mul,Nat.div_add_mod]
   rw[ag (by omega),al (by omega),ih (v/128) (by omega) (i+1) _ (by omega) (.inr (by omega)) q4];rw[show (v%128+128)%128=v%128 from by omega]
   congr 2
   ·omega
   ·omega
theorem Ac {n:Int}(h1:-9223372036854775808≤n)(h2:n≤9223372036854775807)(r:List UInt8):sF (aN (zz n)++r)=some (zz n,(aN (zz n)).length):=by
 have:=Xb r (zz n) 0 0 (by have:=D8 h1 h2;omega) (.inl rfl) (by decide);simpa [sF] using this
theorem JX:∀ (bs:List UInt8) (i u:Nat) {v k:Nat},i≤9→u<128 ^ i→mY bs i u=some (v,k)→v<18446744073709551616∧i+1≤k∧k≤i+bs.length∧k≤10
 | [],_,_,_,_,_,_,h=>by cases h
 | c::cs,i,u,v,k,hi,hu,h=>by
  rw[mY]at h;have hc:=lL c;have hp:128 ^ i≤128 ^ 9:=Nat.pow_le_pow_right (by decide) hi;have h9:(128:Nat) ^ 9=9223372036854775808:=by decide
  split at h
  ·cases h
  rename_i n9;split at h
  ·rename_i hb;have hm:c.toNat%128*128 ^ i≤127*128 ^ i:=Nat.mul_le_mul_right _ (by omega);have:=JX cs (i+1) _ (by omega) (by rw[xQ];omega) h;simp only[fc];omega
  ·rename_i hb;split at h
   ·cases h
   ·obtain⟨rfl,rfl⟩:u+c.toNat*128 ^ i=v∧i+1=k:=by simpa using h
    simp only[fc];refine⟨?_,by omega,by omega,by omega⟩;rcases Nat.lt_or_ge i 9 with h8 | h8
    ·have hp8:128 ^ i≤128 ^ 8:=Nat.pow_le_pow_right (by decide) (by omega);have h88:(128:Nat) ^ 8=72057594037927936:=by decide
     have hm:c.toNat*128 ^ i≤127*128 ^ i:=Nat.mul_le_mul_right _ (by omega);omega
    ·have:i=9:=by omega
     subst this;have hm:c.toNat*128 ^ 9≤1*128 ^ 9:=Nat.mul_le_mul_right _ (by omega);omega
theorem D9 {bs:List UInt8}{v k:Nat}(h:sF bs=some (v,k)):v<18446744073709551616∧1≤k∧k≤bs.length∧k≤10:=by
 have:=JX bs 0 0 (by decide) (by decide) h;omega
def lN (bs:List UInt8)(x:Int)(k:Nat)(er:Int):Prop :=
 (-9223372036854775808≤x∧x≤9223372036854775807)∧(er=0∨er=1∨er=2)∧(er=0→1≤k∧k≤bs.length)∧(er≠0→k=0∧x=0) ∧
 ∀ (n:Int) (r:List UInt8), -9223372036854775808≤n→n≤9223372036854775807→bs=aN (zz n)++r→x=n∧k=(aN (zz n)).length∧er=0
theorem lN.bad {bs:List UInt8}{er:Int}(h:sF bs=none)(he:er=1∨er=2):lN bs 0 0 er:=by
 refine⟨by omega,by omega,by omega,λ_=>⟨rfl,rfl⟩,λn r h1 h2 e=>?_⟩;rw[e,Ac h1 h2]at h;cases h
theorem lN.JY {bs:List UInt8}{u k:Nat}(h:sF bs=some (u,k)):lN bs (mZ u) k 0:=by
 have hb:=D9 h;refine⟨?_,by omega,by omega,by omega,λn r h1 h2 e=>?_⟩
 ·unfold mZ;split <;> omega
 ·rw[e,Ac h1 h2]at h;obtain⟨rfl,rfl⟩:zz n=u∧(aN (zz n)).length=k:=by simpa using h
  exact⟨D7 n,rfl,rfl⟩
def runN (x:UInt8):List UInt8→Nat
 | []=>0
 | y::ys=>if y=x then runN x ys+1 else 0
theorem xR (x:UInt8):∀ l:List UInt8,runN x l≤l.length
 | []=>bk _
 | y::ys=>by
  have:=xR x ys;rw[runN];split <;> simp only[fc] <;> omega
def dC (l:List UInt8)(last:UInt8):List UInt8:=match l with
 | []=>[]
 | x::xs=>aN (zz ((runN x xs+1:Nat):Int))++(x ^^^ last)::dC (xs.drop (runN x xs)) x
termination_by l.length
decreasing_by simp only[c8,fc];omega
theorem vL (last:UInt8):dC [] last=[]:=by rw[dC]
theorem sG (x:UInt8)(xs:List UInt8)(last:UInt8):dC (x::xs) last=aN (zz ((runN x xs+1:Nat):Int))++(x ^^^ last)::dC (xs.drop (runN x xs)) x:=by rw[dC]
theorem Ad (x:UInt8):∀ l:List UInt8,l.take (runN x l)=List.replicate (runN x l) x
 | []=>rfl
 | y::ys=>by
  rw[runN];split
  ·rename_i h;subst h;rw[take_succ_cons,Ad y ys,List.replicate_succ]
  ·rfl
theorem JZ (x:UInt8):∀ (l:List UInt8) (y:UInt8) (r:List UInt8),l.drop (runN x l)=y::r→y≠x
 | [],_,_,h=>by simp[runN]at h
 | z::zs,y,r,h=>by
  rw[runN]at h;split at h
  ·exact JZ x zs y r h
  ·rename_i hn;rw[drop_zero]at h;cases h;exact hn
theorem Xc {x:UInt8}{l:List UInt8}{n:Nat}(h1:∀ i,i<n→l[i]?=some x)(h2:l[n]?≠some x):runN x l=n:=by
 induction l generalizing n with
 | nil =>
  cases n with
  | zero=>rfl
  | succ n=>have:=h1 0 (by omega);simp at this
 | cons y ys ih =>
  cases n with
  | zero =>
   rw[runN,ag];intro e;subst e;simp at h2
  | succ n =>
   have h0:=h1 0 (by omega);simp at h0;rw[runN,al h0,ih (n:=n) (λi hi=>by have:=h1 (i+1) (by omega);simpa using this) (by simpa using h2)]
theorem xS (l:List UInt8):∀ last,(dC l last).length≤11*l.length:=by
 induction hn:l.length using Nat.strongRecOn generalizing l with
 | _ n ih =>
  intro last;cases l with
  | nil=>rw[vL];simp
  | cons x xs =>
   rw[sG,aM,fc];have h1:=xR x xs;subst hn;simp only[fc];by_cases hb:xs.length<4611686018427387904
   ·have h2 := qa 9 (zz ((runN x xs + 1 : Nat) : Int)) (by
     have:zz ((runN x xs+1:Nat):Int)=2*(runN x xs+1):=by unfold zz;rw[ag (by omega)];omega
     rw[this];have fF:(128:Nat) ^ (9+1)=1180591620717411303424:=by decide
     omega)
    have h3:=ih (xs.drop (runN x xs)).length (by simp only[c8,fc];omega) (xs.drop (runN x xs)) rfl x;simp only[c8]at h3;omega
   ·have h2 : (aN (zz ((runN x xs + 1 : Nat) : Int))).length ≤ runN x xs + 10 := by
     have:∀ u,(aN (2*(u+1))).length≤u+10:=by
      intro u
      induction u using Nat.strongRecOn with
      | _ u ih =>
       by_cases h:2*(u+1)≤127
       ·rw[p9 h];simp
       ·rw[vC h,fc];by_cases h2:2*(u+1)/128≤127
        ·rw[p9 h2];simp
        ·have hq : ∀ v, (aN v).length ≤ v + 1 := by
          intro v
          induction v using Nat.strongRecOn with
          | _ v Xd =>
           by_cases h3:v≤127
           ·rw[p9 h3];simp
           ·rw[vC h3,fc];have:=Xd (v/128) (by omega);omega
         have:=hq (2*(u+1)/128);omega
     have hz:zz ((runN x xs+1:Nat):Int)=2*(runN x xs+1):=by unfold zz;rw[ag (by omega)];omega
     rw[hz];exact this _
    have h3:=ih (xs.drop (runN x xs)).length (by simp only[c8,fc];omega) (xs.drop (runN x xs)) rfl x;simp only[c8]at h3;omega
theorem Ae (a b:UInt8):b ^^^ (a ^^^ b)=a:=by rw[UInt8.xor_comm,UInt8.xor_assoc,UInt8.xor_self,UInt8.xor_zero]
theorem Xe {a b:UInt8}(h:(a ^^^ b).toNat=0):a=b:=by
 have h0:a ^^^ b=0:=UInt8.toNat_inj.1 (by simpa using h);have:=Ae a b;rw[h0,UInt8.xor_zero]at this;exact this.symm
def mv (p out:List UInt8)(last:UInt8)(rest:List UInt8):Prop:=∃ q,p=out++q∧rest=dC q last∧(out=[]∨∀ y r,q=y::r→y≠last)
theorem mv.start (p:List UInt8):mv p [] 0 (dC p 0):=⟨p,rfl,rfl,.inl rfl⟩
theorem mv.done {p out:List UInt8}{last:UInt8}(h:mv p out last []):p=out:=by
 obtain⟨q,h1,h2,_⟩:=h;cases q with
 | nil=>simpa using h1
 | cons x xs =>
  rw[sG]at h2;have:=congrArg List.length h2;simp at this
theorem mv.next {p out:List UInt8}{last:UInt8}{rest:List UInt8}(h:mv p out last rest)(h0:rest≠[]):∃ (m:Nat) (x:UInt8) (r:List UInt8),rest=aN (zz ((m+1:Nat):Int))++(x ^^^ last)::r ∧
   out.length+(m+1)≤p.length∧(out≠[]→(x ^^^ last).toNat≠0)∧mv p (out++List.replicate (m+1) x) x r:=by
 obtain⟨q,h1,h2,h3⟩:=h;cases q with
 | nil=>rw[vL]at h2;exact absurd h2 h0
 | cons x xs =>
  rw[sG]at h2;have hle:=xR x xs;refine⟨runN x xs,x,_,h2,by rw[h1];simp;omega,λho hz=>?_,xs.drop (runN x xs),?_,rfl,.inr λy r hy=>JZ x xs y r hy⟩
  ·rcases h3 with h3 | h3
   ·exact ho h3
   ·exact h3 x xs rfl (Xe hz)
  ·rw[h1,dA]
   congr 1
   rw[List.replicate_succ,← Ad,cons_append,jE]
structure Pk where
 kind:Int
 aZ:Int
 to:Int
 id:Int
 first:Int
 dd:Int
 frame:Int
 sum:Nat
 ak:List UInt8
def m0:Pk:=⟨0,0,0,0,0,0,0,0,[]⟩
def eK (n:Int):Prop:=0≤n∧n≤1000
instance (n:Int):Decidable (eK n):=inferInstanceAs (Decidable (_∧_))
def hs (p:Pk):Prop:=(0≤p.aZ∧p.aZ≤7)∧(0≤p.to∧p.to≤7)∧p.aZ≠p.to∧(0≤p.id∧p.id≤1099511627776) ∧
 ((p.kind=1∧eK p.first∧eK p.dd∧eK p.frame∧p.ak.length≤32)∨(p.kind=2∧p.first=0∧p.dd=0∧p.frame=0∧p.ak.length=0∧p.sum=0))
instance (p:Pk):Decidable (hs p):=inferInstanceAs (Decidable (_∧_))
def lO (p:Pk):List UInt8:=ff p.sum++(aN (zz (p.ak.length:Int))++dC p.ak 0)
def m1 (p:Pk):List UInt8:=if p.kind=1 then aN (zz p.first)++(aN (zz p.dd)++(aN (zz p.frame)++lO p)) else []
def kW (p:Pk):List UInt8:=aN (zz p.id)++m1 p
def ln (p:Pk):List UInt8:=[UInt8.ofNat p.kind.toNat,UInt8.ofNat p.aZ.toNat,UInt8.ofNat p.to.toNat]
def ic (p:Pk):List UInt8:=ln p++kW p
def pf (p:Pk):List UInt8:=ic p++ff (jh (ic p))
def aS (p:Pk):List UInt8:=if hs p then pf p else []
theorem mw (x:Nat):(ff x).length=4:=rfl
theorem xT (p:Pk):(pf p).length=(kW p).length+7:=by
 simp[pf,ic,ln,mw]
theorem Ea {p:Pk}{bs:List UInt8}(h:pf p=bs):(bs.drop 3).take (bs.length-7)=kW p:=by
 subst h;rw[xT,Nat.add_sub_cancel,pf];generalize jh (ic p)=c;rw[ic,dA,List.drop_left' (by rfl),List.take_left' rfl]
theorem Eb {p:Pk}{bs:List UInt8}(h:pf p=bs):bs[0]?=some (UInt8.ofNat p.kind.toNat)∧bs[1]?=some (UInt8.ofNat p.aZ.toNat)∧bs[2]?=some (UInt8.ofNat p.to.toNat):=by
 subst h;exact⟨rfl,rfl,rfl⟩
def Ec (a b c d:Nat):Nat:=((a*256+b)*256+c)*256+d
theorem Ed {x:Nat}(h:x<4294967296):Ec (UInt8.ofNat (x/16777216)).toNat (UInt8.ofNat (x/65536)).toNat (UInt8.ofNat (x/256)).toNat (UInt8.ofNat x).toNat=x:=by
 simp only[UInt8.toNat_ofNat',Ec];omega
theorem Xf {x y:Nat}(hx:x<4294967296)(hy:y<4294967296)(h:ff x=ff y):x=y:=by
 simp only[ff,List.cons.injEq,and_true]at h;obtain⟨h1,h2,h3,h4⟩:=h;have:=Ed hx;rw[h1,h2,h3,h4,Ed hy]at this;exact this.symm
theorem vM {n m:Int}{r s:List UInt8}(h1:-9223372036854775808≤n)(h2:n≤9223372036854775807)(h3:-9223372036854775808≤m)(h4:m≤9223372036854775807)(h:aN (zz n)++r=aN (zz m)++s):n=m∧r=s:=by
 have e:=Ac h1 h2 r;rw[h,Ac h3 h4]at e;obtain⟨e1,e2⟩:zz m=zz n∧_:=by simpa using e
 have:n=m:=by rw[← D7 n,← D7 m,e1]
 subst this;exact⟨rfl,List.append_cancel_left h⟩
theorem J0:∀ (n:Nat) {p q:List UInt8} {l:UInt8},p.length≤n→p.length≤1000000→q.length≤1000000→dC p l=dC q l→p=q
 | n,[],[],_,_,_,_,_=>rfl
 | n,[],y::ys,l,_,_,_,h=>by
  rw[vL,sG]at h;have:=congrArg List.length h;simp at this
 | n,x::xs,[],l,_,_,_,h=>by
  rw[vL,sG]at h;have:=congrArg List.length h;simp at this
 | 0,x::xs,y::ys,l,hn,_,_,_=>by simp at hn
 | n+1,x::xs,y::ys,l,hn,hp,hq,h=>by
  have h1:=xR x xs;have h2:=xR y ys;simp only[fc]at hn hp hq;rw[sG,sG]at h;obtain⟨e1,e2⟩:=vM (by omega) (by omega) (by omega) (by omega) h;rw[List.cons.injEq]at e2;obtain⟨e2,e3⟩:=e2;have Xg:x=y:=by
   have:=Ae x l;rw[e2,Ae]at this;exact this.symm
  subst Xg;have iV:runN x xs=runN x ys:=by omega
  have sA:=J0 n (by simp;omega) (by simp;omega) (by simp;omega) e3
  congr 1
  rw[← jE (runN x xs) xs,Ad,sA,iV,← Ad,jE]
theorem Ee {a b:Int}(E:0≤a∧a<256)(hb:0≤b∧b<256)(h:UInt8.ofNat a.toNat=UInt8.ofNat b.toNat):a=b:=by
 have:=congrArg UInt8.toNat h;simp only[UInt8.toNat_ofNat']at this;omega
theorem Xh {p q:Pk}(hp:hs p)(hq:hs q)(Ef:p.sum<4294967296)(Xi:q.sum<4294967296)(h:pf p=pf q):p=q:=by
 have hm:kW p=kW q:=by rw[← Ea (p:=p) rfl,← Ea (p:=q) rfl,h]
 have h0:=Eb (p:=p) rfl;have h1:=Eb (p:=q) rfl;rw[h]at h0;obtain⟨dj,dW,a3⟩:=h0;obtain⟨b1,b2,b3⟩:=h1;rw[b1]at dj;rw[b2]at dW;rw[b3]at a3;obtain⟨f1,t1,vN,i1,k1⟩:=hp;obtain⟨f2,t2,sw,i2,k2⟩:=hq;have Xj:=Ee (by omega) (by omega) (Option.some.inj dj);have Xk:=Ee (by omega) (by omega) (Option.some.inj dW);have sb:=Ee (by omega) (by omega) (Option.some.inj a3);rw[kW,kW]at hm;obtain⟨Xl,hm⟩:=vM (by omega) (by omega) (by omega) (by omega) hm;obtain⟨pk,aeJ,pt,pi,J1,p2,aeK,aeL,aeM⟩:=p;obtain⟨aeN,aeO,aeP,aeQ,q1,q2,xU,xV,Af⟩:=q;simp only at *;subst Xj Xk sb Xl;rcases k1 with ⟨dN,c2,c7,fP,dg⟩ | ⟨dN,c2,c7,fP,dg,kQ⟩
 ·rcases k2 with ⟨d1,d2,d3,d4,d5⟩ | ⟨d1,_⟩
  ·unfold eK at c2 c7 fP d2 d3 d4;rw[m1,m1,al dN,al d1]at hm;simp only at hm;obtain⟨e1,hm⟩:=vM (by omega) (by omega) (by omega) (by omega) hm;obtain⟨e2,hm⟩:=vM (by omega) (by omega) (by omega) (by omega) hm;obtain⟨e3,hm⟩:=vM (by omega) (by omega) (by omega) (by omega) hm;rw[lO,lO]at hm;simp only at hm;obtain⟨iV,hm⟩:=List.append_inj hm rfl;obtain⟨sA,hm⟩:=vM (by omega) (by omega) (by omega) (by omega) hm;have Xm:=J0 _ (bk _) (by omega) (by omega) hm;have Xn:=Xf Ef Xi iV;subst e1 e2 e3 Xm Xn;rfl
  ·omega
 ·rcases k2 with ⟨d1,_⟩ | ⟨d1,d2,d3,d4,d5,d6⟩
  ·omega
  ·have:=g5 dg;have:=g5 d5;subst c2 c7 fP kQ d2 d3 d4 d6;simp_all
def gV (bs:List UInt8)(p:Pk):Prop:=hs p∧p.sum<4294967296∧pf p=bs
open Classical in
noncomputable def eB (bs:List UInt8):Option Pk:=if h:∃ p,gV bs p then some (Classical.choose h) else none
theorem Ag {bs:List UInt8}{p:Pk}(h:gV bs p):eB bs=some p:=by
 have hx:∃ p,gV bs p:=⟨p,h⟩;rw[eB,dif_pos hx];have h2:=Classical.choose_spec hx;rw[Xh h2.1 h.1 h2.2.1 h.2.1 (h2.2.2.trans h.2.2.symm)]
theorem Eg {bs:List UInt8}(h:∀ p,¬ gV bs p):eB bs=none:=by
 rw[eB,dif_neg];exact λ⟨p,hp⟩=>h p hp
theorem Eh {bs:List UInt8}{p:Pk}(h:eB bs=some p):gV bs p:=by
 rw[eB]at h;split at h
 ·rename_i hx;cases h;exact Classical.choose_spec hx
 ·cases h
theorem J2 {p:Pk}(h:hs p)(I:p.sum<4294967296):eB (aS p)=some p:=by
 rw[aS,al h];exact Ag ⟨h,I,rfl⟩
theorem Ei {bs:List UInt8}{p:Pk}(h0:bs≠[])(I:p.sum<4294967296):gV bs p↔aS p=bs:=by
 unfold gV aS;split
 ·rename_i h;simp[h,I]
 ·rename_i h;simp[h,h0,Ne.symm h0]
theorem J3 {p:Pk}(h:hs p):(kW p).length≤500:=by
 obtain⟨_,_,_,i1,k1⟩:=h;have pl:∀ n:Int,0≤n→n≤1099511627776→(aN (zz n)).length≤10:=λn h0 h1=>qa 9 _ (by
  have:zz n<18446744073709551616:=D8 (by omega) (by omega);have fF:(128:Nat) ^ (9+1)=1180591620717411303424:=by decide
  omega)
 rw[kW,aM];have:=pl p.id i1.1 i1.2;rcases k1 with ⟨dN,c2,c7,fP,dg⟩ | ⟨dN,_⟩
 ·unfold eK at c2 c7 fP;rw[m1,al dN,lO];simp only[aM,mw];have h1:=pl p.first (by omega) (by omega);have h2:=pl p.dd (by omega) (by omega);have h3:=pl p.frame (by omega) (by omega);have h4:=pl p.ak.length (by omega) (by omega);have h5:=xS p.ak 0;omega
 ·rw[m1,ag (by omega)];simp;omega
end
section
theorem Xo {x:Nat}(h:x<256):IntKind.u8.wrap ((BitVec.ofInt IntKind.u8.bits (x:Int) &&& BitVec.ofInt IntKind.u8.bits 127).toNat)=((x%128:Nat):Int):=by
 have:∀ y:Fin 256,IntKind.u8.wrap ((BitVec.ofInt IntKind.u8.bits ((y.val:Nat):Int) &&& BitVec.ofInt IntKind.u8.bits 127).toNat)=((y.val%128:Nat):Int):=by decide +kernel
 exact this ⟨x,h⟩
theorem J4 (i:Nat):(2:Nat) ^ (7*i)=128 ^ i:=by rw[Nat.pow_mul]
theorem Xp {u d i:Nat}(hu:u<128 ^ i):u ||| d*128 ^ i=u+d*128 ^ i:=by
 rw[← J4]at hu ⊢;rw[Nat.mul_comm,Nat.add_comm,Nat.two_pow_add_eq_or_of_lt hu,Nat.or_comm]
theorem Ej {i:Nat}(hi:i≤9):128 ^ i≤9223372036854775808∧(i≤8→128 ^ i≤72057594037927936):=by
 have h9:(128:Nat) ^ 9=9223372036854775808:=by decide
 have h8:(128:Nat) ^ 8=72057594037927936:=by decide
 refine⟨h9 ▸ Nat.pow_le_pow_right (by decide) hi,λh=>h8 ▸ Nat.pow_le_pow_right (by decide) h⟩
theorem J5 {i d:Nat}(hi:i≤9)(h:i=9→d≤1)(hd:d≤127):d*128 ^ i≤9223372036854775808∧(i≤8→d*128 ^ i+128 ^ i≤128 ^ (i+1)):=by
 obtain⟨h1,h2⟩:=Ej hi;have hm:d*128 ^ i≤127*128 ^ i:=Nat.mul_le_mul_right _ hd;refine⟨?_,λh8=>by rw[xQ];omega⟩;rcases Nat.lt_or_ge i 9 with h9 | h9
 ·have:=h2 (by omega);omega
 ·have:i=9:=by omega
  have sm:=h this;have:d*128 ^ i≤1*128 ^ i:=Nat.mul_le_mul_right _ sm;omega
theorem J6 {bs:List UInt8}{i:Nat}(h:i<bs.length)(u:Nat):mY (bs.drop i) i u=if i=9∧1<bs[i].toNat then none
   else if 127<bs[i].toNat then mY (bs.drop (i+1)) (i+1) (u+bs[i].toNat%128*128 ^ i)
   else if 0<i∧bs[i].toNat=0 then none
   else some (u+bs[i].toNat*128 ^ i,i+1):=by
 rw[kb h,mY]
theorem Xq {x:Nat}(h:x<18446744073709551616):IntKind.u64.wrap (((BitVec.ofInt IntKind.u64.bits (x:Int) &&& BitVec.ofInt IntKind.u64.bits 1).toNat:Nat):Int)=((x%2:Nat):Int):=by
 have h1:=WY (y:=1) h (by decide);rw[Nat.and_one_is_mod]at h1;exact h1
theorem Xr {x:Int}(h1:-9223372036854775808≤x)(h2:x≤9223372036854775807):IntKind.i64.wrap (((BitVec.ofInt IntKind.i64.bits (if IntKind.i64.signed then -1 else IntKind.i64.max) ^^^ BitVec.ofInt IntKind.i64.bits x).toNat:Nat):Int) = -x-1:=by
 have e:BitVec.ofInt IntKind.i64.bits (if IntKind.i64.signed then -1 else IntKind.i64.max)=BitVec.allOnes 64:=by
  show BitVec.ofInt 64 (-1)=_;decide
 rw[e];show IntKind.i64.wrap (((BitVec.allOnes 64 ^^^ BitVec.ofInt 64 x).toNat:Nat):Int)=_;rw[BitVec.allOnes_xor,BitVec.toNat_not,BitVec.toNat_ofInt];simp only[IntKind.wrap,IntKind.signed,IntKind.bits];simp;omega
section
variable {W w:World}{L:List SP}{c:Nat}{ad:Option Addr}{bs:List UInt8}
theorem J7 (I:U W w L)(hb:bs.length≤1099511627776)(hp:∀ V,U W V L→aQ V ad bs.length bs) :
   Calls prog 339 #[.slice ad bs.length c] w λe V=>∃ (x:Int) (k:Nat) (er:Int),e=.returned (.tuple #[.int .i64 x,.int .i64 k,.int .i64 er])∧lN bs x k er∧U W V L:=by
 refine EN func339 ntmps339 rfl rfl λa E=>?_;refine RN 11 E I λa E=>?_;refine aP (λμ a w=>∃ (i u:Nat),(μ=bs.length-i∧i≤bs.length∧i≤9∧u<128 ^ i∧mY (bs.drop i) i u=sF bs)∧Fr a 50 [(5,.int .u64 u),(9,.slice ad bs.length c),(10,.int .i64 bs.length),(11,.int .i64 i)]∧U W w L) (bs.length) (⟨0,0,⟨rfl,by omega,by omega,by decide,rfl⟩,E.ab [5,9,10,11],I⟩) ?_;clear E I;rintro μ a w ⟨i,u,⟨rfl,hi,q4,hu,hg⟩,E,I⟩;refine IF 3 E I (λaj a E=>?_) λaj a E=>?_
 ·
  obtain⟨bb,oo,rfl,hr⟩:=(hp _ I).get (by omega);have aG:i<bs.length:=by omega
  have qh:=lL bs[i];rw[J6 aG]at hg;obtain⟨gw,hR⟩:=Ej q4;refine RN 4 E I λa E=>?_;refine SS E (ae E (hr i _ (dS aG))) λa E=>?_;refine RN 3 E I λa E=>?_;refine cc (M:=λa w=>∃ z:Bool,(z=true↔(i=9∧1<bs[i].toNat))∧Fr a 50 [(5,.int .u64 u),(6,.int .i64 i),(7,.int .u8 (bs[i].toNat:Int)),(9,.slice (some ⟨bb,oo,none⟩) bs.length c),(10,.int .i64 bs.length),(11,.int .i64 i),(21,.bool z)]∧U W w L) ?_ ?_
  ·
   refine BY 3 E I (λbA a E=>?_) λbA a E=>?_
   ·
    refine RN 3 E I λa E=>?_;exact⟨_,by rw[cr];omega,E.ab [5,6,7,9,10,11,21],I⟩
   refine RN 3 E I λa E=>?_;exact⟨_,by simp;omega,E.ab [5,6,7,9,10,11,21],I⟩
  clear E;(try clear I);rintro a w ⟨z,hz,E,I⟩;refine IF 0 E I (λao a E=>?_) λao a E=>?_
  ·
   rw[al (hz.1 ao)]at hg;refine RT 4 E I ?_;exact⟨_,_,_,rfl,lN.bad hg.symm (by omega),I⟩
  have kr:¬ (i=9∧1<bs[i].toNat):=λh=>absurd (hz.2 h) (by simp[ao]);rw[ag kr]at hg;obtain⟨sm,ki⟩:=J5 (d:=bs[i].toNat%128) q4 (by omega) (by omega);refine RN 4 E I λa E=>?_;rw[Xo qh]at E;refine SX 0 E I (by rw[wrap_u64];omega) λa E=>?_;refine RN 2 E I λa E=>?_;rw[show (7:Int)*(i:Int)=((7*i:Nat):Int) from by omega]at E;refine SS E (HR E (jn:=7*i) (by show 7*i≤64;omega)) λa E=>?_;rw[show ((bs[i].toNat%128:Nat):Int)*2 ^ (7*i)=((bs[i].toNat%128*128 ^ i:Nat):Int) from by rw[Int.natCast_mul,← J4];simp,show IntKind.u64.wrap ((bs[i].toNat%128*128 ^ i:Nat):Int)=((bs[i].toNat%128*128 ^ i:Nat):Int) from by rw[wrap_u64];omega]at E;refine RN 1 E I λa E=>?_;rw[WX (by omega) (by omega),Xp hu]at E;refine IF 5 E I (λaz a E=>?_) λaz a E=>?_
  ·
   rw[al (by omega)]at hg;refine RN 2 E I λa E=>?_;exact⟨bs.length-(i+1),by omega,i+1,_,⟨rfl,by omega,by omega,by have:=ki (by omega);omega,hg⟩,E.ab [5,9,10,11],I⟩
  rw[ag (by omega)]at hg;rw[Nat.mod_eq_of_lt (show bs[i].toNat<128 from by omega)]at E sm ki;refine RN 1 E I λa E=>?_;refine cc (M:=λa w=>∃ z:Bool,(z=true↔(0<i∧bs[i].toNat=0))∧Fr a 50 [(5,.int .u64 ((u+bs[i].toNat*128 ^ i:Nat):Int)),(6,.int .i64 i),(37,.bool z)]∧U W w L) ?_ ?_
  ·
   refine BY 3 E I (λbA a E=>?_) λbA a E=>?_
   ·
    refine RN 3 E I λa E=>?_;exact⟨_,by rw[cr];omega,E.ab [5,6,37],I⟩
   refine RN 3 E I λa E=>?_;exact⟨_,by simp;omega,E.ab [5,6,37],I⟩
  clear E;(try clear I);rintro a w ⟨z,hz,E,I⟩;refine IF 0 E I (λbh a E=>?_) λbh a E=>?_
  ·
   rw[al (hz.1 bh)]at hg;refine RT 4 E I ?_;exact⟨_,_,_,rfl,lN.bad hg.symm (by omega),I⟩
  rw[ag (λh=>absurd (hz.2 h) (by simp[bh]))]at hg;generalize u+bs[i].toNat*128 ^ i=v at E hg;have hv:=(D9 hg.symm).1;refine RN 3 E I λa E=>?_;rw[show ((v:Nat):Int).fdiv (2 ^ 1)=((v/2:Nat):Int) from kS _ 2]at E;refine SS E (gj E underlying319 underlying2) λa E=>?_;rw[show IntKind.i64.wrap ((v/2:Nat):Int)=((v/2:Nat):Int) from gi (by omega) (by omega)]at E;refine RN 1 E I λa E=>?_;refine cc (M:=λa w=>Fr a 50 [(6,.int .i64 i),(8,.int .i64 (mZ v))]∧U W w L) ?_ ?_
  ·
   refine RN 3 E I λa E=>?_;rw[Xq hv]at E;refine IF 1 E I (λbQ a E=>?_) λbQ a E=>?_
   ·
    refine RN 2 E I λa E=>?_;rw[Xr (by omega) (by omega)]at E;refine RN 1 E I λa E=>?_;rw[show -((v/2:Nat):Int)-1=mZ v from by rw[mZ,al (by omega)]]at E;exact⟨E.ab [6,8],I⟩
   refine RN 0 E I λa E=>?_;rw[show ((v/2:Nat):Int)=mZ v from by rw[mZ,ag (by omega)]]at E;exact⟨E.ab [6,8],I⟩
  clear E;(try clear I);rintro a w ⟨E,I⟩;refine RT 7 E I ?_;exact⟨_,_,_,rfl,lN.JY hg.symm,I⟩
 rw[drop_eq_nil_of_le (by omega),mY]at hg;refine RT 4 E I ?_;exact⟨_,_,_,rfl,lN.bad hg.symm (by omega),I⟩
theorem Ek (I:U W w L)(hb:bs.length≤1099511627776)(hp:∀ V,U W V L→aQ V ad bs.length bs) :
   Calls prog 215 #[.slice ad bs.length c] w λe V=>∃ (x:Int) (k:Nat) (er:Int),e=.returned (.tuple #[.int .i64 x,.int .i64 k,.int .i64 er])∧lN bs x k er∧U W V L:=by
 refine EN func215 ntmps215 rfl rfl λa E=>?_;refine RN 11 E I λa E=>?_;refine aP (λμ a w=>∃ (i u:Nat),(μ=bs.length-i∧i≤bs.length∧i≤9∧u<128 ^ i∧mY (bs.drop i) i u=sF bs)∧Fr a 64 [(0,.slice ad bs.length c),(5,.int .u64 u),(6,.int .u64 ((128 ^ i:Nat):Int)),(7,.int .i64 i)]∧U W w L) (bs.length) (⟨0,0,⟨rfl,by omega,by omega,by decide,rfl⟩,E.ab [0,5,6,7],I⟩) ?_;clear E I;rintro μ a w ⟨i,u,⟨rfl,hi,q4,hu,hg⟩,E,I⟩;refine IF 6 E I (λaj a E=>?_) λaj a E=>?_
 ·
  obtain⟨bb,oo,rfl,hr⟩:=(hp _ I).get (by omega);have aG:i<bs.length:=by omega
  have qh:=lL bs[i];rw[J6 aG]at hg;obtain⟨gw,hR⟩:=Ej q4;refine RN 2 E I λa E=>?_;refine cc (M:=λa w=>∃ z:Bool,(z=true↔(i=9∧1<bs[i].toNat)∨(0<i∧bs[i].toNat=0))∧Fr a 64 [(0,.slice (some ⟨bb,oo,none⟩) bs.length c),(5,.int .u64 u),(6,.int .u64 ((128 ^ i:Nat):Int)),(7,.int .i64 i),(34,.bool z)]∧U W w L) ?_ ?_
  ·
   refine BY 3 E I (λbA a E=>?_) λbA a E=>?_
   ·
    refine RN 3 E I λa E=>?_;refine bC E (cI E rfl (s:=17)) (ae E (hr i _ (dS aG))) rfl λa E=>?_;refine BY 3 E I (λua a E=>?_) λua a E=>?_
    ·
     refine RN 10 E I λa E=>?_;refine⟨_,?_,E.ab [0,5,6,7,34],I⟩
     (try simp only[cr]);(try simp only[Bool.false_eq_true,true_iff,false_iff]);omega
    refine BY 3 E I (λhV a E=>?_) λhV a E=>?_
    ·
     refine RN 3 E I λa E=>?_;refine bC E (cI E rfl (s:=27)) (ae E (hr i _ (dS aG))) rfl λa E=>?_;refine RN 3 E I λa E=>?_;refine⟨_,?_,E.ab [0,5,6,7,34],I⟩
     (try simp only[cr]);(try simp only[Bool.false_eq_true,true_iff,false_iff]);omega
    refine RN 7 E I λa E=>?_;refine⟨_,?_,E.ab [0,5,6,7,34],I⟩
    (try simp only[cr]);(try simp only[Bool.false_eq_true,true_iff,false_iff]);omega
   refine BY 10 E I (λhV a E=>?_) λhV a E=>?_
   ·
    refine RN 3 E I λa E=>?_;refine bC E (cI E rfl (s:=27)) (ae E (hr i _ (dS aG))) rfl λa E=>?_;refine RN 3 E I λa E=>?_;refine⟨_,?_,E.ab [0,5,6,7,34],I⟩
    (try simp only[cr]);(try simp only[Bool.false_eq_true,true_iff,false_iff]);omega
   refine RN 7 E I λa E=>?_;refine⟨_,?_,E.ab [0,5,6,7,34],I⟩
   (try simp only[cr]);(try simp only[Bool.false_eq_true,true_iff,false_iff]);omega
  clear E;(try clear I);rintro a w ⟨z,hz,E,I⟩;refine IF 0 E I (λao a E=>?_) λao a E=>?_
  ·
   have cW:=hz.1 ao;have zn:sF bs=none:=by
    rw[← hg];by_cases h9:i=9∧1<bs[i].toNat
    ·rw[al h9]
    ·rw[ag h9,ag (by omega),al (by omega)]
   refine RT 4 E I ?_;exact⟨_,_,_,rfl,lN.bad zn (by omega),I⟩
  have kr:¬ ((i=9∧1<bs[i].toNat)∨(0<i∧bs[i].toNat=0)):=λh=>absurd (hz.2 h) (by simp[ao]);have hr:=(hp _ I).rd (by omega);obtain⟨sm,ki⟩:=J5 (d:=bs[i].toNat%128) q4 (by omega) (by omega);refine RN 5 E I λa E=>?_;refine SS E (ae E (hr i _ (dS aG))) λa E=>?_;refine SX 0 E I (by decide) λa E=>?_;rw[show ((bs[i].toNat:Nat):Int).tmod 128=((bs[i].toNat%128:Nat):Int) from nR _ 128]at E;refine SX 0 E I (by rw[wrap_u64];omega) λa E=>?_;refine RN 2 E I λa E=>?_;rw[show ((bs[i].toNat%128:Nat):Int)*((128 ^ i:Nat):Int)=((bs[i].toNat%128*128 ^ i:Nat):Int) from (Int.natCast_mul ..).symm,show IntKind.u64.wrap ((bs[i].toNat%128*128 ^ i:Nat):Int)=((bs[i].toNat%128*128 ^ i:Nat):Int) from by rw[wrap_u64];omega]at E;refine RN 1 E I λa E=>?_;rw[show IntKind.u64.wrap ((u:Int)+((bs[i].toNat%128*128 ^ i:Nat):Int))=((u+bs[i].toNat%128*128 ^ i:Nat):Int) from by rw[wrap_u64];omega]at E;refine RN 9 E I λa E=>?_;refine SS E (ae E (hr i _ (dS aG))) λa E=>?_;refine IF 1 E I (λaz a E=>?_) λaz a E=>?_
  ·
   rw[ag (by omega),ag (by omega),ag (by omega)]at hg;rw[Nat.mod_eq_of_lt (show bs[i].toNat<128 from by omega)]at E sm ki;generalize u+bs[i].toNat*128 ^ i=v at E hg;have hv:=(D9 hg.symm).1;refine RN 2 E I λa E=>?_;refine SS E (vd E (by decide) (by rw[show ((v:Nat):Int).tdiv 2=((v/2:Nat):Int) from qD _ 2,wrap_u64];omega)) λa E=>?_;rw[show ((v:Nat):Int).tdiv 2=((v/2:Nat):Int) from qD _ 2]at E;refine RN 0 E I λa E=>?_;refine SS E (gj E underlying319 underlying2) λa E=>?_;rw[show IntKind.i64.wrap ((v/2:Nat):Int)=((v/2:Nat):Int) from gi (by omega) (by omega)]at E;refine RN 1 E I λa E=>?_;refine cc (M:=λa w=>Fr a 64 [(7,.int .i64 i),(8,.int .i64 (mZ v))]∧U W w L) ?_ ?_
   ·
    refine SX 2 E I (by decide) λa E=>?_;rw[show ((v:Nat):Int).tmod 2=((v%2:Nat):Int) from nR _ 2]at E;refine IF 1 E I (λbh a E=>?_) λbh a E=>?_
    ·
     refine RN 2 E I λa E=>?_;rw[show IntKind.i64.wrap (0-((v/2:Nat):Int)) = -((v/2:Nat):Int) from by rw[gi (by omega) (by omega)];omega]at E;refine RN 2 E I λa E=>?_;rw[show -((v/2:Nat):Int)-1=mZ v from by rw[mZ,al (by omega)]]at E;exact⟨E.ab [7,8],I⟩
    refine RN 0 E I λa E=>?_;rw[show ((v/2:Nat):Int)=mZ v from by rw[mZ,ag (by omega)]]at E;exact⟨E.ab [7,8],I⟩
   clear E;(try clear I);rintro a w ⟨E,I⟩;refine RT 7 E I ?_;exact⟨_,_,_,rfl,lN.JY hg.symm,I⟩
  rw[ag (by omega),al (by omega)]at hg;have J8:i≤8:=by omega
  rw[show IntKind.u64.wrap (((128 ^ i:Nat):Int)*128)=((128 ^ (i+1):Nat):Int) from by rw[wrap_u64,xQ];have:=hR J8;omega]at E;refine RN 3 E I λa E=>?_;exact⟨bs.length-(i+1),by omega,i+1,_,⟨rfl,by omega,by omega,by have:=ki (by omega);omega,hg⟩,E.ab [0,5,6,7],I⟩
 rw[drop_eq_nil_of_le (by omega),mY]at hg;refine RT 4 E I ?_;exact⟨_,_,_,rfl,lN.bad hg.symm (by omega),I⟩
theorem sH {N:Int}(I:U W w L)(h1:-9223372036854775808≤N)(h2:N≤9223372036854775807) :
   Calls prog 157 #[.int .i64 N] w λe V=>∃ av c',e=.returned (.slice av (aN (zz N)).length c')∧U W V (Sl 5 1 av (aN (zz N)).length c' (bc (aN (zz N)))::L):=by
 refine EN func157 ntmps157 rfl rfl λa E=>?_;refine RN 4 E I λa E=>?_;refine SS E (gj E underlying2 underlying319) λa E=>?_;refine RN 1 E I λa E=>?_;rw[wrap_u64,wrap_u64]at E;refine RN 1 E I λa E=>?_;obtain⟨U0,Dr⟩:∃ U0:Nat,(N%18446744073709551616*2)%18446744073709551616=(U0:Int):=⟨((N%18446744073709551616*2)%18446744073709551616).toNat,by omega⟩;rw[Dr]at E;have Ds:U0<18446744073709551616:=by omega
 refine cc (M:=λa w=>Fr a 28 [(3,.int .u64 ((zz N:Nat):Int))]∧U W w L) ?_ ?_
 ·
  refine IF 3 E I (λaj a E=>?_) λaj a E=>?_
  ·
   refine RN 2 E I λa E=>?_;rw[Je Ds]at E;refine RN 1 E I λa E=>?_;rw[show 18446744073709551615-U0=zz N from by rw[zz,al aj];omega]at E;exact⟨E.ab [3],I⟩
  refine RN 0 E I λa E=>?_;rw[show U0=zz N from by rw[zz,ag (by omega)];omega]at E;exact⟨E.ab [3],I⟩
 clear E;(try clear I);rintro a w ⟨E,I⟩;refine RN 3 E I λa E=>?_;refine aP (λμ a w=>∃ (eg c':Nat) (av:Option Addr) (dn:List UInt8),(μ=eg∧dn++aN eg=aN (zz N)∧eg≤zz N)∧Fr a 28 [(3,.int .u64 (eg:Int)),(4,.slice av dn.length c')]∧U W w (Sl 5 1 av dn.length c' (bc dn)::L)) (zz N) (⟨zz N,0,none,[],⟨rfl,rfl,by omega⟩,E.ab [3,4],I.bO 5 1 none⟩) ?_;clear E I;rintro μ a w ⟨eg,c',av,dn,⟨xB,dc,Vr⟩,E,I⟩;refine RN 2 E I λa E=>?_;have cW:zz N<18446744073709551616:=by rw[zz];split <;> omega
 have gw:=qa 9 (zz N) (by simp;omega);have mj:dn.length≤10:=by
  have:=congrArg List.length dc;rw[aM]at this;omega
 clear gw;refine IF 2 E I (λao a E=>?_) λao a E=>?_
 ·
  refine SX 3 E I (by decide) λa E=>?_;rw[show ((eg:Nat):Int).tmod 128=((eg%128:Nat):Int) from nR _ 128]at E;refine RN 1 E I λa E=>?_;rw[show IntKind.u64.wrap (((eg%128:Nat):Int)+128)=((eg%128+128:Nat):Int) from by rw[wrap_u64];omega]at E;refine SX 0 E I (by rw[wrap_u8];omega) λa E=>?_;refine RN 0 E I λa E=>?_;refine cp E rfl I underlying22 Ty.t5 rfl rfl rfl rfl (by decide) (by decide) λmR a w E I ho=>?_;clear ho;refine RN 0 E I λa E=>?_;refine cQ E rfl I underlying22 Ty.t5 rfl rfl I.ai rfl (by simp[Value.oneCell']) (by decide) (by decide) (by omega) λxC Dt a w E I=>?_;have aT:bc dn++[[Value.int .u8 ((eg%128+128:Nat):Int)]].flatten=bc (dn++[UInt8.ofNat (eg%128+128)]):=by
   simp[bc,UInt8.toNat_ofNat'];omega
  rw[aT]at I;refine RN 2 E I λa E=>?_;refine SS E (vd E (by decide) (by rw[show ((eg:Nat):Int).tdiv 128=((eg/128:Nat):Int) from qD _ 128,wrap_u64];omega)) λa E=>?_;rw[show ((eg:Nat):Int).tdiv 128=((eg/128:Nat):Int) from qD _ 128]at E;refine RN 1 E I λa E=>?_;exact⟨eg/128,by omega,eg/128,_,xC,dn++[UInt8.ofNat (eg%128+128)],⟨rfl,by rw[← dc,vC (u:=eg) (by omega),dA];rfl,by omega⟩,by rw[aM];exact E.ab [3,4],by rw[aM];exact I.sub⟩
 refine SX 3 E I (by rw[wrap_u8];omega) λa E=>?_;refine RN 0 E I λa E=>?_;refine cp E rfl I underlying22 Ty.t5 rfl rfl rfl rfl (by decide) (by decide) λJf a w E I ho=>?_;clear ho;refine RN 0 E I λa E=>?_;refine cQ E rfl I underlying22 Ty.t5 rfl rfl I.ai rfl (by simp[Value.oneCell']) (by decide) (by decide) (by omega) λDu Dv a w E I=>?_;have aT:bc dn++[[Value.int .u8 ((eg:Nat):Int)]].flatten=bc (dn++[UInt8.ofNat eg]):=by
  simp[bc,UInt8.toNat_ofNat'];omega
 rw[aT,← p9 (by omega),dc]at I;refine RT 1 E I ?_;have hl:dn.length+1=(aN (zz N)).length:=by rw[← dc,p9 (by omega),aM];rfl
 rw[hl]at I ⊢;exact⟨_,_,rfl,I.sub⟩
end
end
section
theorem q5 {n:Int}(h1:-9223372036854775808≤n)(h2:n≤9223372036854775807):(aN (zz n)).length≤10:=qa 9 _ (by
 have:=D8 h1 h2;have fF:(128:Nat) ^ (9+1)=1180591620717411303424:=by decide
 omega)
theorem ub {l:List UInt8}{x:UInt8}:bc l++[[Value.int .u8 (x.toNat:Int)]].flatten=bc (l++[x]):=by simp[bc]
structure m2 (bs:List UInt8)(i e:Nat):Prop where
 lt:i<e
 le:e≤bs.length
 same:∀ (j:Nat) (h:j<bs.length),i≤j→j<e→bs[j]=bs[i]'(by omega)
theorem m2.one {bs:List UInt8}{i:Nat}(h:i<bs.length):m2 bs i (i+1):=⟨by omega,by omega,λj hj h1 h2=>by
 have:j=i:=by omega
 subst this;rfl⟩
theorem m2.more {bs:List UInt8}{i e:Nat}(h:m2 bs i e)(he:e<bs.length)(hb:bs[e]'he=bs[i]'(by have:=h.lt;omega)):m2 bs i (e+1):=⟨by have:=h.lt;omega,by omega,λj hj h1 h2=>by
 by_cases Xs:j=e
 ·subst Xs;exact hb
 ·exact h.same j hj h1 (by omega)⟩
theorem m2.runs {bs:List UInt8}{i e:Nat}(h:m2 bs i e)(hi:i<bs.length)(hn:∀ he:e<bs.length,bs[e]≠bs[i])(last:UInt8) :
   dC (bs.drop i) last=aN (zz ((e-i:Nat):Int))++(bs[i] ^^^ last)::dC (bs.drop e) bs[i]:=by
 have h1:=h.lt;have h2:=h.le;have hr:runN bs[i] (bs.drop (i+1))=e-i-1:=by
  refine Xc (λj hj=>?_) ?_
  ·rw[getElem?_drop,aF (by omega),h.same (i+1+j) (by omega) (by omega) (by omega)]
  ·rw[getElem?_drop,show i+1+(e-i-1)=e from by omega];rcases Nat.lt_or_ge e bs.length with he | he
   ·rw[aF he];exact λhx=>hn he (Option.some.inj hx)
   ·rw[iw he];simp
 rw[kb hi,sG,hr,drop_drop,show i+1+(e-i-1)=e from by omega,show e-i-1+1=e-i from by omega]
theorem kX {bs:List UInt8}{i:Nat}(h:i<bs.length):(bc bs)[i]?=some (.int .u8 ((bs.getD i 0).toNat:Int)):=by rw[dS h,bl,aF h];rfl
theorem mv.get {p dn rest:List UInt8}{last:UInt8}{x:Int}{k:Nat}{er:Int}(h:mv p dn last rest)(hp:p.length≤1000000)(h0:rest≠[])(hg:lN rest x k er) :
   er=0∧1≤x∧k<rest.length∧(dn≠[]→(rest.getD k 0).toNat≠0)∧(dn.length:Int)+x≤p.length∧mv p (dn++List.replicate x.toNat (last ^^^ rest.getD k 0)) (last ^^^ rest.getD k 0) (rest.drop (k+1)):=by
 obtain⟨m,y,r,e1,e2,e3,iV⟩:=h.next h0;obtain⟨rfl,rfl,rfl⟩:=hg.2.2.2.2 ((m+1:Nat):Int) _ (by omega) (by omega) e1;have hk:rest.getD (aN (zz ((m+1:Nat):Int))).length 0=y ^^^ last:=by rw[e1,bl,getElem?_append_right (bk _)];simp
 refine⟨rfl,by omega,by rw[e1];simp,by rw[hk];exact e3,by omega,?_⟩;rw[hk,Ae,show ((m+1:Nat):Int).toNat=m+1 from by omega];have hd:rest.drop ((aN (zz ((m+1:Nat):Int))).length+1)=r:=by
  rw[e1,← drop_drop,drop_left];rfl
 rw[hd];exact iV
def sI (bs:List UInt8)(m:Nat)(out:List UInt8)(er:Int):Prop:=(er=0∨er=1∨er=4)∧out.length≤m∧∀ p:List UInt8,p.length≤m→bs=dC p 0→out=p∧er=0
theorem J9 (bs:List UInt8)(i k:Nat):(bs.drop i).getD k 0=bs.getD (i+k) 0:=by simp[bl,getElem?_drop]
theorem sI.bad {bs dn rest:List UInt8}{last:UInt8}{m k:Nat}{x er El:Int}(mX:∀ p:List UInt8,p.length≤m→bs=dC p 0→mv p dn last rest)(hm:m≤1000000)(h0:rest≠[])(hg:lN rest x k er)
   (jP:er≠0∨x<1∨rest.length≤k∨(dn≠[]∧(rest.getD k 0).toNat=0)∨(m:Int)<dn.length+x) (he:El=1∨El=4):sI bs m [] El:=by
 refine⟨by omega,by simp,λp hp e=>?_⟩;exfalso;obtain⟨g1,kH,nr,pY,vO,_⟩:=(mX p hp e).get (by omega) h0 hg;rcases jP with h | h | h | h | h
 ·exact h g1
 ·omega
 ·omega
 ·exact pY h.1 h.2
 ·omega
section
variable {W w:World}{L:List SP}{n c m:Nat}{ad:Option Addr}{bs:List UInt8}
theorem Xt (I:U W w L)(hb:bs.length≤65536)(hp:∀ V,U W V L→aQ V ad bs.length bs) :
   Calls prog 338 #[.slice ad bs.length c] w λe V=>∃ av c',e=.returned (.slice av (dC bs 0).length c')∧U W V (Sl 5 1 av (dC bs 0).length c' (bc (dC bs 0))::L):=by
 have hS:=xS bs 0;refine EN func338 ntmps338 rfl rfl λa E=>?_;refine RN 9 E I λa E=>?_;refine aP (λμ a w=>∃ (i c':Nat) (av:Option Addr) (dn:List UInt8) (last:UInt8),(μ=bs.length-i∧i≤bs.length∧dn++dC (bs.drop i) last=dC bs 0)∧Fr a 48 [(0,.slice ad bs.length c),(3,.slice av dn.length c'),(4,.int .u8 (last.toNat:Int)),(5,.int .i64 i)]∧U W w (Sl 5 1 av dn.length c' (bc dn)::L)) (bs.length) (⟨0,0,none,[],0,⟨rfl,by omega,rfl⟩,E.ab [0,3,4,5],I.bO 5 1 none⟩) ?_;clear E I;rintro μ a w ⟨i,c',av,dn,last,⟨rfl,hi,dc⟩,E,I⟩;refine IF 6 E I (λaj a E=>?_) λaj a E=>?_
 ·
  obtain⟨bb,oo,rfl,_⟩:=(hp _ I.tail).get (by omega);have aG:i<bs.length:=by omega
  have mj:dn.length≤11*bs.length:=by
   have:=congrArg List.length dc;rw[aM]at this;omega
  refine RN 4 E I λa E=>?_;refine aP (λμ a w=>∃ (k:Nat),(μ=bs.length-k∧i≤k∧k≤bs.length∧(k=i∨m2 bs i k))∧Fr a 48 [(0,.slice (some ⟨bb,oo,none⟩) bs.length c),(3,.slice av dn.length c'),(4,.int .u8 (last.toNat:Int)),(5,.int .i64 i),(6,.int .i64 k)]∧U W w (Sl 5 1 av dn.length c' (bc dn)::L)) (bs.length-i) (⟨i,⟨rfl,by omega,by omega,.inl rfl⟩,E.ab [0,3,4,5,6],I⟩) ?_;clear E I;rintro μ a w ⟨k,⟨rfl,o5,hk,ku⟩,E,I⟩;refine RN 1 E I λa E=>?_;refine cc (M:=λa w=>∃ z:Bool,(z=true→m2 bs i (k+1))∧(z=false→m2 bs i k∧∀ he:k<bs.length,bs[k]≠bs[i])∧Fr a 48 [(0,.slice (some ⟨bb,oo,none⟩) bs.length c),(3,.slice av dn.length c'),(4,.int .u8 (last.toNat:Int)),(5,.int .i64 i),(6,.int .i64 k),(26,.bool z)]∧U W w (Sl 5 1 av dn.length c' (bc dn)::L)) ?_ ?_
  ·
   refine bS 0 [12] [0,1,2,3,4,5,6,7,9,10,11,3008,1012,13,14] E I λa w E I hH hC=>?_;have hr:=(hp _ I.tail).rd (by omega);refine RH 5 E I hH hC λa E=>?_;refine E.by (s:=16) (λda E=>?_) (λda E=>?_)
   ·
    refine RH 6 E I hH hC λa E=>?_;refine QH E (λw hc=>ae E ((hc.rd hr) k _ (dS (i:=k) (bs:=bs) (show k<bs.length by omega)))) hC λa E=>?_;refine RH 0 E I hH hC λa E=>?_;refine bC E (cI E rfl (s:=16)) (ae E ((hC.rd hr) i _ (dS aG))) rfl λa E=>?_;refine RH 2 E I hH hC λa E=>?_;have dO:k<bs.length:=by omega
    refine⟨_,λh=>?_,λh=>?_,E.ab [0,3,4,5,6,26],I⟩
    ·have he:bs[k]=bs[i]:=UInt8.toNat_inj.1 (by have:=of_decide_eq_true h;omega);rcases ku with rfl | ku
     ·exact m2.one aG
     ·exact ku.more dO he
    ·have he:bs[k]≠bs[i]:=λe=>of_decide_eq_false h (by rw[e]);rcases ku with rfl | ku
     ·exact absurd rfl he
     ·exact⟨ku,λ_=>he⟩
   refine RH 10 E I hH hC λa E=>?_;refine⟨_,λh=>(by cases h),λh=>?_,E.ab [0,3,4,5,6,26],I⟩;rcases ku with rfl | ku
   ·omega
   ·exact⟨ku,λ_=>absurd (show k<bs.length by assumption) (by omega)⟩
  clear E;(try clear I);rintro a w ⟨z,cW,kr,E,I⟩;refine IF 0 E I (λao a E=>?_) λao a E=>?_
  ·
   have pg:=cW ao;refine RN 3 E I λa E=>?_;exact⟨bs.length-(k+1),by have:=pg.le;omega,k+1,⟨rfl,by omega,pg.le,.inr pg⟩,E.ab [0,3,4,5,6],I⟩
  obtain⟨pg,bP⟩:=kr ao;rw[pg.runs aG bP last]at dc;have dO:=pg.lt;have xy:=pg.le;refine aY 1 (λw0 w=>Rd w bb oo (bc bs)) [4] [0,1,2,3,5,6,7,9,3008,10,2004,1011,1012,13] E I λa w E I hH=>?_;have hC:=(hp _ I.tail).rd (by omega);have eF:=q5 (n:=((k-i:Nat):Int)) (by omega) (by omega);refine RH 4 E I hH hC λa E=>?_;rw[show ((k:Nat):Int)-((i:Nat):Int)=((k-i:Nat):Int) from by omega]at E;refine RH 4 E I hH hC λa E=>?_;refine QH E (λw hc=>ae E (hc i _ (dS aG))) hC λa E=>?_;refine RH 1 E I hH hC λa E=>?_;refine DN [(4,[1011,1012,13]),(11,[1004,1012,13])] (by kernel_rfl) rfl ⟨⟨_,rfl,?_⟩,⟨_,rfl,?_⟩,trivial⟩
  ·
   refine RH 0 E I hH hC λa E=>?_;refine a6 0 E I (so (N:=((k-i:Nat):Int)) (I.pick (Sl 5 1 av dn.length c' (bc dn))) (by omega) (by omega) (by omega)) λc1 dR a w E I=>?_;replace hC:=hH.at w ((hp _ I.sub).rd (by omega));refine RH 0 E I hH hC λa E=>?_;refine cp E rfl I underlying22 Ty.t5 rfl rfl rfl rfl (by decide) (by decide) λH3 a w E I ho=>?_;clear ho;refine RN 0 E I λa E=>?_;refine cQ E rfl I underlying22 Ty.t5 rfl rfl I.ai rfl (by simp[Value.oneCell']) (by decide) (by decide) (by rw[aM];omega) λxW Em a w E I=>?_;refine RN 1 E I λa E=>?_;rw[ub]at I;have m3:(dn++aN (zz ((k-i:Nat):Int))++[bs[i] ^^^ last])++dC (bs.drop k) bs[i]=dC bs 0:=by rw[← dc];simp
   rw[show (dn++aN (zz ((k-i:Nat):Int))).length+1=(dn++aN (zz ((k-i:Nat):Int))++[bs[i] ^^^ last]).length from by simp only[aM,ji]]at E I;generalize dn++aN (zz ((k-i:Nat):Int))++[bs[i] ^^^ last]=q6 at E I m3;refine RN 4 E I λa E=>?_;refine SS E (ae E (((hp _ I.sub).rd (by omega)) i _ (dS aG))) λa E=>?_;refine RN 3 E I λa E=>?_;exact⟨bs.length-k,by omega,k,_,xW,q6,bs[i],⟨rfl,by omega,m3⟩,E.ab [0,3,4,5],I.sub⟩
  refine RH 0 E I hH hC λa E=>?_;refine cp E rfl I underlying22 Ty.t5 rfl rfl rfl rfl (by decide) (by decide) λH3 a w E I ho=>?_;clear ho;refine a6 0 E I (so (N:=((k-i:Nat):Int)) (I.pick (Sl 5 1 av dn.length c' (bc dn))) (by omega) (by omega) (by omega)) λc1 dR a w E I=>?_;replace hC:=hH.at w ((hp _ I.sub).rd (by omega));refine RH 0 E I hH hC λa E=>?_;refine cQ E rfl I underlying22 Ty.t5 rfl rfl I.ai rfl (by simp[Value.oneCell']) (by decide) (by decide) (by rw[aM];omega) λxW Em a w E I=>?_;refine RN 1 E I λa E=>?_;rw[ub]at I;have m3:(dn++aN (zz ((k-i:Nat):Int))++[bs[i] ^^^ last])++dC (bs.drop k) bs[i]=dC bs 0:=by rw[← dc];simp
  rw[show (dn++aN (zz ((k-i:Nat):Int))).length+1=(dn++aN (zz ((k-i:Nat):Int))++[bs[i] ^^^ last]).length from by simp only[aM,ji]]at E I;generalize dn++aN (zz ((k-i:Nat):Int))++[bs[i] ^^^ last]=q6 at E I m3;refine RN 4 E I λa E=>?_;refine SS E (ae E (((hp _ I.sub).rd (by omega)) i _ (dS aG))) λa E=>?_;refine RN 3 E I λa E=>?_;exact⟨bs.length-k,by omega,k,_,xW,q6,bs[i],⟨rfl,by omega,m3⟩,E.ab [0,3,4,5],I.sub⟩
 rw[drop_eq_nil_of_le (by omega),vL,append_nil]at dc;refine RT 3 E I ?_;exact⟨_,_,by rw[← dc],by rw[← dc];exact I⟩
theorem Xu (I:U W w L)(hb:bs.length≤65536)(hp:∀ V,U W V L→aQ V ad bs.length bs) :
   Calls prog 159 #[.slice ad bs.length c] w λe V=>∃ av c',e=.returned (.slice av (dC bs 0).length c')∧U W V (Sl 5 1 av (dC bs 0).length c' (bc (dC bs 0))::L):=by
 have hS:=xS bs 0;refine EN func159 ntmps159 rfl rfl λa E=>?_;refine RN 9 E I λa E=>?_;refine aP (λμ a w=>∃ (i c':Nat) (av:Option Addr) (dn:List UInt8) (last:UInt8),(μ=bs.length-i∧i≤bs.length∧dn++dC (bs.drop i) last=dC bs 0)∧Fr a 52 [(0,.slice ad bs.length c),(3,.slice av dn.length c'),(4,.int .u8 (last.toNat:Int)),(5,.int .i64 i)]∧U W w (Sl 5 1 av dn.length c' (bc dn)::L)) (bs.length) (⟨0,0,none,[],0,⟨rfl,by omega,rfl⟩,E.ab [0,3,4,5],I.bO 5 1 none⟩) ?_;clear E I;rintro μ a w ⟨i,c',av,dn,last,⟨rfl,hi,dc⟩,E,I⟩;refine IF 6 E I (λaj a E=>?_) λaj a E=>?_
 ·
  obtain⟨bb,oo,rfl,_⟩:=(hp _ I.tail).get (by omega);have aG:i<bs.length:=by omega
  have mj:dn.length≤11*bs.length:=by
   have:=congrArg List.length dc;rw[aM]at this;omega
  refine RN 3 E I λa E=>?_;refine aP (λμ a w=>∃ (k:Nat),(μ=bs.length-k∧k≤bs.length∧m2 bs i k)∧Fr a 52 [(0,.slice (some ⟨bb,oo,none⟩) bs.length c),(3,.slice av dn.length c'),(4,.int .u8 (last.toNat:Int)),(5,.int .i64 i),(6,.int .i64 ((k-i:Nat):Int))]∧U W w (Sl 5 1 av dn.length c' (bc dn)::L)) (bs.length-(i+1)) (⟨i+1,⟨rfl,by omega,m2.one aG⟩,by rw[show i+1-i=1 from by omega];exact E.ab [0,3,4,5,6],I⟩) ?_;clear E I;rintro μ a w ⟨k,⟨rfl,hk,ku⟩,E,I⟩;refine RN 1 E I λa E=>?_;refine cc (M:=λa w=>∃ z:Bool,(z=true→m2 bs i (k+1))∧(z=false→∀ he:k<bs.length,bs[k]≠bs[i])∧Fr a 52 [(0,.slice (some ⟨bb,oo,none⟩) bs.length c),(3,.slice av dn.length c'),(4,.int .u8 (last.toNat:Int)),(5,.int .i64 i),(6,.int .i64 ((k-i:Nat):Int)),(29,.bool z)]∧U W w (Sl 5 1 av dn.length c' (bc dn)::L)) ?_ ?_
  ·
   refine RN 0 E I λa E=>?_;have o5:=ku.lt;refine bS 0 [16] [0,1,2,3,4,5,6,7,8,9,10,11,13,14,15,3012,1016,17,18] E I λa w E I hH hC=>?_;have hr:=(hp _ I.tail).rd (by omega);refine RH 3 E I hH hC λa E=>?_;rw[show ((i:Nat):Int)+((k-i:Nat):Int)=(k:Int) from by omega]at E;refine RH 4 E I hH hC λa E=>?_;refine E.by (s:=17) (λjQ E=>?_) (λjQ E=>?_)
   ·
    refine RH 4 E I hH hC λa E=>?_;rw[show ((i:Nat):Int)+((k-i:Nat):Int)=(k:Int) from by omega]at E;refine RH 4 E I hH hC λa E=>?_;refine QH E (λw hc=>ae E ((hc.rd hr) k _ (dS (i:=k) (bs:=bs) (show k<bs.length by omega)))) hC λa E=>?_;refine RH 0 E I hH hC λa E=>?_;refine bC E (cI E rfl (s:=17)) (ae E ((hC.rd hr) i _ (dS aG))) rfl λa E=>?_;refine RH 2 E I hH hC λa E=>?_;have dO:k<bs.length:=by omega
    refine⟨_,λh=>?_,λh=>?_,E.ab [0,3,4,5,6,29],I⟩
    ·have he:bs[k]=bs[i]:=UInt8.toNat_inj.1 (by have:=of_decide_eq_true h;omega);exact ku.more dO he
    ·have he:bs[k]≠bs[i]:=λe=>of_decide_eq_false h (by rw[e]);exact λ_=>he
   refine RH 12 E I hH hC λa E=>?_;refine⟨_,λh=>(by cases h),λh=>?_,E.ab [0,3,4,5,6,29],I⟩;exact λ_=>absurd (show k<bs.length by assumption) (by omega)
  clear E;(try clear I);rintro a w ⟨z,cW,kr,E,I⟩;refine IF 0 E I (λao a E=>?_) λao a E=>?_
  ·
   have pg:=cW ao;refine RN 1 E I λa E=>?_;have o5:=ku.lt;have ca:((k-i:Nat):Int)≤65536:=by omega
   refine RN 1 E I λa E=>?_;rw[show ((k-i:Nat):Int)+1=((k+1-i:Nat):Int) from by omega]at E;refine RN 1 E I λa E=>?_;exact⟨bs.length-(k+1),by have:=pg.le;omega,k+1,⟨rfl,pg.le,pg⟩,E.ab [0,3,4,5,6],I⟩
  have bP:=kr ao;rw[ku.runs aG bP last]at dc;have dO:=ku.lt;have xy:=ku.le;refine aY 1 (λw0 w=>Rd w bb oo (bc bs)) [2,3] [0,1,4,5,6,8,3007,9,2002,2003,1010,1011,12] E I λa w E I hH=>?_;have hC:=(hp _ I.tail).rd (by omega);have eF:=q5 (n:=((k-i:Nat):Int)) (by omega) (by omega);refine RH 6 E I hH hC λa E=>?_;refine QH E (λw hc=>ae E (hc i _ (dS aG))) hC λa E=>?_;refine RH 1 E I hH hC λa E=>?_;refine DN [(2,[2003,1010,1011,12]),(10,[1002,1003,1011,12])] (by kernel_rfl) rfl ⟨⟨_,rfl,?_⟩,⟨_,rfl,?_⟩,trivial⟩
  ·
   refine RH 0 E I hH hC λa E=>?_;refine a6 0 E I (sH (N:=((k-i:Nat):Int)) I (by omega) (by omega)) λc1 dR a w E I=>?_;replace hC:=hH.at w ((hp _ I.sub).rd (by omega));refine RH 0 E I hH hC λa E=>?_;refine DN [(3,[1010,1011,12]),(10,[1003,1011,12])] (by kernel_rfl) rfl ⟨⟨_,rfl,?_⟩,⟨_,rfl,?_⟩,trivial⟩
   ·
    obtain⟨bp,op,rfl,fe⟩:=(I.cu c1 (aN (zz ((k-i:Nat):Int))) rfl rfl).get (qV _);refine RH 0 E I hH hC λa E=>?_;refine cQ E rfl I underlying22 Ty.t5 rfl rfl fe (by rw[dB,Nat.mul_one]) (ey _) (qV _) (by decide) (by omega) λEn Eo a w E I=>?_;replace hC:=hH.at w ((hp _ I.sub).rd (by omega));refine RH 0 E I hH hC λa E=>?_;refine cp E rfl I underlying22 Ty.t5 rfl rfl rfl rfl (by decide) (by decide) λKa a w E I ho=>?_;clear ho;refine RN 0 E I λa E=>?_;refine cQ E rfl I underlying22 Ty.t5 rfl rfl I.ai rfl (by simp[Value.oneCell']) (by decide) (by decide) (by omega) λvP Ep a w E I=>?_;refine RN 1 E I λa E=>?_;rw[← fI,ub]at I;have m3:(dn++aN (zz ((k-i:Nat):Int))++[bs[i] ^^^ last])++dC (bs.drop k) bs[i]=dC bs 0:=by rw[← dc];simp
    rw[show dn.length+(aN (zz ((k-i:Nat):Int))).length+1=(dn++aN (zz ((k-i:Nat):Int))++[bs[i] ^^^ last]).length from by simp only[aM,ji]]at E I;generalize dn++aN (zz ((k-i:Nat):Int))++[bs[i] ^^^ last]=q6 at E I m3;refine RN 4 E I λa E=>?_;refine SS E (ae E (((hp _ I.sub).rd (by omega)) i _ (dS aG))) λa E=>?_;refine RN 4 E I λa E=>?_;rw[show ((i:Nat):Int)+((k-i:Nat):Int)=(k:Int) from by omega]at E;refine RN 1 E I λa E=>?_;exact⟨bs.length-k,by omega,k,_,vP,q6,bs[i],⟨rfl,by omega,m3⟩,E.ab [0,3,4,5],I.sub⟩
   refine RH 0 E I hH hC λa E=>?_;refine cp E rfl I underlying22 Ty.t5 rfl rfl rfl rfl (by decide) (by decide) λKa a w E I ho=>?_;clear ho;obtain⟨bp,op,rfl,fe⟩:=(I.cu c1 (aN (zz ((k-i:Nat):Int))) rfl rfl).get (qV _);refine RN 0 E I λa E=>?_;refine cQ E rfl I underlying22 Ty.t5 rfl rfl fe (by rw[dB,Nat.mul_one]) (ey _) (qV _) (by decide) (by omega) λEn Eo a w E I=>?_;replace hC:=hH.at w ((hp _ I.sub).rd (by omega));refine RH 0 E I hH hC λa E=>?_;refine cQ E rfl I underlying22 Ty.t5 rfl rfl I.ai rfl (by simp[Value.oneCell']) (by decide) (by decide) (by omega) λvP Ep a w E I=>?_;refine RN 1 E I λa E=>?_;rw[← fI,ub]at I;have m3:(dn++aN (zz ((k-i:Nat):Int))++[bs[i] ^^^ last])++dC (bs.drop k) bs[i]=dC bs 0:=by rw[← dc];simp
   rw[show dn.length+(aN (zz ((k-i:Nat):Int))).length+1=(dn++aN (zz ((k-i:Nat):Int))++[bs[i] ^^^ last]).length from by simp only[aM,ji]]at E I;generalize dn++aN (zz ((k-i:Nat):Int))++[bs[i] ^^^ last]=q6 at E I m3;refine RN 4 E I λa E=>?_;refine SS E (ae E (((hp _ I.sub).rd (by omega)) i _ (dS aG))) λa E=>?_;refine RN 4 E I λa E=>?_;rw[show ((i:Nat):Int)+((k-i:Nat):Int)=(k:Int) from by omega]at E;refine RN 1 E I λa E=>?_;exact⟨bs.length-k,by omega,k,_,vP,q6,bs[i],⟨rfl,by omega,m3⟩,E.ab [0,3,4,5],I.sub⟩
  refine RH 0 E I hH hC λa E=>?_;refine cp E rfl I underlying22 Ty.t5 rfl rfl rfl rfl (by decide) (by decide) λKa a w E I ho=>?_;clear ho;refine a6 0 E I (sH (N:=((k-i:Nat):Int)) I (by omega) (by omega)) λc1 dR a w E I=>?_;replace hC:=hH.at w ((hp _ I.sub).rd (by omega));obtain⟨bp,op,rfl,fe⟩:=(I.cu c1 (aN (zz ((k-i:Nat):Int))) rfl rfl).get (qV _);refine RH 0 E I hH hC λa E=>?_;refine cQ E rfl I underlying22 Ty.t5 rfl rfl fe (by rw[dB,Nat.mul_one]) (ey _) (qV _) (by decide) (by omega) λEn Eo a w E I=>?_;replace hC:=hH.at w ((hp _ I.sub).rd (by omega));refine RH 0 E I hH hC λa E=>?_;refine cQ E rfl I underlying22 Ty.t5 rfl rfl I.ai rfl (by simp[Value.oneCell']) (by decide) (by decide) (by omega) λvP Ep a w E I=>?_;refine RN 1 E I λa E=>?_;rw[← fI,ub]at I;have m3:(dn++aN (zz ((k-i:Nat):Int))++[bs[i] ^^^ last])++dC (bs.drop k) bs[i]=dC bs 0:=by rw[← dc];simp
  rw[show dn.length+(aN (zz ((k-i:Nat):Int))).length+1=(dn++aN (zz ((k-i:Nat):Int))++[bs[i] ^^^ last]).length from by simp only[aM,ji]]at E I;generalize dn++aN (zz ((k-i:Nat):Int))++[bs[i] ^^^ last]=q6 at E I m3;refine RN 4 E I λa E=>?_;refine SS E (ae E (((hp _ I.sub).rd (by omega)) i _ (dS aG))) λa E=>?_;refine RN 4 E I λa E=>?_;rw[show ((i:Nat):Int)+((k-i:Nat):Int)=(k:Int) from by omega]at E;refine RN 1 E I λa E=>?_;exact⟨bs.length-k,by omega,k,_,vP,q6,bs[i],⟨rfl,by omega,m3⟩,E.ab [0,3,4,5],I.sub⟩
 rw[drop_eq_nil_of_le (by omega),vL,append_nil]at dc;refine RT 3 E I ?_;exact⟨_,_,by rw[← dc],by rw[← dc];exact I⟩
theorem Xv (I:U W w L)(hb:bs.length≤65536)(hc:bs.length≤c)(hm:m≤1000000)(hp:∀ V,U W V L→aQ V ad bs.length bs) :
   Calls prog 333 #[.slice ad bs.length c,.int .i64 m] w λe V=>∃ (out:List UInt8) (av:Option Addr) (c':Nat) (er:Int),e=.returned (.tuple #[.slice av out.length c',.int .i64 er])∧sI bs m out er∧U W V (Sl 5 1 av out.length c' (bc out)::L):=by
 refine EN func333 ntmps333 rfl rfl λa E=>?_;refine RN 10 E I λa E=>?_;refine aP (λμ a w=>∃ (i c':Nat) (av:Option Addr) (dn:List UInt8) (last:UInt8),(μ=bs.length-i∧i≤bs.length∧dn.length≤m∧(0<i→dn≠[])∧∀ p:List UInt8,p.length≤m→bs=dC p 0→mv p dn last (bs.drop i))∧Fr a 79 [(0,.slice ad bs.length c),(1,.int .i64 m),(6,.slice av dn.length c'),(7,.int .u8 (last.toNat:Int)),(8,.int .i64 i)]∧U W w (Sl 5 1 av dn.length c' (bc dn)::L)) (bs.length) (⟨0,0,none,[],0,⟨rfl,by omega,by simp,by omega,λp _ e=>by rw[drop_zero,e];exact mv.start p⟩,E.ab [0,1,6,7,8],I.bO 5 1 none⟩) ?_;clear E I;rintro μ a w ⟨i,c',av,dn,last,⟨rfl,hi,Er,Es,mX⟩,E,I⟩;refine IF 6 E I (λaj a E=>?_) λaj a E=>?_
 ·
  obtain⟨bb,oo,rfl,_⟩:=(hp _ I.tail).get (by omega);have aG:i<bs.length:=by omega
  have bP:bs.drop i≠[]:=λe=>by have:=congrArg List.length e;simp at this;omega
  refine RN 4 E I λa E=>?_;rw[show bs.length-i=(bs.drop i).length from by simp]at E;refine jI 0 E I (J7 (bs:=bs.drop i) I (by simp;omega) (λV hw=>(hp V hw.tail).tX hi hc)) λx k er a w E ⟨hg,I⟩=>?_;refine RN 8 E I λa E=>?_;refine cc (M:=λa w=>∃ z:Bool,(z=true↔(er≠0∨x<1∨bs.length≤i+k∨((bs.getD (i+k) 0).toNat=0∧0<i)))∧Fr a 79 [(0,.slice (some ⟨bb,oo,none⟩) bs.length c),(1,.int .i64 m),(6,.slice av dn.length c'),(7,.int .u8 (last.toNat:Int)),(8,.int .i64 i),(9,.int .i64 x),(10,.int .i64 k),(50,.bool z)]∧U W w (Sl 5 1 av dn.length c' (bc dn)::L)) ?_ ?_
  ·
   have mj:(bs.drop i).length=bs.length-i:=by simp
   have ph:=hg.2.2.1;have nm:=hg.2.1;have oe:=hg.1;have dO:k≤bs.length:=by
    by_cases h0:er=0
    ·have:=ph h0;omega
    ·have:=(hg.2.2.2.1 h0).1;omega
   refine BY 3 E I (λbA a E=>?_) λbA a E=>?_
   ·
    refine RN 24 E I λa E=>?_;exact⟨_,by first | (rw[cr];omega) | exact⟨λh=>(by cases h),λh=>absurd h (by omega)⟩ | exact⟨λ_=>by omega,λ_=>rfl⟩,E.ab [0,1,6,7,8,9,10,50],I⟩
   refine BY 4 E I (λjQ a E=>?_) λjQ a E=>?_
   ·
    refine RN 20 E I λa E=>?_;exact⟨_,by first | (rw[cr];omega) | exact⟨λh=>(by cases h),λh=>absurd h (by omega)⟩ | exact⟨λ_=>by omega,λ_=>rfl⟩,E.ab [0,1,6,7,8,9,10,50],I⟩
   refine BY 8 E I (λkO a E=>?_) λkO a E=>?_
   ·
    refine RN 12 E I λa E=>?_;exact⟨_,by first | (rw[cr];omega) | exact⟨λh=>(by cases h),λh=>absurd h (by omega)⟩ | exact⟨λ_=>by omega,λ_=>rfl⟩,E.ab [0,1,6,7,8,9,10,50],I⟩
   refine RN 4 E I λa E=>?_;rw[show ((i:Nat):Int)+((k:Nat):Int)=((i+k:Nat):Int) from by omega]at E;refine RN 1 E I λa E=>?_;refine bC E (cI E rfl (s:=38)) (ae E (((hp _ I.tail).rd (by omega)) (i+k) _ (kX (by omega)))) rfl λa E=>?_;refine BY 2 E I (λpj a E=>?_) λpj a E=>?_
   ·
    refine RN 4 E I λa E=>?_;exact⟨_,by first | (rw[cr];omega) | exact⟨λh=>(by cases h),λh=>absurd h (by omega)⟩ | exact⟨λ_=>by omega,λ_=>rfl⟩,E.ab [0,1,6,7,8,9,10,50],I⟩
   refine RN 4 E I λa E=>?_;exact⟨_,by first | (rw[cr];omega) | exact⟨λh=>(by cases h),λh=>absurd h (by omega)⟩ | exact⟨λ_=>by omega,λ_=>rfl⟩,E.ab [0,1,6,7,8,9,10,50],I⟩
  clear E;(try clear I);rintro a w ⟨z,hz,E,I⟩;refine IF 0 E I (λao a E=>?_) λao a E=>?_
  ·
   have jP:=hz.1 ao;refine RT 3 E I ?_;exact⟨[],none,0,1,rfl,sI.bad mX hm bP hg (by rw[J9,c8];rcases jP with h | h | h | h;exact .inl h;exact .inr (.inl h);exact .inr (.inr (.inl (by omega)));exact .inr (.inr (.inr (.inl ⟨Es h.2,h.1⟩)))) (.inl rfl),I.tail.bO _ _ _⟩
  have DT:¬ (er≠0∨x<1∨bs.length≤i+k∨((bs.getD (i+k) 0).toNat=0∧0<i)):=λh=>absurd (hz.2 h) (by simp[ao]);refine IF 9 E I (λaz a E=>?_) λaz a E=>?_
  ·
   refine RT 3 E I ?_;exact⟨[],none,0,4,rfl,sI.bad mX hm bP hg (.inr (.inr (.inr (.inr (by omega))))) (.inr rfl),I.tail.bO _ _ _⟩
  refine RN 6 E I λa E=>?_;rw[show ((i:Nat):Int)+((k:Nat):Int)=((i+k:Nat):Int) from by omega]at E;refine RN 1 E I λa E=>?_;refine SS E (ae E (((hp _ I.tail).rd (by omega)) (i+k) _ (kX (by omega)))) λa E=>?_;refine RN 2 E I λa E=>?_;generalize hy:last ^^^ bs.getD (i+k) 0=y at E;refine RN 4 E I λa E=>?_;refine aP (λμ a w=>∃ (j c2:Nat) (ad2:Option Addr),(μ=x.toNat-j∧j≤x.toNat)∧Fr a 79 [(0,.slice (some ⟨bb,oo,none⟩) bs.length c),(1,.int .i64 m),(6,.slice ad2 (dn++List.replicate j y).length c2),(7,.int .u8 (y.toNat:Int)),(8,.int .i64 i),(10,.int .i64 k),(66,.int .i64 x),(67,.int .i64 j)]∧U W w (Sl 5 1 ad2 (dn++List.replicate j y).length c2 (bc (dn++List.replicate j y))::L)) (x.toNat) (⟨0,c',av,⟨rfl,by omega⟩,by rw[List.replicate_zero,append_nil];exact E.ab [0,1,6,7,8,10,66,67],by rw[List.replicate_zero,append_nil];exact I⟩) ?_;clear E I;rintro μ a w ⟨j,c2,ad2,⟨rfl,hj⟩,E,I⟩;refine IF 3 E I (λbh a E=>?_) λbh a E=>?_
  ·
   refine RN 1 E I λa E=>?_;have eH:(dn++List.replicate j y).length=dn.length+j:=by simp
   refine RN 2 E I λa E=>?_;refine cp E rfl I underlying22 Ty.t5 rfl rfl rfl rfl (by decide) (by decide) λXw a w E I ho=>?_;clear ho;refine RN 0 E I λa E=>?_;refine cQ E rfl I underlying22 Ty.t5 rfl rfl I.ai rfl (by simp[Value.oneCell']) (by decide) (by decide) (by omega) λKb Kc a w E I=>?_;refine RN 1 E I λa E=>?_;rw[ub,show (dn++List.replicate j y)++[y]=dn++List.replicate (j+1) y from by rw[dA,← replicate_succ']]at I;rw[show (dn++List.replicate j y).length+1=(dn++List.replicate (j+1) y).length from by simp;omega]at E I;refine RN 2 E I λa E=>?_;exact⟨x.toNat-(j+1),by omega,j+1,_,_,⟨rfl,by omega⟩,E.ab [0,1,6,7,8,10,66,67],I.sub⟩
  obtain rfl:j=x.toNat:=by omega
  refine RN 0 E I λa E=>?_;have o6:(dn++List.replicate x.toNat y).length=dn.length+x.toNat:=by simp
  refine RN 4 E I λa E=>?_;rw[show ((i:Nat):Int)+(((k:Nat):Int)+1)=((i+k+1:Nat):Int) from by omega]at E;refine RN 1 E I λa E=>?_;exact⟨bs.length-(i+k+1),by omega,i+k+1,_,_,_,y,⟨rfl,by omega,by omega,λ_ e=>(by rw[e]at o6;simp at o6;omega),λp uc e=>(by
   have h2:=((mX p uc e).get (by omega) bP hg).2.2.2.2.2;rw[J9,hy,drop_drop]at h2;exact h2)⟩,E.ab [0,1,6,7,8],I⟩
 refine RT 4 E I ?_;exact⟨dn,_,_,0,rfl,⟨by omega,Er,λp uc e=>⟨by have h2:=mX p uc e;rw[drop_eq_nil_of_le (by omega)]at h2;exact h2.done.symm,rfl⟩⟩,I⟩
theorem Xx (I:U W w L)(hb:bs.length≤65536)(hc:bs.length≤c)(hm:m≤1000000)(hp:∀ V,U W V L→aQ V ad bs.length bs) :
   Calls prog 216 #[.slice ad bs.length c,.int .i64 m] w λe V=>∃ (out:List UInt8) (av:Option Addr) (c':Nat) (er:Int),e=.returned (.tuple #[.slice av out.length c',.int .i64 er])∧sI bs m out er∧U W V (Sl 5 1 av out.length c' (bc out)::L):=by
 refine EN func216 ntmps216 rfl rfl λa E=>?_;refine RN 10 E I λa E=>?_;refine aP (λμ a w=>∃ (i c' oj:Nat) (av q7:Option Addr) (dn rest:List UInt8) (last:UInt8) (fi:Bool),(μ=rest.length∧rest.length≤bs.length∧rest.length≤oj∧dn.length≤m∧(fi=false→dn≠[])∧(∀ V,U W V L→aQ V q7 rest.length rest)∧∀ p:List UInt8,p.length≤m→bs=dC p 0→mv p dn last rest)∧Fr a 72 [(0,.slice q7 rest.length oj),(1,.int .i64 m),(6,.slice av dn.length c'),(7,.int .u8 (last.toNat:Int)),(8,.bool fi)]∧U W w (Sl 5 1 av dn.length c' (bc dn)::L)) (bs.length) (⟨0,0,c,none,ad,[],bs,0,true,⟨rfl,by omega,hc,by simp,(by simp),hp,λp _ e=>by rw[e];exact mv.start p⟩,E.ab [0,1,6,7,8],I.bO 5 1 none⟩) ?_;clear E I;rintro μ a w ⟨i,c',oj,av,q7,dn,rest,last,fi,⟨rfl,Ah,jy,Er,Es,a7,mX⟩,E,I⟩;refine IF 5 E I (λaj a E=>?_) λaj a E=>?_
 ·
  obtain⟨bb,oo,rfl,_⟩:=(a7 _ I.tail).get (by omega);have bP:rest≠[]:=λe=>by rw[e]at aj;simp at aj
  refine jI 3 E I (Ek (bs:=rest) I (by omega) (λV hw=>a7 V hw.tail)) λx k er a w E ⟨hg,I⟩=>?_;refine RN 8 E I λa E=>?_;refine cc (M:=λa w=>∃ z:Bool,(z=true↔(er≠0∨x<1∨rest.length≤k∨((rest.getD k 0).toNat=0∧fi=false)))∧Fr a 72 [(0,.slice (some ⟨bb,oo,none⟩) rest.length oj),(1,.int .i64 m),(6,.slice av dn.length c'),(7,.int .u8 (last.toNat:Int)),(8,.bool fi),(9,.int .i64 x),(10,.int .i64 k),(44,.bool z)]∧U W w (Sl 5 1 av dn.length c' (bc dn)::L)) ?_ ?_
  ·
   have ph:=hg.2.2.1;have nm:=hg.2.1;have oe:=hg.1;have dO:k≤rest.length:=by
    by_cases h0:er=0
    ·have:=ph h0;omega
    ·have:=(hg.2.2.2.1 h0).1;omega
   refine BY 3 E I (λbA a E=>?_) λbA a E=>?_
   ·
    refine RN 20 E I λa E=>?_;exact⟨_,by first | (rw[cr];omega) | exact⟨λh=>(by cases h),λh=>absurd h (by omega)⟩ | exact⟨λ_=>by omega,λ_=>rfl⟩ | (cases fi;exact⟨λ_=>.inr (.inr (.inr ⟨by omega,rfl⟩)),λ_=>rfl⟩;exact⟨λh=>(by cases h),λh=>by rcases h with h | h | h | h;exact absurd h (by omega);exact absurd h (by omega);exact absurd h (by omega);exact absurd h.2 (by decide)⟩),E.ab [0,1,6,7,8,9,10,44],I⟩
   refine BY 4 E I (λjQ a E=>?_) λjQ a E=>?_
   ·
    refine RN 16 E I λa E=>?_;exact⟨_,by first | (rw[cr];omega) | exact⟨λh=>(by cases h),λh=>absurd h (by omega)⟩ | exact⟨λ_=>by omega,λ_=>rfl⟩ | (cases fi;exact⟨λ_=>.inr (.inr (.inr ⟨by omega,rfl⟩)),λ_=>rfl⟩;exact⟨λh=>(by cases h),λh=>by rcases h with h | h | h | h;exact absurd h (by omega);exact absurd h (by omega);exact absurd h (by omega);exact absurd h.2 (by decide)⟩),E.ab [0,1,6,7,8,9,10,44],I⟩
   refine BY 6 E I (λhV a E=>?_) λhV a E=>?_
   ·
    refine RN 10 E I λa E=>?_;exact⟨_,by first | (rw[cr];omega) | exact⟨λh=>(by cases h),λh=>absurd h (by omega)⟩ | exact⟨λ_=>by omega,λ_=>rfl⟩ | (cases fi;exact⟨λ_=>.inr (.inr (.inr ⟨by omega,rfl⟩)),λ_=>rfl⟩;exact⟨λh=>(by cases h),λh=>by rcases h with h | h | h | h;exact absurd h (by omega);exact absurd h (by omega);exact absurd h (by omega);exact absurd h.2 (by decide)⟩),E.ab [0,1,6,7,8,9,10,44],I⟩
   refine RN 3 E I λa E=>?_;refine bC E (cI E rfl (s:=34)) (ae E (((a7 _ I.tail).rd (by omega)) k _ (kX (by omega)))) rfl λa E=>?_;refine BY 2 E I (λoZ a E=>?_) λoZ a E=>?_
   ·
    refine RN 4 E I λa E=>?_;exact⟨_,by first | (rw[cr];omega) | exact⟨λh=>(by cases h),λh=>absurd h (by omega)⟩ | exact⟨λ_=>by omega,λ_=>rfl⟩ | (cases fi;exact⟨λ_=>.inr (.inr (.inr ⟨by omega,rfl⟩)),λ_=>rfl⟩;exact⟨λh=>(by cases h),λh=>by rcases h with h | h | h | h;exact absurd h (by omega);exact absurd h (by omega);exact absurd h (by omega);exact absurd h.2 (by decide)⟩),E.ab [0,1,6,7,8,9,10,44],I⟩
   refine RN 4 E I λa E=>?_;exact⟨_,by first | (rw[cr];omega) | exact⟨λh=>(by cases h),λh=>absurd h (by omega)⟩ | exact⟨λ_=>by omega,λ_=>rfl⟩ | (cases fi;exact⟨λ_=>.inr (.inr (.inr ⟨by omega,rfl⟩)),λ_=>rfl⟩;exact⟨λh=>(by cases h),λh=>by rcases h with h | h | h | h;exact absurd h (by omega);exact absurd h (by omega);exact absurd h (by omega);exact absurd h.2 (by decide)⟩),E.ab [0,1,6,7,8,9,10,44],I⟩
  clear E;(try clear I);rintro a w ⟨z,hz,E,I⟩;refine IF 0 E I (λao a E=>?_) λao a E=>?_
  ·
   have jP:=hz.1 ao;refine RT 3 E I ?_;exact⟨[],none,0,1,rfl,sI.bad mX hm bP hg (by rcases jP with h | h | h | h;exact .inl h;exact .inr (.inl h);exact .inr (.inr (.inl (by omega)));exact .inr (.inr (.inr (.inl ⟨Es h.2,h.1⟩)))) (.inl rfl),I.tail.bO _ _ _⟩
  have DT:¬ (er≠0∨x<1∨rest.length≤k∨((rest.getD k 0).toNat=0∧fi=false)):=λh=>absurd (hz.2 h) (by simp[ao]);refine IF 9 E I (λaz a E=>?_) λaz a E=>?_
  ·
   refine RT 3 E I ?_;exact⟨[],none,0,4,rfl,sI.bad mX hm bP hg (.inr (.inr (.inr (.inr (by omega))))) (.inr rfl),I.tail.bO _ _ _⟩
  refine RN 5 E I λa E=>?_;refine SS E (ae E (((a7 _ I.tail).rd (by omega)) k _ (kX (by omega)))) λa E=>?_;refine RN 2 E I λa E=>?_;generalize hy:last ^^^ rest.getD k 0=y at E;refine RN 3 E I λa E=>?_;refine aP (λμ a w=>∃ (j c2:Nat) (ad2:Option Addr),(μ=x.toNat-j∧j≤x.toNat)∧Fr a 72 [(0,.slice (some ⟨bb,oo,none⟩) rest.length oj),(1,.int .i64 m),(6,.slice ad2 (dn++List.replicate j y).length c2),(7,.int .u8 (y.toNat:Int)),(8,.bool fi),(9,.int .i64 x),(10,.int .i64 k),(12,.int .i64 j)]∧U W w (Sl 5 1 ad2 (dn++List.replicate j y).length c2 (bc (dn++List.replicate j y))::L)) (x.toNat) (⟨0,c',av,⟨rfl,by omega⟩,by rw[List.replicate_zero,append_nil];exact E.ab [0,1,6,7,8,9,10,12],by rw[List.replicate_zero,append_nil];exact I⟩) ?_;clear E I;rintro μ a w ⟨j,c2,ad2,⟨rfl,hj⟩,E,I⟩;refine IF 5 E I (λbh a E=>?_) λbh a E=>?_
  ·
   refine RN 1 E I λa E=>?_;have eH:(dn++List.replicate j y).length=dn.length+j:=by simp
   refine RN 2 E I λa E=>?_;refine cp E rfl I underlying22 Ty.t5 rfl rfl rfl rfl (by decide) (by decide) λQT a w E I ho=>?_;clear ho;refine RN 0 E I λa E=>?_;refine cQ E rfl I underlying22 Ty.t5 rfl rfl I.ai rfl (by simp[Value.oneCell']) (by decide) (by decide) (by omega) λaeR c66 a w E I=>?_;refine RN 1 E I λa E=>?_;rw[ub,show (dn++List.replicate j y)++[y]=dn++List.replicate (j+1) y from by rw[dA,← replicate_succ']]at I;rw[show (dn++List.replicate j y).length+1=(dn++List.replicate (j+1) y).length from by simp;omega]at E I;refine RN 3 E I λa E=>?_;exact⟨x.toNat-(j+1),by omega,j+1,_,_,⟨rfl,by omega⟩,E.ab [0,1,6,7,8,9,10,12],I.sub⟩
  obtain rfl:j=x.toNat:=by omega
  refine RN 0 E I λa E=>?_;have o6:(dn++List.replicate x.toNat y).length=dn.length+x.toNat:=by simp
  refine RN 5 E I λa E=>?_;rw[show rest.length-(k+1)=(rest.drop (k+1)).length from by simp]at E;refine RN 1 E I λa E=>?_;exact⟨(rest.drop (k+1)).length,by simp;omega,0,_,_,_,_,_,rest.drop (k+1),y,false,⟨rfl,by simp;omega,by simp;omega,by omega,λ_ e=>(by rw[e]at o6;simp at o6;omega),λV hw=>(a7 V hw).tX (by omega) jy,λp uc e=>(by
   have h2:=((mX p uc e).get (by omega) bP hg).2.2.2.2.2;rw[hy]at h2;exact h2)⟩,E.ab [0,1,6,7,8],I⟩
 refine RT 4 E I ?_;have Et:rest=[]:=g5 (by omega);exact⟨dn,_,_,0,rfl,⟨by omega,Er,λp uc e=>⟨by have h2:=mX p uc e;rw[Et]at h2;exact h2.done.symm,rfl⟩⟩,I⟩
end
end
section
abbrev dL (p:Pk)(ad:Option Addr)(c:Nat):List Value:=[.int .i64 p.kind,.int .i64 p.aZ,.int .i64 p.to,.int .i64 p.id,.int .i64 p.first,.slice ad p.ak.length c,.int .i64 p.dd,.int .i64 p.frame,.int .u32 p.sum]
def pn (m:Int)(ns:List Int):Prop:=∀ n∈ns,0≤n∧n≤m
def Eu (ns:List Int):List Value:=ns.map λn=>.int .i64 n
theorem Xy {ns:List Int}{i:Nat}(h:i<ns.length):(Eu ns)[i]?=some (.int .i64 ns[i]):=by simp[Eu,h]
def iC (p:Pk):Prop:=(0≤p.aZ∧p.aZ≤7)∧(0≤p.to∧p.to≤7)∧p.aZ≠p.to∧(0≤p.id∧p.id≤1099511627776)
theorem Ew {p:Pk}(h:iC p)(hk:p.kind=1):hs p↔(pn 1000 [p.first,p.dd,p.frame]∧p.ak.length≤32):=by
 unfold iC at h;simp only[hs,pn,eK,forall_mem_cons,not_mem_nil,false_implies,implies_true,and_true];omega
theorem Ey {p:Pk}(h:iC p)(hk:p.kind=2):hs p↔(pn 0 [p.first,p.dd,p.frame,(p.ak.length:Int)]∧p.sum=0):=by
 unfold iC at h;simp only[hs,pn,eK,forall_mem_cons,not_mem_nil,false_implies,implies_true,and_true];omega
theorem Ai {p:Pk}(h:hs p):iC p:=⟨h.1,h.2.1,h.2.2.1,h.2.2.2.1⟩
theorem xX {p:Pk}(h:hs p):p.kind=1∨p.kind=2:=by
 rcases h.2.2.2.2 with h | h
 ·exact .inl h.1
 ·exact .inr h.1
section
variable {W w:World}{L:List SP}{n c:Nat}{ad:Option Addr}{p:Pk}
theorem Ez {ns:List Int}{b:Nat}{M:Int}(I:U W w L)(hb:ns.length≤1000)(hp:∀ V,U W V L→Rd V b 0 (Eu ns)) :
   Calls prog 342 #[.int .i64 M,.slice (some ⟨b,0,none⟩) ns.length ns.length] w λe V=>∃ r:Bool,e=.returned (.bool r)∧(r=true↔pn M ns)∧U W V L:=by
 refine EN func342 ntmps342 rfl rfl λa E=>?_;refine RN 7 E I λa E=>?_;refine aP (λμ a w=>∃ (i:Nat),(μ=ns.length-i∧i≤ns.length∧pn M (ns.take i))∧Fr a 21 [(0,.int .i64 M),(7,.slice (some ⟨b,0,none⟩) ns.length ns.length),(8,.int .i64 ns.length),(9,.int .i64 i)]∧U W w L) (ns.length) (⟨0,⟨rfl,by omega,λn h=>by simp at h⟩,E.ab [0,7,8,9],I⟩) ?_;clear E I;rintro μ a w ⟨i,⟨rfl,hi,cF⟩,E,I⟩;refine IF 3 E I (λaj a E=>?_) λaj a E=>?_
 ·
  have aG:i<ns.length:=by omega
  refine RN 3 E I λa E=>?_;refine SS E (ae E (by have:=hp _ I i _ (Xy aG);rwa [Nat.zero_add]at this)) λa E=>?_;refine RN 1 E I λa E=>?_;refine cc (M:=λa w=>∃ z:Bool,(z=true↔¬ (0≤ns[i]∧ns[i]≤M))∧Fr a 21 [(0,.int .i64 M),(7,.slice (some ⟨b,0,none⟩) ns.length ns.length),(8,.int .i64 ns.length),(9,.int .i64 i),(19,.bool z)]∧U W w L) ?_ ?_
  ·
   refine BY 3 E I (λbA a E=>?_) λbA a E=>?_
   ·
    refine RN 4 E I λa E=>?_;exact⟨_,by first | (rw[cr];omega) | exact⟨λh=>(by cases h),λh=>absurd h (by omega)⟩ | exact⟨λ_=>by omega,λ_=>rfl⟩,E.ab [0,7,8,9,19],I⟩
   refine RN 4 E I λa E=>?_;exact⟨_,by first | (rw[cr];omega) | exact⟨λh=>(by cases h),λh=>absurd h (by omega)⟩ | exact⟨λ_=>by omega,λ_=>rfl⟩,E.ab [0,7,8,9,19],I⟩
  clear E;(try clear I);rintro a w ⟨z,hz,E,I⟩;refine IF 0 E I (λao a E=>?_) λao a E=>?_
  ·
   refine RT 2 E I ?_;exact⟨_,rfl,⟨λh=>(by cases h),λh=>absurd (h _ (getElem_mem aG)) (hz.1 ao)⟩,I⟩
  refine RN 2 E I λa E=>?_;exact⟨ns.length-(i+1),by omega,i+1,⟨rfl,by omega,λn hn=>by
   rw[iZ aG,eR,mem_singleton]at hn;rcases hn with hn | rfl
   ·exact cF n hn
   ·exact Classical.byContradiction λh=>by have:=hz.2 h;rw[ao]at this;cases this⟩,E.ab [0,7,8,9],I⟩
 refine RT 2 E I ?_;rw[fY (by omega)]at cF;exact⟨_,rfl,⟨λ_=>cF,λ_=>rfl⟩,I⟩
theorem Kd {M a b:Int}:pn M [a,b]↔(0≤a∧a≤M)∧(0≤b∧b≤M):=by simp[pn]
theorem Xz {M a b c:Int}:pn M [a,b,c]↔(0≤a∧a≤M)∧(0≤b∧b≤M)∧(0≤c∧c≤M):=by simp[pn]
theorem XA (I:U W w L):Calls prog 336 #[.agg (dL p ad c).toArray] w λe V=>∃ r:Bool,e=.returned (.bool r)∧(r=true↔hs p)∧U W V L:=by
 have q8:=I;refine EN func336 ntmps336 rfl rfl λa E=>?_;refine BX 1 E I λb1 a w E I=>?_;refine RN 2 E I λa E=>?_;refine cc (M:=λa w=>∃ (z:Bool) (b1:Nat),(z=true↔¬ iC p)∧Fr a 63 [(1,pt b1),(26,.bool z)]∧U W w (aa b1 203 (dL p ad c)::L)) ?_ ?_
 ·
  refine RN 4 E I λa E=>?_;refine cp E rfl I underlying53 Ty.t3 rfl rfl rfl rfl (by decide) (by decide) λdv a w E I ho=>?_;clear ho;refine aR 0 E I (Ez (ns:=[p.aZ,p.to]) I (by simp) (λV hw=>hw.ai)) λr1 a w E ⟨ep,I⟩=>?_;refine BY 2 E I (λiB a E=>?_) λiB a E=>?_
  ·
   have hh:¬ iC p:=λh=>by
    have:=ep.2 (Kd.2 ⟨h.1,h.2.1⟩);rw[iB]at this;cases this
   refine RN 16 E I λa E=>?_;exact⟨_,_,⟨λ_=>hh,λ_=>rfl⟩,E.ab [1,26],I.sub⟩
  have hh:=Kd.1 (ep.1 iB);refine BY 7 E I (λkO a E=>?_) λkO a E=>?_
  ·
   refine RN 9 E I λa E=>?_;exact⟨_,_,by unfold iC;first | (rw[cr];omega) | exact⟨λh=>(by cases h),λh=>absurd h (by omega)⟩ | exact⟨λ_=>by omega,λ_=>rfl⟩,E.ab [1,26],I.sub⟩
  refine BY 5 E I (λpo a E=>?_) λpo a E=>?_
  ·
   refine RN 4 E I λa E=>?_;exact⟨_,_,by unfold iC;first | (rw[cr];omega) | exact⟨λh=>(by cases h),λh=>absurd h (by omega)⟩ | exact⟨λ_=>by omega,λ_=>rfl⟩,E.ab [1,26],I.sub⟩
  refine RN 4 E I λa E=>?_;exact⟨_,_,by unfold iC;first | (rw[cr];omega) | exact⟨λh=>(by cases h),λh=>absurd h (by omega)⟩ | exact⟨λ_=>by omega,λ_=>rfl⟩,E.ab [1,26],I.sub⟩
 clear E;(try clear I);rintro a w ⟨z,b1,hz,E,I⟩;refine IF 0 E I (λaj a E=>?_) λaj a E=>?_
 ·
  have hn:=hz.1 aj;refine RT 2 E I ?_;exact⟨_,rfl,⟨λh=>(by cases h),λh=>absurd (Ai h) hn⟩,I.sub⟩
 have hh:iC p:=Classical.byContradiction λh=>by have:=hz.2 h;rw[aj]at this;cases this
 refine IF 7 E I (λao a E=>?_) λao a E=>?_
 ·
  have gS:p.kind=1:=ao;refine RN 7 E I λa E=>?_;refine cp E rfl I underlying53 Ty.t3 rfl rfl rfl rfl (by decide) (by decide) λUM a w E I ho=>?_;clear ho;refine aR 0 E I (Ez (ns:=[p.first,p.dd,p.frame]) I (by simp) (λV hw=>hw.ai)) λXB a w E ⟨om,I⟩=>?_;refine BY 1 E I (λeh a E=>?_) λeh a E=>?_
  ·
   refine RT 6 E I ?_;refine⟨_,rfl,?_,I.sub⟩;rw[Ew hh gS,cr];exact⟨λh=>⟨om.1 eh,by omega⟩,λh=>by omega⟩
  refine RT 6 E I ?_;exact⟨_,rfl,⟨λh=>(by cases h),λh=>by have:=om.2 ((Ew hh gS).1 h).1;rw[eh]at this;cases this⟩,I.sub⟩
 refine IF 3 E I (λaz a E=>?_) λaz a E=>?_
 ·
  have ca:p.kind=2:=az;refine RN 10 E I λa E=>?_;refine cp E rfl I underlying53 Ty.t3 rfl rfl rfl rfl (by decide) (by decide) λXC a w E I ho=>?_;clear ho;refine aR 0 E I (Ez (ns:=[p.first,p.dd,p.frame,(p.ak.length:Int)]) I (by simp) (λV hw=>hw.ai)) λaeS a w E ⟨vQ,I⟩=>?_;refine BY 1 E I (λkP a E=>?_) λkP a E=>?_
  ·
   refine RT 5 E I ?_;refine⟨_,rfl,?_,I.sub⟩;rw[Ey hh ca,cr];exact⟨λh=>⟨vQ.1 kP,by omega⟩,λh=>by omega⟩
  refine RT 5 E I ?_;exact⟨_,rfl,⟨λh=>(by cases h),λh=>by have:=vQ.2 ((Ey hh ca).1 h).1;rw[kP]at this;cases this⟩,I.sub⟩
 refine RT 2 E I ?_;exact⟨_,rfl,⟨λh=>(by cases h),λh=>by rcases xX h with h | h;exact absurd h ao;exact absurd h az⟩,I.sub⟩
theorem EA {x:Int}(I:U W w L):Calls prog 191 #[.int .i64 x] w λe V=>∃ r:Bool,e=.returned (.bool r)∧(r=true↔eK x)∧U W V L:=by
 refine EN func191 ntmps191 rfl rfl λa E=>?_;refine BY 6 E I (λbA a E=>?_) λbA a E=>?_
 ·
  refine RT 4 E I ?_;exact⟨_,rfl,by unfold eK;first | (rw[cr];omega) | exact⟨λh=>(by cases h),λh=>absurd h (by omega)⟩,I⟩
 refine RT 4 E I ?_;exact⟨_,rfl,by unfold eK;first | (rw[cr];omega) | exact⟨λh=>(by cases h),λh=>absurd h (by omega)⟩,I⟩
theorem XD (I:U W w L):Calls prog 156 #[.agg (dL p ad c).toArray] w λe V=>∃ r:Bool,e=.returned (.bool r)∧(r=true↔hs p)∧U W V L:=by
 refine EN func156 ntmps156 rfl rfl λa E=>?_;refine BX 1 E I λb1 a w E I=>?_;refine RN 2 E I λa E=>?_;refine cc (M:=λa w=>∃ (z:Bool) (b1:Nat),(z=true↔¬ (iC p∧1≤p.kind∧p.kind≤2))∧Fr a 94 [(1,pt b1),(47,.bool z)]∧U W w (aa b1 203 (dL p ad c)::L)) ?_ ?_
 ·
  refine BY 4 E I (λbF a E=>?_) λbF a E=>?_
  ·
   refine RN 41 E I λa E=>?_;exact⟨_,_,by unfold iC;first | (rw[cr];omega) | exact⟨λh=>(by cases h),λh=>absurd h (by omega)⟩ | exact⟨λ_=>by omega,λ_=>rfl⟩,E.ab [1,47],I.sub⟩
  refine BY 5 E I (λeh a E=>?_) λeh a E=>?_
  ·
   refine RN 36 E I λa E=>?_;exact⟨_,_,by unfold iC;first | (rw[cr];omega) | exact⟨λh=>(by cases h),λh=>absurd h (by omega)⟩ | exact⟨λ_=>by omega,λ_=>rfl⟩,E.ab [1,47],I.sub⟩
  refine BY 5 E I (λkv a E=>?_) λkv a E=>?_
  ·
   refine RN 31 E I λa E=>?_;exact⟨_,_,by unfold iC;first | (rw[cr];omega) | exact⟨λh=>(by cases h),λh=>absurd h (by omega)⟩ | exact⟨λ_=>by omega,λ_=>rfl⟩,E.ab [1,47],I.sub⟩
  refine BY 5 E I (λoZ a E=>?_) λoZ a E=>?_
  ·
   refine RN 26 E I λa E=>?_;exact⟨_,_,by unfold iC;first | (rw[cr];omega) | exact⟨λh=>(by cases h),λh=>absurd h (by omega)⟩ | exact⟨λ_=>by omega,λ_=>rfl⟩,E.ab [1,47],I.sub⟩
  refine BY 5 E I (λkn a E=>?_) λkn a E=>?_
  ·
   refine RN 21 E I λa E=>?_;exact⟨_,_,by unfold iC;first | (rw[cr];omega) | exact⟨λh=>(by cases h),λh=>absurd h (by omega)⟩ | exact⟨λ_=>by omega,λ_=>rfl⟩,E.ab [1,47],I.sub⟩
  refine BY 5 E I (λXE a E=>?_) λXE a E=>?_
  ·
   refine RN 16 E I λa E=>?_;exact⟨_,_,by unfold iC;first | (rw[cr];omega) | exact⟨λh=>(by cases h),λh=>absurd h (by omega)⟩ | exact⟨λ_=>by omega,λ_=>rfl⟩,E.ab [1,47],I.sub⟩
  refine BY 7 E I (λvR a E=>?_) λvR a E=>?_
  ·
   refine RN 9 E I λa E=>?_;exact⟨_,_,by unfold iC;first | (rw[cr];omega) | exact⟨λh=>(by cases h),λh=>absurd h (by omega)⟩ | exact⟨λ_=>by omega,λ_=>rfl⟩,E.ab [1,47],I.sub⟩
  refine BY 5 E I (λXF a E=>?_) λXF a E=>?_
  ·
   refine RN 4 E I λa E=>?_;exact⟨_,_,by unfold iC;first | (rw[cr];omega) | exact⟨λh=>(by cases h),λh=>absurd h (by omega)⟩ | exact⟨λ_=>by omega,λ_=>rfl⟩,E.ab [1,47],I.sub⟩
  refine RN 4 E I λa E=>?_;exact⟨_,_,by unfold iC;first | (rw[cr];omega) | exact⟨λh=>(by cases h),λh=>absurd h (by omega)⟩ | exact⟨λ_=>by omega,λ_=>rfl⟩,E.ab [1,47],I.sub⟩
 clear E;(try clear I);rintro a w ⟨z,b1,hz,E,I⟩;refine IF 0 E I (λaj a E=>?_) λaj a E=>?_
 ·
  have hn:=hz.1 aj;refine RT 2 E I ?_;exact⟨_,rfl,⟨λh=>(by cases h),λh=>absurd ⟨Ai h,by have:=xX h;omega⟩ hn⟩,I.sub⟩
 have hh:iC p∧1≤p.kind∧p.kind≤2:=Classical.byContradiction λh=>by have:=hz.2 h;rw[aj]at this;cases this
 refine IF 5 E I (λao a E=>?_) λao a E=>?_
 ·
  have ca:p.kind=2:=ao;have j6:=Ey hh.1 ca;simp only[pn,forall_mem_cons,not_mem_nil,false_implies,implies_true,and_true]at j6;refine BY 5 E I (λbF a E=>?_) λbF a E=>?_
  ·
   refine BY 6 E I (λua a E=>?_) λua a E=>?_
   ·
    refine BY 5 E I (λkO a E=>?_) λkO a E=>?_
    ·
     refine BY 5 E I (λpo a E=>?_) λpo a E=>?_
     ·
      refine RT 5 E I ?_
      first | exact⟨_,rfl,by rw[j6];first | (rw[cr];omega) | exact⟨λh=>(by cases h),λh=>absurd h (by omega)⟩ | exact⟨λ_=>by omega,λ_=>rfl⟩,I.sub⟩ | exact⟨_,rfl,by rw[gH];first | (rw[cr];omega) | exact⟨λh=>(by cases h),λh=>absurd h (by omega)⟩ | exact⟨λ_=>by omega,λ_=>rfl⟩,I.sub⟩
     refine RT 5 E I ?_
     first | exact⟨_,rfl,by rw[j6];first | (rw[cr];omega) | exact⟨λh=>(by cases h),λh=>absurd h (by omega)⟩ | exact⟨λ_=>by omega,λ_=>rfl⟩,I.sub⟩ | exact⟨_,rfl,by rw[gH];first | (rw[cr];omega) | exact⟨λh=>(by cases h),λh=>absurd h (by omega)⟩ | exact⟨λ_=>by omega,λ_=>rfl⟩,I.sub⟩
    refine RT 10 E I ?_
    first | exact⟨_,rfl,by rw[j6];first | (rw[cr];omega) | exact⟨λh=>(by cases h),λh=>absurd h (by omega)⟩ | exact⟨λ_=>by omega,λ_=>rfl⟩,I.sub⟩ | exact⟨_,rfl,by rw[gH];first | (rw[cr];omega) | exact⟨λh=>(by cases h),λh=>absurd h (by omega)⟩ | exact⟨λ_=>by omega,λ_=>rfl⟩,I.sub⟩
   refine RT 15 E I ?_
   first | exact⟨_,rfl,by rw[j6];first | (rw[cr];omega) | exact⟨λh=>(by cases h),λh=>absurd h (by omega)⟩ | exact⟨λ_=>by omega,λ_=>rfl⟩,I.sub⟩ | exact⟨_,rfl,by rw[gH];first | (rw[cr];omega) | exact⟨λh=>(by cases h),λh=>absurd h (by omega)⟩ | exact⟨λ_=>by omega,λ_=>rfl⟩,I.sub⟩
  refine RT 21 E I ?_
  first | exact⟨_,rfl,by rw[j6];first | (rw[cr];omega) | exact⟨λh=>(by cases h),λh=>absurd h (by omega)⟩ | exact⟨λ_=>by omega,λ_=>rfl⟩,I.sub⟩ | exact⟨_,rfl,by rw[gH];first | (rw[cr];omega) | exact⟨λh=>(by cases h),λh=>absurd h (by omega)⟩ | exact⟨λ_=>by omega,λ_=>rfl⟩,I.sub⟩
 have gS:p.kind=1:=by omega
 have gH:=Ew hh.1 gS;rw[Xz]at gH;refine aR 3 E I (EA I) λf1 a w E ⟨iX,I⟩=>?_;refine BY 1 E I (λbF a E=>?_) λbF a E=>?_
 ·
  have k1:=iX.1 bF;unfold eK at k1;refine aR 2 E I (EA I) λf2 a w E ⟨ju,I⟩=>?_;refine BY 2 E I (λeh a E=>?_) λeh a E=>?_
  ·
   have k2:=ju.1 eh;unfold eK at k2;refine aR 2 E I (EA I) λf3 a w E ⟨Ke,I⟩=>?_;refine BY 2 E I (λkv a E=>?_) λkv a E=>?_
   ·
    have k3:=Ke.1 kv;unfold eK at k3;refine RT 6 E I ?_
    first | exact⟨_,rfl,by rw[j6];first | (rw[cr];omega) | exact⟨λh=>(by cases h),λh=>absurd h (by omega)⟩ | exact⟨λ_=>by omega,λ_=>rfl⟩,I.sub⟩ | exact⟨_,rfl,by rw[gH];first | (rw[cr];omega) | exact⟨λh=>(by cases h),λh=>absurd h (by omega)⟩ | exact⟨λ_=>by omega,λ_=>rfl⟩,I.sub⟩
   have k3:¬ eK p.frame:=λh=>by rw[Ke.2 h]at kv;cases kv
   unfold eK at k3;refine RT 6 E I ?_
   first | exact⟨_,rfl,by rw[j6];first | (rw[cr];omega) | exact⟨λh=>(by cases h),λh=>absurd h (by omega)⟩ | exact⟨λ_=>by omega,λ_=>rfl⟩,I.sub⟩ | exact⟨_,rfl,by rw[gH];first | (rw[cr];omega) | exact⟨λh=>(by cases h),λh=>absurd h (by omega)⟩ | exact⟨λ_=>by omega,λ_=>rfl⟩,I.sub⟩
  have k2:¬ eK p.dd:=λh=>by rw[ju.2 h]at eh;cases eh
  unfold eK at k2;refine RT 11 E I ?_
  first | exact⟨_,rfl,by rw[j6];first | (rw[cr];omega) | exact⟨λh=>(by cases h),λh=>absurd h (by omega)⟩ | exact⟨λ_=>by omega,λ_=>rfl⟩,I.sub⟩ | exact⟨_,rfl,by rw[gH];first | (rw[cr];omega) | exact⟨λh=>(by cases h),λh=>absurd h (by omega)⟩ | exact⟨λ_=>by omega,λ_=>rfl⟩,I.sub⟩
 have k1:¬ eK p.first:=λh=>by rw[iX.2 h]at bF;cases bF
 unfold eK at k1;refine RT 16 E I ?_
 first | exact⟨_,rfl,by rw[j6];first | (rw[cr];omega) | exact⟨λh=>(by cases h),λh=>absurd h (by omega)⟩ | exact⟨λ_=>by omega,λ_=>rfl⟩,I.sub⟩ | exact⟨_,rfl,by rw[gH];first | (rw[cr];omega) | exact⟨λh=>(by cases h),λh=>absurd h (by omega)⟩ | exact⟨λ_=>by omega,λ_=>rfl⟩,I.sub⟩
end
end
section
def q9 (p:Pk):List Int:=[p.first,p.dd,p.frame]
def hE (p:Pk)(i:Nat):List UInt8:=ln p++(aN (zz p.id)++((q9 p).take i).flatMap λn=>aN (zz n))
theorem XG {p:Pk}{i:Nat}(h:i<3):hE p (i+1)=hE p i++aN (zz ((q9 p).getD i 0)):=by
 have hl:i<(q9 p).length:=h;rw[hE,hE,iZ hl,List.flatMap_append,dA,dA,bl,aF hl];simp
theorem Kf {p:Pk}(h:p.kind=1):hE p 3++(ff p.sum++(aN (zz (p.ak.length:Int))++dC p.ak 0))=ic p:=by
 simp[hE,ic,kW,m1,h,lO,q9]
theorem Kg {p:Pk}(h:p.kind≠1):hE p 0=ic p:=by simp[hE,ic,kW,m1,h]
theorem EB {p:Pk}(h:hs p){i:Nat}(hi:i≤3):(hE p i).length≤43:=by
 obtain⟨h1,h2,h3,h4,h5⟩:=h;have hq:∀ n:Int,0≤n→n≤1099511627776→(aN (zz n)).length≤10:=λn a b=>q5 (by omega) (by omega);have hf:(0≤p.first∧p.first≤1000)∧(0≤p.dd∧p.dd≤1000)∧(0≤p.frame∧p.frame≤1000):=by unfold eK at h5;omega
 have a0:=hq p.id (by omega) (by omega);have dj:=hq p.first (by omega) (by omega);have dW:=hq p.dd (by omega) (by omega);have a3:=hq p.frame (by omega) (by omega);rcases (by omega:i=0∨i=1∨i=2∨i=3) with rfl | rfl | rfl | rfl <;> simp[hE,ln,q9] <;> omega
theorem XH {p:Pk}{i:Nat}(h:i<3):([Value.int .i64 p.first,.int .i64 p.dd,.int .i64 p.frame]:List Value)[i]?=some (.int .i64 ((q9 p).getD i 0)):=by
 rcases (by omega:i=0∨i=1∨i=2) with rfl | rfl | rfl <;> rfl
theorem XI {p:Pk}(h:hs p)(i:Nat):0≤(q9 p).getD i 0∧(q9 p).getD i 0≤1000:=by
 have h5:=h.2.2.2.2;have hf:(0≤p.first∧p.first≤1000)∧(0≤p.dd∧p.dd≤1000)∧(0≤p.frame∧p.frame≤1000):=by unfold eK at h5;omega
 match i with
 | 0=>exact hf.1
 | 1=>exact hf.2.1
 | 2=>exact hf.2.2
 | _+3=>exact⟨Int.le_refl _,by show (0:Int)≤1000;omega⟩
theorem EC {p:Pk}(h:hs p):[[Value.int .u8 p.kind],[Value.int .u8 p.aZ],[Value.int .u8 p.to]].flatten=bc (ln p):=by
 have hk:=xX h;obtain⟨h1,h2,h3,h4,h5⟩:=h;simp[bc,ln,UInt8.toNat_ofNat'];omega
theorem Kh {p:Pk}(h:hs p):(ic p).length≤503:=by
 have:=J3 h;simp[ic,ln];omega
section
variable {W w:World}{L:List SP}{n c:Nat}{ad:Option Addr}{bs:List UInt8}{p:Pk}
theorem Ki (I:U W w L)(lP:p.sum<4294967296)(hp:∀ V,U W V L→aQ V ad p.ak.length p.ak) :
   Calls prog 330 #[.agg (dL p ad c).toArray] w λe V=>∃ av c',e=.returned (.slice av (aS p).length c')∧U W V (Sl 5 1 av (aS p).length c' (bc (aS p))::L):=by
 refine EN func330 ntmps330 rfl rfl λa E=>?_;refine BX 1 E I λb1 a w E I=>?_;refine aR 4 E I (XA (p:=p) (ad:=ad) (c:=c) I) λr1 a w E ⟨ep,I⟩=>?_;refine IF 1 E I (λaj a E=>?_) λaj a E=>?_
 ·
  have hn:¬ hs p:=λh=>by rw[ep.2 h]at aj;cases aj
  refine RT 2 E I ?_;have he:aS p=[]:=by rw[aS,ag hn]
  rw[he];exact⟨none,0,rfl,I.tail.bO _ _ _⟩
 have hm:hs p:=ep.1 aj;have hk:=xX hm;have hh:=Ai hm;unfold iC at hh;have he:aS p=ic p++ff (jh (ic p)):=by rw[aS,al hm,pf]
 have nX:=Kh hm;refine SX 3 E I (by rw[wrap_u8];omega) λa E=>?_;refine SX 2 E I (by rw[wrap_u8];omega) λa E=>?_;refine SX 2 E I (by rw[wrap_u8];omega) λa E=>?_;refine RN 0 E I λa E=>?_;refine cp E rfl I underlying22 Ty.t5 rfl rfl rfl rfl (by decide) (by decide) λsC a w E I ho=>?_;clear ho;replace I:=I.D0 (l:=ln p) rfl rfl (EC hm);refine a6 2 E I (so (bs:=ln p) (N:=p.id) I (by omega) (by omega) (by simp[ln])) λfo c7 a w E I=>?_;refine RN 1 E I λa E=>?_;rw[show ln p++aN (zz p.id)=hE p 0 from by simp[hE]]at E I;refine cc (M:=λa w=>∃ (fo:Option Addr) (c7:Nat),Fr a 58 [(3,.slice fo (ic p).length c7)]∧U W w (Sl 5 1 fo (ic p).length c7 (bc (ic p))::L)) ?_ ?_
 ·
  refine IF 4 E I (λao a E=>?_) λao a E=>?_
  ·
   have gS:p.kind=1:=ao;have eF:p.ak.length≤32:=by have:=hm.2.2.2.2;omega
   refine RN 8 E I λa E=>?_;refine SS E (Cs E underlying429 Ty.t429 Ty.t3 rfl rfl) λa E=>?_;refine RN 1 E I λa E=>?_;refine aP (λμ a w=>∃ (i c7:Nat) (fo:Option Addr),(μ=3-i∧i≤3)∧Fr a 58 [(1,pt b1),(3,.slice fo (hE p i).length c7),(31,.agg #[.int .i64 p.first,.int .i64 p.dd,.int .i64 p.frame]),(32,.int .i64 i)]∧U W w (Sl 5 1 fo (hE p i).length c7 (bc (hE p i))::aa b1 203 (dL p ad c)::L)) (3) (⟨0,c7,fo,⟨rfl,by omega⟩,E.ab [1,3,31,32],I⟩) ?_;clear E I;rintro μ a w ⟨i,c7,fo,⟨rfl,hi⟩,E,I⟩;refine IF 3 E I (λaz a E=>?_) λaz a E=>?_
   ·
    refine RN 2 E I λa E=>?_;refine SS E (rT E underlying429 underlying3 rfl Ty.t3 (by omega) (XH (p:=p) (by omega))) λa E=>?_;refine RN 1 E I λa E=>?_;have cF:=XI hm i;have qL:=EB hm (show i≤3 by omega);refine a6 2 E I (so I (by omega) (by omega) (by omega)) λmc fP a w E I=>?_;refine RN 1 E I λa E=>?_;rw[← XG (by omega)]at E I;refine RN 2 E I λa E=>?_;exact⟨3-(i+1),by omega,i+1,_,_,⟨rfl,by omega⟩,E.ab [1,3,31,32],I.sub⟩
   obtain rfl:i=3:=by omega
   have qL:=EB hm (bk 3);have gW:=q5 (n:=(p.ak.length:Int)) (by omega) (by omega);have jg:=Kf gS;generalize hE p 3=XJ at E I qL jg;refine aY 1 (λw0 w=>Rd w b1 0 (dL p ad c)) [3,4,6,7] [0,1,5,3002,3006,3007,1003,1004,1008,9] E I λa w E I hH=>?_;have hC:Rd w b1 0 (dL p ad c):=I.ai;refine RH 3 E I hH hC λa E=>?_;refine QH E (λw hc=>ae E (hc 8 _ rfl)) hC λa E=>?_;refine QH E (λw hc=>ae E (hc 5 _ rfl)) hC λa E=>?_;refine RH 1 E I hH hC λa E=>?_;refine aR 0 E I (JW I) λei a w E I=>?_;replace hC:=hH.at w I.ai;refine RH 0 E I hH hC λa E=>?_;refine gU E rfl I underlying22 Ty.t5 rfl rfl (by decide) (λh0=>(I.cu ei (ff p.sum) rfl rfl).get h0) (by rw[dB];rfl) (ey _) (by rw[mw];omega) λvP Ep a w E I=>?_;replace hC:=hH.at w I.ai;rw[← fI,← aM]at I;rw[← aM]at E;refine RH 0 E I hH hC λa E=>?_;refine a6 0 E I (so I (by omega) (by omega) (by rw[aM,mw];omega)) λsj kQ a w E I=>?_;refine RN 1 E I λa E=>?_;have hS:=xS p.ak 0;generalize hu:XJ++ff p.sum++aN (zz (p.ak.length:Int))=vS at E I;have aeT:vS.length≤60:=by rw[← hu];simp[mw];omega
   refine a6 3 E I (Xt (bs:=p.ak) I (by omega) (λV hw=>hp V hw.sub)) λr5 l5 a w E I=>?_;refine RN 0 E I λa E=>?_;refine gU E rfl I underlying22 Ty.t5 rfl rfl (by decide) (λh0=>(I.cu r5 _ rfl rfl).get h0) (by rw[dB,Nat.mul_one]) (ey _) (by omega) λra re a w E I=>?_;refine RN 1 E I λa E=>?_;rw[← fI,show vS.length+(dC p.ak 0).length=(vS++dC p.ak 0).length from by rw[aM]]at I;rw[show vS.length+(dC p.ak 0).length=(vS++dC p.ak 0).length from by rw[aM]]at E;rw[show vS++dC p.ak 0=ic p from by rw[← hu,← jg];simp]at E I;exact⟨_,_,E.ab [3],I.sub⟩
  rw[Kg (by omega)]at E I;refine RN 0 E I λa E=>?_;exact⟨_,_,E.ab [3],I.sub⟩
 clear E;(try clear I);rintro a w ⟨fo,c7,E,I⟩;refine CL 3 E I (JU I (by omega) (λV hw=>hw.cu fo _ rfl rfl)) λa w E I=>?_;refine aR 0 E I (JW I) λAj a w E I=>?_;refine RN 0 E I λa E=>?_;refine gU E rfl I underlying22 Ty.t5 rfl rfl (by decide) (λh0=>(I.cu Aj (ff (jh (ic p))) rfl rfl).get h0) (by rw[dB];rfl) (ey _) (by rw[mw];omega) λED EE a w E I=>?_;refine RT 1 E I ?_;rw[he];rw[← fI,← aM]at I;rw[← aM];exact⟨_,_,rfl,I.sub⟩
theorem EF (I:U W w L)(lP:p.sum<4294967296)(hp:∀ V,U W V L→aQ V ad p.ak.length p.ak) :
   Calls prog 114 #[.agg (dL p ad c).toArray] w λe V=>∃ av c',e=.returned (.slice av (aS p).length c')∧U W V (Sl 5 1 av (aS p).length c' (bc (aS p))::L):=by
 refine EN func114 ntmps114 rfl rfl λa E=>?_;refine BX 1 E I λb1 a w E I=>?_;refine aR 4 E I (XD (p:=p) (ad:=ad) (c:=c) I) λr1 a w E ⟨ep,I⟩=>?_;refine IF 1 E I (λaj a E=>?_) λaj a E=>?_
 ·
  have hn:¬ hs p:=λh=>by rw[ep.2 h]at aj;cases aj
  refine RT 2 E I ?_;have he:aS p=[]:=by rw[aS,ag hn]
  rw[he];exact⟨none,0,rfl,I.tail.bO _ _ _⟩
 have hm:hs p:=ep.1 aj;have hk:=xX hm;have hh:=Ai hm;unfold iC at hh;have he:aS p=ic p++ff (jh (ic p)):=by rw[aS,al hm,pf]
 have nX:=Kh hm;have bT:=q5 (n:=p.id) (by omega) (by omega);refine RN 0 E I λa E=>?_;refine cc (M:=λa w=>∃ (a3:Option Addr) (c7:Nat),Fr a 57 [(1,pt b1),(3,.slice a3 (hE p 0).length c7)]∧U W w (Sl 5 1 a3 (hE p 0).length c7 (bc (hE p 0))::aa b1 203 (dL p ad c)::L)) ?_ ?_
 ·
  refine aY 0 (λw0 w=>Rd w b1 0 (dL p ad c)) [4,5,7,8,9,11,12] [0,3,6,10,3001,2,3004,3005,3007,3008,3011,2009,1012,1013,14] E I λa w E I hH=>?_;have hC:Rd w b1 0 (dL p ad c):=I.ai;refine RH 4 E I hH hC λa E=>?_;refine QH E (λw hc=>ae E (hc 0 _ rfl)) hC λa E=>?_;refine QP E (λw=>oQ E underlying3 underlying5 (by rw[wrap_u8];omega)) λa E=>?_;refine QH E (λw hc=>ae E (hc 1 _ rfl)) hC λa E=>?_;refine QH E (λw hc=>oQ E underlying3 underlying5 (by rw[wrap_u8];omega)) hC λa E=>?_;refine QH E (λw hc=>ae E (hc 2 _ rfl)) hC λa E=>?_;refine QH E (λw hc=>oQ E underlying3 underlying5 (by rw[wrap_u8];omega)) hC λa E=>?_;refine QH E (λw hc=>ae E (hc 3 _ rfl)) hC λa E=>?_;refine RH 0 E I hH hC λa E=>?_;refine DN [(9,[1012,1013,14]),(12,[1009,1013,14])] (by kernel_rfl) rfl ⟨⟨_,rfl,?_⟩,⟨_,rfl,?_⟩,trivial⟩
  ·
   refine RH 0 E I hH hC λa E=>?_;refine cp E rfl I underlying22 Ty.t5 rfl rfl rfl rfl (by decide) (by decide) λrf a w E I ho=>?_;clear ho;replace hC:=hH.at w I.ai;replace I:=I.D0 (l:=ln p) rfl rfl (EC hm);refine RH 0 E I hH hC λa E=>?_;refine a6 0 E I (sH (N:=p.id) I (by omega) (by omega)) λc1 dR a w E I=>?_;replace hC:=hH.at w I.ai;refine RH 0 E I hH hC λa E=>?_;refine gU E rfl I underlying22 Ty.t5 rfl rfl (by decide) (λh0=>(I.cu c1 (aN (zz p.id)) rfl rfl).get h0) (by rw[dB,Nat.mul_one]) (ey _) (by omega) λxC Dt a w E I=>?_;refine RN 1 E I λa E=>?_;rw[show 3+(aN (zz p.id)).length=(ln p++aN (zz p.id)).length from by rw[aM];rfl]at E I;rw[← fI]at I;rw[show ln p++aN (zz p.id)=hE p 0 from by simp[hE]]at E I
   skip
   exact⟨_,_,E.ab [1,3],I.sub⟩
  refine RH 0 E I hH hC λa E=>?_;refine a6 0 E I (sH (N:=p.id) I (by omega) (by omega)) λc1 dR a w E I=>?_;replace hC:=hH.at w I.ai;refine RH 0 E I hH hC λa E=>?_;refine cp E rfl I underlying22 Ty.t5 rfl rfl rfl rfl (by decide) (by decide) λrf a w E I ho=>?_;clear ho;replace hC:=hH.at w I.ai;replace I:=I.D0 (l:=ln p) rfl rfl (EC hm);refine RH 0 E I hH hC λa E=>?_;refine gU E rfl I underlying22 Ty.t5 rfl rfl (by decide) (λh0=>(I.cu c1 (aN (zz p.id)) rfl rfl).get h0) (by rw[dB,Nat.mul_one]) (ey _) (by omega) λxC Dt a w E I=>?_;refine RN 1 E I λa E=>?_;rw[show 3+(aN (zz p.id)).length=(ln p++aN (zz p.id)).length from by rw[aM];rfl]at E I;rw[← fI]at I;rw[show ln p++aN (zz p.id)=hE p 0 from by simp[hE]]at E I
  skip
  exact⟨_,_,E.ab [1,3],I.sub⟩
 clear E;(try clear I);rintro a w ⟨a3,c7,E,I⟩;refine cc (M:=λa w=>∃ (fo:Option Addr) (c7:Nat),Fr a 57 [(3,.slice fo (ic p).length c7)]∧U W w (Sl 5 1 fo (ic p).length c7 (bc (ic p))::L)) ?_ ?_
 ·
  refine IF 4 E I (λao a E=>?_) λao a E=>?_
  ·
   have gS:p.kind=1:=ao;have eF:p.ak.length≤32:=by have:=hm.2.2.2.2;omega
   have oq:(0≤p.first∧p.first≤1000)∧(0≤p.dd∧p.dd≤1000)∧(0≤p.frame∧p.frame≤1000):=by have:=hm.2.2.2.2;unfold eK at this;omega
   have q1:=q5 (n:=p.first) (by omega) (by omega);have q2:=q5 (n:=p.dd) (by omega) (by omega);have xU:=q5 (n:=p.frame) (by omega) (by omega);have xV:=q5 (n:=(p.ak.length:Int)) (by omega) (by omega);have qL:=EB hm (show 0≤3 by decide);have jg:hE p 0++aN (zz p.first)++aN (zz p.dd)++aN (zz p.frame)++ff p.sum++aN (zz (p.ak.length:Int))++dC p.ak 0=ic p:=by rw[← Kf gS];simp[hE,q9]
   generalize hu0:hE p 0=xY at E I qL jg;refine aY 1 (λw0 w=>Rd w b1 0 (dL p ad c)) [3,4,6] [0,1,5,3002,3006,1003,1004,1007,1008,9] E I λa w E I hH=>?_;have hC:Rd w b1 0 (dL p ad c):=I.ai;refine RH 3 E I hH hC λa E=>?_;refine QH E (λw hc=>ae E (hc 4 _ rfl)) hC λa E=>?_;refine QH E (λw hc=>ae E (hc 6 _ rfl)) hC λa E=>?_;refine RH 0 E I hH hC λa E=>?_;refine a6 0 E I (sH I (by omega) (by omega)) λdj dN a w E I=>?_;replace hC:=hH.at w I.ai;refine RH 0 E I hH hC λa E=>?_;refine gU E rfl I underlying22 Ty.t5 rfl rfl (by decide) (λh0=>(I.cu dj (aN (zz p.first)) rfl rfl).get h0) (by rw[dB,Nat.mul_one]) (ey _) (by omega) λaeU c28 a w E I=>?_;replace hC:=hH.at w I.ai;rw[← fI,← aM]at I;rw[← aM]at E;refine RH 0 E I hH hC λa E=>?_;refine a6 0 E I (sH I (by omega) (by omega)) λdW c2 a w E I=>?_;have kM:(xY++aN (zz p.first)).length≤53:=by rw[aM];omega
   refine RN 0 E I λa E=>?_;refine gU E rfl I underlying22 Ty.t5 rfl rfl (by decide) (λh0=>(I.cu dW (aN (zz p.dd)) rfl rfl).get h0) (by rw[dB,Nat.mul_one]) (ey _) (by omega) λXK XL a w E I=>?_;rw[← fI,← aM]at I;rw[← aM]at E;refine RN 1 E I λa E=>?_;replace I:=I.sub (M:=Sl 5 1 XK (xY++aN (zz p.first)++aN (zz p.dd)).length XL (bc (xY++aN (zz p.first)++aN (zz p.dd)))::aa b1 203 (dL p ad c)::L);have ma:(xY++aN (zz p.first)++aN (zz p.dd)).length≤63:=by rw[aM];omega
   generalize xY++aN (zz p.first)++aN (zz p.dd)=xZ at E I ma jg;refine aY 1 (λw0 w=>Rd w b1 0 (dL p ad c)) [3,4,6] [0,1,5,3002,3006,1003,1004,1007,1008,9] E I λa w E I hH=>?_;have hC:Rd w b1 0 (dL p ad c):=I.ai;refine RH 3 E I hH hC λa E=>?_;refine QH E (λw hc=>ae E (hc 7 _ rfl)) hC λa E=>?_;refine QH E (λw hc=>ae E (hc 8 _ rfl)) hC λa E=>?_;refine RH 0 E I hH hC λa E=>?_;refine a6 0 E I (sH I (by omega) (by omega)) λdj dN a w E I=>?_;replace hC:=hH.at w I.ai;refine RH 0 E I hH hC λa E=>?_;refine gU E rfl I underlying22 Ty.t5 rfl rfl (by decide) (λh0=>(I.cu dj (aN (zz p.frame)) rfl rfl).get h0) (by rw[dB,Nat.mul_one]) (ey _) (by omega) λXM XN a w E I=>?_;replace hC:=hH.at w I.ai;rw[← fI,← aM]at I;rw[← aM]at E;refine RH 0 E I hH hC λa E=>?_;refine aR 0 E I (D6 I) λdW a w E I=>?_;have kM:(xZ++aN (zz p.frame)).length≤73:=by rw[aM];omega
   refine RN 0 E I λa E=>?_;refine gU E rfl I underlying22 Ty.t5 rfl rfl (by decide) (λh0=>(I.cu dW (ff p.sum) rfl rfl).get h0) (by rw[dB];rfl) (ey _) (by rw[mw];omega) λxW Em a w E I=>?_;rw[← fI,← aM]at I;rw[← aM]at E;refine RN 1 E I λa E=>?_;replace I:=I.sub (M:=Sl 5 1 xW (xZ++aN (zz p.frame)++ff p.sum).length Em (bc (xZ++aN (zz p.frame)++ff p.sum))::aa b1 203 (dL p ad c)::L);have ma:(xZ++aN (zz p.frame)++ff p.sum).length≤77:=by rw[aM,mw];omega
   generalize xZ++aN (zz p.frame)++ff p.sum=XO at E I ma jg;refine aY 0 (λw0 w=>Rd w b1 0 (dL p ad c)) [4,5,7] [0,1,6,3002,3,3007,1004,1005,1008,1009,10] E I λa w E I hH=>?_;have hC:Rd w b1 0 (dL p ad c):=I.ai;have hS:=xS p.ak 0;refine RH 3 E I hH hC λa E=>?_;refine QH E (λw hc=>ae E (hc 5 _ rfl)) hC λa E=>?_;refine RH 1 E I hH hC λa E=>?_;refine QH E (λw hc=>ae E (hc 5 _ rfl)) hC λa E=>?_;refine RH 0 E I hH hC λa E=>?_;refine a6 0 E I (sH I (by omega) (by omega)) λdj dN a w E I=>?_;replace hC:=hH.at w I.ai;refine RH 0 E I hH hC λa E=>?_;refine gU E rfl I underlying22 Ty.t5 rfl rfl (by decide) (λh0=>(I.cu dj (aN (zz (p.ak.length:Int))) rfl rfl).get h0) (by rw[dB,Nat.mul_one]) (ey _) (by omega) λpq rh a w E I=>?_;replace hC:=hH.at w I.ai;rw[← fI,← aM]at I;rw[← aM]at E;refine RH 0 E I hH hC λa E=>?_;refine a6 0 E I (Xu (bs:=p.ak) I (by omega) (λV hw=>hp V hw.sub)) λdW c2 a w E I=>?_;have kM:(XO++aN (zz (p.ak.length:Int))).length≤87:=by rw[aM];omega
   refine RN 0 E I λa E=>?_;refine gU E rfl I underlying22 Ty.t5 rfl rfl (by decide) (λh0=>(I.cu dW (dC p.ak 0) rfl rfl).get h0) (by rw[dB,Nat.mul_one]) (ey _) (by omega) λKj Kk a w E I=>?_;rw[← fI,← aM]at I;rw[← aM]at E;refine RN 1 E I λa E=>?_;rw[jg]at E I;exact⟨_,_,E.ab [3],I.sub⟩
  rw[Kg (by omega)]at E I;refine RN 0 E I λa E=>?_;exact⟨_,_,E.ab [3],I.sub⟩
 clear E;(try clear I);rintro a w ⟨fo,c7,E,I⟩;refine CL 3 E I (JV I (by omega) (λV hw=>hw.cu fo _ rfl rfl)) λa w E I=>?_;refine aR 0 E I (D6 I) λAj a w E I=>?_;refine RN 0 E I λa E=>?_;refine gU E rfl I underlying22 Ty.t5 rfl rfl (by decide) (λh0=>(I.cu Aj (ff (jh (ic p))) rfl rfl).get h0) (by rw[dB];rfl) (ey _) (by rw[mw];omega) λaeV c56 a w E I=>?_;refine RT 1 E I ?_;rw[he];rw[← fI,← aM]at I;rw[← aM];exact⟨_,_,rfl,I.sub⟩
end
end
end Go.Proofs.YteoldcfapaiobaaGreat
