/- Plain side of numbers read, of runs and of packets: what is written is read. -/
import Derived.Test.YteoldcfapaiobaaGreatA06Ref
namespace Go.Proofs.YteoldcfapaiobaaGreat
open Tryz
open List (drop_zero take_succ_cons getElem?_drop getElem?_append_right drop_drop drop_left nil_append drop_eq_nil_of_le cons_append append_nil getElem_mem mem_singleton forall_mem_cons not_mem_nil replicate_succ')
open Go.RowKit
set_option linter.unusedVariables false
set_option linter.unusedSimpArgs false
set_option maxRecDepth 10000
set_option synthInstance.maxSize 4000
set_option synthInstance.maxHeartbeats 400000
section
def mO:List UInt8→Nat→Nat→Option (Nat×Nat)
 | [],_,_=>none
 | c::cs,i,u =>
  if i=9∧1<c.toNat then none
  else if 127<c.toNat then mO cs (i+1) (u+c.toNat%128*128 ^ i)
  else if 0<i∧c.toNat=0 then none
  else some (u+c.toNat*128 ^ i,i+1)
def su (bs:List UInt8):Option (Nat×Nat):=mO bs 0 0
def mP (u:Nat):Int:=if u%2=1 then -((u/2:Nat):Int)-1 else ((u/2:Nat):Int)
theorem Dr (n:Int):mP (zz n)=n:=by
 unfold mP zz;split <;> split <;> omega
theorem Ds {n:Int}(h1:-9223372036854775808≤n)(h2:n≤9223372036854775807):zz n<18446744073709551616:=by
 unfold zz;split <;> omega
theorem xu (i:Nat):128 ^ (i+1)=128 ^ i*128:=Nat.pow_succ ..
theorem Wi (r:List UInt8):∀ (v i u:Nat),v*128 ^ i<18446744073709551616→(i=0∨0<v)→i≤9→mO (aL v++r) i u=some (u+v*128 ^ i,i+(aL v).length):=by
 intro v
 induction v using Nat.strongRecOn with
 | _ v ih =>
  intro i u hv h0 hi;by_cases I:v≤127
  ·rw[pV I];have hb:(UInt8.ofNat v).toNat=v:=by rw[UInt8.toNat_ofNat'];omega
   simp only[cons_append,nil_append,mO,hb,ja];have h9:¬ (i=9∧1<v):=by
    rintro⟨qP,h⟩;rw[qP]at hv;have:v*128 ^ 9 ≥ 2*128 ^ 9:=Nat.mul_le_mul_right _ h;have h9':(128:Nat) ^ 9=9223372036854775808:=by decide
    omega
   rw[ae h9,ae (by omega),ae (by omega)]
  ·rw[vj I];have hb:(UInt8.ofNat (v%128+128)).toNat=v%128+128:=by rw[UInt8.toNat_ofNat'];omega
   simp only[cons_append,mO,hb,e9];have hle:128 ^ (i+1)≤v*128 ^ i:=by rw[xu,Nat.mul_comm];exact Nat.mul_le_mul_right _ (by omega)
   have qP:i+1≤9:=by
    rcases Nat.lt_or_ge i 9 with h | h
    ·omega
    ·have:128 ^ 10≤128 ^ (i+1):=Nat.pow_le_pow_right (by decide) (by omega);have fF:(128:Nat) ^ 10=1180591620717411303424:=by decide
     omega
   have hdv:v/128*128 ^ (i+1)+v%128*128 ^ i=v*128 ^ i:=by
    rw[xu,show v/128*(128 ^ i*128)=128*(v/128)*128 ^ i from by rw[Nat.mul_comm (128 ^ i),← Nat.mul_assoc,Nat.mul_comm (v/128)],← Nat.add_mul,Nat.div_add_mod]
   rw[ae (by omega),al (by omega),ih (v/128) (by omega) (i+1) _ (by omega) (.inr (by omega)) qP];rw[show (v%128+128)%128=v%128 from by omega]
   congr 2
   ·omega
   ·omega
theorem zH {n:Int}(h1:-9223372036854775808≤n)(h2:n≤9223372036854775807)(r:List UInt8):su (aL (zz n)++r)=some (zz n,(aL (zz n)).length):=by
 have:=Wi r (zz n) 0 0 (by have:=Ds h1 h2;omega) (.inl rfl) (by decide);simpa [su] using this
theorem Ji:∀ (bs:List UInt8) (i u:Nat) {v k:Nat},i≤9→u<128 ^ i→mO bs i u=some (v,k)→v<18446744073709551616∧i+1≤k∧k≤i+bs.length∧k≤10
 | [],_,_,_,_,_,_,h=>by cases h
 | c::cs,i,u,v,k,hi,hu,h=>by
  rw[mO]at h;have hc:=lz c;have hp:128 ^ i≤128 ^ 9:=Nat.pow_le_pow_right (by decide) hi;have h9:(128:Nat) ^ 9=9223372036854775808:=by decide
  split at h
  ·cases h
  rename_i n9;split at h
  ·rename_i hb;have hm:c.toNat%128*128 ^ i≤127*128 ^ i:=Nat.mul_le_mul_right _ (by omega);have:=Ji cs (i+1) _ (by omega) (by rw[xu];omega) h;simp only[e9];omega
  ·rename_i hb;split at h
   ·cases h
   ·obtain⟨rfl,rfl⟩:u+c.toNat*128 ^ i=v∧i+1=k:=by simpa using h
    simp only[e9];refine⟨?_,by omega,by omega,by omega⟩;rcases Nat.lt_or_ge i 9 with h8 | h8
    ·have hp8:128 ^ i≤128 ^ 8:=Nat.pow_le_pow_right (by decide) (by omega);have h88:(128:Nat) ^ 8=72057594037927936:=by decide
     have hm:c.toNat*128 ^ i≤127*128 ^ i:=Nat.mul_le_mul_right _ (by omega);omega
    ·have:i=9:=by omega
     subst this;have hm:c.toNat*128 ^ 9≤1*128 ^ 9:=Nat.mul_le_mul_right _ (by omega);omega
theorem Dt {bs:List UInt8}{v k:Nat}(h:su bs=some (v,k)):v<18446744073709551616∧1≤k∧k≤bs.length∧k≤10:=by
 have:=Ji bs 0 0 (by decide) (by decide) h;omega
def lB (bs:List UInt8)(x:Int)(k:Nat)(er:Int):Prop :=
 (-9223372036854775808≤x∧x≤9223372036854775807)∧(er=0∨er=1∨er=2)∧(er=0→1≤k∧k≤bs.length)∧(er≠0→k=0∧x=0) ∧
 ∀ (n:Int) (r:List UInt8), -9223372036854775808≤n→n≤9223372036854775807→bs=aL (zz n)++r→x=n∧k=(aL (zz n)).length∧er=0
theorem lB.bad {bs:List UInt8}{er:Int}(h:su bs=none)(he:er=1∨er=2):lB bs 0 0 er:=by
 refine⟨by omega,by omega,by omega,λ_=>⟨rfl,rfl⟩,λn r h1 h2 e=>?_⟩;rw[e,zH h1 h2]at h;cases h
theorem lB.Jj {bs:List UInt8}{u k:Nat}(h:su bs=some (u,k)):lB bs (mP u) k 0:=by
 have hb:=Dt h;refine⟨?_,by omega,by omega,by omega,λn r h1 h2 e=>?_⟩
 ·unfold mP;split <;> omega
 ·rw[e,zH h1 h2]at h;obtain⟨rfl,rfl⟩:zz n=u∧(aL (zz n)).length=k:=by simpa using h
  exact⟨Dr n,rfl,rfl⟩
def runN (x:UInt8):List UInt8→Nat
 | []=>0
 | y::ys=>if y=x then runN x ys+1 else 0
theorem xv (x:UInt8):∀ l:List UInt8,runN x l≤l.length
 | []=>bh _
 | y::ys=>by
  have:=xv x ys;rw[runN];split <;> simp only[e9] <;> omega
def dA (l:List UInt8)(last:UInt8):List UInt8:=match l with
 | []=>[]
 | x::xs=>aL (zz ((runN x xs+1:Nat):Int))++(x ^^^ last)::dA (xs.drop (runN x xs)) x
termination_by l.length
decreasing_by simp only[c7,e9];omega
theorem vv (last:UInt8):dA [] last=[]:=by rw[dA]
theorem sw (x:UInt8)(xs:List UInt8)(last:UInt8):dA (x::xs) last=aL (zz ((runN x xs+1:Nat):Int))++(x ^^^ last)::dA (xs.drop (runN x xs)) x:=by rw[dA]
theorem zI (x:UInt8):∀ l:List UInt8,l.take (runN x l)=List.replicate (runN x l) x
 | []=>rfl
 | y::ys=>by
  rw[runN];split
  ·rename_i h;subst h;rw[take_succ_cons,zI y ys,List.replicate_succ]
  ·rfl
theorem Jk (x:UInt8):∀ (l:List UInt8) (y:UInt8) (r:List UInt8),l.drop (runN x l)=y::r→y≠x
 | [],_,_,h=>by simp[runN]at h
 | z::zs,y,r,h=>by
  rw[runN]at h;split at h
  ·exact Jk x zs y r h
  ·rename_i hn;rw[drop_zero]at h;cases h;exact hn
theorem Wj {x:UInt8}{l:List UInt8}{n:Nat}(h1:∀ i,i<n→l[i]?=some x)(h2:l[n]?≠some x):runN x l=n:=by
 induction l generalizing n with
 | nil =>
  cases n with
  | zero=>rfl
  | succ n=>have:=h1 0 (by omega);simp at this
 | cons y ys ih =>
  cases n with
  | zero =>
   rw[runN,ae];intro e;subst e;simp at h2
  | succ n =>
   have h0:=h1 0 (by omega);simp at h0;rw[runN,al h0,ih (n:=n) (λi hi=>by have:=h1 (i+1) (by omega);simpa using this) (by simpa using h2)]
theorem xw (l:List UInt8):∀ last,(dA l last).length≤11*l.length:=by
 induction hn:l.length using Nat.strongRecOn generalizing l with
 | _ n ih =>
  intro last;cases l with
  | nil=>rw[vv];simp
  | cons x xs =>
   rw[sw,aK,e9];have h1:=xv x xs;subst hn;simp only[e9];by_cases hb:xs.length<4611686018427387904
   ·have h2 := pW 9 (zz ((runN x xs + 1 : Nat) : Int)) (by
     have:zz ((runN x xs+1:Nat):Int)=2*(runN x xs+1):=by unfold zz;rw[ae (by omega)];omega
     rw[this];have fF:(128:Nat) ^ (9+1)=1180591620717411303424:=by decide
     omega)
    have h3:=ih (xs.drop (runN x xs)).length (by simp only[c7,e9];omega) (xs.drop (runN x xs)) rfl x;simp only[c7]at h3;omega
   ·have h2 : (aL (zz ((runN x xs + 1 : Nat) : Int))).length ≤ runN x xs + 10 := by
     have:∀ u,(aL (2*(u+1))).length≤u+10:=by
      intro u
      induction u using Nat.strongRecOn with
      | _ u ih =>
       by_cases h:2*(u+1)≤127
       ·rw[pV h];simp
       ·rw[vj h,e9];by_cases h2:2*(u+1)/128≤127
        ·rw[pV h2];simp
        ·have hq : ∀ v, (aL v).length ≤ v + 1 := by
          intro v
          induction v using Nat.strongRecOn with
          | _ v Wl =>
           by_cases h3:v≤127
           ·rw[pV h3];simp
           ·rw[vj h3,e9];have:=Wl (v/128) (by omega);omega
         have:=hq (2*(u+1)/128);omega
     have hz:zz ((runN x xs+1:Nat):Int)=2*(runN x xs+1):=by unfold zz;rw[ae (by omega)];omega
     rw[hz];exact this _
    have h3:=ih (xs.drop (runN x xs)).length (by simp only[c7,e9];omega) (xs.drop (runN x xs)) rfl x;simp only[c7]at h3;omega
theorem zJ (a b:UInt8):b ^^^ (a ^^^ b)=a:=by rw[UInt8.xor_comm,UInt8.xor_assoc,UInt8.xor_self,UInt8.xor_zero]
theorem Wm {a b:UInt8}(h:(a ^^^ b).toNat=0):a=b:=by
 have h0:a ^^^ b=0:=UInt8.toNat_inj.1 (by simpa using h);have:=zJ a b;rw[h0,UInt8.xor_zero]at this;exact this.symm
def mc (p out:List UInt8)(last:UInt8)(rest:List UInt8):Prop:=∃ q,p=out++q∧rest=dA q last∧(out=[]∨∀ y r,q=y::r→y≠last)
theorem mc.start (p:List UInt8):mc p [] 0 (dA p 0):=⟨p,rfl,rfl,.inl rfl⟩
theorem mc.done {p out:List UInt8}{last:UInt8}(h:mc p out last []):p=out:=by
 obtain⟨q,h1,h2,_⟩:=h;cases q with
 | nil=>simpa using h1
 | cons x xs =>
  rw[sw]at h2;have:=congrArg List.length h2;simp at this
theorem mc.next {p out:List UInt8}{last:UInt8}{rest:List UInt8}(h:mc p out last rest)(h0:rest≠[]):∃ (m:Nat) (x:UInt8) (r:List UInt8),rest=aL (zz ((m+1:Nat):Int))++(x ^^^ last)::r ∧
   out.length+(m+1)≤p.length∧(out≠[]→(x ^^^ last).toNat≠0)∧mc p (out++List.replicate (m+1) x) x r:=by
 obtain⟨q,h1,h2,h3⟩:=h;cases q with
 | nil=>rw[vv]at h2;exact absurd h2 h0
 | cons x xs =>
  rw[sw]at h2;have hle:=xv x xs;refine⟨runN x xs,x,_,h2,by rw[h1];simp;omega,λho hz=>?_,xs.drop (runN x xs),?_,rfl,.inr λy r hy=>Jk x xs y r hy⟩
  ·rcases h3 with h3 | h3
   ·exact ho h3
   ·exact h3 x xs rfl (Wm hz)
  ·rw[h1,dw]
   congr 1
   rw[List.replicate_succ,← zI,cons_append,jz]
structure Pk where
 kind:Int
 aV:Int
 to:Int
 id:Int
 first:Int
 db:Int
 frame:Int
 sum:Nat
 ak:List UInt8
def mQ:Pk:=⟨0,0,0,0,0,0,0,0,[]⟩
def eJ (n:Int):Prop:=0≤n∧n≤1000
instance (n:Int):Decidable (eJ n):=inferInstanceAs (Decidable (_∧_))
def hC (p:Pk):Prop:=(0≤p.aV∧p.aV≤7)∧(0≤p.to∧p.to≤7)∧p.aV≠p.to∧(0≤p.id∧p.id≤1099511627776) ∧
 ((p.kind=1∧eJ p.first∧eJ p.db∧eJ p.frame∧p.ak.length≤32)∨(p.kind=2∧p.first=0∧p.db=0∧p.frame=0∧p.ak.length=0∧p.sum=0))
instance (p:Pk):Decidable (hC p):=inferInstanceAs (Decidable (_∧_))
def lC (p:Pk):List UInt8:=fe p.sum++(aL (zz (p.ak.length:Int))++dA p.ak 0)
def mR (p:Pk):List UInt8:=if p.kind=1 then aL (zz p.first)++(aL (zz p.db)++(aL (zz p.frame)++lC p)) else []
def kG (p:Pk):List UInt8:=aL (zz p.id)++mR p
def k5 (p:Pk):List UInt8:=[UInt8.ofNat p.kind.toNat,UInt8.ofNat p.aV.toNat,UInt8.ofNat p.to.toNat]
def hZ (p:Pk):List UInt8:=k5 p++kG p
def o6 (p:Pk):List UInt8:=hZ p++fe (iZ (hZ p))
def aR (p:Pk):List UInt8:=if hC p then o6 p else []
theorem mf (x:Nat):(fe x).length=4:=rfl
theorem xx (p:Pk):(o6 p).length=(kG p).length+7:=by
 simp[o6,hZ,k5,mf]
theorem Du {p:Pk}{bs:List UInt8}(h:o6 p=bs):(bs.drop 3).take (bs.length-7)=kG p:=by
 subst h;rw[xx,Nat.add_sub_cancel,o6];generalize iZ (hZ p)=c;rw[hZ,dw,List.drop_left' (by rfl),List.take_left' rfl]
theorem Dv {p:Pk}{bs:List UInt8}(h:o6 p=bs):bs[0]?=some (UInt8.ofNat p.kind.toNat)∧bs[1]?=some (UInt8.ofNat p.aV.toNat)∧bs[2]?=some (UInt8.ofNat p.to.toNat):=by
 subst h;exact⟨rfl,rfl,rfl⟩
def Dw (a b c d:Nat):Nat:=((a*256+b)*256+c)*256+d
theorem Dx {x:Nat}(h:x<4294967296):Dw (UInt8.ofNat (x/16777216)).toNat (UInt8.ofNat (x/65536)).toNat (UInt8.ofNat (x/256)).toNat (UInt8.ofNat x).toNat=x:=by
 simp only[UInt8.toNat_ofNat',Dw];omega
theorem Wn {x y:Nat}(hx:x<4294967296)(hy:y<4294967296)(h:fe x=fe y):x=y:=by
 simp only[fe,List.cons.injEq,and_true]at h;obtain⟨h1,h2,h3,h4⟩:=h;have:=Dx hx;rw[h1,h2,h3,h4,Dx hy]at this;exact this.symm
theorem vw {n m:Int}{r s:List UInt8}(h1:-9223372036854775808≤n)(h2:n≤9223372036854775807)(h3:-9223372036854775808≤m)(h4:m≤9223372036854775807)(h:aL (zz n)++r=aL (zz m)++s):n=m∧r=s:=by
 have e:=zH h1 h2 r;rw[h,zH h3 h4]at e;obtain⟨e1,e2⟩:zz m=zz n∧_:=by simpa using e
 have:n=m:=by rw[← Dr n,← Dr m,e1]
 subst this;exact⟨rfl,List.append_cancel_left h⟩
theorem Jl:∀ (n:Nat) {p q:List UInt8} {l:UInt8},p.length≤n→p.length≤1000000→q.length≤1000000→dA p l=dA q l→p=q
 | n,[],[],_,_,_,_,_=>rfl
 | n,[],y::ys,l,_,_,_,h=>by
  rw[vv,sw]at h;have:=congrArg List.length h;simp at this
 | n,x::xs,[],l,_,_,_,h=>by
  rw[vv,sw]at h;have:=congrArg List.length h;simp at this
 | 0,x::xs,y::ys,l,hn,_,_,_=>by simp at hn
 | n+1,x::xs,y::ys,l,hn,hp,hq,h=>by
  have h1:=xv x xs;have h2:=xv y ys;simp only[e9]at hn hp hq;rw[sw,sw]at h;obtain⟨e1,e2⟩:=vw (by omega) (by omega) (by omega) (by omega) h;rw[List.cons.injEq]at e2;obtain⟨e2,e3⟩:=e2;have Wo:x=y:=by
   have:=zJ x l;rw[e2,zJ]at this;exact this.symm
  subst Wo;have iQ:runN x xs=runN x ys:=by omega
  have sh:=Jl n (by simp;omega) (by simp;omega) (by simp;omega) e3
  congr 1
  rw[← jz (runN x xs) xs,zI,sh,iQ,← zI,jz]
theorem Dy {a b:Int}(E:0≤a∧a<256)(hb:0≤b∧b<256)(h:UInt8.ofNat a.toNat=UInt8.ofNat b.toNat):a=b:=by
 have:=congrArg UInt8.toNat h;simp only[UInt8.toNat_ofNat']at this;omega
theorem Wp {p q:Pk}(hp:hC p)(hq:hC q)(Dz:p.sum<4294967296)(Wq:q.sum<4294967296)(h:o6 p=o6 q):p=q:=by
 have hm:kG p=kG q:=by rw[← Du (p:=p) rfl,← Du (p:=q) rfl,h]
 have h0:=Dv (p:=p) rfl;have h1:=Dv (p:=q) rfl;rw[h]at h0;obtain⟨dD,dU,a3⟩:=h0;obtain⟨b1,b2,b3⟩:=h1;rw[b1]at dD;rw[b2]at dU;rw[b3]at a3;obtain⟨f1,t1,vx,i1,k1⟩:=hp;obtain⟨f2,t2,se,i2,k2⟩:=hq;have Wr:=Dy (by omega) (by omega) (Option.some.inj dD);have Ws:=Dy (by omega) (by omega) (Option.some.inj dU);have rV:=Dy (by omega) (by omega) (Option.some.inj a3);rw[kG,kG]at hm;obtain⟨Wt,hm⟩:=vw (by omega) (by omega) (by omega) (by omega) hm;obtain⟨pk,adW,pt,pi,Wu,p2,adX,adY,adZ⟩:=p;obtain⟨ad0,ad1,ad3,ad4,q1,q2,DA,DB,Jm⟩:=q;simp only at *;subst Wr Ws rV Wt;rcases k1 with ⟨eF,c2,dz,g9,dH⟩ | ⟨eF,c2,dz,g9,dH,nO⟩
 ·rcases k2 with ⟨d1,d2,d3,d4,d5⟩ | ⟨d1,_⟩
  ·unfold eJ at c2 dz g9 d2 d3 d4;rw[mR,mR,al eF,al d1]at hm;simp only at hm;obtain⟨e1,hm⟩:=vw (by omega) (by omega) (by omega) (by omega) hm;obtain⟨e2,hm⟩:=vw (by omega) (by omega) (by omega) (by omega) hm;obtain⟨e3,hm⟩:=vw (by omega) (by omega) (by omega) (by omega) hm;rw[lC,lC]at hm;simp only at hm;obtain⟨iQ,hm⟩:=List.append_inj hm rfl;obtain⟨sh,hm⟩:=vw (by omega) (by omega) (by omega) (by omega) hm;have Wv:=Jl _ (bh _) (by omega) (by omega) hm;have Ww:=Wn Dz Wq iQ;subst e1 e2 e3 Wv Ww;rfl
  ·omega
 ·rcases k2 with ⟨d1,_⟩ | ⟨d1,d2,d3,d4,d5,d6⟩
  ·omega
  ·have:=g6 dH;have:=g6 d5;subst c2 dz g9 nO d2 d3 d4 d6;simp_all
def gX (bs:List UInt8)(p:Pk):Prop:=hC p∧p.sum<4294967296∧o6 p=bs
open Classical in
noncomputable def eu (bs:List UInt8):Option Pk:=if h:∃ p,gX bs p then some (Classical.choose h) else none
theorem zK {bs:List UInt8}{p:Pk}(h:gX bs p):eu bs=some p:=by
 have hx:∃ p,gX bs p:=⟨p,h⟩;rw[eu,dif_pos hx];have h2:=Classical.choose_spec hx;rw[Wp h2.1 h.1 h2.2.1 h.2.1 (h2.2.2.trans h.2.2.symm)]
theorem DD {bs:List UInt8}(h:∀ p,¬ gX bs p):eu bs=none:=by
 rw[eu,dif_neg];exact λ⟨p,hp⟩=>h p hp
theorem DE {bs:List UInt8}{p:Pk}(h:eu bs=some p):gX bs p:=by
 rw[eu]at h;split at h
 ·rename_i hx;cases h;exact Classical.choose_spec hx
 ·cases h
theorem Jn {p:Pk}(h:hC p)(I:p.sum<4294967296):eu (aR p)=some p:=by
 rw[aR,al h];exact zK ⟨h,I,rfl⟩
theorem DF {bs:List UInt8}{p:Pk}(h0:bs≠[])(I:p.sum<4294967296):gX bs p↔aR p=bs:=by
 unfold gX aR;split
 ·rename_i h;simp[h,I]
 ·rename_i h;simp[h,h0,Ne.symm h0]
theorem Jo {p:Pk}(h:hC p):(kG p).length≤500:=by
 obtain⟨_,_,_,i1,k1⟩:=h;have pl:∀ n:Int,0≤n→n≤1099511627776→(aL (zz n)).length≤10:=λn h0 h1=>pW 9 _ (by
  have:zz n<18446744073709551616:=Ds (by omega) (by omega);have fF:(128:Nat) ^ (9+1)=1180591620717411303424:=by decide
  omega)
 rw[kG,aK];have:=pl p.id i1.1 i1.2;rcases k1 with ⟨eF,c2,dz,g9,dH⟩ | ⟨eF,_⟩
 ·unfold eJ at c2 dz g9;rw[mR,al eF,lC];simp only[aK,mf];have h1:=pl p.first (by omega) (by omega);have h2:=pl p.db (by omega) (by omega);have h3:=pl p.frame (by omega) (by omega);have h4:=pl p.ak.length (by omega) (by omega);have h5:=xw p.ak 0;omega
 ·rw[mR,ae (by omega)];simp;omega
end
section
theorem Wx {x:Nat}(h:x<256):IntKind.u8.wrap ((BitVec.ofInt IntKind.u8.bits (x:Int) &&& BitVec.ofInt IntKind.u8.bits 127).toNat)=((x%128:Nat):Int):=by
 have:∀ y:Fin 256,IntKind.u8.wrap ((BitVec.ofInt IntKind.u8.bits ((y.val:Nat):Int) &&& BitVec.ofInt IntKind.u8.bits 127).toNat)=((y.val%128:Nat):Int):=by decide +kernel
 exact this ⟨x,h⟩
theorem Jp (i:Nat):(2:Nat) ^ (7*i)=128 ^ i:=by rw[Nat.pow_mul]
theorem Wy {u d i:Nat}(hu:u<128 ^ i):u ||| d*128 ^ i=u+d*128 ^ i:=by
 rw[← Jp]at hu ⊢;rw[Nat.mul_comm,Nat.add_comm,Nat.two_pow_add_eq_or_of_lt hu,Nat.or_comm]
theorem DG {i:Nat}(hi:i≤9):128 ^ i≤9223372036854775808∧(i≤8→128 ^ i≤72057594037927936):=by
 have h9:(128:Nat) ^ 9=9223372036854775808:=by decide
 have h8:(128:Nat) ^ 8=72057594037927936:=by decide
 refine⟨h9 ▸ Nat.pow_le_pow_right (by decide) hi,λh=>h8 ▸ Nat.pow_le_pow_right (by decide) h⟩
theorem Jq {i d:Nat}(hi:i≤9)(h:i=9→d≤1)(hd:d≤127):d*128 ^ i≤9223372036854775808∧(i≤8→d*128 ^ i+128 ^ i≤128 ^ (i+1)):=by
 obtain⟨h1,h2⟩:=DG hi;have hm:d*128 ^ i≤127*128 ^ i:=Nat.mul_le_mul_right _ hd;refine⟨?_,λh8=>by rw[xu];omega⟩;rcases Nat.lt_or_ge i 9 with h9 | h9
 ·have:=h2 (by omega);omega
 ·have:i=9:=by omega
  have r9:=h this;have:d*128 ^ i≤1*128 ^ i:=Nat.mul_le_mul_right _ r9;omega
theorem Jr {bs:List UInt8}{i:Nat}(h:i<bs.length)(u:Nat):mO (bs.drop i) i u=if i=9∧1<bs[i].toNat then none
   else if 127<bs[i].toNat then mO (bs.drop (i+1)) (i+1) (u+bs[i].toNat%128*128 ^ i)
   else if 0<i∧bs[i].toNat=0 then none
   else some (u+bs[i].toNat*128 ^ i,i+1):=by
 rw[j6 h,mO]
theorem Wz {x:Nat}(h:x<18446744073709551616):IntKind.u64.wrap (((BitVec.ofInt IntKind.u64.bits (x:Int) &&& BitVec.ofInt IntKind.u64.bits 1).toNat:Nat):Int)=((x%2:Nat):Int):=by
 have h1:=V4 (y:=1) h (by decide);rw[Nat.and_one_is_mod]at h1;exact h1
theorem WA {x:Int}(h1:-9223372036854775808≤x)(h2:x≤9223372036854775807):IntKind.i64.wrap (((BitVec.ofInt IntKind.i64.bits (if IntKind.i64.signed then -1 else IntKind.i64.max) ^^^ BitVec.ofInt IntKind.i64.bits x).toNat:Nat):Int) = -x-1:=by
 have e:BitVec.ofInt IntKind.i64.bits (if IntKind.i64.signed then -1 else IntKind.i64.max)=BitVec.allOnes 64:=by
  show BitVec.ofInt 64 (-1)=_;decide
 rw[e];show IntKind.i64.wrap (((BitVec.allOnes 64 ^^^ BitVec.ofInt 64 x).toNat:Nat):Int)=_;rw[BitVec.allOnes_xor,BitVec.toNat_not,BitVec.toNat_ofInt];simp only[IntKind.wrap,IntKind.signed,IntKind.bits];simp;omega
section
variable {W w:World}{L:List SP}{c:Nat}{ad:Option Addr}{bs:List UInt8}
theorem Jt (I:V W w L)(hb:bs.length≤1099511627776)(hp:∀ w',V W w' L→a6 w' ad bs.length bs) :
   Calls prog 339 #[.slice ad bs.length c] w λe w'=>∃ (x:Int) (k:Nat) (er:Int),e=.returned (.tuple #[.int .i64 x,.int .i64 k,.int .i64 er])∧lB bs x k er∧V W w' L:=by
 refine EN func339 ntmps339 rfl rfl λa E=>?_;refine RN 11 E I λa E=>?_;refine aS (λμ a w=>∃ (i u:Nat),(μ=bs.length-i∧i≤bs.length∧i≤9∧u<128 ^ i∧mO (bs.drop i) i u=su bs)∧Fr a 50 [(5,.int .u64 u),(9,.slice ad bs.length c),(10,.int .i64 bs.length),(11,.int .i64 i)]∧V W w L) (bs.length) (⟨0,0,⟨rfl,by omega,by omega,by decide,rfl⟩,E.ab [5,9,10,11],I⟩) ?_;clear E I;rintro μ a w ⟨i,u,⟨rfl,hi,qP,hu,hg⟩,E,I⟩;refine IF 3 E I (λaj a E=>?_) λaj a E=>?_
 ·
  obtain⟨bb,oo,rfl,hr⟩:=(hp _ I).get (by omega);have aJ:i<bs.length:=by omega
  have p1:=lz bs[i];rw[Jr aJ]at hg;obtain⟨gv,hR⟩:=DG qP;refine RN 4 E I λa E=>?_;refine SS E (ag E (hr i _ (dR aJ))) λa E=>?_;refine RN 3 E I λa E=>?_;refine bZ (M:=λa w=>∃ z:Bool,(z=true↔(i=9∧1<bs[i].toNat))∧Fr a 50 [(5,.int .u64 u),(6,.int .i64 i),(7,.int .u8 (bs[i].toNat:Int)),(9,.slice (some ⟨bb,oo,none⟩) bs.length c),(10,.int .i64 bs.length),(11,.int .i64 i),(21,.bool z)]∧V W w L) ?_ ?_
  ·
   refine BY 3 E I (λbw a E=>?_) λbw a E=>?_
   ·
    refine RN 3 E I λa E=>?_;exact⟨_,by rw[cn];omega,E.ab [5,6,7,9,10,11,21],I⟩
   refine RN 3 E I λa E=>?_;exact⟨_,by simp;omega,E.ab [5,6,7,9,10,11,21],I⟩
  clear E;(try clear I);rintro a w ⟨z,hz,E,I⟩;refine IF 0 E I (λan a E=>?_) λan a E=>?_
  ·
   rw[al (hz.1 an)]at hg;refine RT 4 E I ?_;exact⟨_,_,_,rfl,lB.bad hg.symm (by omega),I⟩
  have kh:¬ (i=9∧1<bs[i].toNat):=λh=>absurd (hz.2 h) (by simp[an]);rw[ae kh]at hg;obtain⟨r9,kb⟩:=Jq (d:=bs[i].toNat%128) qP (by omega) (by omega);refine RN 4 E I λa E=>?_;rw[Wx p1]at E;refine SX 0 E I (by rw[wrap_u64];omega) λa E=>?_;refine RN 2 E I λa E=>?_;rw[show (7:Int)*(i:Int)=((7*i:Nat):Int) from by omega]at E;refine SS E (Hi E (jn:=7*i) (by show 7*i≤64;omega)) λa E=>?_;rw[show ((bs[i].toNat%128:Nat):Int)*2 ^ (7*i)=((bs[i].toNat%128*128 ^ i:Nat):Int) from by rw[Int.natCast_mul,← Jp];simp,show IntKind.u64.wrap ((bs[i].toNat%128*128 ^ i:Nat):Int)=((bs[i].toNat%128*128 ^ i:Nat):Int) from by rw[wrap_u64];omega]at E;refine RN 1 E I λa E=>?_;rw[V3 (by omega) (by omega),Wy hu]at E;refine IF 5 E I (λay a E=>?_) λay a E=>?_
  ·
   rw[al (by omega)]at hg;refine RN 2 E I λa E=>?_;exact⟨bs.length-(i+1),by omega,i+1,_,⟨rfl,by omega,by omega,by have:=kb (by omega);omega,hg⟩,E.ab [5,9,10,11],I⟩
  rw[ae (by omega)]at hg;rw[Nat.mod_eq_of_lt (show bs[i].toNat<128 from by omega)]at E r9 kb;refine RN 1 E I λa E=>?_;refine bZ (M:=λa w=>∃ z:Bool,(z=true↔(0<i∧bs[i].toNat=0))∧Fr a 50 [(5,.int .u64 ((u+bs[i].toNat*128 ^ i:Nat):Int)),(6,.int .i64 i),(37,.bool z)]∧V W w L) ?_ ?_
  ·
   refine BY 3 E I (λbw a E=>?_) λbw a E=>?_
   ·
    refine RN 3 E I λa E=>?_;exact⟨_,by rw[cn];omega,E.ab [5,6,37],I⟩
   refine RN 3 E I λa E=>?_;exact⟨_,by simp;omega,E.ab [5,6,37],I⟩
  clear E;(try clear I);rintro a w ⟨z,hz,E,I⟩;refine IF 0 E I (λbg a E=>?_) λbg a E=>?_
  ·
   rw[al (hz.1 bg)]at hg;refine RT 4 E I ?_;exact⟨_,_,_,rfl,lB.bad hg.symm (by omega),I⟩
  rw[ae (λh=>absurd (hz.2 h) (by simp[bg]))]at hg;generalize u+bs[i].toNat*128 ^ i=v at E hg;have hv:=(Dt hg.symm).1;refine RN 3 E I λa E=>?_;rw[show ((v:Nat):Int).fdiv (2 ^ 1)=((v/2:Nat):Int) from kC _ 2]at E;refine SS E (gd E underlying319 underlying2) λa E=>?_;rw[show IntKind.i64.wrap ((v/2:Nat):Int)=((v/2:Nat):Int) from gr (by omega) (by omega)]at E;refine RN 1 E I λa E=>?_;refine bZ (M:=λa w=>Fr a 50 [(6,.int .i64 i),(8,.int .i64 (mP v))]∧V W w L) ?_ ?_
  ·
   refine RN 3 E I λa E=>?_;rw[Wz hv]at E;refine IF 1 E I (λbM a E=>?_) λbM a E=>?_
   ·
    refine RN 2 E I λa E=>?_;rw[WA (by omega) (by omega)]at E;refine RN 1 E I λa E=>?_;rw[show -((v/2:Nat):Int)-1=mP v from by rw[mP,al (by omega)]]at E;exact⟨E.ab [6,8],I⟩
   refine RN 0 E I λa E=>?_;rw[show ((v/2:Nat):Int)=mP v from by rw[mP,ae (by omega)]]at E;exact⟨E.ab [6,8],I⟩
  clear E;(try clear I);rintro a w ⟨E,I⟩;refine RT 7 E I ?_;exact⟨_,_,_,rfl,lB.Jj hg.symm,I⟩
 rw[drop_eq_nil_of_le (by omega),mO]at hg;refine RT 4 E I ?_;exact⟨_,_,_,rfl,lB.bad hg.symm (by omega),I⟩
theorem DH (I:V W w L)(hb:bs.length≤1099511627776)(hp:∀ w',V W w' L→a6 w' ad bs.length bs) :
   Calls prog 215 #[.slice ad bs.length c] w λe w'=>∃ (x:Int) (k:Nat) (er:Int),e=.returned (.tuple #[.int .i64 x,.int .i64 k,.int .i64 er])∧lB bs x k er∧V W w' L:=by
 refine EN func215 ntmps215 rfl rfl λa E=>?_;refine RN 11 E I λa E=>?_;refine aS (λμ a w=>∃ (i u:Nat),(μ=bs.length-i∧i≤bs.length∧i≤9∧u<128 ^ i∧mO (bs.drop i) i u=su bs)∧Fr a 64 [(0,.slice ad bs.length c),(5,.int .u64 u),(6,.int .u64 ((128 ^ i:Nat):Int)),(7,.int .i64 i)]∧V W w L) (bs.length) (⟨0,0,⟨rfl,by omega,by omega,by decide,rfl⟩,E.ab [0,5,6,7],I⟩) ?_;clear E I;rintro μ a w ⟨i,u,⟨rfl,hi,qP,hu,hg⟩,E,I⟩;refine IF 6 E I (λaj a E=>?_) λaj a E=>?_
 ·
  obtain⟨bb,oo,rfl,hr⟩:=(hp _ I).get (by omega);have aJ:i<bs.length:=by omega
  have p1:=lz bs[i];rw[Jr aJ]at hg;obtain⟨gv,hR⟩:=DG qP;refine RN 2 E I λa E=>?_;refine bZ (M:=λa w=>∃ z:Bool,(z=true↔(i=9∧1<bs[i].toNat)∨(0<i∧bs[i].toNat=0))∧Fr a 64 [(0,.slice (some ⟨bb,oo,none⟩) bs.length c),(5,.int .u64 u),(6,.int .u64 ((128 ^ i:Nat):Int)),(7,.int .i64 i),(34,.bool z)]∧V W w L) ?_ ?_
  ·
   refine BY 3 E I (λbw a E=>?_) λbw a E=>?_
   ·
    refine RN 3 E I λa E=>?_;refine bz E (cW E rfl (s:=17)) (ag E (hr i _ (dR aJ))) rfl λa E=>?_;refine BY 3 E I (λtK a E=>?_) λtK a E=>?_
    ·
     refine RN 10 E I λa E=>?_;refine⟨_,?_,E.ab [0,5,6,7,34],I⟩
     (try simp only[cn]);(try simp only[Bool.false_eq_true,true_iff,false_iff]);omega
    refine BY 3 E I (λhS a E=>?_) λhS a E=>?_
    ·
     refine RN 3 E I λa E=>?_;refine bz E (cW E rfl (s:=27)) (ag E (hr i _ (dR aJ))) rfl λa E=>?_;refine RN 3 E I λa E=>?_;refine⟨_,?_,E.ab [0,5,6,7,34],I⟩
     (try simp only[cn]);(try simp only[Bool.false_eq_true,true_iff,false_iff]);omega
    refine RN 7 E I λa E=>?_;refine⟨_,?_,E.ab [0,5,6,7,34],I⟩
    (try simp only[cn]);(try simp only[Bool.false_eq_true,true_iff,false_iff]);omega
   refine BY 10 E I (λhS a E=>?_) λhS a E=>?_
   ·
    refine RN 3 E I λa E=>?_;refine bz E (cW E rfl (s:=27)) (ag E (hr i _ (dR aJ))) rfl λa E=>?_;refine RN 3 E I λa E=>?_;refine⟨_,?_,E.ab [0,5,6,7,34],I⟩
    (try simp only[cn]);(try simp only[Bool.false_eq_true,true_iff,false_iff]);omega
   refine RN 7 E I λa E=>?_;refine⟨_,?_,E.ab [0,5,6,7,34],I⟩
   (try simp only[cn]);(try simp only[Bool.false_eq_true,true_iff,false_iff]);omega
  clear E;(try clear I);rintro a w ⟨z,hz,E,I⟩;refine IF 0 E I (λan a E=>?_) λan a E=>?_
  ·
   have c5:=hz.1 an;have yY:su bs=none:=by
    rw[← hg];by_cases h9:i=9∧1<bs[i].toNat
    ·rw[al h9]
    ·rw[ae h9,ae (by omega),al (by omega)]
   refine RT 4 E I ?_;exact⟨_,_,_,rfl,lB.bad yY (by omega),I⟩
  have kh:¬ ((i=9∧1<bs[i].toNat)∨(0<i∧bs[i].toNat=0)):=λh=>absurd (hz.2 h) (by simp[an]);have hr:=(hp _ I).rd (by omega);obtain⟨r9,kb⟩:=Jq (d:=bs[i].toNat%128) qP (by omega) (by omega);refine RN 5 E I λa E=>?_;refine SS E (ag E (hr i _ (dR aJ))) λa E=>?_;refine SX 0 E I (by decide) λa E=>?_;rw[show ((bs[i].toNat:Nat):Int).tmod 128=((bs[i].toNat%128:Nat):Int) from nH _ 128]at E;refine SX 0 E I (by rw[wrap_u64];omega) λa E=>?_;refine RN 2 E I λa E=>?_;rw[show ((bs[i].toNat%128:Nat):Int)*((128 ^ i:Nat):Int)=((bs[i].toNat%128*128 ^ i:Nat):Int) from (Int.natCast_mul ..).symm,show IntKind.u64.wrap ((bs[i].toNat%128*128 ^ i:Nat):Int)=((bs[i].toNat%128*128 ^ i:Nat):Int) from by rw[wrap_u64];omega]at E;refine RN 1 E I λa E=>?_;rw[show IntKind.u64.wrap ((u:Int)+((bs[i].toNat%128*128 ^ i:Nat):Int))=((u+bs[i].toNat%128*128 ^ i:Nat):Int) from by rw[wrap_u64];omega]at E;refine RN 9 E I λa E=>?_;refine SS E (ag E (hr i _ (dR aJ))) λa E=>?_;refine IF 1 E I (λay a E=>?_) λay a E=>?_
  ·
   rw[ae (by omega),ae (by omega),ae (by omega)]at hg;rw[Nat.mod_eq_of_lt (show bs[i].toNat<128 from by omega)]at E r9 kb;generalize u+bs[i].toNat*128 ^ i=v at E hg;have hv:=(Dt hg.symm).1;refine RN 2 E I λa E=>?_;refine SS E (uV E (by decide) (by rw[show ((v:Nat):Int).tdiv 2=((v/2:Nat):Int) from qn _ 2,wrap_u64];omega)) λa E=>?_;rw[show ((v:Nat):Int).tdiv 2=((v/2:Nat):Int) from qn _ 2]at E;refine RN 0 E I λa E=>?_;refine SS E (gd E underlying319 underlying2) λa E=>?_;rw[show IntKind.i64.wrap ((v/2:Nat):Int)=((v/2:Nat):Int) from gr (by omega) (by omega)]at E;refine RN 1 E I λa E=>?_;refine bZ (M:=λa w=>Fr a 64 [(7,.int .i64 i),(8,.int .i64 (mP v))]∧V W w L) ?_ ?_
   ·
    refine SX 2 E I (by decide) λa E=>?_;rw[show ((v:Nat):Int).tmod 2=((v%2:Nat):Int) from nH _ 2]at E;refine IF 1 E I (λbg a E=>?_) λbg a E=>?_
    ·
     refine RN 2 E I λa E=>?_;rw[show IntKind.i64.wrap (0-((v/2:Nat):Int)) = -((v/2:Nat):Int) from by rw[gr (by omega) (by omega)];omega]at E;refine RN 2 E I λa E=>?_;rw[show -((v/2:Nat):Int)-1=mP v from by rw[mP,al (by omega)]]at E;exact⟨E.ab [7,8],I⟩
    refine RN 0 E I λa E=>?_;rw[show ((v/2:Nat):Int)=mP v from by rw[mP,ae (by omega)]]at E;exact⟨E.ab [7,8],I⟩
   clear E;(try clear I);rintro a w ⟨E,I⟩;refine RT 7 E I ?_;exact⟨_,_,_,rfl,lB.Jj hg.symm,I⟩
  rw[ae (by omega),al (by omega)]at hg;have Ju:i≤8:=by omega
  rw[show IntKind.u64.wrap (((128 ^ i:Nat):Int)*128)=((128 ^ (i+1):Nat):Int) from by rw[wrap_u64,xu];have:=hR Ju;omega]at E;refine RN 3 E I λa E=>?_;exact⟨bs.length-(i+1),by omega,i+1,_,⟨rfl,by omega,by omega,by have:=kb (by omega);omega,hg⟩,E.ab [0,5,6,7],I⟩
 rw[drop_eq_nil_of_le (by omega),mO]at hg;refine RT 4 E I ?_;exact⟨_,_,_,rfl,lB.bad hg.symm (by omega),I⟩
theorem sx {N:Int}(I:V W w L)(h1:-9223372036854775808≤N)(h2:N≤9223372036854775807) :
   Calls prog 157 #[.int .i64 N] w λe w'=>∃ av c',e=.returned (.slice av (aL (zz N)).length c')∧V W w' (Sl 5 1 av (aL (zz N)).length c' (bc (aL (zz N)))::L):=by
 refine EN func157 ntmps157 rfl rfl λa E=>?_;refine RN 4 E I λa E=>?_;refine SS E (gd E underlying2 underlying319) λa E=>?_;refine RN 1 E I λa E=>?_;rw[wrap_u64,wrap_u64]at E;refine RN 1 E I λa E=>?_;obtain⟨U0,CJ⟩:∃ U0:Nat,(N%18446744073709551616*2)%18446744073709551616=(U0:Int):=⟨((N%18446744073709551616*2)%18446744073709551616).toNat,by omega⟩;rw[CJ]at E;have CK:U0<18446744073709551616:=by omega
 refine bZ (M:=λa w=>Fr a 28 [(3,.int .u64 ((zz N:Nat):Int))]∧V W w L) ?_ ?_
 ·
  refine IF 3 E I (λaj a E=>?_) λaj a E=>?_
  ·
   refine RN 2 E I λa E=>?_;rw[ID CK]at E;refine RN 1 E I λa E=>?_;rw[show 18446744073709551615-U0=zz N from by rw[zz,al aj];omega]at E;exact⟨E.ab [3],I⟩
  refine RN 0 E I λa E=>?_;rw[show U0=zz N from by rw[zz,ae (by omega)];omega]at E;exact⟨E.ab [3],I⟩
 clear E;(try clear I);rintro a w ⟨E,I⟩;refine RN 3 E I λa E=>?_;refine aS (λμ a w=>∃ (ec c':Nat) (av:Option Addr) (dn:List UInt8),(μ=ec∧dn++aL ec=aL (zz N)∧ec≤zz N)∧Fr a 28 [(3,.int .u64 (ec:Int)),(4,.slice av dn.length c')]∧V W w (Sl 5 1 av dn.length c' (bc dn)::L)) (zz N) (⟨zz N,0,none,[],⟨rfl,rfl,by omega⟩,E.ab [3,4],I.bH 5 1 none⟩) ?_;clear E I;rintro μ a w ⟨ec,c',av,dn,⟨xd,da,Uv⟩,E,I⟩;refine RN 2 E I λa E=>?_;have c5:zz N<18446744073709551616:=by rw[zz];split <;> omega
 have gv:=pW 9 (zz N) (by simp;omega);have l5:dn.length≤10:=by
  have:=congrArg List.length da;rw[aK]at this;omega
 clear gv;refine IF 2 E I (λan a E=>?_) λan a E=>?_
 ·
  refine SX 3 E I (by decide) λa E=>?_;rw[show ((ec:Nat):Int).tmod 128=((ec%128:Nat):Int) from nH _ 128]at E;refine RN 1 E I λa E=>?_;rw[show IntKind.u64.wrap (((ec%128:Nat):Int)+128)=((ec%128+128:Nat):Int) from by rw[wrap_u64];omega]at E;refine SX 0 E I (by rw[wrap_u8];omega) λa E=>?_;refine RN 0 E I λa E=>?_;refine cm E rfl I underlying22 Ty.t5 rfl rfl rfl rfl (by decide) (by decide) λcR a w E I ho=>?_;clear ho;refine RN 0 E I λa E=>?_;refine cJ E rfl I underlying22 Ty.t5 rfl rfl I.ai rfl (by simp[Value.oneCell']) (by decide) (by decide) (by omega) λxe CM a w E I=>?_;have aQ:bc dn++[[Value.int .u8 ((ec%128+128:Nat):Int)]].flatten=bc (dn++[UInt8.ofNat (ec%128+128)]):=by
   simp[bc,UInt8.toNat_ofNat'];omega
  rw[aQ]at I;refine RN 2 E I λa E=>?_;refine SS E (uV E (by decide) (by rw[show ((ec:Nat):Int).tdiv 128=((ec/128:Nat):Int) from qn _ 128,wrap_u64];omega)) λa E=>?_;rw[show ((ec:Nat):Int).tdiv 128=((ec/128:Nat):Int) from qn _ 128]at E;refine RN 1 E I λa E=>?_;exact⟨ec/128,by omega,ec/128,_,xe,dn++[UInt8.ofNat (ec%128+128)],⟨rfl,by rw[← da,vj (u:=ec) (by omega),dw];rfl,by omega⟩,by rw[aK];exact E.ab [3,4],by rw[aK];exact I.sub⟩
 refine SX 3 E I (by rw[wrap_u8];omega) λa E=>?_;refine RN 0 E I λa E=>?_;refine cm E rfl I underlying22 Ty.t5 rfl rfl rfl rfl (by decide) (by decide) λIE a w E I ho=>?_;clear ho;refine RN 0 E I λa E=>?_;refine cJ E rfl I underlying22 Ty.t5 rfl rfl I.ai rfl (by simp[Value.oneCell']) (by decide) (by decide) (by omega) λCO CP a w E I=>?_;have aQ:bc dn++[[Value.int .u8 ((ec:Nat):Int)]].flatten=bc (dn++[UInt8.ofNat ec]):=by
  simp[bc,UInt8.toNat_ofNat'];omega
 rw[aQ,← pV (by omega),da]at I;refine RT 1 E I ?_;have hl:dn.length+1=(aL (zz N)).length:=by rw[← da,pV (by omega),aK];rfl
 rw[hl]at I ⊢;exact⟨_,_,rfl,I.sub⟩
end
end
section
theorem qQ {n:Int}(h1:-9223372036854775808≤n)(h2:n≤9223372036854775807):(aL (zz n)).length≤10:=pW 9 _ (by
 have:=Ds h1 h2;have fF:(128:Nat) ^ (9+1)=1180591620717411303424:=by decide
 omega)
theorem tL {l:List UInt8}{x:UInt8}:bc l++[[Value.int .u8 (x.toNat:Int)]].flatten=bc (l++[x]):=by simp[bc]
structure mS (bs:List UInt8)(i e:Nat):Prop where
 lt:i<e
 le:e≤bs.length
 same:∀ (j:Nat) (h:j<bs.length),i≤j→j<e→bs[j]=bs[i]'(by omega)
theorem mS.one {bs:List UInt8}{i:Nat}(h:i<bs.length):mS bs i (i+1):=⟨by omega,by omega,λj hj h1 h2=>by
 have:j=i:=by omega
 subst this;rfl⟩
theorem mS.more {bs:List UInt8}{i e:Nat}(h:mS bs i e)(he:e<bs.length)(hb:bs[e]'he=bs[i]'(by have:=h.lt;omega)):mS bs i (e+1):=⟨by have:=h.lt;omega,by omega,λj hj h1 h2=>by
 by_cases WB:j=e
 ·subst WB;exact hb
 ·exact h.same j hj h1 (by omega)⟩
theorem mS.runs {bs:List UInt8}{i e:Nat}(h:mS bs i e)(hi:i<bs.length)(hn:∀ he:e<bs.length,bs[e]≠bs[i])(last:UInt8) :
   dA (bs.drop i) last=aL (zz ((e-i:Nat):Int))++(bs[i] ^^^ last)::dA (bs.drop e) bs[i]:=by
 have h1:=h.lt;have h2:=h.le;have hr:runN bs[i] (bs.drop (i+1))=e-i-1:=by
  refine Wj (λj hj=>?_) ?_
  ·rw[getElem?_drop,aO (by omega),h.same (i+1+j) (by omega) (by omega) (by omega)]
  ·rw[getElem?_drop,show i+1+(e-i-1)=e from by omega];rcases Nat.lt_or_ge e bs.length with he | he
   ·rw[aO he];exact λhx=>hn he (Option.some.inj hx)
   ·rw[iP he];simp
 rw[j6 hi,sw,hr,drop_drop,show i+1+(e-i-1)=e from by omega,show e-i-1+1=e-i from by omega]
theorem kH {bs:List UInt8}{i:Nat}(h:i<bs.length):(bc bs)[i]?=some (.int .u8 ((bs.getD i 0).toNat:Int)):=by rw[dR h,bl,aO h];rfl
theorem mc.get {p dn rest:List UInt8}{last:UInt8}{x:Int}{k:Nat}{er:Int}(h:mc p dn last rest)(hp:p.length≤1000000)(h0:rest≠[])(hg:lB rest x k er) :
   er=0∧1≤x∧k<rest.length∧(dn≠[]→(rest.getD k 0).toNat≠0)∧(dn.length:Int)+x≤p.length∧mc p (dn++List.replicate x.toNat (last ^^^ rest.getD k 0)) (last ^^^ rest.getD k 0) (rest.drop (k+1)):=by
 obtain⟨m,y,r,e1,e2,e3,iQ⟩:=h.next h0;obtain⟨rfl,rfl,rfl⟩:=hg.2.2.2.2 ((m+1:Nat):Int) _ (by omega) (by omega) e1;have hk:rest.getD (aL (zz ((m+1:Nat):Int))).length 0=y ^^^ last:=by rw[e1,bl,getElem?_append_right (bh _)];simp
 refine⟨rfl,by omega,by rw[e1];simp,by rw[hk];exact e3,by omega,?_⟩;rw[hk,zJ,show ((m+1:Nat):Int).toNat=m+1 from by omega];have hd:rest.drop ((aL (zz ((m+1:Nat):Int))).length+1)=r:=by
  rw[e1,← drop_drop,drop_left];rfl
 rw[hd];exact iQ
def sy (bs:List UInt8)(m:Nat)(out:List UInt8)(er:Int):Prop:=(er=0∨er=1∨er=4)∧out.length≤m∧∀ p:List UInt8,p.length≤m→bs=dA p 0→out=p∧er=0
theorem Jx (bs:List UInt8)(i k:Nat):(bs.drop i).getD k 0=bs.getD (i+k) 0:=by simp[bl,getElem?_drop]
theorem sy.bad {bs dn rest:List UInt8}{last:UInt8}{m k:Nat}{x er DI:Int}(mN:∀ p:List UInt8,p.length≤m→bs=dA p 0→mc p dn last rest)(hm:m≤1000000)(h0:rest≠[])(hg:lB rest x k er)
   (jL:er≠0∨x<1∨rest.length≤k∨(dn≠[]∧(rest.getD k 0).toNat=0)∨(m:Int)<dn.length+x) (he:DI=1∨DI=4):sy bs m [] DI:=by
 refine⟨by omega,by simp,λp hp e=>?_⟩;exfalso;obtain⟨g1,mA,qo,rK,vy,_⟩:=(mN p hp e).get (by omega) h0 hg;rcases jL with h | h | h | h | h
 ·exact h g1
 ·omega
 ·omega
 ·exact rK h.1 h.2
 ·omega
section
variable {W w:World}{L:List SP}{n c m:Nat}{ad:Option Addr}{bs:List UInt8}
theorem WD (I:V W w L)(hb:bs.length≤65536)(hp:∀ w',V W w' L→a6 w' ad bs.length bs) :
   Calls prog 338 #[.slice ad bs.length c] w λe w'=>∃ av c',e=.returned (.slice av (dA bs 0).length c')∧V W w' (Sl 5 1 av (dA bs 0).length c' (bc (dA bs 0))::L):=by
 have iK:=xw bs 0;refine EN func338 ntmps338 rfl rfl λa E=>?_;refine RN 9 E I λa E=>?_;refine aS (λμ a w=>∃ (i c':Nat) (av:Option Addr) (dn:List UInt8) (last:UInt8),(μ=bs.length-i∧i≤bs.length∧dn++dA (bs.drop i) last=dA bs 0)∧Fr a 48 [(0,.slice ad bs.length c),(3,.slice av dn.length c'),(4,.int .u8 (last.toNat:Int)),(5,.int .i64 i)]∧V W w (Sl 5 1 av dn.length c' (bc dn)::L)) (bs.length) (⟨0,0,none,[],0,⟨rfl,by omega,rfl⟩,E.ab [0,3,4,5],I.bH 5 1 none⟩) ?_;clear E I;rintro μ a w ⟨i,c',av,dn,last,⟨rfl,hi,da⟩,E,I⟩;refine IF 6 E I (λaj a E=>?_) λaj a E=>?_
 ·
  obtain⟨bb,oo,rfl,_⟩:=(hp _ I.tail).get (by omega);have aJ:i<bs.length:=by omega
  have l5:dn.length≤11*bs.length:=by
   have:=congrArg List.length da;rw[aK]at this;omega
  refine RN 4 E I λa E=>?_;refine aS (λμ a w=>∃ (k:Nat),(μ=bs.length-k∧i≤k∧k≤bs.length∧(k=i∨mS bs i k))∧Fr a 48 [(0,.slice (some ⟨bb,oo,none⟩) bs.length c),(3,.slice av dn.length c'),(4,.int .u8 (last.toNat:Int)),(5,.int .i64 i),(6,.int .i64 k)]∧V W w (Sl 5 1 av dn.length c' (bc dn)::L)) (bs.length-i) (⟨i,⟨rfl,by omega,by omega,.inl rfl⟩,E.ab [0,3,4,5,6],I⟩) ?_;clear E I;rintro μ a w ⟨k,⟨rfl,oW,hk,ki⟩,E,I⟩;refine RN 1 E I λa E=>?_;refine bZ (M:=λa w=>∃ z:Bool,(z=true→mS bs i (k+1))∧(z=false→mS bs i k∧∀ he:k<bs.length,bs[k]≠bs[i])∧Fr a 48 [(0,.slice (some ⟨bb,oo,none⟩) bs.length c),(3,.slice av dn.length c'),(4,.int .u8 (last.toNat:Int)),(5,.int .i64 i),(6,.int .i64 k),(26,.bool z)]∧V W w (Sl 5 1 av dn.length c' (bc dn)::L)) ?_ ?_
  ·
   refine bL 0 [12] [0,1,2,3,4,5,6,7,9,10,11,3008,1012,13,14] E I λa w E I hH U=>?_;have hr:=(hp _ I.tail).rd (by omega);refine RH 5 E I hH U λa E=>?_;refine E.by (s:=16) (λdE E=>?_) (λdE E=>?_)
   ·
    refine RH 6 E I hH U λa E=>?_;refine QH E (λw hc=>ag E ((hc.rd hr) k _ (dR (i:=k) (bs:=bs) (show k<bs.length by omega)))) U λa E=>?_;refine RH 0 E I hH U λa E=>?_;refine bz E (cW E rfl (s:=16)) (ag E ((U.rd hr) i _ (dR aJ))) rfl λa E=>?_;refine RH 2 E I hH U λa E=>?_;have eK:k<bs.length:=by omega
    refine⟨_,λh=>?_,λh=>?_,E.ab [0,3,4,5,6,26],I⟩
    ·have he:bs[k]=bs[i]:=UInt8.toNat_inj.1 (by have:=of_decide_eq_true h;omega);rcases ki with rfl | ki
     ·exact mS.one aJ
     ·exact ki.more eK he
    ·have he:bs[k]≠bs[i]:=λe=>of_decide_eq_false h (by rw[e]);rcases ki with rfl | ki
     ·exact absurd rfl he
     ·exact⟨ki,λ_=>he⟩
   refine RH 10 E I hH U λa E=>?_;refine⟨_,λh=>(by cases h),λh=>?_,E.ab [0,3,4,5,6,26],I⟩;rcases ki with rfl | ki
   ·omega
   ·exact⟨ki,λ_=>absurd (show k<bs.length by assumption) (by omega)⟩
  clear E;(try clear I);rintro a w ⟨z,c5,kh,E,I⟩;refine IF 0 E I (λan a E=>?_) λan a E=>?_
  ·
   have o7:=c5 an;refine RN 3 E I λa E=>?_;exact⟨bs.length-(k+1),by have:=o7.le;omega,k+1,⟨rfl,by omega,o7.le,.inr o7⟩,E.ab [0,3,4,5,6],I⟩
  obtain⟨o7,bN⟩:=kh an;rw[o7.runs aJ bN last]at da;have eK:=o7.lt;have w8:=o7.le;refine aY 1 (λw0 w=>Rd w bb oo (bc bs)) [4] [0,1,2,3,5,6,7,9,3008,10,2004,1011,1012,13] E I λa w E I hH=>?_;have U:=(hp _ I.tail).rd (by omega);have eE:=qQ (n:=((k-i:Nat):Int)) (by omega) (by omega);refine RH 4 E I hH U λa E=>?_;rw[show ((k:Nat):Int)-((i:Nat):Int)=((k-i:Nat):Int) from by omega]at E;refine RH 4 E I hH U λa E=>?_;refine QH E (λw hc=>ag E (hc i _ (dR aJ))) U λa E=>?_;refine RH 1 E I hH U λa E=>?_;refine DN [(4,[1011,1012,13]),(11,[1004,1012,13])] (by kernel_rfl) rfl ⟨⟨_,rfl,?_⟩,⟨_,rfl,?_⟩,trivial⟩
  ·
   refine RH 0 E I hH U λa E=>?_;refine a2 0 E I (sa (N:=((k-i:Nat):Int)) (I.pick (Sl 5 1 av dn.length c' (bc dn))) (by omega) (by omega) (by omega)) λc0 dQ a w E I=>?_;replace U:=hH.at w ((hp _ I.sub).rd (by omega));refine RH 0 E I hH U λa E=>?_;refine cm E rfl I underlying22 Ty.t5 rfl rfl rfl rfl (by decide) (by decide) λHu a w E I ho=>?_;clear ho;refine RN 0 E I λa E=>?_;refine cJ E rfl I underlying22 Ty.t5 rfl rfl I.ai rfl (by simp[Value.oneCell']) (by decide) (by decide) (by rw[aK];omega) λxy DJ a w E I=>?_;refine RN 1 E I λa E=>?_;rw[tL]at I;have mT:(dn++aL (zz ((k-i:Nat):Int))++[bs[i] ^^^ last])++dA (bs.drop k) bs[i]=dA bs 0:=by rw[← da];simp
   rw[show (dn++aL (zz ((k-i:Nat):Int))).length+1=(dn++aL (zz ((k-i:Nat):Int))++[bs[i] ^^^ last]).length from by simp only[aK,ja]]at E I;generalize dn++aL (zz ((k-i:Nat):Int))++[bs[i] ^^^ last]=qR at E I mT;refine RN 4 E I λa E=>?_;refine SS E (ag E (((hp _ I.sub).rd (by omega)) i _ (dR aJ))) λa E=>?_;refine RN 3 E I λa E=>?_;exact⟨bs.length-k,by omega,k,_,xy,qR,bs[i],⟨rfl,by omega,mT⟩,E.ab [0,3,4,5],I.sub⟩
  refine RH 0 E I hH U λa E=>?_;refine cm E rfl I underlying22 Ty.t5 rfl rfl rfl rfl (by decide) (by decide) λHu a w E I ho=>?_;clear ho;refine a2 0 E I (sa (N:=((k-i:Nat):Int)) (I.pick (Sl 5 1 av dn.length c' (bc dn))) (by omega) (by omega) (by omega)) λc0 dQ a w E I=>?_;replace U:=hH.at w ((hp _ I.sub).rd (by omega));refine RH 0 E I hH U λa E=>?_;refine cJ E rfl I underlying22 Ty.t5 rfl rfl I.ai rfl (by simp[Value.oneCell']) (by decide) (by decide) (by rw[aK];omega) λxy DJ a w E I=>?_;refine RN 1 E I λa E=>?_;rw[tL]at I;have mT:(dn++aL (zz ((k-i:Nat):Int))++[bs[i] ^^^ last])++dA (bs.drop k) bs[i]=dA bs 0:=by rw[← da];simp
  rw[show (dn++aL (zz ((k-i:Nat):Int))).length+1=(dn++aL (zz ((k-i:Nat):Int))++[bs[i] ^^^ last]).length from by simp only[aK,ja]]at E I;generalize dn++aL (zz ((k-i:Nat):Int))++[bs[i] ^^^ last]=qR at E I mT;refine RN 4 E I λa E=>?_;refine SS E (ag E (((hp _ I.sub).rd (by omega)) i _ (dR aJ))) λa E=>?_;refine RN 3 E I λa E=>?_;exact⟨bs.length-k,by omega,k,_,xy,qR,bs[i],⟨rfl,by omega,mT⟩,E.ab [0,3,4,5],I.sub⟩
 rw[drop_eq_nil_of_le (by omega),vv,append_nil]at da;refine RT 3 E I ?_;exact⟨_,_,by rw[← da],by rw[← da];exact I⟩
theorem WE (I:V W w L)(hb:bs.length≤65536)(hp:∀ w',V W w' L→a6 w' ad bs.length bs) :
   Calls prog 159 #[.slice ad bs.length c] w λe w'=>∃ av c',e=.returned (.slice av (dA bs 0).length c')∧V W w' (Sl 5 1 av (dA bs 0).length c' (bc (dA bs 0))::L):=by
 have iK:=xw bs 0;refine EN func159 ntmps159 rfl rfl λa E=>?_;refine RN 9 E I λa E=>?_;refine aS (λμ a w=>∃ (i c':Nat) (av:Option Addr) (dn:List UInt8) (last:UInt8),(μ=bs.length-i∧i≤bs.length∧dn++dA (bs.drop i) last=dA bs 0)∧Fr a 52 [(0,.slice ad bs.length c),(3,.slice av dn.length c'),(4,.int .u8 (last.toNat:Int)),(5,.int .i64 i)]∧V W w (Sl 5 1 av dn.length c' (bc dn)::L)) (bs.length) (⟨0,0,none,[],0,⟨rfl,by omega,rfl⟩,E.ab [0,3,4,5],I.bH 5 1 none⟩) ?_;clear E I;rintro μ a w ⟨i,c',av,dn,last,⟨rfl,hi,da⟩,E,I⟩;refine IF 6 E I (λaj a E=>?_) λaj a E=>?_
 ·
  obtain⟨bb,oo,rfl,_⟩:=(hp _ I.tail).get (by omega);have aJ:i<bs.length:=by omega
  have l5:dn.length≤11*bs.length:=by
   have:=congrArg List.length da;rw[aK]at this;omega
  refine RN 3 E I λa E=>?_;refine aS (λμ a w=>∃ (k:Nat),(μ=bs.length-k∧k≤bs.length∧mS bs i k)∧Fr a 52 [(0,.slice (some ⟨bb,oo,none⟩) bs.length c),(3,.slice av dn.length c'),(4,.int .u8 (last.toNat:Int)),(5,.int .i64 i),(6,.int .i64 ((k-i:Nat):Int))]∧V W w (Sl 5 1 av dn.length c' (bc dn)::L)) (bs.length-(i+1)) (⟨i+1,⟨rfl,by omega,mS.one aJ⟩,by rw[show i+1-i=1 from by omega];exact E.ab [0,3,4,5,6],I⟩) ?_;clear E I;rintro μ a w ⟨k,⟨rfl,hk,ki⟩,E,I⟩;refine RN 1 E I λa E=>?_;refine bZ (M:=λa w=>∃ z:Bool,(z=true→mS bs i (k+1))∧(z=false→∀ he:k<bs.length,bs[k]≠bs[i])∧Fr a 52 [(0,.slice (some ⟨bb,oo,none⟩) bs.length c),(3,.slice av dn.length c'),(4,.int .u8 (last.toNat:Int)),(5,.int .i64 i),(6,.int .i64 ((k-i:Nat):Int)),(29,.bool z)]∧V W w (Sl 5 1 av dn.length c' (bc dn)::L)) ?_ ?_
  ·
   refine RN 0 E I λa E=>?_;have oW:=ki.lt;refine bL 0 [16] [0,1,2,3,4,5,6,7,8,9,10,11,13,14,15,3012,1016,17,18] E I λa w E I hH U=>?_;have hr:=(hp _ I.tail).rd (by omega);refine RH 3 E I hH U λa E=>?_;rw[show ((i:Nat):Int)+((k-i:Nat):Int)=(k:Int) from by omega]at E;refine RH 4 E I hH U λa E=>?_;refine E.by (s:=17) (λjM E=>?_) (λjM E=>?_)
   ·
    refine RH 4 E I hH U λa E=>?_;rw[show ((i:Nat):Int)+((k-i:Nat):Int)=(k:Int) from by omega]at E;refine RH 4 E I hH U λa E=>?_;refine QH E (λw hc=>ag E ((hc.rd hr) k _ (dR (i:=k) (bs:=bs) (show k<bs.length by omega)))) U λa E=>?_;refine RH 0 E I hH U λa E=>?_;refine bz E (cW E rfl (s:=17)) (ag E ((U.rd hr) i _ (dR aJ))) rfl λa E=>?_;refine RH 2 E I hH U λa E=>?_;have eK:k<bs.length:=by omega
    refine⟨_,λh=>?_,λh=>?_,E.ab [0,3,4,5,6,29],I⟩
    ·have he:bs[k]=bs[i]:=UInt8.toNat_inj.1 (by have:=of_decide_eq_true h;omega);exact ki.more eK he
    ·have he:bs[k]≠bs[i]:=λe=>of_decide_eq_false h (by rw[e]);exact λ_=>he
   refine RH 12 E I hH U λa E=>?_;refine⟨_,λh=>(by cases h),λh=>?_,E.ab [0,3,4,5,6,29],I⟩;exact λ_=>absurd (show k<bs.length by assumption) (by omega)
  clear E;(try clear I);rintro a w ⟨z,c5,kh,E,I⟩;refine IF 0 E I (λan a E=>?_) λan a E=>?_
  ·
   have o7:=c5 an;refine RN 1 E I λa E=>?_;have oW:=ki.lt;have cc:((k-i:Nat):Int)≤65536:=by omega
   refine RN 1 E I λa E=>?_;rw[show ((k-i:Nat):Int)+1=((k+1-i:Nat):Int) from by omega]at E;refine RN 1 E I λa E=>?_;exact⟨bs.length-(k+1),by have:=o7.le;omega,k+1,⟨rfl,o7.le,o7⟩,E.ab [0,3,4,5,6],I⟩
  have bN:=kh an;rw[ki.runs aJ bN last]at da;have eK:=ki.lt;have w8:=ki.le;refine aY 1 (λw0 w=>Rd w bb oo (bc bs)) [2,3] [0,1,4,5,6,8,3007,9,2002,2003,1010,1011,12] E I λa w E I hH=>?_;have U:=(hp _ I.tail).rd (by omega);have eE:=qQ (n:=((k-i:Nat):Int)) (by omega) (by omega);refine RH 6 E I hH U λa E=>?_;refine QH E (λw hc=>ag E (hc i _ (dR aJ))) U λa E=>?_;refine RH 1 E I hH U λa E=>?_;refine DN [(2,[2003,1010,1011,12]),(10,[1002,1003,1011,12])] (by kernel_rfl) rfl ⟨⟨_,rfl,?_⟩,⟨_,rfl,?_⟩,trivial⟩
  ·
   refine RH 0 E I hH U λa E=>?_;refine a2 0 E I (sx (N:=((k-i:Nat):Int)) I (by omega) (by omega)) λc0 dQ a w E I=>?_;replace U:=hH.at w ((hp _ I.sub).rd (by omega));refine RH 0 E I hH U λa E=>?_;refine DN [(3,[1010,1011,12]),(10,[1003,1011,12])] (by kernel_rfl) rfl ⟨⟨_,rfl,?_⟩,⟨_,rfl,?_⟩,trivial⟩
   ·
    obtain⟨bp,op,rfl,fc⟩:=(I.cF c0 (aL (zz ((k-i:Nat):Int))) rfl rfl).get (qJ _);refine RH 0 E I hH U λa E=>?_;refine cJ E rfl I underlying22 Ty.t5 rfl rfl fc (by rw[dx,Nat.mul_one]) (ek _) (qJ _) (by decide) (by omega) λDK DL a w E I=>?_;replace U:=hH.at w ((hp _ I.sub).rd (by omega));refine RH 0 E I hH U λa E=>?_;refine cm E rfl I underlying22 Ty.t5 rfl rfl rfl rfl (by decide) (by decide) λJy a w E I ho=>?_;clear ho;refine RN 0 E I λa E=>?_;refine cJ E rfl I underlying22 Ty.t5 rfl rfl I.ai rfl (by simp[Value.oneCell']) (by decide) (by decide) (by omega) λvz DM a w E I=>?_;refine RN 1 E I λa E=>?_;rw[← fI,tL]at I;have mT:(dn++aL (zz ((k-i:Nat):Int))++[bs[i] ^^^ last])++dA (bs.drop k) bs[i]=dA bs 0:=by rw[← da];simp
    rw[show dn.length+(aL (zz ((k-i:Nat):Int))).length+1=(dn++aL (zz ((k-i:Nat):Int))++[bs[i] ^^^ last]).length from by simp only[aK,ja]]at E I;generalize dn++aL (zz ((k-i:Nat):Int))++[bs[i] ^^^ last]=qR at E I mT;refine RN 4 E I λa E=>?_;refine SS E (ag E (((hp _ I.sub).rd (by omega)) i _ (dR aJ))) λa E=>?_;refine RN 4 E I λa E=>?_;rw[show ((i:Nat):Int)+((k-i:Nat):Int)=(k:Int) from by omega]at E;refine RN 1 E I λa E=>?_;exact⟨bs.length-k,by omega,k,_,vz,qR,bs[i],⟨rfl,by omega,mT⟩,E.ab [0,3,4,5],I.sub⟩
   refine RH 0 E I hH U λa E=>?_;refine cm E rfl I underlying22 Ty.t5 rfl rfl rfl rfl (by decide) (by decide) λJy a w E I ho=>?_;clear ho;obtain⟨bp,op,rfl,fc⟩:=(I.cF c0 (aL (zz ((k-i:Nat):Int))) rfl rfl).get (qJ _);refine RN 0 E I λa E=>?_;refine cJ E rfl I underlying22 Ty.t5 rfl rfl fc (by rw[dx,Nat.mul_one]) (ek _) (qJ _) (by decide) (by omega) λDK DL a w E I=>?_;replace U:=hH.at w ((hp _ I.sub).rd (by omega));refine RH 0 E I hH U λa E=>?_;refine cJ E rfl I underlying22 Ty.t5 rfl rfl I.ai rfl (by simp[Value.oneCell']) (by decide) (by decide) (by omega) λvz DM a w E I=>?_;refine RN 1 E I λa E=>?_;rw[← fI,tL]at I;have mT:(dn++aL (zz ((k-i:Nat):Int))++[bs[i] ^^^ last])++dA (bs.drop k) bs[i]=dA bs 0:=by rw[← da];simp
   rw[show dn.length+(aL (zz ((k-i:Nat):Int))).length+1=(dn++aL (zz ((k-i:Nat):Int))++[bs[i] ^^^ last]).length from by simp only[aK,ja]]at E I;generalize dn++aL (zz ((k-i:Nat):Int))++[bs[i] ^^^ last]=qR at E I mT;refine RN 4 E I λa E=>?_;refine SS E (ag E (((hp _ I.sub).rd (by omega)) i _ (dR aJ))) λa E=>?_;refine RN 4 E I λa E=>?_;rw[show ((i:Nat):Int)+((k-i:Nat):Int)=(k:Int) from by omega]at E;refine RN 1 E I λa E=>?_;exact⟨bs.length-k,by omega,k,_,vz,qR,bs[i],⟨rfl,by omega,mT⟩,E.ab [0,3,4,5],I.sub⟩
  refine RH 0 E I hH U λa E=>?_;refine cm E rfl I underlying22 Ty.t5 rfl rfl rfl rfl (by decide) (by decide) λJy a w E I ho=>?_;clear ho;refine a2 0 E I (sx (N:=((k-i:Nat):Int)) I (by omega) (by omega)) λc0 dQ a w E I=>?_;replace U:=hH.at w ((hp _ I.sub).rd (by omega));obtain⟨bp,op,rfl,fc⟩:=(I.cF c0 (aL (zz ((k-i:Nat):Int))) rfl rfl).get (qJ _);refine RH 0 E I hH U λa E=>?_;refine cJ E rfl I underlying22 Ty.t5 rfl rfl fc (by rw[dx,Nat.mul_one]) (ek _) (qJ _) (by decide) (by omega) λDK DL a w E I=>?_;replace U:=hH.at w ((hp _ I.sub).rd (by omega));refine RH 0 E I hH U λa E=>?_;refine cJ E rfl I underlying22 Ty.t5 rfl rfl I.ai rfl (by simp[Value.oneCell']) (by decide) (by decide) (by omega) λvz DM a w E I=>?_;refine RN 1 E I λa E=>?_;rw[← fI,tL]at I;have mT:(dn++aL (zz ((k-i:Nat):Int))++[bs[i] ^^^ last])++dA (bs.drop k) bs[i]=dA bs 0:=by rw[← da];simp
  rw[show dn.length+(aL (zz ((k-i:Nat):Int))).length+1=(dn++aL (zz ((k-i:Nat):Int))++[bs[i] ^^^ last]).length from by simp only[aK,ja]]at E I;generalize dn++aL (zz ((k-i:Nat):Int))++[bs[i] ^^^ last]=qR at E I mT;refine RN 4 E I λa E=>?_;refine SS E (ag E (((hp _ I.sub).rd (by omega)) i _ (dR aJ))) λa E=>?_;refine RN 4 E I λa E=>?_;rw[show ((i:Nat):Int)+((k-i:Nat):Int)=(k:Int) from by omega]at E;refine RN 1 E I λa E=>?_;exact⟨bs.length-k,by omega,k,_,vz,qR,bs[i],⟨rfl,by omega,mT⟩,E.ab [0,3,4,5],I.sub⟩
 rw[drop_eq_nil_of_le (by omega),vv,append_nil]at da;refine RT 3 E I ?_;exact⟨_,_,by rw[← da],by rw[← da];exact I⟩
theorem WG (I:V W w L)(hb:bs.length≤65536)(hc:bs.length≤c)(hm:m≤1000000)(hp:∀ w',V W w' L→a6 w' ad bs.length bs) :
   Calls prog 333 #[.slice ad bs.length c,.int .i64 m] w λe w'=>∃ (out:List UInt8) (av:Option Addr) (c':Nat) (er:Int),e=.returned (.tuple #[.slice av out.length c',.int .i64 er])∧sy bs m out er∧V W w' (Sl 5 1 av out.length c' (bc out)::L):=by
 refine EN func333 ntmps333 rfl rfl λa E=>?_;refine RN 10 E I λa E=>?_;refine aS (λμ a w=>∃ (i c':Nat) (av:Option Addr) (dn:List UInt8) (last:UInt8),(μ=bs.length-i∧i≤bs.length∧dn.length≤m∧(0<i→dn≠[])∧∀ p:List UInt8,p.length≤m→bs=dA p 0→mc p dn last (bs.drop i))∧Fr a 79 [(0,.slice ad bs.length c),(1,.int .i64 m),(6,.slice av dn.length c'),(7,.int .u8 (last.toNat:Int)),(8,.int .i64 i)]∧V W w (Sl 5 1 av dn.length c' (bc dn)::L)) (bs.length) (⟨0,0,none,[],0,⟨rfl,by omega,by simp,by omega,λp _ e=>by rw[drop_zero,e];exact mc.start p⟩,E.ab [0,1,6,7,8],I.bH 5 1 none⟩) ?_;clear E I;rintro μ a w ⟨i,c',av,dn,last,⟨rfl,hi,DO,DP,mN⟩,E,I⟩;refine IF 6 E I (λaj a E=>?_) λaj a E=>?_
 ·
  obtain⟨bb,oo,rfl,_⟩:=(hp _ I.tail).get (by omega);have aJ:i<bs.length:=by omega
  have bN:bs.drop i≠[]:=λe=>by have:=congrArg List.length e;simp at this;omega
  refine RN 4 E I λa E=>?_;rw[show bs.length-i=(bs.drop i).length from by simp]at E;refine jD 0 E I (Jt (bs:=bs.drop i) I (by simp;omega) (λw' hw=>(hp w' hw.tail).tH hi hc)) λx k er a w E ⟨hg,I⟩=>?_;refine RN 8 E I λa E=>?_;refine bZ (M:=λa w=>∃ z:Bool,(z=true↔(er≠0∨x<1∨bs.length≤i+k∨((bs.getD (i+k) 0).toNat=0∧0<i)))∧Fr a 79 [(0,.slice (some ⟨bb,oo,none⟩) bs.length c),(1,.int .i64 m),(6,.slice av dn.length c'),(7,.int .u8 (last.toNat:Int)),(8,.int .i64 i),(9,.int .i64 x),(10,.int .i64 k),(50,.bool z)]∧V W w (Sl 5 1 av dn.length c' (bc dn)::L)) ?_ ?_
  ·
   have l5:(bs.drop i).length=bs.length-i:=by simp
   have o8:=hg.2.2.1;have m7:=hg.2.1;have nZ:=hg.1;have eK:k≤bs.length:=by
    by_cases h0:er=0
    ·have:=o8 h0;omega
    ·have:=(hg.2.2.2.1 h0).1;omega
   refine BY 3 E I (λbw a E=>?_) λbw a E=>?_
   ·
    refine RN 24 E I λa E=>?_;exact⟨_,by first | (rw[cn];omega) | exact⟨λh=>(by cases h),λh=>absurd h (by omega)⟩ | exact⟨λ_=>by omega,λ_=>rfl⟩,E.ab [0,1,6,7,8,9,10,50],I⟩
   refine BY 4 E I (λjM a E=>?_) λjM a E=>?_
   ·
    refine RN 20 E I λa E=>?_;exact⟨_,by first | (rw[cn];omega) | exact⟨λh=>(by cases h),λh=>absurd h (by omega)⟩ | exact⟨λ_=>by omega,λ_=>rfl⟩,E.ab [0,1,6,7,8,9,10,50],I⟩
   refine BY 8 E I (λkz a E=>?_) λkz a E=>?_
   ·
    refine RN 12 E I λa E=>?_;exact⟨_,by first | (rw[cn];omega) | exact⟨λh=>(by cases h),λh=>absurd h (by omega)⟩ | exact⟨λ_=>by omega,λ_=>rfl⟩,E.ab [0,1,6,7,8,9,10,50],I⟩
   refine RN 4 E I λa E=>?_;rw[show ((i:Nat):Int)+((k:Nat):Int)=((i+k:Nat):Int) from by omega]at E;refine RN 1 E I λa E=>?_;refine bz E (cW E rfl (s:=38)) (ag E (((hp _ I.tail).rd (by omega)) (i+k) _ (kH (by omega)))) rfl λa E=>?_;refine BY 2 E I (λo9 a E=>?_) λo9 a E=>?_
   ·
    refine RN 4 E I λa E=>?_;exact⟨_,by first | (rw[cn];omega) | exact⟨λh=>(by cases h),λh=>absurd h (by omega)⟩ | exact⟨λ_=>by omega,λ_=>rfl⟩,E.ab [0,1,6,7,8,9,10,50],I⟩
   refine RN 4 E I λa E=>?_;exact⟨_,by first | (rw[cn];omega) | exact⟨λh=>(by cases h),λh=>absurd h (by omega)⟩ | exact⟨λ_=>by omega,λ_=>rfl⟩,E.ab [0,1,6,7,8,9,10,50],I⟩
  clear E;(try clear I);rintro a w ⟨z,hz,E,I⟩;refine IF 0 E I (λan a E=>?_) λan a E=>?_
  ·
   have jL:=hz.1 an;refine RT 3 E I ?_;exact⟨[],none,0,1,rfl,sy.bad mN hm bN hg (by rw[Jx,c7];rcases jL with h | h | h | h;exact .inl h;exact .inr (.inl h);exact .inr (.inr (.inl (by omega)));exact .inr (.inr (.inr (.inl ⟨DP h.2,h.1⟩)))) (.inl rfl),I.tail.bH _ _ _⟩
  have Db:¬ (er≠0∨x<1∨bs.length≤i+k∨((bs.getD (i+k) 0).toNat=0∧0<i)):=λh=>absurd (hz.2 h) (by simp[an]);refine IF 9 E I (λay a E=>?_) λay a E=>?_
  ·
   refine RT 3 E I ?_;exact⟨[],none,0,4,rfl,sy.bad mN hm bN hg (.inr (.inr (.inr (.inr (by omega))))) (.inr rfl),I.tail.bH _ _ _⟩
  refine RN 6 E I λa E=>?_;rw[show ((i:Nat):Int)+((k:Nat):Int)=((i+k:Nat):Int) from by omega]at E;refine RN 1 E I λa E=>?_;refine SS E (ag E (((hp _ I.tail).rd (by omega)) (i+k) _ (kH (by omega)))) λa E=>?_;refine RN 2 E I λa E=>?_;generalize hy:last ^^^ bs.getD (i+k) 0=y at E;refine RN 4 E I λa E=>?_;refine aS (λμ a w=>∃ (j c2:Nat) (ad2:Option Addr),(μ=x.toNat-j∧j≤x.toNat)∧Fr a 79 [(0,.slice (some ⟨bb,oo,none⟩) bs.length c),(1,.int .i64 m),(6,.slice ad2 (dn++List.replicate j y).length c2),(7,.int .u8 (y.toNat:Int)),(8,.int .i64 i),(10,.int .i64 k),(66,.int .i64 x),(67,.int .i64 j)]∧V W w (Sl 5 1 ad2 (dn++List.replicate j y).length c2 (bc (dn++List.replicate j y))::L)) (x.toNat) (⟨0,c',av,⟨rfl,by omega⟩,by rw[List.replicate_zero,append_nil];exact E.ab [0,1,6,7,8,10,66,67],by rw[List.replicate_zero,append_nil];exact I⟩) ?_;clear E I;rintro μ a w ⟨j,c2,ad2,⟨rfl,hj⟩,E,I⟩;refine IF 3 E I (λbg a E=>?_) λbg a E=>?_
  ·
   refine RN 1 E I λa E=>?_;have eO:(dn++List.replicate j y).length=dn.length+j:=by simp
   refine RN 2 E I λa E=>?_;refine cm E rfl I underlying22 Ty.t5 rfl rfl rfl rfl (by decide) (by decide) λWH a w E I ho=>?_;clear ho;refine RN 0 E I λa E=>?_;refine cJ E rfl I underlying22 Ty.t5 rfl rfl I.ai rfl (by simp[Value.oneCell']) (by decide) (by decide) (by omega) λJz JA a w E I=>?_;refine RN 1 E I λa E=>?_;rw[tL,show (dn++List.replicate j y)++[y]=dn++List.replicate (j+1) y from by rw[dw,← replicate_succ']]at I;rw[show (dn++List.replicate j y).length+1=(dn++List.replicate (j+1) y).length from by simp;omega]at E I;refine RN 2 E I λa E=>?_;exact⟨x.toNat-(j+1),by omega,j+1,_,_,⟨rfl,by omega⟩,E.ab [0,1,6,7,8,10,66,67],I.sub⟩
  obtain rfl:j=x.toNat:=by omega
  refine RN 0 E I λa E=>?_;have oY:(dn++List.replicate x.toNat y).length=dn.length+x.toNat:=by simp
  refine RN 4 E I λa E=>?_;rw[show ((i:Nat):Int)+(((k:Nat):Int)+1)=((i+k+1:Nat):Int) from by omega]at E;refine RN 1 E I λa E=>?_;exact⟨bs.length-(i+k+1),by omega,i+k+1,_,_,_,y,⟨rfl,by omega,by omega,λ_ e=>(by rw[e]at oY;simp at oY;omega),λp tM e=>(by
   have h2:=((mN p tM e).get (by omega) bN hg).2.2.2.2.2;rw[Jx,hy,drop_drop]at h2;exact h2)⟩,E.ab [0,1,6,7,8],I⟩
 refine RT 4 E I ?_;exact⟨dn,_,_,0,rfl,⟨by omega,DO,λp tM e=>⟨by have h2:=mN p tM e;rw[drop_eq_nil_of_le (by omega)]at h2;exact h2.done.symm,rfl⟩⟩,I⟩
theorem WI (I:V W w L)(hb:bs.length≤65536)(hc:bs.length≤c)(hm:m≤1000000)(hp:∀ w',V W w' L→a6 w' ad bs.length bs) :
   Calls prog 216 #[.slice ad bs.length c,.int .i64 m] w λe w'=>∃ (out:List UInt8) (av:Option Addr) (c':Nat) (er:Int),e=.returned (.tuple #[.slice av out.length c',.int .i64 er])∧sy bs m out er∧V W w' (Sl 5 1 av out.length c' (bc out)::L):=by
 refine EN func216 ntmps216 rfl rfl λa E=>?_;refine RN 10 E I λa E=>?_;refine aS (λμ a w=>∃ (i c' n3:Nat) (av qS:Option Addr) (dn rest:List UInt8) (last:UInt8) (fi:Bool),(μ=rest.length∧rest.length≤bs.length∧rest.length≤n3∧dn.length≤m∧(fi=false→dn≠[])∧(∀ w',V W w' L→a6 w' qS rest.length rest)∧∀ p:List UInt8,p.length≤m→bs=dA p 0→mc p dn last rest)∧Fr a 72 [(0,.slice qS rest.length n3),(1,.int .i64 m),(6,.slice av dn.length c'),(7,.int .u8 (last.toNat:Int)),(8,.bool fi)]∧V W w (Sl 5 1 av dn.length c' (bc dn)::L)) (bs.length) (⟨0,0,c,none,ad,[],bs,0,true,⟨rfl,by omega,hc,by simp,(by simp),hp,λp _ e=>by rw[e];exact mc.start p⟩,E.ab [0,1,6,7,8],I.bH 5 1 none⟩) ?_;clear E I;rintro μ a w ⟨i,c',n3,av,qS,dn,rest,last,fi,⟨rfl,zL,js,DO,DP,aZ,mN⟩,E,I⟩;refine IF 5 E I (λaj a E=>?_) λaj a E=>?_
 ·
  obtain⟨bb,oo,rfl,_⟩:=(aZ _ I.tail).get (by omega);have bN:rest≠[]:=λe=>by rw[e]at aj;simp at aj
  refine jD 3 E I (DH (bs:=rest) I (by omega) (λw' hw=>aZ w' hw.tail)) λx k er a w E ⟨hg,I⟩=>?_;refine RN 8 E I λa E=>?_;refine bZ (M:=λa w=>∃ z:Bool,(z=true↔(er≠0∨x<1∨rest.length≤k∨((rest.getD k 0).toNat=0∧fi=false)))∧Fr a 72 [(0,.slice (some ⟨bb,oo,none⟩) rest.length n3),(1,.int .i64 m),(6,.slice av dn.length c'),(7,.int .u8 (last.toNat:Int)),(8,.bool fi),(9,.int .i64 x),(10,.int .i64 k),(44,.bool z)]∧V W w (Sl 5 1 av dn.length c' (bc dn)::L)) ?_ ?_
  ·
   have o8:=hg.2.2.1;have m7:=hg.2.1;have nZ:=hg.1;have eK:k≤rest.length:=by
    by_cases h0:er=0
    ·have:=o8 h0;omega
    ·have:=(hg.2.2.2.1 h0).1;omega
   refine BY 3 E I (λbw a E=>?_) λbw a E=>?_
   ·
    refine RN 20 E I λa E=>?_;exact⟨_,by first | (rw[cn];omega) | exact⟨λh=>(by cases h),λh=>absurd h (by omega)⟩ | exact⟨λ_=>by omega,λ_=>rfl⟩ | (cases fi;exact⟨λ_=>.inr (.inr (.inr ⟨by omega,rfl⟩)),λ_=>rfl⟩;exact⟨λh=>(by cases h),λh=>by rcases h with h | h | h | h;exact absurd h (by omega);exact absurd h (by omega);exact absurd h (by omega);exact absurd h.2 (by decide)⟩),E.ab [0,1,6,7,8,9,10,44],I⟩
   refine BY 4 E I (λjM a E=>?_) λjM a E=>?_
   ·
    refine RN 16 E I λa E=>?_;exact⟨_,by first | (rw[cn];omega) | exact⟨λh=>(by cases h),λh=>absurd h (by omega)⟩ | exact⟨λ_=>by omega,λ_=>rfl⟩ | (cases fi;exact⟨λ_=>.inr (.inr (.inr ⟨by omega,rfl⟩)),λ_=>rfl⟩;exact⟨λh=>(by cases h),λh=>by rcases h with h | h | h | h;exact absurd h (by omega);exact absurd h (by omega);exact absurd h (by omega);exact absurd h.2 (by decide)⟩),E.ab [0,1,6,7,8,9,10,44],I⟩
   refine BY 6 E I (λhS a E=>?_) λhS a E=>?_
   ·
    refine RN 10 E I λa E=>?_;exact⟨_,by first | (rw[cn];omega) | exact⟨λh=>(by cases h),λh=>absurd h (by omega)⟩ | exact⟨λ_=>by omega,λ_=>rfl⟩ | (cases fi;exact⟨λ_=>.inr (.inr (.inr ⟨by omega,rfl⟩)),λ_=>rfl⟩;exact⟨λh=>(by cases h),λh=>by rcases h with h | h | h | h;exact absurd h (by omega);exact absurd h (by omega);exact absurd h (by omega);exact absurd h.2 (by decide)⟩),E.ab [0,1,6,7,8,9,10,44],I⟩
   refine RN 3 E I λa E=>?_;refine bz E (cW E rfl (s:=34)) (ag E (((aZ _ I.tail).rd (by omega)) k _ (kH (by omega)))) rfl λa E=>?_;refine BY 2 E I (λtt a E=>?_) λtt a E=>?_
   ·
    refine RN 4 E I λa E=>?_;exact⟨_,by first | (rw[cn];omega) | exact⟨λh=>(by cases h),λh=>absurd h (by omega)⟩ | exact⟨λ_=>by omega,λ_=>rfl⟩ | (cases fi;exact⟨λ_=>.inr (.inr (.inr ⟨by omega,rfl⟩)),λ_=>rfl⟩;exact⟨λh=>(by cases h),λh=>by rcases h with h | h | h | h;exact absurd h (by omega);exact absurd h (by omega);exact absurd h (by omega);exact absurd h.2 (by decide)⟩),E.ab [0,1,6,7,8,9,10,44],I⟩
   refine RN 4 E I λa E=>?_;exact⟨_,by first | (rw[cn];omega) | exact⟨λh=>(by cases h),λh=>absurd h (by omega)⟩ | exact⟨λ_=>by omega,λ_=>rfl⟩ | (cases fi;exact⟨λ_=>.inr (.inr (.inr ⟨by omega,rfl⟩)),λ_=>rfl⟩;exact⟨λh=>(by cases h),λh=>by rcases h with h | h | h | h;exact absurd h (by omega);exact absurd h (by omega);exact absurd h (by omega);exact absurd h.2 (by decide)⟩),E.ab [0,1,6,7,8,9,10,44],I⟩
  clear E;(try clear I);rintro a w ⟨z,hz,E,I⟩;refine IF 0 E I (λan a E=>?_) λan a E=>?_
  ·
   have jL:=hz.1 an;refine RT 3 E I ?_;exact⟨[],none,0,1,rfl,sy.bad mN hm bN hg (by rcases jL with h | h | h | h;exact .inl h;exact .inr (.inl h);exact .inr (.inr (.inl (by omega)));exact .inr (.inr (.inr (.inl ⟨DP h.2,h.1⟩)))) (.inl rfl),I.tail.bH _ _ _⟩
  have Db:¬ (er≠0∨x<1∨rest.length≤k∨((rest.getD k 0).toNat=0∧fi=false)):=λh=>absurd (hz.2 h) (by simp[an]);refine IF 9 E I (λay a E=>?_) λay a E=>?_
  ·
   refine RT 3 E I ?_;exact⟨[],none,0,4,rfl,sy.bad mN hm bN hg (.inr (.inr (.inr (.inr (by omega))))) (.inr rfl),I.tail.bH _ _ _⟩
  refine RN 5 E I λa E=>?_;refine SS E (ag E (((aZ _ I.tail).rd (by omega)) k _ (kH (by omega)))) λa E=>?_;refine RN 2 E I λa E=>?_;generalize hy:last ^^^ rest.getD k 0=y at E;refine RN 3 E I λa E=>?_;refine aS (λμ a w=>∃ (j c2:Nat) (ad2:Option Addr),(μ=x.toNat-j∧j≤x.toNat)∧Fr a 72 [(0,.slice (some ⟨bb,oo,none⟩) rest.length n3),(1,.int .i64 m),(6,.slice ad2 (dn++List.replicate j y).length c2),(7,.int .u8 (y.toNat:Int)),(8,.bool fi),(9,.int .i64 x),(10,.int .i64 k),(12,.int .i64 j)]∧V W w (Sl 5 1 ad2 (dn++List.replicate j y).length c2 (bc (dn++List.replicate j y))::L)) (x.toNat) (⟨0,c',av,⟨rfl,by omega⟩,by rw[List.replicate_zero,append_nil];exact E.ab [0,1,6,7,8,9,10,12],by rw[List.replicate_zero,append_nil];exact I⟩) ?_;clear E I;rintro μ a w ⟨j,c2,ad2,⟨rfl,hj⟩,E,I⟩;refine IF 5 E I (λbg a E=>?_) λbg a E=>?_
  ·
   refine RN 1 E I λa E=>?_;have eO:(dn++List.replicate j y).length=dn.length+j:=by simp
   refine RN 2 E I λa E=>?_;refine cm E rfl I underlying22 Ty.t5 rfl rfl rfl rfl (by decide) (by decide) λP1 a w E I ho=>?_;clear ho;refine RN 0 E I λa E=>?_;refine cJ E rfl I underlying22 Ty.t5 rfl rfl I.ai rfl (by simp[Value.oneCell']) (by decide) (by decide) (by omega) λad5 c66 a w E I=>?_;refine RN 1 E I λa E=>?_;rw[tL,show (dn++List.replicate j y)++[y]=dn++List.replicate (j+1) y from by rw[dw,← replicate_succ']]at I;rw[show (dn++List.replicate j y).length+1=(dn++List.replicate (j+1) y).length from by simp;omega]at E I;refine RN 3 E I λa E=>?_;exact⟨x.toNat-(j+1),by omega,j+1,_,_,⟨rfl,by omega⟩,E.ab [0,1,6,7,8,9,10,12],I.sub⟩
  obtain rfl:j=x.toNat:=by omega
  refine RN 0 E I λa E=>?_;have oY:(dn++List.replicate x.toNat y).length=dn.length+x.toNat:=by simp
  refine RN 5 E I λa E=>?_;rw[show rest.length-(k+1)=(rest.drop (k+1)).length from by simp]at E;refine RN 1 E I λa E=>?_;exact⟨(rest.drop (k+1)).length,by simp;omega,0,_,_,_,_,_,rest.drop (k+1),y,false,⟨rfl,by simp;omega,by simp;omega,by omega,λ_ e=>(by rw[e]at oY;simp at oY;omega),λw' hw=>(aZ w' hw).tH (by omega) js,λp tM e=>(by
   have h2:=((mN p tM e).get (by omega) bN hg).2.2.2.2.2;rw[hy]at h2;exact h2)⟩,E.ab [0,1,6,7,8],I⟩
 refine RT 4 E I ?_;have WJ:rest=[]:=g6 (by omega);exact⟨dn,_,_,0,rfl,⟨by omega,DO,λp tM e=>⟨by have h2:=mN p tM e;rw[WJ]at h2;exact h2.done.symm,rfl⟩⟩,I⟩
end
end
section
abbrev dM (p:Pk)(ad:Option Addr)(c:Nat):List Value:=[.int .i64 p.kind,.int .i64 p.aV,.int .i64 p.to,.int .i64 p.id,.int .i64 p.first,.slice ad p.ak.length c,.int .i64 p.db,.int .i64 p.frame,.int .u32 p.sum]
def pa (m:Int)(ns:List Int):Prop:=∀ n∈ns,0≤n∧n≤m
def DQ (ns:List Int):List Value:=ns.map λn=>.int .i64 n
theorem WK {ns:List Int}{i:Nat}(h:i<ns.length):(DQ ns)[i]?=some (.int .i64 ns[i]):=by simp[DQ,h]
def ix (p:Pk):Prop:=(0≤p.aV∧p.aV≤7)∧(0≤p.to∧p.to≤7)∧p.aV≠p.to∧(0≤p.id∧p.id≤1099511627776)
theorem DR {p:Pk}(h:ix p)(hk:p.kind=1):hC p↔(pa 1000 [p.first,p.db,p.frame]∧p.ak.length≤32):=by
 unfold ix at h;simp only[hC,pa,eJ,forall_mem_cons,not_mem_nil,false_implies,implies_true,and_true];omega
theorem DS {p:Pk}(h:ix p)(hk:p.kind=2):hC p↔(pa 0 [p.first,p.db,p.frame,(p.ak.length:Int)]∧p.sum=0):=by
 unfold ix at h;simp only[hC,pa,eJ,forall_mem_cons,not_mem_nil,false_implies,implies_true,and_true];omega
theorem zM {p:Pk}(h:hC p):ix p:=⟨h.1,h.2.1,h.2.2.1,h.2.2.2.1⟩
theorem xz {p:Pk}(h:hC p):p.kind=1∨p.kind=2:=by
 rcases h.2.2.2.2 with h | h
 ·exact .inl h.1
 ·exact .inr h.1
section
variable {W w:World}{L:List SP}{n c:Nat}{ad:Option Addr}{p:Pk}
theorem DT {ns:List Int}{b:Nat}{M:Int}(I:V W w L)(hb:ns.length≤1000)(hp:∀ w',V W w' L→Rd w' b 0 (DQ ns)) :
   Calls prog 342 #[.int .i64 M,.slice (some ⟨b,0,none⟩) ns.length ns.length] w λe w'=>∃ r:Bool,e=.returned (.bool r)∧(r=true↔pa M ns)∧V W w' L:=by
 refine EN func342 ntmps342 rfl rfl λa E=>?_;refine RN 7 E I λa E=>?_;refine aS (λμ a w=>∃ (i:Nat),(μ=ns.length-i∧i≤ns.length∧pa M (ns.take i))∧Fr a 21 [(0,.int .i64 M),(7,.slice (some ⟨b,0,none⟩) ns.length ns.length),(8,.int .i64 ns.length),(9,.int .i64 i)]∧V W w L) (ns.length) (⟨0,⟨rfl,by omega,λn h=>by simp at h⟩,E.ab [0,7,8,9],I⟩) ?_;clear E I;rintro μ a w ⟨i,⟨rfl,hi,cD⟩,E,I⟩;refine IF 3 E I (λaj a E=>?_) λaj a E=>?_
 ·
  have aJ:i<ns.length:=by omega
  refine RN 3 E I λa E=>?_;refine SS E (ag E (by have:=hp _ I i _ (WK aJ);rwa [Nat.zero_add]at this)) λa E=>?_;refine RN 1 E I λa E=>?_;refine bZ (M:=λa w=>∃ z:Bool,(z=true↔¬ (0≤ns[i]∧ns[i]≤M))∧Fr a 21 [(0,.int .i64 M),(7,.slice (some ⟨b,0,none⟩) ns.length ns.length),(8,.int .i64 ns.length),(9,.int .i64 i),(19,.bool z)]∧V W w L) ?_ ?_
  ·
   refine BY 3 E I (λbw a E=>?_) λbw a E=>?_
   ·
    refine RN 4 E I λa E=>?_;exact⟨_,by first | (rw[cn];omega) | exact⟨λh=>(by cases h),λh=>absurd h (by omega)⟩ | exact⟨λ_=>by omega,λ_=>rfl⟩,E.ab [0,7,8,9,19],I⟩
   refine RN 4 E I λa E=>?_;exact⟨_,by first | (rw[cn];omega) | exact⟨λh=>(by cases h),λh=>absurd h (by omega)⟩ | exact⟨λ_=>by omega,λ_=>rfl⟩,E.ab [0,7,8,9,19],I⟩
  clear E;(try clear I);rintro a w ⟨z,hz,E,I⟩;refine IF 0 E I (λan a E=>?_) λan a E=>?_
  ·
   refine RT 2 E I ?_;exact⟨_,rfl,⟨λh=>(by cases h),λh=>absurd (h _ (getElem_mem aJ)) (hz.1 an)⟩,I⟩
  refine RN 2 E I λa E=>?_;exact⟨ns.length-(i+1),by omega,i+1,⟨rfl,by omega,λn hn=>by
   rw[iU aJ,eV,mem_singleton]at hn;rcases hn with hn | rfl
   ·exact cD n hn
   ·exact Classical.byContradiction λh=>by have:=hz.2 h;rw[an]at this;cases this⟩,E.ab [0,7,8,9],I⟩
 refine RT 2 E I ?_;rw[fX (by omega)]at cD;exact⟨_,rfl,⟨λ_=>cD,λ_=>rfl⟩,I⟩
theorem JB {M a b:Int}:pa M [a,b]↔(0≤a∧a≤M)∧(0≤b∧b≤M):=by simp[pa]
theorem WL {M a b c:Int}:pa M [a,b,c]↔(0≤a∧a≤M)∧(0≤b∧b≤M)∧(0≤c∧c≤M):=by simp[pa]
theorem WM (I:V W w L):Calls prog 336 #[.agg (dM p ad c).toArray] w λe w'=>∃ r:Bool,e=.returned (.bool r)∧(r=true↔hC p)∧V W w' L:=by
 have qT:=I;refine EN func336 ntmps336 rfl rfl λa E=>?_;refine BX 1 E I λb1 a w E I=>?_;refine RN 2 E I λa E=>?_;refine bZ (M:=λa w=>∃ (z:Bool) (b1:Nat),(z=true↔¬ ix p)∧Fr a 63 [(1,pt b1),(26,.bool z)]∧V W w (aa b1 203 (dM p ad c)::L)) ?_ ?_
 ·
  refine RN 4 E I λa E=>?_;refine cm E rfl I underlying53 Ty.t3 rfl rfl rfl rfl (by decide) (by decide) λdq a w E I ho=>?_;clear ho;refine bd 0 E I (DT (ns:=[p.aV,p.to]) I (by simp) (λw' hw=>hw.ai)) λr1 a w E ⟨fa,I⟩=>?_;refine BY 2 E I (λjr a E=>?_) λjr a E=>?_
  ·
   have hh:¬ ix p:=λh=>by
    have:=fa.2 (JB.2 ⟨h.1,h.2.1⟩);rw[jr]at this;cases this
   refine RN 16 E I λa E=>?_;exact⟨_,_,⟨λ_=>hh,λ_=>rfl⟩,E.ab [1,26],I.sub⟩
  have hh:=JB.1 (fa.1 jr);refine BY 7 E I (λkz a E=>?_) λkz a E=>?_
  ·
   refine RN 9 E I λa E=>?_;exact⟨_,_,by unfold ix;first | (rw[cn];omega) | exact⟨λh=>(by cases h),λh=>absurd h (by omega)⟩ | exact⟨λ_=>by omega,λ_=>rfl⟩,E.ab [1,26],I.sub⟩
  refine BY 5 E I (λpc a E=>?_) λpc a E=>?_
  ·
   refine RN 4 E I λa E=>?_;exact⟨_,_,by unfold ix;first | (rw[cn];omega) | exact⟨λh=>(by cases h),λh=>absurd h (by omega)⟩ | exact⟨λ_=>by omega,λ_=>rfl⟩,E.ab [1,26],I.sub⟩
  refine RN 4 E I λa E=>?_;exact⟨_,_,by unfold ix;first | (rw[cn];omega) | exact⟨λh=>(by cases h),λh=>absurd h (by omega)⟩ | exact⟨λ_=>by omega,λ_=>rfl⟩,E.ab [1,26],I.sub⟩
 clear E;(try clear I);rintro a w ⟨z,b1,hz,E,I⟩;refine IF 0 E I (λaj a E=>?_) λaj a E=>?_
 ·
  have hn:=hz.1 aj;refine RT 2 E I ?_;exact⟨_,rfl,⟨λh=>(by cases h),λh=>absurd (zM h) hn⟩,I.sub⟩
 have hh:ix p:=Classical.byContradiction λh=>by have:=hz.2 h;rw[aj]at this;cases this
 refine IF 7 E I (λan a E=>?_) λan a E=>?_
 ·
  have gV:p.kind=1:=an;refine RN 7 E I λa E=>?_;refine cm E rfl I underlying53 Ty.t3 rfl rfl rfl rfl (by decide) (by decide) λTT a w E I ho=>?_;clear ho;refine bd 0 E I (DT (ns:=[p.first,p.db,p.frame]) I (by simp) (λw' hw=>hw.ai)) λad6 a w E ⟨sA,I⟩=>?_;refine BY 1 E I (λfb a E=>?_) λfb a E=>?_
  ·
   refine RT 6 E I ?_;refine⟨_,rfl,?_,I.sub⟩;rw[DR hh gV,cn];exact⟨λh=>⟨sA.1 fb,by omega⟩,λh=>by omega⟩
  refine RT 6 E I ?_;exact⟨_,rfl,⟨λh=>(by cases h),λh=>by have:=sA.2 ((DR hh gV).1 h).1;rw[fb]at this;cases this⟩,I.sub⟩
 refine IF 3 E I (λay a E=>?_) λay a E=>?_
 ·
  have cc:p.kind=2:=ay;refine RN 10 E I λa E=>?_;refine cm E rfl I underlying53 Ty.t3 rfl rfl rfl rfl (by decide) (by decide) λWN a w E I ho=>?_;clear ho;refine bd 0 E I (DT (ns:=[p.first,p.db,p.frame,(p.ak.length:Int)]) I (by simp) (λw' hw=>hw.ai)) λad7 a w E ⟨vA,I⟩=>?_;refine BY 1 E I (λkA a E=>?_) λkA a E=>?_
  ·
   refine RT 5 E I ?_;refine⟨_,rfl,?_,I.sub⟩;rw[DS hh cc,cn];exact⟨λh=>⟨vA.1 kA,by omega⟩,λh=>by omega⟩
  refine RT 5 E I ?_;exact⟨_,rfl,⟨λh=>(by cases h),λh=>by have:=vA.2 ((DS hh cc).1 h).1;rw[kA]at this;cases this⟩,I.sub⟩
 refine RT 2 E I ?_;exact⟨_,rfl,⟨λh=>(by cases h),λh=>by rcases xz h with h | h;exact absurd h an;exact absurd h ay⟩,I.sub⟩
theorem DU {x:Int}(I:V W w L):Calls prog 191 #[.int .i64 x] w λe w'=>∃ r:Bool,e=.returned (.bool r)∧(r=true↔eJ x)∧V W w' L:=by
 refine EN func191 ntmps191 rfl rfl λa E=>?_;refine BY 6 E I (λbw a E=>?_) λbw a E=>?_
 ·
  refine RT 4 E I ?_;exact⟨_,rfl,by unfold eJ;first | (rw[cn];omega) | exact⟨λh=>(by cases h),λh=>absurd h (by omega)⟩,I⟩
 refine RT 4 E I ?_;exact⟨_,rfl,by unfold eJ;first | (rw[cn];omega) | exact⟨λh=>(by cases h),λh=>absurd h (by omega)⟩,I⟩
theorem WO (I:V W w L):Calls prog 156 #[.agg (dM p ad c).toArray] w λe w'=>∃ r:Bool,e=.returned (.bool r)∧(r=true↔hC p)∧V W w' L:=by
 refine EN func156 ntmps156 rfl rfl λa E=>?_;refine BX 1 E I λb1 a w E I=>?_;refine RN 2 E I λa E=>?_;refine bZ (M:=λa w=>∃ (z:Bool) (b1:Nat),(z=true↔¬ (ix p∧1≤p.kind∧p.kind≤2))∧Fr a 94 [(1,pt b1),(47,.bool z)]∧V W w (aa b1 203 (dM p ad c)::L)) ?_ ?_
 ·
  refine BY 4 E I (λbP a E=>?_) λbP a E=>?_
  ·
   refine RN 41 E I λa E=>?_;exact⟨_,_,by unfold ix;first | (rw[cn];omega) | exact⟨λh=>(by cases h),λh=>absurd h (by omega)⟩ | exact⟨λ_=>by omega,λ_=>rfl⟩,E.ab [1,47],I.sub⟩
  refine BY 5 E I (λfb a E=>?_) λfb a E=>?_
  ·
   refine RN 36 E I λa E=>?_;exact⟨_,_,by unfold ix;first | (rw[cn];omega) | exact⟨λh=>(by cases h),λh=>absurd h (by omega)⟩ | exact⟨λ_=>by omega,λ_=>rfl⟩,E.ab [1,47],I.sub⟩
  refine BY 5 E I (λmU a E=>?_) λmU a E=>?_
  ·
   refine RN 31 E I λa E=>?_;exact⟨_,_,by unfold ix;first | (rw[cn];omega) | exact⟨λh=>(by cases h),λh=>absurd h (by omega)⟩ | exact⟨λ_=>by omega,λ_=>rfl⟩,E.ab [1,47],I.sub⟩
  refine BY 5 E I (λtt a E=>?_) λtt a E=>?_
  ·
   refine RN 26 E I λa E=>?_;exact⟨_,_,by unfold ix;first | (rw[cn];omega) | exact⟨λh=>(by cases h),λh=>absurd h (by omega)⟩ | exact⟨λ_=>by omega,λ_=>rfl⟩,E.ab [1,47],I.sub⟩
  refine BY 5 E I (λl8 a E=>?_) λl8 a E=>?_
  ·
   refine RN 21 E I λa E=>?_;exact⟨_,_,by unfold ix;first | (rw[cn];omega) | exact⟨λh=>(by cases h),λh=>absurd h (by omega)⟩ | exact⟨λ_=>by omega,λ_=>rfl⟩,E.ab [1,47],I.sub⟩
  refine BY 5 E I (λWQ a E=>?_) λWQ a E=>?_
  ·
   refine RN 16 E I λa E=>?_;exact⟨_,_,by unfold ix;first | (rw[cn];omega) | exact⟨λh=>(by cases h),λh=>absurd h (by omega)⟩ | exact⟨λ_=>by omega,λ_=>rfl⟩,E.ab [1,47],I.sub⟩
  refine BY 7 E I (λWR a E=>?_) λWR a E=>?_
  ·
   refine RN 9 E I λa E=>?_;exact⟨_,_,by unfold ix;first | (rw[cn];omega) | exact⟨λh=>(by cases h),λh=>absurd h (by omega)⟩ | exact⟨λ_=>by omega,λ_=>rfl⟩,E.ab [1,47],I.sub⟩
  refine BY 5 E I (λWS a E=>?_) λWS a E=>?_
  ·
   refine RN 4 E I λa E=>?_;exact⟨_,_,by unfold ix;first | (rw[cn];omega) | exact⟨λh=>(by cases h),λh=>absurd h (by omega)⟩ | exact⟨λ_=>by omega,λ_=>rfl⟩,E.ab [1,47],I.sub⟩
  refine RN 4 E I λa E=>?_;exact⟨_,_,by unfold ix;first | (rw[cn];omega) | exact⟨λh=>(by cases h),λh=>absurd h (by omega)⟩ | exact⟨λ_=>by omega,λ_=>rfl⟩,E.ab [1,47],I.sub⟩
 clear E;(try clear I);rintro a w ⟨z,b1,hz,E,I⟩;refine IF 0 E I (λaj a E=>?_) λaj a E=>?_
 ·
  have hn:=hz.1 aj;refine RT 2 E I ?_;exact⟨_,rfl,⟨λh=>(by cases h),λh=>absurd ⟨zM h,by have:=xz h;omega⟩ hn⟩,I.sub⟩
 have hh:ix p∧1≤p.kind∧p.kind≤2:=Classical.byContradiction λh=>by have:=hz.2 h;rw[aj]at this;cases this
 refine IF 5 E I (λan a E=>?_) λan a E=>?_
 ·
  have cc:p.kind=2:=an;have j1:=DS hh.1 cc;simp only[pa,forall_mem_cons,not_mem_nil,false_implies,implies_true,and_true]at j1;refine BY 5 E I (λbP a E=>?_) λbP a E=>?_
  ·
   refine BY 6 E I (λtK a E=>?_) λtK a E=>?_
   ·
    refine BY 5 E I (λkz a E=>?_) λkz a E=>?_
    ·
     refine BY 5 E I (λpc a E=>?_) λpc a E=>?_
     ·
      refine RT 5 E I ?_
      first | exact⟨_,rfl,by rw[j1];first | (rw[cn];omega) | exact⟨λh=>(by cases h),λh=>absurd h (by omega)⟩ | exact⟨λ_=>by omega,λ_=>rfl⟩,I.sub⟩ | exact⟨_,rfl,by rw[gH];first | (rw[cn];omega) | exact⟨λh=>(by cases h),λh=>absurd h (by omega)⟩ | exact⟨λ_=>by omega,λ_=>rfl⟩,I.sub⟩
     refine RT 5 E I ?_
     first | exact⟨_,rfl,by rw[j1];first | (rw[cn];omega) | exact⟨λh=>(by cases h),λh=>absurd h (by omega)⟩ | exact⟨λ_=>by omega,λ_=>rfl⟩,I.sub⟩ | exact⟨_,rfl,by rw[gH];first | (rw[cn];omega) | exact⟨λh=>(by cases h),λh=>absurd h (by omega)⟩ | exact⟨λ_=>by omega,λ_=>rfl⟩,I.sub⟩
    refine RT 10 E I ?_
    first | exact⟨_,rfl,by rw[j1];first | (rw[cn];omega) | exact⟨λh=>(by cases h),λh=>absurd h (by omega)⟩ | exact⟨λ_=>by omega,λ_=>rfl⟩,I.sub⟩ | exact⟨_,rfl,by rw[gH];first | (rw[cn];omega) | exact⟨λh=>(by cases h),λh=>absurd h (by omega)⟩ | exact⟨λ_=>by omega,λ_=>rfl⟩,I.sub⟩
   refine RT 15 E I ?_
   first | exact⟨_,rfl,by rw[j1];first | (rw[cn];omega) | exact⟨λh=>(by cases h),λh=>absurd h (by omega)⟩ | exact⟨λ_=>by omega,λ_=>rfl⟩,I.sub⟩ | exact⟨_,rfl,by rw[gH];first | (rw[cn];omega) | exact⟨λh=>(by cases h),λh=>absurd h (by omega)⟩ | exact⟨λ_=>by omega,λ_=>rfl⟩,I.sub⟩
  refine RT 21 E I ?_
  first | exact⟨_,rfl,by rw[j1];first | (rw[cn];omega) | exact⟨λh=>(by cases h),λh=>absurd h (by omega)⟩ | exact⟨λ_=>by omega,λ_=>rfl⟩,I.sub⟩ | exact⟨_,rfl,by rw[gH];first | (rw[cn];omega) | exact⟨λh=>(by cases h),λh=>absurd h (by omega)⟩ | exact⟨λ_=>by omega,λ_=>rfl⟩,I.sub⟩
 have gV:p.kind=1:=by omega
 have gH:=DR hh.1 gV;rw[WL]at gH;refine bd 3 E I (DU I) λf1 a w E ⟨iS,I⟩=>?_;refine BY 1 E I (λbP a E=>?_) λbP a E=>?_
 ·
  have k1:=iS.1 bP;unfold eJ at k1;refine bd 2 E I (DU I) λf2 a w E ⟨jk,I⟩=>?_;refine BY 2 E I (λfb a E=>?_) λfb a E=>?_
  ·
   have k2:=jk.1 fb;unfold eJ at k2;refine bd 2 E I (DU I) λf3 a w E ⟨JC,I⟩=>?_;refine BY 2 E I (λmU a E=>?_) λmU a E=>?_
   ·
    have k3:=JC.1 mU;unfold eJ at k3;refine RT 6 E I ?_
    first | exact⟨_,rfl,by rw[j1];first | (rw[cn];omega) | exact⟨λh=>(by cases h),λh=>absurd h (by omega)⟩ | exact⟨λ_=>by omega,λ_=>rfl⟩,I.sub⟩ | exact⟨_,rfl,by rw[gH];first | (rw[cn];omega) | exact⟨λh=>(by cases h),λh=>absurd h (by omega)⟩ | exact⟨λ_=>by omega,λ_=>rfl⟩,I.sub⟩
   have k3:¬ eJ p.frame:=λh=>by rw[JC.2 h]at mU;cases mU
   unfold eJ at k3;refine RT 6 E I ?_
   first | exact⟨_,rfl,by rw[j1];first | (rw[cn];omega) | exact⟨λh=>(by cases h),λh=>absurd h (by omega)⟩ | exact⟨λ_=>by omega,λ_=>rfl⟩,I.sub⟩ | exact⟨_,rfl,by rw[gH];first | (rw[cn];omega) | exact⟨λh=>(by cases h),λh=>absurd h (by omega)⟩ | exact⟨λ_=>by omega,λ_=>rfl⟩,I.sub⟩
  have k2:¬ eJ p.db:=λh=>by rw[jk.2 h]at fb;cases fb
  unfold eJ at k2;refine RT 11 E I ?_
  first | exact⟨_,rfl,by rw[j1];first | (rw[cn];omega) | exact⟨λh=>(by cases h),λh=>absurd h (by omega)⟩ | exact⟨λ_=>by omega,λ_=>rfl⟩,I.sub⟩ | exact⟨_,rfl,by rw[gH];first | (rw[cn];omega) | exact⟨λh=>(by cases h),λh=>absurd h (by omega)⟩ | exact⟨λ_=>by omega,λ_=>rfl⟩,I.sub⟩
 have k1:¬ eJ p.first:=λh=>by rw[iS.2 h]at bP;cases bP
 unfold eJ at k1;refine RT 16 E I ?_
 first | exact⟨_,rfl,by rw[j1];first | (rw[cn];omega) | exact⟨λh=>(by cases h),λh=>absurd h (by omega)⟩ | exact⟨λ_=>by omega,λ_=>rfl⟩,I.sub⟩ | exact⟨_,rfl,by rw[gH];first | (rw[cn];omega) | exact⟨λh=>(by cases h),λh=>absurd h (by omega)⟩ | exact⟨λ_=>by omega,λ_=>rfl⟩,I.sub⟩
end
end
section
def qU (p:Pk):List Int:=[p.first,p.db,p.frame]
def hE (p:Pk)(i:Nat):List UInt8:=k5 p++(aL (zz p.id)++((qU p).take i).flatMap λn=>aL (zz n))
theorem WU {p:Pk}{i:Nat}(h:i<3):hE p (i+1)=hE p i++aL (zz ((qU p).getD i 0)):=by
 have hl:i<(qU p).length:=h;rw[hE,hE,iU hl,List.flatMap_append,dw,dw,bl,aO hl];simp
theorem JD {p:Pk}(h:p.kind=1):hE p 3++(fe p.sum++(aL (zz (p.ak.length:Int))++dA p.ak 0))=hZ p:=by
 simp[hE,hZ,kG,mR,h,lC,qU]
theorem JE {p:Pk}(h:p.kind≠1):hE p 0=hZ p:=by simp[hE,hZ,kG,mR,h]
theorem DV {p:Pk}(h:hC p){i:Nat}(hi:i≤3):(hE p i).length≤43:=by
 obtain⟨h1,h2,h3,h4,h5⟩:=h;have hq:∀ n:Int,0≤n→n≤1099511627776→(aL (zz n)).length≤10:=λn a b=>qQ (by omega) (by omega);have hf:(0≤p.first∧p.first≤1000)∧(0≤p.db∧p.db≤1000)∧(0≤p.frame∧p.frame≤1000):=by unfold eJ at h5;omega
 have a0:=hq p.id (by omega) (by omega);have dD:=hq p.first (by omega) (by omega);have dU:=hq p.db (by omega) (by omega);have a3:=hq p.frame (by omega) (by omega);rcases (by omega:i=0∨i=1∨i=2∨i=3) with rfl | rfl | rfl | rfl <;> simp[hE,k5,qU] <;> omega
theorem WV {p:Pk}{i:Nat}(h:i<3):([Value.int .i64 p.first,.int .i64 p.db,.int .i64 p.frame]:List Value)[i]?=some (.int .i64 ((qU p).getD i 0)):=by
 rcases (by omega:i=0∨i=1∨i=2) with rfl | rfl | rfl <;> rfl
theorem WW {p:Pk}(h:hC p)(i:Nat):0≤(qU p).getD i 0∧(qU p).getD i 0≤1000:=by
 have h5:=h.2.2.2.2;have hf:(0≤p.first∧p.first≤1000)∧(0≤p.db∧p.db≤1000)∧(0≤p.frame∧p.frame≤1000):=by unfold eJ at h5;omega
 match i with
 | 0=>exact hf.1
 | 1=>exact hf.2.1
 | 2=>exact hf.2.2
 | _+3=>exact⟨Int.le_refl _,by show (0:Int)≤1000;omega⟩
theorem DX {p:Pk}(h:hC p):[[Value.int .u8 p.kind],[Value.int .u8 p.aV],[Value.int .u8 p.to]].flatten=bc (k5 p):=by
 have hk:=xz h;obtain⟨h1,h2,h3,h4,h5⟩:=h;simp[bc,k5,UInt8.toNat_ofNat'];omega
theorem JF {p:Pk}(h:hC p):(hZ p).length≤503:=by
 have:=Jo h;simp[hZ,k5];omega
section
variable {W w:World}{L:List SP}{n c:Nat}{ad:Option Addr}{bs:List UInt8}{p:Pk}
theorem JG (I:V W w L)(lD:p.sum<4294967296)(hp:∀ w',V W w' L→a6 w' ad p.ak.length p.ak) :
   Calls prog 330 #[.agg (dM p ad c).toArray] w λe w'=>∃ av c',e=.returned (.slice av (aR p).length c')∧V W w' (Sl 5 1 av (aR p).length c' (bc (aR p))::L):=by
 refine EN func330 ntmps330 rfl rfl λa E=>?_;refine BX 1 E I λb1 a w E I=>?_;refine bd 4 E I (WM (p:=p) (ad:=ad) (c:=c) I) λr1 a w E ⟨fa,I⟩=>?_;refine IF 1 E I (λaj a E=>?_) λaj a E=>?_
 ·
  have hn:¬ hC p:=λh=>by rw[fa.2 h]at aj;cases aj
  refine RT 2 E I ?_;have he:aR p=[]:=by rw[aR,ae hn]
  rw[he];exact⟨none,0,rfl,I.tail.bH _ _ _⟩
 have hm:hC p:=fa.1 aj;have hk:=xz hm;have hh:=zM hm;unfold ix at hh;have he:aR p=hZ p++fe (iZ (hZ p)):=by rw[aR,al hm,o6]
 have nN:=JF hm;refine SX 3 E I (by rw[wrap_u8];omega) λa E=>?_;refine SX 2 E I (by rw[wrap_u8];omega) λa E=>?_;refine SX 2 E I (by rw[wrap_u8];omega) λa E=>?_;refine RN 0 E I λa E=>?_;refine cm E rfl I underlying22 Ty.t5 rfl rfl rfl rfl (by decide) (by decide) λsm a w E I ho=>?_;clear ho;replace I:=I.Dh (l:=k5 p) rfl rfl (DX hm);refine a2 2 E I (sa (bs:=k5 p) (N:=p.id) I (by omega) (by omega) (by simp[k5])) λfo dz a w E I=>?_;refine RN 1 E I λa E=>?_;rw[show k5 p++aL (zz p.id)=hE p 0 from by simp[hE]]at E I;refine bZ (M:=λa w=>∃ (fo:Option Addr) (dz:Nat),Fr a 58 [(3,.slice fo (hZ p).length dz)]∧V W w (Sl 5 1 fo (hZ p).length dz (bc (hZ p))::L)) ?_ ?_
 ·
  refine IF 4 E I (λan a E=>?_) λan a E=>?_
  ·
   have gV:p.kind=1:=an;have eE:p.ak.length≤32:=by have:=hm.2.2.2.2;omega
   refine RN 8 E I λa E=>?_;refine SS E (BL E underlying429 Ty.t429 Ty.t3 rfl rfl) λa E=>?_;refine RN 1 E I λa E=>?_;refine aS (λμ a w=>∃ (i dz:Nat) (fo:Option Addr),(μ=3-i∧i≤3)∧Fr a 58 [(1,pt b1),(3,.slice fo (hE p i).length dz),(31,.agg #[.int .i64 p.first,.int .i64 p.db,.int .i64 p.frame]),(32,.int .i64 i)]∧V W w (Sl 5 1 fo (hE p i).length dz (bc (hE p i))::aa b1 203 (dM p ad c)::L)) (3) (⟨0,dz,fo,⟨rfl,by omega⟩,E.ab [1,3,31,32],I⟩) ?_;clear E I;rintro μ a w ⟨i,dz,fo,⟨rfl,hi⟩,E,I⟩;refine IF 3 E I (λay a E=>?_) λay a E=>?_
   ·
    refine RN 2 E I λa E=>?_;refine SS E (rI E underlying429 underlying3 rfl Ty.t3 (by omega) (WV (p:=p) (by omega))) λa E=>?_;refine RN 1 E I λa E=>?_;have cD:=WW hm i;have qz:=DV hm (show i≤3 by omega);refine a2 2 E I (sa I (by omega) (by omega) (by omega)) λlW g9 a w E I=>?_;refine RN 1 E I λa E=>?_;rw[← WU (by omega)]at E I;refine RN 2 E I λa E=>?_;exact⟨3-(i+1),by omega,i+1,_,_,⟨rfl,by omega⟩,E.ab [1,3,31,32],I.sub⟩
   obtain rfl:i=3:=by omega
   have qz:=DV hm (bh 3);have ia:=qQ (n:=(p.ak.length:Int)) (by omega) (by omega);have iY:=JD gV;generalize hE p 3=WX at E I qz iY;refine aY 1 (λw0 w=>Rd w b1 0 (dM p ad c)) [3,4,6,7] [0,1,5,3002,3006,3007,1003,1004,1008,9] E I λa w E I hH=>?_;have U:Rd w b1 0 (dM p ad c):=I.ai;refine RH 3 E I hH U λa E=>?_;refine QH E (λw hc=>ag E (hc 8 _ rfl)) U λa E=>?_;refine QH E (λw hc=>ag E (hc 5 _ rfl)) U λa E=>?_;refine RH 1 E I hH U λa E=>?_;refine bd 0 E I (Jh I) λed a w E I=>?_;replace U:=hH.at w I.ai;refine RH 0 E I hH U λa E=>?_;refine gW E rfl I underlying22 Ty.t5 rfl rfl (by decide) (λh0=>(I.cF ed (fe p.sum) rfl rfl).get h0) (by rw[dx];rfl) (ek _) (by rw[mf];omega) λvz DM a w E I=>?_;replace U:=hH.at w I.ai;rw[← fI,← aK]at I;rw[← aK]at E;refine RH 0 E I hH U λa E=>?_;refine a2 0 E I (sa I (by omega) (by omega) (by rw[aK,mf];omega)) λr5 nO a w E I=>?_;refine RN 1 E I λa E=>?_;have iK:=xw p.ak 0;generalize hu:WX++fe p.sum++aL (zz (p.ak.length:Int))=vB at E I;have ad8:vB.length≤60:=by rw[← hu];simp[mf];omega
   refine a2 3 E I (WD (bs:=p.ak) I (by omega) (λw' hw=>hp w' hw.sub)) λrQ qx a w E I=>?_;refine RN 0 E I λa E=>?_;refine gW E rfl I underlying22 Ty.t5 rfl rfl (by decide) (λh0=>(I.cF rQ _ rfl rfl).get h0) (by rw[dx,Nat.mul_one]) (ek _) (by omega) λqV qW a w E I=>?_;refine RN 1 E I λa E=>?_;rw[← fI,show vB.length+(dA p.ak 0).length=(vB++dA p.ak 0).length from by rw[aK]]at I;rw[show vB.length+(dA p.ak 0).length=(vB++dA p.ak 0).length from by rw[aK]]at E;rw[show vB++dA p.ak 0=hZ p from by rw[← hu,← iY];simp]at E I;exact⟨_,_,E.ab [3],I.sub⟩
  rw[JE (by omega)]at E I;refine RN 0 E I λa E=>?_;exact⟨_,_,E.ab [3],I.sub⟩
 clear E;(try clear I);rintro a w ⟨fo,dz,E,I⟩;refine CL 3 E I (Jf I (by omega) (λw' hw=>hw.cF fo _ rfl rfl)) λa w E I=>?_;refine bd 0 E I (Jh I) λzN a w E I=>?_;refine RN 0 E I λa E=>?_;refine gW E rfl I underlying22 Ty.t5 rfl rfl (by decide) (λh0=>(I.cF zN (fe (iZ (hZ p))) rfl rfl).get h0) (by rw[dx];rfl) (ek _) (by rw[mf];omega) λDY DZ a w E I=>?_;refine RT 1 E I ?_;rw[he];rw[← fI,← aK]at I;rw[← aK];exact⟨_,_,rfl,I.sub⟩
theorem D0 (I:V W w L)(lD:p.sum<4294967296)(hp:∀ w',V W w' L→a6 w' ad p.ak.length p.ak) :
   Calls prog 114 #[.agg (dM p ad c).toArray] w λe w'=>∃ av c',e=.returned (.slice av (aR p).length c')∧V W w' (Sl 5 1 av (aR p).length c' (bc (aR p))::L):=by
 refine EN func114 ntmps114 rfl rfl λa E=>?_;refine BX 1 E I λb1 a w E I=>?_;refine bd 4 E I (WO (p:=p) (ad:=ad) (c:=c) I) λr1 a w E ⟨fa,I⟩=>?_;refine IF 1 E I (λaj a E=>?_) λaj a E=>?_
 ·
  have hn:¬ hC p:=λh=>by rw[fa.2 h]at aj;cases aj
  refine RT 2 E I ?_;have he:aR p=[]:=by rw[aR,ae hn]
  rw[he];exact⟨none,0,rfl,I.tail.bH _ _ _⟩
 have hm:hC p:=fa.1 aj;have hk:=xz hm;have hh:=zM hm;unfold ix at hh;have he:aR p=hZ p++fe (iZ (hZ p)):=by rw[aR,al hm,o6]
 have nN:=JF hm;have bU:=qQ (n:=p.id) (by omega) (by omega);refine RN 0 E I λa E=>?_;refine bZ (M:=λa w=>∃ (a3:Option Addr) (dz:Nat),Fr a 57 [(1,pt b1),(3,.slice a3 (hE p 0).length dz)]∧V W w (Sl 5 1 a3 (hE p 0).length dz (bc (hE p 0))::aa b1 203 (dM p ad c)::L)) ?_ ?_
 ·
  refine aY 0 (λw0 w=>Rd w b1 0 (dM p ad c)) [4,5,7,8,9,11,12] [0,3,6,10,3001,2,3004,3005,3007,3008,3011,2009,1012,1013,14] E I λa w E I hH=>?_;have U:Rd w b1 0 (dM p ad c):=I.ai;refine RH 4 E I hH U λa E=>?_;refine QH E (λw hc=>ag E (hc 0 _ rfl)) U λa E=>?_;refine QP E (λw=>oJ E underlying3 underlying5 (by rw[wrap_u8];omega)) λa E=>?_;refine QH E (λw hc=>ag E (hc 1 _ rfl)) U λa E=>?_;refine QH E (λw hc=>oJ E underlying3 underlying5 (by rw[wrap_u8];omega)) U λa E=>?_;refine QH E (λw hc=>ag E (hc 2 _ rfl)) U λa E=>?_;refine QH E (λw hc=>oJ E underlying3 underlying5 (by rw[wrap_u8];omega)) U λa E=>?_;refine QH E (λw hc=>ag E (hc 3 _ rfl)) U λa E=>?_;refine RH 0 E I hH U λa E=>?_;refine DN [(9,[1012,1013,14]),(12,[1009,1013,14])] (by kernel_rfl) rfl ⟨⟨_,rfl,?_⟩,⟨_,rfl,?_⟩,trivial⟩
  ·
   refine RH 0 E I hH U λa E=>?_;refine cm E rfl I underlying22 Ty.t5 rfl rfl rfl rfl (by decide) (by decide) λtN a w E I ho=>?_;clear ho;replace U:=hH.at w I.ai;replace I:=I.Dh (l:=k5 p) rfl rfl (DX hm);refine RH 0 E I hH U λa E=>?_;refine a2 0 E I (sx (N:=p.id) I (by omega) (by omega)) λc0 dQ a w E I=>?_;replace U:=hH.at w I.ai;refine RH 0 E I hH U λa E=>?_;refine gW E rfl I underlying22 Ty.t5 rfl rfl (by decide) (λh0=>(I.cF c0 (aL (zz p.id)) rfl rfl).get h0) (by rw[dx,Nat.mul_one]) (ek _) (by omega) λxe CM a w E I=>?_;refine RN 1 E I λa E=>?_;rw[show 3+(aL (zz p.id)).length=(k5 p++aL (zz p.id)).length from by rw[aK];rfl]at E I;rw[← fI]at I;rw[show k5 p++aL (zz p.id)=hE p 0 from by simp[hE]]at E I
   skip
   exact⟨_,_,E.ab [1,3],I.sub⟩
  refine RH 0 E I hH U λa E=>?_;refine a2 0 E I (sx (N:=p.id) I (by omega) (by omega)) λc0 dQ a w E I=>?_;replace U:=hH.at w I.ai;refine RH 0 E I hH U λa E=>?_;refine cm E rfl I underlying22 Ty.t5 rfl rfl rfl rfl (by decide) (by decide) λtN a w E I ho=>?_;clear ho;replace U:=hH.at w I.ai;replace I:=I.Dh (l:=k5 p) rfl rfl (DX hm);refine RH 0 E I hH U λa E=>?_;refine gW E rfl I underlying22 Ty.t5 rfl rfl (by decide) (λh0=>(I.cF c0 (aL (zz p.id)) rfl rfl).get h0) (by rw[dx,Nat.mul_one]) (ek _) (by omega) λxe CM a w E I=>?_;refine RN 1 E I λa E=>?_;rw[show 3+(aL (zz p.id)).length=(k5 p++aL (zz p.id)).length from by rw[aK];rfl]at E I;rw[← fI]at I;rw[show k5 p++aL (zz p.id)=hE p 0 from by simp[hE]]at E I
  skip
  exact⟨_,_,E.ab [1,3],I.sub⟩
 clear E;(try clear I);rintro a w ⟨a3,dz,E,I⟩;refine bZ (M:=λa w=>∃ (fo:Option Addr) (dz:Nat),Fr a 57 [(3,.slice fo (hZ p).length dz)]∧V W w (Sl 5 1 fo (hZ p).length dz (bc (hZ p))::L)) ?_ ?_
 ·
  refine IF 4 E I (λan a E=>?_) λan a E=>?_
  ·
   have gV:p.kind=1:=an;have eE:p.ak.length≤32:=by have:=hm.2.2.2.2;omega
   have n4:(0≤p.first∧p.first≤1000)∧(0≤p.db∧p.db≤1000)∧(0≤p.frame∧p.frame≤1000):=by have:=hm.2.2.2.2;unfold eJ at this;omega
   have q1:=qQ (n:=p.first) (by omega) (by omega);have q2:=qQ (n:=p.db) (by omega) (by omega);have DA:=qQ (n:=p.frame) (by omega) (by omega);have DB:=qQ (n:=(p.ak.length:Int)) (by omega) (by omega);have qz:=DV hm (show 0≤3 by decide);have iY:hE p 0++aL (zz p.first)++aL (zz p.db)++aL (zz p.frame)++fe p.sum++aL (zz (p.ak.length:Int))++dA p.ak 0=hZ p:=by rw[← JD gV];simp[hE,qU]
   generalize hu0:hE p 0=xA at E I qz iY;refine aY 1 (λw0 w=>Rd w b1 0 (dM p ad c)) [3,4,6] [0,1,5,3002,3006,1003,1004,1007,1008,9] E I λa w E I hH=>?_;have U:Rd w b1 0 (dM p ad c):=I.ai;refine RH 3 E I hH U λa E=>?_;refine QH E (λw hc=>ag E (hc 4 _ rfl)) U λa E=>?_;refine QH E (λw hc=>ag E (hc 6 _ rfl)) U λa E=>?_;refine RH 0 E I hH U λa E=>?_;refine a2 0 E I (sx I (by omega) (by omega)) λdD eF a w E I=>?_;replace U:=hH.at w I.ai;refine RH 0 E I hH U λa E=>?_;refine gW E rfl I underlying22 Ty.t5 rfl rfl (by decide) (λh0=>(I.cF dD (aL (zz p.first)) rfl rfl).get h0) (by rw[dx,Nat.mul_one]) (ek _) (by omega) λad9 c28 a w E I=>?_;replace U:=hH.at w I.ai;rw[← fI,← aK]at I;rw[← aK]at E;refine RH 0 E I hH U λa E=>?_;refine a2 0 E I (sx I (by omega) (by omega)) λdU c2 a w E I=>?_;have kx:(xA++aL (zz p.first)).length≤53:=by rw[aK];omega
   refine RN 0 E I λa E=>?_;refine gW E rfl I underlying22 Ty.t5 rfl rfl (by decide) (λh0=>(I.cF dU (aL (zz p.db)) rfl rfl).get h0) (by rw[dx,Nat.mul_one]) (ek _) (by omega) λWY WZ a w E I=>?_;rw[← fI,← aK]at I;rw[← aK]at E;refine RN 1 E I λa E=>?_;replace I:=I.sub (M:=Sl 5 1 WY (xA++aL (zz p.first)++aL (zz p.db)).length WZ (bc (xA++aL (zz p.first)++aL (zz p.db)))::aa b1 203 (dM p ad c)::L);have lV:(xA++aL (zz p.first)++aL (zz p.db)).length≤63:=by rw[aK];omega
   generalize xA++aL (zz p.first)++aL (zz p.db)=xB at E I lV iY;refine aY 1 (λw0 w=>Rd w b1 0 (dM p ad c)) [3,4,6] [0,1,5,3002,3006,1003,1004,1007,1008,9] E I λa w E I hH=>?_;have U:Rd w b1 0 (dM p ad c):=I.ai;refine RH 3 E I hH U λa E=>?_;refine QH E (λw hc=>ag E (hc 7 _ rfl)) U λa E=>?_;refine QH E (λw hc=>ag E (hc 8 _ rfl)) U λa E=>?_;refine RH 0 E I hH U λa E=>?_;refine a2 0 E I (sx I (by omega) (by omega)) λdD eF a w E I=>?_;replace U:=hH.at w I.ai;refine RH 0 E I hH U λa E=>?_;refine gW E rfl I underlying22 Ty.t5 rfl rfl (by decide) (λh0=>(I.cF dD (aL (zz p.frame)) rfl rfl).get h0) (by rw[dx,Nat.mul_one]) (ek _) (by omega) λW0 W1 a w E I=>?_;replace U:=hH.at w I.ai;rw[← fI,← aK]at I;rw[← aK]at E;refine RH 0 E I hH U λa E=>?_;refine bd 0 E I (Dq I) λdU a w E I=>?_;have kx:(xB++aL (zz p.frame)).length≤73:=by rw[aK];omega
   refine RN 0 E I λa E=>?_;refine gW E rfl I underlying22 Ty.t5 rfl rfl (by decide) (λh0=>(I.cF dU (fe p.sum) rfl rfl).get h0) (by rw[dx];rfl) (ek _) (by rw[mf];omega) λxy DJ a w E I=>?_;rw[← fI,← aK]at I;rw[← aK]at E;refine RN 1 E I λa E=>?_;replace I:=I.sub (M:=Sl 5 1 xy (xB++aL (zz p.frame)++fe p.sum).length DJ (bc (xB++aL (zz p.frame)++fe p.sum))::aa b1 203 (dM p ad c)::L);have lV:(xB++aL (zz p.frame)++fe p.sum).length≤77:=by rw[aK,mf];omega
   generalize xB++aL (zz p.frame)++fe p.sum=W3 at E I lV iY;refine aY 0 (λw0 w=>Rd w b1 0 (dM p ad c)) [4,5,7] [0,1,6,3002,3,3007,1004,1005,1008,1009,10] E I λa w E I hH=>?_;have U:Rd w b1 0 (dM p ad c):=I.ai;have iK:=xw p.ak 0;refine RH 3 E I hH U λa E=>?_;refine QH E (λw hc=>ag E (hc 5 _ rfl)) U λa E=>?_;refine RH 1 E I hH U λa E=>?_;refine QH E (λw hc=>ag E (hc 5 _ rfl)) U λa E=>?_;refine RH 0 E I hH U λa E=>?_;refine a2 0 E I (sx I (by omega) (by omega)) λdD eF a w E I=>?_;replace U:=hH.at w I.ai;refine RH 0 E I hH U λa E=>?_;refine gW E rfl I underlying22 Ty.t5 rfl rfl (by decide) (λh0=>(I.cF dD (aL (zz (p.ak.length:Int))) rfl rfl).get h0) (by rw[dx,Nat.mul_one]) (ek _) (by omega) λpd qX a w E I=>?_;replace U:=hH.at w I.ai;rw[← fI,← aK]at I;rw[← aK]at E;refine RH 0 E I hH U λa E=>?_;refine a2 0 E I (WE (bs:=p.ak) I (by omega) (λw' hw=>hp w' hw.sub)) λdU c2 a w E I=>?_;have kx:(W3++aL (zz (p.ak.length:Int))).length≤87:=by rw[aK];omega
   refine RN 0 E I λa E=>?_;refine gW E rfl I underlying22 Ty.t5 rfl rfl (by decide) (λh0=>(I.cF dU (dA p.ak 0) rfl rfl).get h0) (by rw[dx,Nat.mul_one]) (ek _) (by omega) λJH JI a w E I=>?_;rw[← fI,← aK]at I;rw[← aK]at E;refine RN 1 E I λa E=>?_;rw[iY]at E I;exact⟨_,_,E.ab [3],I.sub⟩
  rw[JE (by omega)]at E I;refine RN 0 E I λa E=>?_;exact⟨_,_,E.ab [3],I.sub⟩
 clear E;(try clear I);rintro a w ⟨fo,dz,E,I⟩;refine CL 3 E I (Jg I (by omega) (λw' hw=>hw.cF fo _ rfl rfl)) λa w E I=>?_;refine bd 0 E I (Dq I) λzN a w E I=>?_;refine RN 0 E I λa E=>?_;refine gW E rfl I underlying22 Ty.t5 rfl rfl (by decide) (λh0=>(I.cF zN (fe (iZ (hZ p))) rfl rfl).get h0) (by rw[dx];rfl) (ek _) (by rw[mf];omega) λaea c56 a w E I=>?_;refine RT 1 E I ?_;rw[he];rw[← fI,← aK]at I;rw[← aK];exact⟨_,_,rfl,I.sub⟩
end
end
end Go.Proofs.YteoldcfapaiobaaGreat
