/- Plain side of numbers read, of runs and of packets: what is written is read. -/
import Derived.Test.YteoldcfapaiobaaGreatD06Ref
namespace Go.Proofs.YteoldcfapaiobaaGreat
open Tryz
open List (drop_zero take_succ_cons getElem?_drop getElem?_append_right drop_drop drop_left nil_append drop_eq_nil_of_le cons_append append_nil getElem_mem mem_singleton forall_mem_cons not_mem_nil replicate_succ')
open Go.RowKit
set_option linter.unusedVariables false
set_option linter.unusedSimpArgs false
set_option maxRecDepth 10000
set_option synthInstance.maxSize 4000
set_option synthInstance.maxHeartbeats 400000
section
def mV:List UInt8→Nat→Nat→Option (Nat×Nat)
 | [],_,_=>none
 | c::cs,i,u =>
  if i=9∧1<c.toNat then none
  else if 127<c.toNat then mV cs (i+1) (u+c.toNat%128*128 ^ i)
  else if 0<i∧c.toNat=0 then none
  else some (u+c.toNat*128 ^ i,i+1)
def sQ (bs:List UInt8):Option (Nat×Nat):=mV bs 0 0
def mW (u:Nat):Int:=if u%2=1 then -((u/2:Nat):Int)-1 else ((u/2:Nat):Int)
theorem Eb (n:Int):mW (zz n)=n:=by
 unfold mW zz;split <;> split <;> omega
theorem Ec {n:Int}(h1:-9223372036854775808≤n)(h2:n≤9223372036854775807):zz n<18446744073709551616:=by
 unfold zz;split <;> omega
theorem x4 (i:Nat):128 ^ (i+1)=128 ^ i*128:=Nat.pow_succ ..
theorem Xj (r:List UInt8):∀ (v i u:Nat),v*128 ^ i<18446744073709551616→(i=0∨0<v)→i≤9→mV (aP v++r) i u=some (u+v*128 ^ i,i+(aP v).length):=by
 intro v
 induction v using Nat.strongRecOn with
 | _ v ih =>
  intro i u hv h0 hi;by_cases I:v≤127
  ·rw[qe I];have hb:(UInt8.ofNat v).toNat=v:=by rw[UInt8.toNat_ofNat'];omega
   simp only[cons_append,nil_append,mV,hb,jj];have h9:¬ (i=9∧1<v):=by
    rintro⟨rh,h⟩;rw[rh]at hv;have:v*128 ^ 9 ≥ 2*128 ^ 9:=Nat.mul_le_mul_right _ h;have h9':(128:Nat) ^ 9=9223372036854775808:=by decide
    omega
   rw[ag h9,ag (by omega),ag (by omega)]
  ·rw[vR I];have hb:(UInt8.ofNat (v%128+128)).toNat=v%128+128:=by rw[UInt8.toNat_ofNat'];omega
   simp only[cons_append,mV,hb,eL];have hle:128 ^ (i+1)≤v*128 ^ i:=by rw[x4,Nat.mul_comm];exact Nat.mul_le_mul_right _ (by omega)
   have rh:i+1≤9:=by
    rcases Nat.lt_or_ge i 9 with h | h
    ·omega
    ·have:128 ^ 10≤128 ^ (i+1):=Nat.pow_le_pow_right (by decide) (by omega);have e9:(128:Nat) ^ 10=1180591620717411303424:=by decide
     omega
   have hdv:v/128*128 ^ (i+1)+v%128*128 ^ i=v*128 ^ i:=by
    rw[x4,show v/128*(128 ^ i*128)=128*(v/128)*128 ^ i from by rw[Nat.mul_comm (128 ^ i),← Nat.mul_assoc,Nat.mul_comm (v/128)],← Nat.add_mul,Nat.div_add_mod]
   rw[ag (by omega),ak (by omega),ih (v/128) (by omega) (i+1) _ (by omega) (.inr (by omega)) rh];rw[show (v%128+128)%128=v%128 from by omega]
   congr 2
   ·omega
   ·omega
theorem Am {n:Int}(h1:-9223372036854775808≤n)(h2:n≤9223372036854775807)(r:List UInt8):sQ (aP (zz n)++r)=some (zz n,(aP (zz n)).length):=by
 have:=Xj r (zz n) 0 0 (by have:=Ec h1 h2;omega) (.inl rfl) (by decide);simpa [sQ] using this
theorem J0:∀ (bs:List UInt8) (i u:Nat) {v k:Nat},i≤9→u<128 ^ i→mV bs i u=some (v,k)→v<18446744073709551616∧i+1≤k∧k≤i+bs.length∧k≤10
 | [],_,_,_,_,_,_,h=>by cases h
 | c::cs,i,u,v,k,hi,hu,h=>by
  rw[mV]at h;have hc:=lp c;have hp:128 ^ i≤128 ^ 9:=Nat.pow_le_pow_right (by decide) hi;have h9:(128:Nat) ^ 9=9223372036854775808:=by decide
  split at h
  ·cases h
  rename_i n9;split at h
  ·rename_i hb;have hm:c.toNat%128*128 ^ i≤127*128 ^ i:=Nat.mul_le_mul_right _ (by omega);have:=J0 cs (i+1) _ (by omega) (by rw[x4];omega) h;simp only[eL];omega
  ·rename_i hb;split at h
   ·cases h
   ·obtain⟨rfl,rfl⟩:u+c.toNat*128 ^ i=v∧i+1=k:=by simpa using h
    simp only[eL];refine⟨?_,by omega,by omega,by omega⟩;rcases Nat.lt_or_ge i 9 with h8 | h8
    ·have hp8:128 ^ i≤128 ^ 8:=Nat.pow_le_pow_right (by decide) (by omega);have h88:(128:Nat) ^ 8=72057594037927936:=by decide
     have hm:c.toNat*128 ^ i≤127*128 ^ i:=Nat.mul_le_mul_right _ (by omega);omega
    ·have:i=9:=by omega
     subst this;have hm:c.toNat*128 ^ 9≤1*128 ^ 9:=Nat.mul_le_mul_right _ (by omega);omega
theorem Ed {bs:List UInt8}{v k:Nat}(h:sQ bs=some (v,k)):v<18446744073709551616∧1≤k∧k≤bs.length∧k≤10:=by
 have:=J0 bs 0 0 (by decide) (by decide) h;omega
def lP (bs:List UInt8)(x:Int)(k:Nat)(er:Int):Prop :=
 (-9223372036854775808≤x∧x≤9223372036854775807)∧(er=0∨er=1∨er=2)∧(er=0→1≤k∧k≤bs.length)∧(er≠0→k=0∧x=0) ∧
 ∀ (n:Int) (r:List UInt8), -9223372036854775808≤n→n≤9223372036854775807→bs=aP (zz n)++r→x=n∧k=(aP (zz n)).length∧er=0
theorem lP.bad {bs:List UInt8}{er:Int}(h:sQ bs=none)(he:er=1∨er=2):lP bs 0 0 er:=by
 refine⟨by omega,by omega,by omega,λ_=>⟨rfl,rfl⟩,λn r h1 h2 e=>?_⟩;rw[e,Am h1 h2]at h;cases h
theorem lP.J1 {bs:List UInt8}{u k:Nat}(h:sQ bs=some (u,k)):lP bs (mW u) k 0:=by
 have hb:=Ed h;refine⟨?_,by omega,by omega,by omega,λn r h1 h2 e=>?_⟩
 ·unfold mW;split <;> omega
 ·rw[e,Am h1 h2]at h;obtain⟨rfl,rfl⟩:zz n=u∧(aP (zz n)).length=k:=by simpa using h
  exact⟨Eb n,rfl,rfl⟩
def runN (x:UInt8):List UInt8→Nat
 | []=>0
 | y::ys=>if y=x then runN x ys+1 else 0
theorem x5 (x:UInt8):∀ l:List UInt8,runN x l≤l.length
 | []=>bd _
 | y::ys=>by
  have:=x5 x ys;rw[runN];split <;> simp only[eL] <;> omega
def dw (l:List UInt8)(last:UInt8):List UInt8:=match l with
 | []=>[]
 | x::xs=>aP (zz ((runN x xs+1:Nat):Int))++(x ^^^ last)::dw (xs.drop (runN x xs)) x
termination_by l.length
decreasing_by simp only[c3,eL];omega
theorem v7 (last:UInt8):dw [] last=[]:=by rw[dw]
theorem sR (x:UInt8)(xs:List UInt8)(last:UInt8):dw (x::xs) last=aP (zz ((runN x xs+1:Nat):Int))++(x ^^^ last)::dw (xs.drop (runN x xs)) x:=by rw[dw]
theorem An (x:UInt8):∀ l:List UInt8,l.take (runN x l)=List.replicate (runN x l) x
 | []=>rfl
 | y::ys=>by
  rw[runN];split
  ·rename_i h;subst h;rw[take_succ_cons,An y ys,List.replicate_succ]
  ·rfl
theorem J2 (x:UInt8):∀ (l:List UInt8) (y:UInt8) (r:List UInt8),l.drop (runN x l)=y::r→y≠x
 | [],_,_,h=>by simp[runN]at h
 | z::zs,y,r,h=>by
  rw[runN]at h;split at h
  ·exact J2 x zs y r h
  ·rename_i hn;rw[drop_zero]at h;cases h;exact hn
theorem Xk {x:UInt8}{l:List UInt8}{n:Nat}(h1:∀ i,i<n→l[i]?=some x)(h2:l[n]?≠some x):runN x l=n:=by
 induction l generalizing n with
 | nil =>
  cases n with
  | zero=>rfl
  | succ n=>have:=h1 0 (by omega);simp at this
 | cons y ys ih =>
  cases n with
  | zero =>
   rw[runN,ag];intro e;subst e;simp at h2
  | succ n =>
   have h0:=h1 0 (by omega);simp at h0;rw[runN,ak h0,ih (n:=n) (λi hi=>by have:=h1 (i+1) (by omega);simpa using this) (by simpa using h2)]
theorem x6 (l:List UInt8):∀ last,(dw l last).length≤11*l.length:=by
 induction hn:l.length using Nat.strongRecOn generalizing l with
 | _ n ih =>
  intro last;cases l with
  | nil=>rw[v7];simp
  | cons x xs =>
   rw[sR,aL,eL];have h1:=x5 x xs;subst hn;simp only[eL];by_cases hb:xs.length<4611686018427387904
   ·have h2 := qf 9 (zz ((runN x xs + 1 : Nat) : Int)) (by
     have:zz ((runN x xs+1:Nat):Int)=2*(runN x xs+1):=by unfold zz;rw[ag (by omega)];omega
     rw[this];have e9:(128:Nat) ^ (9+1)=1180591620717411303424:=by decide
     omega)
    have h3:=ih (xs.drop (runN x xs)).length (by simp only[c3,eL];omega) (xs.drop (runN x xs)) rfl x;simp only[c3]at h3;omega
   ·have h2 : (aP (zz ((runN x xs + 1 : Nat) : Int))).length ≤ runN x xs + 10 := by
     have:∀ u,(aP (2*(u+1))).length≤u+10:=by
      intro u
      induction u using Nat.strongRecOn with
      | _ u ih =>
       by_cases h:2*(u+1)≤127
       ·rw[qe h];simp
       ·rw[vR h,eL];by_cases h2:2*(u+1)/128≤127
        ·rw[qe h2];simp
        ·have hq : ∀ v, (aP v).length ≤ v + 1 := by
          intro v
          induction v using Nat.strongRecOn with
          | _ v Xl =>
           by_cases h3:v≤127
           ·rw[qe h3];simp
           ·rw[vR h3,eL];have:=Xl (v/128) (by omega);omega
         have:=hq (2*(u+1)/128);omega
     have hz:zz ((runN x xs+1:Nat):Int)=2*(runN x xs+1):=by unfold zz;rw[ag (by omega)];omega
     rw[hz];exact this _
    have h3:=ih (xs.drop (runN x xs)).length (by simp only[c3,eL];omega) (xs.drop (runN x xs)) rfl x;simp only[c3]at h3;omega
theorem Ao (a b:UInt8):b ^^^ (a ^^^ b)=a:=by rw[UInt8.xor_comm,UInt8.xor_assoc,UInt8.xor_self,UInt8.xor_zero]
theorem Xm {a b:UInt8}(h:(a ^^^ b).toNat=0):a=b:=by
 have h0:a ^^^ b=0:=UInt8.toNat_inj.1 (by simpa using h);have:=Ao a b;rw[h0,UInt8.xor_zero]at this;exact this.symm
def mq (p out:List UInt8)(last:UInt8)(rest:List UInt8):Prop:=∃ q,p=out++q∧rest=dw q last∧(out=[]∨∀ y r,q=y::r→y≠last)
theorem mq.start (p:List UInt8):mq p [] 0 (dw p 0):=⟨p,rfl,rfl,.inl rfl⟩
theorem mq.done {p out:List UInt8}{last:UInt8}(h:mq p out last []):p=out:=by
 obtain⟨q,h1,h2,_⟩:=h;cases q with
 | nil=>simpa using h1
 | cons x xs =>
  rw[sR]at h2;have:=congrArg List.length h2;simp at this
theorem mq.next {p out:List UInt8}{last:UInt8}{rest:List UInt8}(h:mq p out last rest)(h0:rest≠[]):∃ (m:Nat) (x:UInt8) (r:List UInt8),rest=aP (zz ((m+1:Nat):Int))++(x ^^^ last)::r ∧
   out.length+(m+1)≤p.length∧(out≠[]→(x ^^^ last).toNat≠0)∧mq p (out++List.replicate (m+1) x) x r:=by
 obtain⟨q,h1,h2,h3⟩:=h;cases q with
 | nil=>rw[v7]at h2;exact absurd h2 h0
 | cons x xs =>
  rw[sR]at h2;have hle:=x5 x xs;refine⟨runN x xs,x,_,h2,by rw[h1];simp;omega,λho hz=>?_,xs.drop (runN x xs),?_,rfl,.inr λy r hy=>J2 x xs y r hy⟩
  ·rcases h3 with h3 | h3
   ·exact ho h3
   ·exact h3 x xs rfl (Xm hz)
  ·rw[h1,du]
   congr 1
   rw[List.replicate_succ,← An,cons_append,jJ]
structure Pk where
 kind:Int
 aW:Int
 to:Int
 id:Int
 first:Int
 c7:Int
 frame:Int
 sum:Nat
 al:List UInt8
def mX:Pk:=⟨0,0,0,0,0,0,0,0,[]⟩
def eD (n:Int):Prop:=0≤n∧n≤1000
instance (n:Int):Decidable (eD n):=inferInstanceAs (Decidable (_∧_))
def hJ (p:Pk):Prop:=(0≤p.aW∧p.aW≤7)∧(0≤p.to∧p.to≤7)∧p.aW≠p.to∧(0≤p.id∧p.id≤1099511627776) ∧
 ((p.kind=1∧eD p.first∧eD p.c7∧eD p.frame∧p.al.length≤32)∨(p.kind=2∧p.first=0∧p.c7=0∧p.frame=0∧p.al.length=0∧p.sum=0))
instance (p:Pk):Decidable (hJ p):=inferInstanceAs (Decidable (_∧_))
def lQ (p:Pk):List UInt8:=fc p.sum++(aP (zz (p.al.length:Int))++dw p.al 0)
def mY (p:Pk):List UInt8:=if p.kind=1 then aP (zz p.first)++(aP (zz p.c7)++(aP (zz p.frame)++lQ p)) else []
def kU (p:Pk):List UInt8:=aP (zz p.id)++mY p
def lq (p:Pk):List UInt8:=[UInt8.ofNat p.kind.toNat,UInt8.ofNat p.aW.toNat,UInt8.ofNat p.to.toNat]
def ig (p:Pk):List UInt8:=lq p++kU p
def pq (p:Pk):List UInt8:=ig p++fc (ji (ig p))
def aR (p:Pk):List UInt8:=if hJ p then pq p else []
theorem mv (x:Nat):(fc x).length=4:=rfl
theorem x7 (p:Pk):(pq p).length=(kU p).length+7:=by
 simp[pq,ig,lq,mv]
theorem Ee {p:Pk}{bs:List UInt8}(h:pq p=bs):(bs.drop 3).take (bs.length-7)=kU p:=by
 subst h;rw[x7,Nat.add_sub_cancel,pq];generalize ji (ig p)=c;rw[ig,du,List.drop_left' (by rfl),List.take_left' rfl]
theorem Ef {p:Pk}{bs:List UInt8}(h:pq p=bs):bs[0]?=some (UInt8.ofNat p.kind.toNat)∧bs[1]?=some (UInt8.ofNat p.aW.toNat)∧bs[2]?=some (UInt8.ofNat p.to.toNat):=by
 subst h;exact⟨rfl,rfl,rfl⟩
def Eg (a b c d:Nat):Nat:=((a*256+b)*256+c)*256+d
theorem Eh {x:Nat}(h:x<4294967296):Eg (UInt8.ofNat (x/16777216)).toNat (UInt8.ofNat (x/65536)).toNat (UInt8.ofNat (x/256)).toNat (UInt8.ofNat x).toNat=x:=by
 simp only[UInt8.toNat_ofNat',Eg];omega
theorem Xn {x y:Nat}(hx:x<4294967296)(hy:y<4294967296)(h:fc x=fc y):x=y:=by
 simp only[fc,List.cons.injEq,and_true]at h;obtain⟨h1,h2,h3,h4⟩:=h;have:=Eh hx;rw[h1,h2,h3,h4,Eh hy]at this;exact this.symm
theorem v8 {n m:Int}{r s:List UInt8}(h1:-9223372036854775808≤n)(h2:n≤9223372036854775807)(h3:-9223372036854775808≤m)(h4:m≤9223372036854775807)(h:aP (zz n)++r=aP (zz m)++s):n=m∧r=s:=by
 have e:=Am h1 h2 r;rw[h,Am h3 h4]at e;obtain⟨e1,e2⟩:zz m=zz n∧_:=by simpa using e
 have:n=m:=by rw[← Eb n,← Eb m,e1]
 subst this;exact⟨rfl,List.append_cancel_left h⟩
theorem J3:∀ (n:Nat) {p q:List UInt8} {l:UInt8},p.length≤n→p.length≤1000000→q.length≤1000000→dw p l=dw q l→p=q
 | n,[],[],_,_,_,_,_=>rfl
 | n,[],y::ys,l,_,_,_,h=>by
  rw[v7,sR]at h;have:=congrArg List.length h;simp at this
 | n,x::xs,[],l,_,_,_,h=>by
  rw[v7,sR]at h;have:=congrArg List.length h;simp at this
 | 0,x::xs,y::ys,l,hn,_,_,_=>by simp at hn
 | n+1,x::xs,y::ys,l,hn,hp,hq,h=>by
  have h1:=x5 x xs;have h2:=x5 y ys;simp only[eL]at hn hp hq;rw[sR,sR]at h;obtain⟨e1,e2⟩:=v8 (by omega) (by omega) (by omega) (by omega) h;rw[List.cons.injEq]at e2;obtain⟨e2,e3⟩:=e2;have Xo:x=y:=by
   have:=Ao x l;rw[e2,Ao]at this;exact this.symm
  subst Xo;have iV:runN x xs=runN x ys:=by omega
  have sL:=J3 n (by simp;omega) (by simp;omega) (by simp;omega) e3
  congr 1
  rw[← jJ (runN x xs) xs,An,sL,iV,← An,jJ]
theorem Ei {a b:Int}(E:0≤a∧a<256)(hb:0≤b∧b<256)(h:UInt8.ofNat a.toNat=UInt8.ofNat b.toNat):a=b:=by
 have:=congrArg UInt8.toNat h;simp only[UInt8.toNat_ofNat']at this;omega
theorem Xp {p q:Pk}(hp:hJ p)(hq:hJ q)(Ej:p.sum<4294967296)(Xq:q.sum<4294967296)(h:pq p=pq q):p=q:=by
 have hm:kU p=kU q:=by rw[← Ee (p:=p) rfl,← Ee (p:=q) rfl,h]
 have h0:=Ef (p:=p) rfl;have h1:=Ef (p:=q) rfl;rw[h]at h0;obtain⟨df,dc,a3⟩:=h0;obtain⟨b1,b2,b3⟩:=h1;rw[b1]at df;rw[b2]at dc;rw[b3]at a3;obtain⟨f1,t1,wa,i1,k1⟩:=hp;obtain⟨f2,t2,sI,i2,k2⟩:=hq;have Xr:=Ei (by omega) (by omega) (Option.some.inj df);have Xs:=Ei (by omega) (by omega) (Option.some.inj dc);have sm:=Ei (by omega) (by omega) (Option.some.inj a3);rw[kU,kU]at hm;obtain⟨Xt,hm⟩:=v8 (by omega) (by omega) (by omega) (by omega) hm;obtain⟨pk,ae1,pt,pi,Xu,p2,Xv,ae2,ae3⟩:=p;obtain⟨ae4,ae5,ae6,ae7,q1,q2,Ap,Ek,J4⟩:=q;simp only at *;subst Xr Xs sm Xt;rcases k1 with ⟨eM,c2,dD,hs,dE⟩ | ⟨eM,c2,dD,hs,dE,nZ⟩
 ·rcases k2 with ⟨d1,d2,d3,d4,d5⟩ | ⟨d1,_⟩
  ·unfold eD at c2 dD hs d2 d3 d4;rw[mY,mY,ak eM,ak d1]at hm;simp only at hm;obtain⟨e1,hm⟩:=v8 (by omega) (by omega) (by omega) (by omega) hm;obtain⟨e2,hm⟩:=v8 (by omega) (by omega) (by omega) (by omega) hm;obtain⟨e3,hm⟩:=v8 (by omega) (by omega) (by omega) (by omega) hm;rw[lQ,lQ]at hm;simp only at hm;obtain⟨iV,hm⟩:=List.append_inj hm rfl;obtain⟨sL,hm⟩:=v8 (by omega) (by omega) (by omega) (by omega) hm;have Xw:=J3 _ (bd _) (by omega) (by omega) hm;have Xx:=Xn Ej Xq iV;subst e1 e2 e3 Xw Xx;rfl
  ·omega
 ·rcases k2 with ⟨d1,_⟩ | ⟨d1,d2,d3,d4,d5,d6⟩
  ·omega
  ·have:=gT dE;have:=gT d5;subst c2 dD hs nZ d2 d3 d4 d6;simp_all
def gZ (bs:List UInt8)(p:Pk):Prop:=hJ p∧p.sum<4294967296∧pq p=bs
open Classical in
noncomputable def ep (bs:List UInt8):Option Pk:=if h:∃ p,gZ bs p then some (Classical.choose h) else none
theorem Aq {bs:List UInt8}{p:Pk}(h:gZ bs p):ep bs=some p:=by
 have hx:∃ p,gZ bs p:=⟨p,h⟩;rw[ep,dif_pos hx];have h2:=Classical.choose_spec hx;rw[Xp h2.1 h.1 h2.2.1 h.2.1 (h2.2.2.trans h.2.2.symm)]
theorem El {bs:List UInt8}(h:∀ p,¬ gZ bs p):ep bs=none:=by
 rw[ep,dif_neg];exact λ⟨p,hp⟩=>h p hp
theorem Em {bs:List UInt8}{p:Pk}(h:ep bs=some p):gZ bs p:=by
 rw[ep]at h;split at h
 ·rename_i hx;cases h;exact Classical.choose_spec hx
 ·cases h
theorem J5 {p:Pk}(h:hJ p)(I:p.sum<4294967296):ep (aR p)=some p:=by
 rw[aR,ak h];exact Aq ⟨h,I,rfl⟩
theorem En {bs:List UInt8}{p:Pk}(h0:bs≠[])(I:p.sum<4294967296):gZ bs p↔aR p=bs:=by
 unfold gZ aR;split
 ·rename_i h;simp[h,I]
 ·rename_i h;simp[h,h0,Ne.symm h0]
theorem J6 {p:Pk}(h:hJ p):(kU p).length≤500:=by
 obtain⟨_,_,_,i1,k1⟩:=h;have pl:∀ n:Int,0≤n→n≤1099511627776→(aP (zz n)).length≤10:=λn h0 h1=>qf 9 _ (by
  have:zz n<18446744073709551616:=Ec (by omega) (by omega);have e9:(128:Nat) ^ (9+1)=1180591620717411303424:=by decide
  omega)
 rw[kU,aL];have:=pl p.id i1.1 i1.2;rcases k1 with ⟨eM,c2,dD,hs,dE⟩ | ⟨eM,_⟩
 ·unfold eD at c2 dD hs;rw[mY,ak eM,lQ];simp only[aL,mv];have h1:=pl p.first (by omega) (by omega);have h2:=pl p.c7 (by omega) (by omega);have h3:=pl p.frame (by omega) (by omega);have h4:=pl p.al.length (by omega) (by omega);have h5:=x6 p.al 0;omega
 ·rw[mY,ag (by omega)];simp;omega
end
section
theorem Xy {x:Nat}(h:x<256):IntKind.u8.wrap ((BitVec.ofInt IntKind.u8.bits (x:Int) &&& BitVec.ofInt IntKind.u8.bits 127).toNat)=((x%128:Nat):Int):=by
 have:∀ y:Fin 256,IntKind.u8.wrap ((BitVec.ofInt IntKind.u8.bits ((y.val:Nat):Int) &&& BitVec.ofInt IntKind.u8.bits 127).toNat)=((y.val%128:Nat):Int):=by decide +kernel
 exact this ⟨x,h⟩
theorem J7 (i:Nat):(2:Nat) ^ (7*i)=128 ^ i:=by rw[Nat.pow_mul]
theorem Xz {u d i:Nat}(hu:u<128 ^ i):u ||| d*128 ^ i=u+d*128 ^ i:=by
 rw[← J7]at hu ⊢;rw[Nat.mul_comm,Nat.add_comm,Nat.two_pow_add_eq_or_of_lt hu,Nat.or_comm]
theorem Eo {i:Nat}(hi:i≤9):128 ^ i≤9223372036854775808∧(i≤8→128 ^ i≤72057594037927936):=by
 have h9:(128:Nat) ^ 9=9223372036854775808:=by decide
 have h8:(128:Nat) ^ 8=72057594037927936:=by decide
 refine⟨h9 ▸ Nat.pow_le_pow_right (by decide) hi,λh=>h8 ▸ Nat.pow_le_pow_right (by decide) h⟩
theorem J8 {i d:Nat}(hi:i≤9)(h:i=9→d≤1)(hd:d≤127):d*128 ^ i≤9223372036854775808∧(i≤8→d*128 ^ i+128 ^ i≤128 ^ (i+1)):=by
 obtain⟨h1,h2⟩:=Eo hi;have hm:d*128 ^ i≤127*128 ^ i:=Nat.mul_le_mul_right _ hd;refine⟨?_,λh8=>by rw[x4];omega⟩;rcases Nat.lt_or_ge i 9 with h9 | h9
 ·have:=h2 (by omega);omega
 ·have:i=9:=by omega
  have sD:=h this;have:d*128 ^ i≤1*128 ^ i:=Nat.mul_le_mul_right _ sD;omega
theorem J9 {bs:List UInt8}{i:Nat}(h:i<bs.length)(u:Nat):mV (bs.drop i) i u=if i=9∧1<bs[i].toNat then none
   else if 127<bs[i].toNat then mV (bs.drop (i+1)) (i+1) (u+bs[i].toNat%128*128 ^ i)
   else if 0<i∧bs[i].toNat=0 then none
   else some (u+bs[i].toNat*128 ^ i,i+1):=by
 rw[ki h,mV]
theorem XA {x:Nat}(h:x<18446744073709551616):IntKind.u64.wrap (((BitVec.ofInt IntKind.u64.bits (x:Int) &&& BitVec.ofInt IntKind.u64.bits 1).toNat:Nat):Int)=((x%2:Nat):Int):=by
 have h1:=W7 (y:=1) h (by decide);rw[Nat.and_one_is_mod]at h1;exact h1
theorem XB {x:Int}(h1:-9223372036854775808≤x)(h2:x≤9223372036854775807):IntKind.i64.wrap (((BitVec.ofInt IntKind.i64.bits (if IntKind.i64.signed then -1 else IntKind.i64.max) ^^^ BitVec.ofInt IntKind.i64.bits x).toNat:Nat):Int) = -x-1:=by
 have e:BitVec.ofInt IntKind.i64.bits (if IntKind.i64.signed then -1 else IntKind.i64.max)=BitVec.allOnes 64:=by
  show BitVec.ofInt 64 (-1)=_;decide
 rw[e];show IntKind.i64.wrap (((BitVec.allOnes 64 ^^^ BitVec.ofInt 64 x).toNat:Nat):Int)=_;rw[BitVec.allOnes_xor,BitVec.toNat_not,BitVec.toNat_ofInt];simp only[IntKind.wrap,IntKind.signed,IntKind.bits];simp;omega
section
variable {W w:World}{L:List SP}{c:Nat}{ad:Option Addr}{bs:List UInt8}
theorem Ka (I:U W w L)(hb:bs.length≤1099511627776)(hp:∀ w',U W w' L→aT w' ad bs.length bs) :
   Calls prog 339 #[.slice ad bs.length c] w λe w'=>∃ (x:Int) (k:Nat) (er:Int),e=.returned (.tuple #[.int .i64 x,.int .i64 k,.int .i64 er])∧lP bs x k er∧U W w' L:=by
 refine EN func339 ntmps339 rfl rfl λa E=>?_;refine RN 11 E I λa E=>?_;refine aO (λμ a w=>∃ (i u:Nat),(μ=bs.length-i∧i≤bs.length∧i≤9∧u<128 ^ i∧mV (bs.drop i) i u=sQ bs)∧Fr a 50 [(5,.int .u64 u),(9,.slice ad bs.length c),(10,.int .i64 bs.length),(11,.int .i64 i)]∧U W w L) (bs.length) (⟨0,0,⟨rfl,by omega,by omega,by decide,rfl⟩,E.ab [5,9,10,11],I⟩) ?_;clear E I;rintro μ a w ⟨i,u,⟨rfl,hi,rh,hu,hg⟩,E,I⟩;refine IF 3 E I (λaj a E=>?_) λaj a E=>?_
 ·
  obtain⟨bb,oo,rfl,hr⟩:=(hp _ I).get (by omega);have aH:i<bs.length:=by omega
  have ql:=lp bs[i];rw[J9 aH]at hg;obtain⟨gy,hW⟩:=Eo rh;refine RN 4 E I λa E=>?_;refine SS E (ae E (hr i _ (dJ aH))) λa E=>?_;refine RN 3 E I λa E=>?_;refine b7 (M:=λa w=>∃ z:Bool,(z=true↔(i=9∧1<bs[i].toNat))∧Fr a 50 [(5,.int .u64 u),(6,.int .i64 i),(7,.int .u8 (bs[i].toNat:Int)),(9,.slice (some ⟨bb,oo,none⟩) bs.length c),(10,.int .i64 bs.length),(11,.int .i64 i),(21,.bool z)]∧U W w L) ?_ ?_
  ·
   refine BY 3 E I (λbD a E=>?_) λbD a E=>?_
   ·
    refine RN 3 E I λa E=>?_;exact⟨_,by rw[cp];omega,E.ab [5,6,7,9,10,11,21],I⟩
   refine RN 3 E I λa E=>?_;exact⟨_,by simp;omega,E.ab [5,6,7,9,10,11,21],I⟩
  clear E;(try clear I);rintro a w ⟨z,hz,E,I⟩;refine IF 0 E I (λao a E=>?_) λao a E=>?_
  ·
   rw[ak (hz.1 ao)]at hg;refine RT 4 E I ?_;exact⟨_,_,_,rfl,lP.bad hg.symm (by omega),I⟩
  have ky:¬ (i=9∧1<bs[i].toNat):=λh=>absurd (hz.2 h) (by simp[ao]);rw[ag ky]at hg;obtain⟨sD,kq⟩:=J8 (d:=bs[i].toNat%128) rh (by omega) (by omega);refine RN 4 E I λa E=>?_;rw[Xy ql]at E;refine SX 0 E I (by rw[wrap_u64];omega) λa E=>?_;refine RN 2 E I λa E=>?_;rw[show (7:Int)*(i:Int)=((7*i:Nat):Int) from by omega]at E;refine SS E (HX E (jn:=7*i) (by show 7*i≤64;omega)) λa E=>?_;rw[show ((bs[i].toNat%128:Nat):Int)*2 ^ (7*i)=((bs[i].toNat%128*128 ^ i:Nat):Int) from by rw[Int.natCast_mul,← J7];simp,show IntKind.u64.wrap ((bs[i].toNat%128*128 ^ i:Nat):Int)=((bs[i].toNat%128*128 ^ i:Nat):Int) from by rw[wrap_u64];omega]at E;refine RN 1 E I λa E=>?_;rw[W6 (by omega) (by omega),Xz hu]at E;refine IF 5 E I (λay a E=>?_) λay a E=>?_
  ·
   rw[ak (by omega)]at hg;refine RN 2 E I λa E=>?_;exact⟨bs.length-(i+1),by omega,i+1,_,⟨rfl,by omega,by omega,by have:=kq (by omega);omega,hg⟩,E.ab [5,9,10,11],I⟩
  rw[ag (by omega)]at hg;rw[Nat.mod_eq_of_lt (show bs[i].toNat<128 from by omega)]at E sD kq;refine RN 1 E I λa E=>?_;refine b7 (M:=λa w=>∃ z:Bool,(z=true↔(0<i∧bs[i].toNat=0))∧Fr a 50 [(5,.int .u64 ((u+bs[i].toNat*128 ^ i:Nat):Int)),(6,.int .i64 i),(37,.bool z)]∧U W w L) ?_ ?_
  ·
   refine BY 3 E I (λbD a E=>?_) λbD a E=>?_
   ·
    refine RN 3 E I λa E=>?_;exact⟨_,by rw[cp];omega,E.ab [5,6,37],I⟩
   refine RN 3 E I λa E=>?_;exact⟨_,by simp;omega,E.ab [5,6,37],I⟩
  clear E;(try clear I);rintro a w ⟨z,hz,E,I⟩;refine IF 0 E I (λbk a E=>?_) λbk a E=>?_
  ·
   rw[ak (hz.1 bk)]at hg;refine RT 4 E I ?_;exact⟨_,_,_,rfl,lP.bad hg.symm (by omega),I⟩
  rw[ag (λh=>absurd (hz.2 h) (by simp[bk]))]at hg;generalize u+bs[i].toNat*128 ^ i=v at E hg;have hv:=(Ed hg.symm).1;refine RN 3 E I λa E=>?_;rw[show ((v:Nat):Int).fdiv (2 ^ 1)=((v/2:Nat):Int) from kQ _ 2]at E;refine SS E (gb E underlying319 underlying2) λa E=>?_;rw[show IntKind.i64.wrap ((v/2:Nat):Int)=((v/2:Nat):Int) from fY (by omega) (by omega)]at E;refine RN 1 E I λa E=>?_;refine b7 (M:=λa w=>Fr a 50 [(6,.int .i64 i),(8,.int .i64 (mW v))]∧U W w L) ?_ ?_
  ·
   refine RN 3 E I λa E=>?_;rw[XA hv]at E;refine IF 1 E I (λbL a E=>?_) λbL a E=>?_
   ·
    refine RN 2 E I λa E=>?_;rw[XB (by omega) (by omega)]at E;refine RN 1 E I λa E=>?_;rw[show -((v/2:Nat):Int)-1=mW v from by rw[mW,ak (by omega)]]at E;exact⟨E.ab [6,8],I⟩
   refine RN 0 E I λa E=>?_;rw[show ((v/2:Nat):Int)=mW v from by rw[mW,ag (by omega)]]at E;exact⟨E.ab [6,8],I⟩
  clear E;(try clear I);rintro a w ⟨E,I⟩;refine RT 7 E I ?_;exact⟨_,_,_,rfl,lP.J1 hg.symm,I⟩
 rw[drop_eq_nil_of_le (by omega),mV]at hg;refine RT 4 E I ?_;exact⟨_,_,_,rfl,lP.bad hg.symm (by omega),I⟩
theorem Ep (I:U W w L)(hb:bs.length≤1099511627776)(hp:∀ w',U W w' L→aT w' ad bs.length bs) :
   Calls prog 215 #[.slice ad bs.length c] w λe w'=>∃ (x:Int) (k:Nat) (er:Int),e=.returned (.tuple #[.int .i64 x,.int .i64 k,.int .i64 er])∧lP bs x k er∧U W w' L:=by
 refine EN func215 ntmps215 rfl rfl λa E=>?_;refine RN 11 E I λa E=>?_;refine aO (λμ a w=>∃ (i u:Nat),(μ=bs.length-i∧i≤bs.length∧i≤9∧u<128 ^ i∧mV (bs.drop i) i u=sQ bs)∧Fr a 64 [(0,.slice ad bs.length c),(5,.int .u64 u),(6,.int .u64 ((128 ^ i:Nat):Int)),(7,.int .i64 i)]∧U W w L) (bs.length) (⟨0,0,⟨rfl,by omega,by omega,by decide,rfl⟩,E.ab [0,5,6,7],I⟩) ?_;clear E I;rintro μ a w ⟨i,u,⟨rfl,hi,rh,hu,hg⟩,E,I⟩;refine IF 6 E I (λaj a E=>?_) λaj a E=>?_
 ·
  obtain⟨bb,oo,rfl,hr⟩:=(hp _ I).get (by omega);have aH:i<bs.length:=by omega
  have ql:=lp bs[i];rw[J9 aH]at hg;obtain⟨gy,hW⟩:=Eo rh;refine RN 2 E I λa E=>?_;refine b7 (M:=λa w=>∃ z:Bool,(z=true↔(i=9∧1<bs[i].toNat)∨(0<i∧bs[i].toNat=0))∧Fr a 64 [(0,.slice (some ⟨bb,oo,none⟩) bs.length c),(5,.int .u64 u),(6,.int .u64 ((128 ^ i:Nat):Int)),(7,.int .i64 i),(34,.bool z)]∧U W w L) ?_ ?_
  ·
   refine BY 3 E I (λbD a E=>?_) λbD a E=>?_
   ·
    refine RN 3 E I λa E=>?_;refine bt E (cm E rfl (s:=17)) (ae E (hr i _ (dJ aH))) rfl λa E=>?_;refine BY 3 E I (λuk a E=>?_) λuk a E=>?_
    ·
     refine RN 10 E I λa E=>?_;refine⟨_,?_,E.ab [0,5,6,7,34],I⟩
     (try simp only[cp]);(try simp only[Bool.false_eq_true,true_iff,false_iff]);omega
    refine BY 3 E I (λhX a E=>?_) λhX a E=>?_
    ·
     refine RN 3 E I λa E=>?_;refine bt E (cm E rfl (s:=27)) (ae E (hr i _ (dJ aH))) rfl λa E=>?_;refine RN 3 E I λa E=>?_;refine⟨_,?_,E.ab [0,5,6,7,34],I⟩
     (try simp only[cp]);(try simp only[Bool.false_eq_true,true_iff,false_iff]);omega
    refine RN 7 E I λa E=>?_;refine⟨_,?_,E.ab [0,5,6,7,34],I⟩
    (try simp only[cp]);(try simp only[Bool.false_eq_true,true_iff,false_iff]);omega
   refine BY 10 E I (λhX a E=>?_) λhX a E=>?_
   ·
    refine RN 3 E I λa E=>?_;refine bt E (cm E rfl (s:=27)) (ae E (hr i _ (dJ aH))) rfl λa E=>?_;refine RN 3 E I λa E=>?_;refine⟨_,?_,E.ab [0,5,6,7,34],I⟩
    (try simp only[cp]);(try simp only[Bool.false_eq_true,true_iff,false_iff]);omega
   refine RN 7 E I λa E=>?_;refine⟨_,?_,E.ab [0,5,6,7,34],I⟩
   (try simp only[cp]);(try simp only[Bool.false_eq_true,true_iff,false_iff]);omega
  clear E;(try clear I);rintro a w ⟨z,hz,E,I⟩;refine IF 0 E I (λao a E=>?_) λao a E=>?_
  ·
   have cU:=hz.1 ao;have zy:sQ bs=none:=by
    rw[← hg];by_cases h9:i=9∧1<bs[i].toNat
    ·rw[ak h9]
    ·rw[ag h9,ag (by omega),ak (by omega)]
   refine RT 4 E I ?_;exact⟨_,_,_,rfl,lP.bad zy (by omega),I⟩
  have ky:¬ ((i=9∧1<bs[i].toNat)∨(0<i∧bs[i].toNat=0)):=λh=>absurd (hz.2 h) (by simp[ao]);have hr:=(hp _ I).rd (by omega);obtain⟨sD,kq⟩:=J8 (d:=bs[i].toNat%128) rh (by omega) (by omega);refine RN 5 E I λa E=>?_;refine SS E (ae E (hr i _ (dJ aH))) λa E=>?_;refine SX 0 E I (by decide) λa E=>?_;rw[show ((bs[i].toNat:Nat):Int).tmod 128=((bs[i].toNat%128:Nat):Int) from nS _ 128]at E;refine SX 0 E I (by rw[wrap_u64];omega) λa E=>?_;refine RN 2 E I λa E=>?_;rw[show ((bs[i].toNat%128:Nat):Int)*((128 ^ i:Nat):Int)=((bs[i].toNat%128*128 ^ i:Nat):Int) from (Int.natCast_mul ..).symm,show IntKind.u64.wrap ((bs[i].toNat%128*128 ^ i:Nat):Int)=((bs[i].toNat%128*128 ^ i:Nat):Int) from by rw[wrap_u64];omega]at E;refine RN 1 E I λa E=>?_;rw[show IntKind.u64.wrap ((u:Int)+((bs[i].toNat%128*128 ^ i:Nat):Int))=((u+bs[i].toNat%128*128 ^ i:Nat):Int) from by rw[wrap_u64];omega]at E;refine RN 9 E I λa E=>?_;refine SS E (ae E (hr i _ (dJ aH))) λa E=>?_;refine IF 1 E I (λay a E=>?_) λay a E=>?_
  ·
   rw[ag (by omega),ag (by omega),ag (by omega)]at hg;rw[Nat.mod_eq_of_lt (show bs[i].toNat<128 from by omega)]at E sD kq;generalize u+bs[i].toNat*128 ^ i=v at E hg;have hv:=(Ed hg.symm).1;refine RN 2 E I λa E=>?_;refine SS E (vt E (by decide) (by rw[show ((v:Nat):Int).tdiv 2=((v/2:Nat):Int) from qN _ 2,wrap_u64];omega)) λa E=>?_;rw[show ((v:Nat):Int).tdiv 2=((v/2:Nat):Int) from qN _ 2]at E;refine RN 0 E I λa E=>?_;refine SS E (gb E underlying319 underlying2) λa E=>?_;rw[show IntKind.i64.wrap ((v/2:Nat):Int)=((v/2:Nat):Int) from fY (by omega) (by omega)]at E;refine RN 1 E I λa E=>?_;refine b7 (M:=λa w=>Fr a 64 [(7,.int .i64 i),(8,.int .i64 (mW v))]∧U W w L) ?_ ?_
   ·
    refine SX 2 E I (by decide) λa E=>?_;rw[show ((v:Nat):Int).tmod 2=((v%2:Nat):Int) from nS _ 2]at E;refine IF 1 E I (λbk a E=>?_) λbk a E=>?_
    ·
     refine RN 2 E I λa E=>?_;rw[show IntKind.i64.wrap (0-((v/2:Nat):Int)) = -((v/2:Nat):Int) from by rw[fY (by omega) (by omega)];omega]at E;refine RN 2 E I λa E=>?_;rw[show -((v/2:Nat):Int)-1=mW v from by rw[mW,ak (by omega)]]at E;exact⟨E.ab [7,8],I⟩
    refine RN 0 E I λa E=>?_;rw[show ((v/2:Nat):Int)=mW v from by rw[mW,ag (by omega)]]at E;exact⟨E.ab [7,8],I⟩
   clear E;(try clear I);rintro a w ⟨E,I⟩;refine RT 7 E I ?_;exact⟨_,_,_,rfl,lP.J1 hg.symm,I⟩
  rw[ag (by omega),ak (by omega)]at hg;have Kb:i≤8:=by omega
  rw[show IntKind.u64.wrap (((128 ^ i:Nat):Int)*128)=((128 ^ (i+1):Nat):Int) from by rw[wrap_u64,x4];have:=hW Kb;omega]at E;refine RN 3 E I λa E=>?_;exact⟨bs.length-(i+1),by omega,i+1,_,⟨rfl,by omega,by omega,by have:=kq (by omega);omega,hg⟩,E.ab [0,5,6,7],I⟩
 rw[drop_eq_nil_of_le (by omega),mV]at hg;refine RT 4 E I ?_;exact⟨_,_,_,rfl,lP.bad hg.symm (by omega),I⟩
theorem sS {N:Int}(I:U W w L)(h1:-9223372036854775808≤N)(h2:N≤9223372036854775807) :
   Calls prog 157 #[.int .i64 N] w λe w'=>∃ av c',e=.returned (.slice av (aP (zz N)).length c')∧U W w' (Sl 5 1 av (aP (zz N)).length c' (bc (aP (zz N)))::L):=by
 refine EN func157 ntmps157 rfl rfl λa E=>?_;refine RN 4 E I λa E=>?_;refine SS E (gb E underlying2 underlying319) λa E=>?_;refine RN 1 E I λa E=>?_;rw[wrap_u64,wrap_u64]at E;refine RN 1 E I λa E=>?_;obtain⟨U0,Du⟩:∃ U0:Nat,(N%18446744073709551616*2)%18446744073709551616=(U0:Int):=⟨((N%18446744073709551616*2)%18446744073709551616).toNat,by omega⟩;rw[Du]at E;have Dv:U0<18446744073709551616:=by omega
 refine b7 (M:=λa w=>Fr a 28 [(3,.int .u64 ((zz N:Nat):Int))]∧U W w L) ?_ ?_
 ·
  refine IF 3 E I (λaj a E=>?_) λaj a E=>?_
  ·
   refine RN 2 E I λa E=>?_;rw[Jj Dv]at E;refine RN 1 E I λa E=>?_;rw[show 18446744073709551615-U0=zz N from by rw[zz,ak aj];omega]at E;exact⟨E.ab [3],I⟩
  refine RN 0 E I λa E=>?_;rw[show U0=zz N from by rw[zz,ag (by omega)];omega]at E;exact⟨E.ab [3],I⟩
 clear E;(try clear I);rintro a w ⟨E,I⟩;refine RN 3 E I λa E=>?_;refine aO (λμ a w=>∃ (ea c':Nat) (av:Option Addr) (dn:List UInt8),(μ=ea∧dn++aP ea=aP (zz N)∧ea≤zz N)∧Fr a 28 [(3,.int .u64 (ea:Int)),(4,.slice av dn.length c')]∧U W w (Sl 5 1 av dn.length c' (bc dn)::L)) (zz N) (⟨zz N,0,none,[],⟨rfl,rfl,by omega⟩,E.ab [3,4],I.bN 5 1 none⟩) ?_;clear E I;rintro μ a w ⟨ea,c',av,dn,⟨xL,c6,Vw⟩,E,I⟩;refine RN 2 E I λa E=>?_;have cU:zz N<18446744073709551616:=by rw[zz];split <;> omega
 have gy:=qf 9 (zz N) (by simp;omega);have mi:dn.length≤10:=by
  have:=congrArg List.length c6;rw[aL]at this;omega
 clear gy;refine IF 2 E I (λao a E=>?_) λao a E=>?_
 ·
  refine SX 3 E I (by decide) λa E=>?_;rw[show ((ea:Nat):Int).tmod 128=((ea%128:Nat):Int) from nS _ 128]at E;refine RN 1 E I λa E=>?_;rw[show IntKind.u64.wrap (((ea%128:Nat):Int)+128)=((ea%128+128:Nat):Int) from by rw[wrap_u64];omega]at E;refine SX 0 E I (by rw[wrap_u8];omega) λa E=>?_;refine RN 0 E I λa E=>?_;refine cn E rfl I underlying22 Ty.t5 rfl rfl rfl rfl (by decide) (by decide) λmP a w E I ho=>?_;clear ho;refine RN 0 E I λa E=>?_;refine cK E rfl I underlying22 Ty.t5 rfl rfl I.ai rfl (by simp[Value.oneCell']) (by decide) (by decide) (by omega) λxM Dw a w E I=>?_;have aS:bc dn++[[Value.int .u8 ((ea%128+128:Nat):Int)]].flatten=bc (dn++[UInt8.ofNat (ea%128+128)]):=by
   simp[bc,UInt8.toNat_ofNat'];omega
  rw[aS]at I;refine RN 2 E I λa E=>?_;refine SS E (vt E (by decide) (by rw[show ((ea:Nat):Int).tdiv 128=((ea/128:Nat):Int) from qN _ 128,wrap_u64];omega)) λa E=>?_;rw[show ((ea:Nat):Int).tdiv 128=((ea/128:Nat):Int) from qN _ 128]at E;refine RN 1 E I λa E=>?_;exact⟨ea/128,by omega,ea/128,_,xM,dn++[UInt8.ofNat (ea%128+128)],⟨rfl,by rw[← c6,vR (u:=ea) (by omega),du];rfl,by omega⟩,by rw[aL];exact E.ab [3,4],by rw[aL];exact I.sub⟩
 refine SX 3 E I (by rw[wrap_u8];omega) λa E=>?_;refine RN 0 E I λa E=>?_;refine cn E rfl I underlying22 Ty.t5 rfl rfl rfl rfl (by decide) (by decide) λJk a w E I ho=>?_;clear ho;refine RN 0 E I λa E=>?_;refine cK E rfl I underlying22 Ty.t5 rfl rfl I.ai rfl (by simp[Value.oneCell']) (by decide) (by decide) (by omega) λDx Dy a w E I=>?_;have aS:bc dn++[[Value.int .u8 ((ea:Nat):Int)]].flatten=bc (dn++[UInt8.ofNat ea]):=by
  simp[bc,UInt8.toNat_ofNat'];omega
 rw[aS,← qe (by omega),c6]at I;refine RT 1 E I ?_;have hl:dn.length+1=(aP (zz N)).length:=by rw[← c6,qe (by omega),aL];rfl
 rw[hl]at I ⊢;exact⟨_,_,rfl,I.sub⟩
end
end
section
theorem ri {n:Int}(h1:-9223372036854775808≤n)(h2:n≤9223372036854775807):(aP (zz n)).length≤10:=qf 9 _ (by
 have:=Ec h1 h2;have e9:(128:Nat) ^ (9+1)=1180591620717411303424:=by decide
 omega)
theorem um {l:List UInt8}{x:UInt8}:bc l++[[Value.int .u8 (x.toNat:Int)]].flatten=bc (l++[x]):=by simp[bc]
structure mZ (bs:List UInt8)(i e:Nat):Prop where
 lt:i<e
 le:e≤bs.length
 same:∀ (j:Nat) (h:j<bs.length),i≤j→j<e→bs[j]=bs[i]'(by omega)
theorem mZ.one {bs:List UInt8}{i:Nat}(h:i<bs.length):mZ bs i (i+1):=⟨by omega,by omega,λj hj h1 h2=>by
 have:j=i:=by omega
 subst this;rfl⟩
theorem mZ.more {bs:List UInt8}{i e:Nat}(h:mZ bs i e)(he:e<bs.length)(hb:bs[e]'he=bs[i]'(by have:=h.lt;omega)):mZ bs i (e+1):=⟨by have:=h.lt;omega,by omega,λj hj h1 h2=>by
 by_cases XC:j=e
 ·subst XC;exact hb
 ·exact h.same j hj h1 (by omega)⟩
theorem mZ.runs {bs:List UInt8}{i e:Nat}(h:mZ bs i e)(hi:i<bs.length)(hn:∀ he:e<bs.length,bs[e]≠bs[i])(last:UInt8) :
   dw (bs.drop i) last=aP (zz ((e-i:Nat):Int))++(bs[i] ^^^ last)::dw (bs.drop e) bs[i]:=by
 have h1:=h.lt;have h2:=h.le;have hr:runN bs[i] (bs.drop (i+1))=e-i-1:=by
  refine Xk (λj hj=>?_) ?_
  ·rw[getElem?_drop,aD (by omega),h.same (i+1+j) (by omega) (by omega) (by omega)]
  ·rw[getElem?_drop,show i+1+(e-i-1)=e from by omega];rcases Nat.lt_or_ge e bs.length with he | he
   ·rw[aD he];exact λhx=>hn he (Option.some.inj hx)
   ·rw[iU he];simp
 rw[ki hi,sR,hr,drop_drop,show i+1+(e-i-1)=e from by omega,show e-i-1+1=e-i from by omega]
theorem kV {bs:List UInt8}{i:Nat}(h:i<bs.length):(bc bs)[i]?=some (.int .u8 ((bs.getD i 0).toNat:Int)):=by rw[dJ h,bl,aD h];rfl
theorem mq.get {p dn rest:List UInt8}{last:UInt8}{x:Int}{k:Nat}{er:Int}(h:mq p dn last rest)(hp:p.length≤1000000)(h0:rest≠[])(hg:lP rest x k er) :
   er=0∧1≤x∧k<rest.length∧(dn≠[]→(rest.getD k 0).toNat≠0)∧(dn.length:Int)+x≤p.length∧mq p (dn++List.replicate x.toNat (last ^^^ rest.getD k 0)) (last ^^^ rest.getD k 0) (rest.drop (k+1)):=by
 obtain⟨m,y,r,e1,e2,e3,iV⟩:=h.next h0;obtain⟨rfl,rfl,rfl⟩:=hg.2.2.2.2 ((m+1:Nat):Int) _ (by omega) (by omega) e1;have hk:rest.getD (aP (zz ((m+1:Nat):Int))).length 0=y ^^^ last:=by rw[e1,bl,getElem?_append_right (bd _)];simp
 refine⟨rfl,by omega,by rw[e1];simp,by rw[hk];exact e3,by omega,?_⟩;rw[hk,Ao,show ((m+1:Nat):Int).toNat=m+1 from by omega];have hd:rest.drop ((aP (zz ((m+1:Nat):Int))).length+1)=r:=by
  rw[e1,← drop_drop,drop_left];rfl
 rw[hd];exact iV
def sT (bs:List UInt8)(m:Nat)(out:List UInt8)(er:Int):Prop:=(er=0∨er=1∨er=4)∧out.length≤m∧∀ p:List UInt8,p.length≤m→bs=dw p 0→out=p∧er=0
theorem Kc (bs:List UInt8)(i k:Nat):(bs.drop i).getD k 0=bs.getD (i+k) 0:=by simp[bl,getElem?_drop]
theorem sT.bad {bs dn rest:List UInt8}{last:UInt8}{m k:Nat}{x er Er:Int}(mU:∀ p:List UInt8,p.length≤m→bs=dw p 0→mq p dn last rest)(hm:m≤1000000)(h0:rest≠[])(hg:lP rest x k er)
   (jU:er≠0∨x<1∨rest.length≤k∨(dn≠[]∧(rest.getD k 0).toNat=0)∨(m:Int)<dn.length+x) (he:Er=1∨Er=4):sT bs m [] Er:=by
 refine⟨by omega,by simp,λp hp e=>?_⟩;exfalso;obtain⟨g1,jy,nq,nr,qm,_⟩:=(mU p hp e).get (by omega) h0 hg;rcases jU with h | h | h | h | h
 ·exact h g1
 ·omega
 ·omega
 ·exact nr h.1 h.2
 ·omega
section
variable {W w:World}{L:List SP}{n c m:Nat}{ad:Option Addr}{bs:List UInt8}
theorem XD (I:U W w L)(hb:bs.length≤65536)(hp:∀ w',U W w' L→aT w' ad bs.length bs) :
   Calls prog 338 #[.slice ad bs.length c] w λe w'=>∃ av c',e=.returned (.slice av (dw bs 0).length c')∧U W w' (Sl 5 1 av (dw bs 0).length c' (bc (dw bs 0))::L):=by
 have gk:=x6 bs 0;refine EN func338 ntmps338 rfl rfl λa E=>?_;refine RN 9 E I λa E=>?_;refine aO (λμ a w=>∃ (i c':Nat) (av:Option Addr) (dn:List UInt8) (last:UInt8),(μ=bs.length-i∧i≤bs.length∧dn++dw (bs.drop i) last=dw bs 0)∧Fr a 48 [(0,.slice ad bs.length c),(3,.slice av dn.length c'),(4,.int .u8 (last.toNat:Int)),(5,.int .i64 i)]∧U W w (Sl 5 1 av dn.length c' (bc dn)::L)) (bs.length) (⟨0,0,none,[],0,⟨rfl,by omega,rfl⟩,E.ab [0,3,4,5],I.bN 5 1 none⟩) ?_;clear E I;rintro μ a w ⟨i,c',av,dn,last,⟨rfl,hi,c6⟩,E,I⟩;refine IF 6 E I (λaj a E=>?_) λaj a E=>?_
 ·
  obtain⟨bb,oo,rfl,_⟩:=(hp _ I.tail).get (by omega);have aH:i<bs.length:=by omega
  have mi:dn.length≤11*bs.length:=by
   have:=congrArg List.length c6;rw[aL]at this;omega
  refine RN 4 E I λa E=>?_;refine aO (λμ a w=>∃ (k:Nat),(μ=bs.length-k∧i≤k∧k≤bs.length∧(k=i∨mZ bs i k))∧Fr a 48 [(0,.slice (some ⟨bb,oo,none⟩) bs.length c),(3,.slice av dn.length c'),(4,.int .u8 (last.toNat:Int)),(5,.int .i64 i),(6,.int .i64 k)]∧U W w (Sl 5 1 av dn.length c' (bc dn)::L)) (bs.length-i) (⟨i,⟨rfl,by omega,by omega,.inl rfl⟩,E.ab [0,3,4,5,6],I⟩) ?_;clear E I;rintro μ a w ⟨k,⟨rfl,pc,hk,kz⟩,E,I⟩;refine RN 1 E I λa E=>?_;refine b7 (M:=λa w=>∃ z:Bool,(z=true→mZ bs i (k+1))∧(z=false→mZ bs i k∧∀ he:k<bs.length,bs[k]≠bs[i])∧Fr a 48 [(0,.slice (some ⟨bb,oo,none⟩) bs.length c),(3,.slice av dn.length c'),(4,.int .u8 (last.toNat:Int)),(5,.int .i64 i),(6,.int .i64 k),(26,.bool z)]∧U W w (Sl 5 1 av dn.length c' (bc dn)::L)) ?_ ?_
  ·
   refine bP 0 [12] [0,1,2,3,4,5,6,7,9,10,11,3008,1012,13,14] E I λa w E I hH hC=>?_;have hr:=(hp _ I.tail).rd (by omega);refine RH 5 E I hH hC λa E=>?_;refine E.by (s:=16) (λdA E=>?_) (λdA E=>?_)
   ·
    refine RH 6 E I hH hC λa E=>?_;refine QH E (λw hc=>ae E ((hc.rd hr) k _ (dJ (i:=k) (bs:=bs) (show k<bs.length by omega)))) hC λa E=>?_;refine RH 0 E I hH hC λa E=>?_;refine bt E (cm E rfl (s:=16)) (ae E ((hC.rd hr) i _ (dJ aH))) rfl λa E=>?_;refine RH 2 E I hH hC λa E=>?_;have dM:k<bs.length:=by omega
    refine⟨_,λh=>?_,λh=>?_,E.ab [0,3,4,5,6,26],I⟩
    ·have he:bs[k]=bs[i]:=UInt8.toNat_inj.1 (by have:=of_decide_eq_true h;omega);rcases kz with rfl | kz
     ·exact mZ.one aH
     ·exact kz.more dM he
    ·have he:bs[k]≠bs[i]:=λe=>of_decide_eq_false h (by rw[e]);rcases kz with rfl | kz
     ·exact absurd rfl he
     ·exact⟨kz,λ_=>he⟩
   refine RH 10 E I hH hC λa E=>?_;refine⟨_,λh=>(by cases h),λh=>?_,E.ab [0,3,4,5,6,26],I⟩;rcases kz with rfl | kz
   ·omega
   ·exact⟨kz,λ_=>absurd (show k<bs.length by assumption) (by omega)⟩
  clear E;(try clear I);rintro a w ⟨z,cU,ky,E,I⟩;refine IF 0 E I (λao a E=>?_) λao a E=>?_
  ·
   have pv:=cU ao;refine RN 3 E I λa E=>?_;exact⟨bs.length-(k+1),by have:=pv.le;omega,k+1,⟨rfl,by omega,pv.le,.inr pv⟩,E.ab [0,3,4,5,6],I⟩
  obtain⟨pv,bB⟩:=ky ao;rw[pv.runs aH bB last]at c6;have dM:=pv.lt;have xI:=pv.le;refine aX 1 (λw0 w=>Rd w bb oo (bc bs)) [4] [0,1,2,3,5,6,7,9,3008,10,2004,1011,1012,13] E I λa w E I hH=>?_;have hC:=(hp _ I.tail).rd (by omega);have ez:=ri (n:=((k-i:Nat):Int)) (by omega) (by omega);refine RH 4 E I hH hC λa E=>?_;rw[show ((k:Nat):Int)-((i:Nat):Int)=((k-i:Nat):Int) from by omega]at E;refine RH 4 E I hH hC λa E=>?_;refine QH E (λw hc=>ae E (hc i _ (dJ aH))) hC λa E=>?_;refine RH 1 E I hH hC λa E=>?_;refine DN [(4,[1011,1012,13]),(11,[1004,1012,13])] (by kernel_rfl) rfl ⟨⟨_,rfl,?_⟩,⟨_,rfl,?_⟩,trivial⟩
  ·
   refine RH 0 E I hH hC λa E=>?_;refine aY 0 E I (sE (N:=((k-i:Nat):Int)) (I.pick (Sl 5 1 av dn.length c' (bc dn))) (by omega) (by omega) (by omega)) λcY dP a w E I=>?_;replace hC:=hH.at w ((hp _ I.sub).rd (by omega));refine RH 0 E I hH hC λa E=>?_;refine cn E rfl I underlying22 Ty.t5 rfl rfl rfl rfl (by decide) (by decide) λH8 a w E I ho=>?_;clear ho;refine RN 0 E I λa E=>?_;refine cK E rfl I underlying22 Ty.t5 rfl rfl I.ai rfl (by simp[Value.oneCell']) (by decide) (by decide) (by rw[aL];omega) λx8 Es a w E I=>?_;refine RN 1 E I λa E=>?_;rw[um]at I;have m0:(dn++aP (zz ((k-i:Nat):Int))++[bs[i] ^^^ last])++dw (bs.drop k) bs[i]=dw bs 0:=by rw[← c6];simp
   rw[show (dn++aP (zz ((k-i:Nat):Int))).length+1=(dn++aP (zz ((k-i:Nat):Int))++[bs[i] ^^^ last]).length from by simp only[aL,jj]]at E I;generalize dn++aP (zz ((k-i:Nat):Int))++[bs[i] ^^^ last]=rj at E I m0;refine RN 4 E I λa E=>?_;refine SS E (ae E (((hp _ I.sub).rd (by omega)) i _ (dJ aH))) λa E=>?_;refine RN 3 E I λa E=>?_;exact⟨bs.length-k,by omega,k,_,x8,rj,bs[i],⟨rfl,by omega,m0⟩,E.ab [0,3,4,5],I.sub⟩
  refine RH 0 E I hH hC λa E=>?_;refine cn E rfl I underlying22 Ty.t5 rfl rfl rfl rfl (by decide) (by decide) λH8 a w E I ho=>?_;clear ho;refine aY 0 E I (sE (N:=((k-i:Nat):Int)) (I.pick (Sl 5 1 av dn.length c' (bc dn))) (by omega) (by omega) (by omega)) λcY dP a w E I=>?_;replace hC:=hH.at w ((hp _ I.sub).rd (by omega));refine RH 0 E I hH hC λa E=>?_;refine cK E rfl I underlying22 Ty.t5 rfl rfl I.ai rfl (by simp[Value.oneCell']) (by decide) (by decide) (by rw[aL];omega) λx8 Es a w E I=>?_;refine RN 1 E I λa E=>?_;rw[um]at I;have m0:(dn++aP (zz ((k-i:Nat):Int))++[bs[i] ^^^ last])++dw (bs.drop k) bs[i]=dw bs 0:=by rw[← c6];simp
  rw[show (dn++aP (zz ((k-i:Nat):Int))).length+1=(dn++aP (zz ((k-i:Nat):Int))++[bs[i] ^^^ last]).length from by simp only[aL,jj]]at E I;generalize dn++aP (zz ((k-i:Nat):Int))++[bs[i] ^^^ last]=rj at E I m0;refine RN 4 E I λa E=>?_;refine SS E (ae E (((hp _ I.sub).rd (by omega)) i _ (dJ aH))) λa E=>?_;refine RN 3 E I λa E=>?_;exact⟨bs.length-k,by omega,k,_,x8,rj,bs[i],⟨rfl,by omega,m0⟩,E.ab [0,3,4,5],I.sub⟩
 rw[drop_eq_nil_of_le (by omega),v7,append_nil]at c6;refine RT 3 E I ?_;exact⟨_,_,by rw[← c6],by rw[← c6];exact I⟩
theorem XE (I:U W w L)(hb:bs.length≤65536)(hp:∀ w',U W w' L→aT w' ad bs.length bs) :
   Calls prog 159 #[.slice ad bs.length c] w λe w'=>∃ av c',e=.returned (.slice av (dw bs 0).length c')∧U W w' (Sl 5 1 av (dw bs 0).length c' (bc (dw bs 0))::L):=by
 have gk:=x6 bs 0;refine EN func159 ntmps159 rfl rfl λa E=>?_;refine RN 9 E I λa E=>?_;refine aO (λμ a w=>∃ (i c':Nat) (av:Option Addr) (dn:List UInt8) (last:UInt8),(μ=bs.length-i∧i≤bs.length∧dn++dw (bs.drop i) last=dw bs 0)∧Fr a 52 [(0,.slice ad bs.length c),(3,.slice av dn.length c'),(4,.int .u8 (last.toNat:Int)),(5,.int .i64 i)]∧U W w (Sl 5 1 av dn.length c' (bc dn)::L)) (bs.length) (⟨0,0,none,[],0,⟨rfl,by omega,rfl⟩,E.ab [0,3,4,5],I.bN 5 1 none⟩) ?_;clear E I;rintro μ a w ⟨i,c',av,dn,last,⟨rfl,hi,c6⟩,E,I⟩;refine IF 6 E I (λaj a E=>?_) λaj a E=>?_
 ·
  obtain⟨bb,oo,rfl,_⟩:=(hp _ I.tail).get (by omega);have aH:i<bs.length:=by omega
  have mi:dn.length≤11*bs.length:=by
   have:=congrArg List.length c6;rw[aL]at this;omega
  refine RN 3 E I λa E=>?_;refine aO (λμ a w=>∃ (k:Nat),(μ=bs.length-k∧k≤bs.length∧mZ bs i k)∧Fr a 52 [(0,.slice (some ⟨bb,oo,none⟩) bs.length c),(3,.slice av dn.length c'),(4,.int .u8 (last.toNat:Int)),(5,.int .i64 i),(6,.int .i64 ((k-i:Nat):Int))]∧U W w (Sl 5 1 av dn.length c' (bc dn)::L)) (bs.length-(i+1)) (⟨i+1,⟨rfl,by omega,mZ.one aH⟩,by rw[show i+1-i=1 from by omega];exact E.ab [0,3,4,5,6],I⟩) ?_;clear E I;rintro μ a w ⟨k,⟨rfl,hk,kz⟩,E,I⟩;refine RN 1 E I λa E=>?_;refine b7 (M:=λa w=>∃ z:Bool,(z=true→mZ bs i (k+1))∧(z=false→∀ he:k<bs.length,bs[k]≠bs[i])∧Fr a 52 [(0,.slice (some ⟨bb,oo,none⟩) bs.length c),(3,.slice av dn.length c'),(4,.int .u8 (last.toNat:Int)),(5,.int .i64 i),(6,.int .i64 ((k-i:Nat):Int)),(29,.bool z)]∧U W w (Sl 5 1 av dn.length c' (bc dn)::L)) ?_ ?_
  ·
   refine RN 0 E I λa E=>?_;have pc:=kz.lt;refine bP 0 [16] [0,1,2,3,4,5,6,7,8,9,10,11,13,14,15,3012,1016,17,18] E I λa w E I hH hC=>?_;have hr:=(hp _ I.tail).rd (by omega);refine RH 3 E I hH hC λa E=>?_;rw[show ((i:Nat):Int)+((k-i:Nat):Int)=(k:Int) from by omega]at E;refine RH 4 E I hH hC λa E=>?_;refine E.by (s:=17) (λjV E=>?_) (λjV E=>?_)
   ·
    refine RH 4 E I hH hC λa E=>?_;rw[show ((i:Nat):Int)+((k-i:Nat):Int)=(k:Int) from by omega]at E;refine RH 4 E I hH hC λa E=>?_;refine QH E (λw hc=>ae E ((hc.rd hr) k _ (dJ (i:=k) (bs:=bs) (show k<bs.length by omega)))) hC λa E=>?_;refine RH 0 E I hH hC λa E=>?_;refine bt E (cm E rfl (s:=17)) (ae E ((hC.rd hr) i _ (dJ aH))) rfl λa E=>?_;refine RH 2 E I hH hC λa E=>?_;have dM:k<bs.length:=by omega
    refine⟨_,λh=>?_,λh=>?_,E.ab [0,3,4,5,6,29],I⟩
    ·have he:bs[k]=bs[i]:=UInt8.toNat_inj.1 (by have:=of_decide_eq_true h;omega);exact kz.more dM he
    ·have he:bs[k]≠bs[i]:=λe=>of_decide_eq_false h (by rw[e]);exact λ_=>he
   refine RH 12 E I hH hC λa E=>?_;refine⟨_,λh=>(by cases h),λh=>?_,E.ab [0,3,4,5,6,29],I⟩;exact λ_=>absurd (show k<bs.length by assumption) (by omega)
  clear E;(try clear I);rintro a w ⟨z,cU,ky,E,I⟩;refine IF 0 E I (λao a E=>?_) λao a E=>?_
  ·
   have pv:=cU ao;refine RN 1 E I λa E=>?_;have pc:=kz.lt;have b9:((k-i:Nat):Int)≤65536:=by omega
   refine RN 1 E I λa E=>?_;rw[show ((k-i:Nat):Int)+1=((k+1-i:Nat):Int) from by omega]at E;refine RN 1 E I λa E=>?_;exact⟨bs.length-(k+1),by have:=pv.le;omega,k+1,⟨rfl,pv.le,pv⟩,E.ab [0,3,4,5,6],I⟩
  have bB:=ky ao;rw[kz.runs aH bB last]at c6;have dM:=kz.lt;have xI:=kz.le;refine aX 1 (λw0 w=>Rd w bb oo (bc bs)) [2,3] [0,1,4,5,6,8,3007,9,2002,2003,1010,1011,12] E I λa w E I hH=>?_;have hC:=(hp _ I.tail).rd (by omega);have ez:=ri (n:=((k-i:Nat):Int)) (by omega) (by omega);refine RH 6 E I hH hC λa E=>?_;refine QH E (λw hc=>ae E (hc i _ (dJ aH))) hC λa E=>?_;refine RH 1 E I hH hC λa E=>?_;refine DN [(2,[2003,1010,1011,12]),(10,[1002,1003,1011,12])] (by kernel_rfl) rfl ⟨⟨_,rfl,?_⟩,⟨_,rfl,?_⟩,trivial⟩
  ·
   refine RH 0 E I hH hC λa E=>?_;refine aY 0 E I (sS (N:=((k-i:Nat):Int)) I (by omega) (by omega)) λcY dP a w E I=>?_;replace hC:=hH.at w ((hp _ I.sub).rd (by omega));refine RH 0 E I hH hC λa E=>?_;refine DN [(3,[1010,1011,12]),(10,[1003,1011,12])] (by kernel_rfl) rfl ⟨⟨_,rfl,?_⟩,⟨_,rfl,?_⟩,trivial⟩
   ·
    obtain⟨bp,op,rfl,fb⟩:=(I.cr cY (aP (zz ((k-i:Nat):Int))) rfl rfl).get (q7 _);refine RH 0 E I hH hC λa E=>?_;refine cK E rfl I underlying22 Ty.t5 rfl rfl fb (by rw[dk,Nat.mul_one]) (en _) (q7 _) (by decide) (by omega) λEt Eu a w E I=>?_;replace hC:=hH.at w ((hp _ I.sub).rd (by omega));refine RH 0 E I hH hC λa E=>?_;refine cn E rfl I underlying22 Ty.t5 rfl rfl rfl rfl (by decide) (by decide) λKd a w E I ho=>?_;clear ho;refine RN 0 E I λa E=>?_;refine cK E rfl I underlying22 Ty.t5 rfl rfl I.ai rfl (by simp[Value.oneCell']) (by decide) (by decide) (by omega) λwe Ew a w E I=>?_;refine RN 1 E I λa E=>?_;rw[← fF,um]at I;have m0:(dn++aP (zz ((k-i:Nat):Int))++[bs[i] ^^^ last])++dw (bs.drop k) bs[i]=dw bs 0:=by rw[← c6];simp
    rw[show dn.length+(aP (zz ((k-i:Nat):Int))).length+1=(dn++aP (zz ((k-i:Nat):Int))++[bs[i] ^^^ last]).length from by simp only[aL,jj]]at E I;generalize dn++aP (zz ((k-i:Nat):Int))++[bs[i] ^^^ last]=rj at E I m0;refine RN 4 E I λa E=>?_;refine SS E (ae E (((hp _ I.sub).rd (by omega)) i _ (dJ aH))) λa E=>?_;refine RN 4 E I λa E=>?_;rw[show ((i:Nat):Int)+((k-i:Nat):Int)=(k:Int) from by omega]at E;refine RN 1 E I λa E=>?_;exact⟨bs.length-k,by omega,k,_,we,rj,bs[i],⟨rfl,by omega,m0⟩,E.ab [0,3,4,5],I.sub⟩
   refine RH 0 E I hH hC λa E=>?_;refine cn E rfl I underlying22 Ty.t5 rfl rfl rfl rfl (by decide) (by decide) λKd a w E I ho=>?_;clear ho;obtain⟨bp,op,rfl,fb⟩:=(I.cr cY (aP (zz ((k-i:Nat):Int))) rfl rfl).get (q7 _);refine RN 0 E I λa E=>?_;refine cK E rfl I underlying22 Ty.t5 rfl rfl fb (by rw[dk,Nat.mul_one]) (en _) (q7 _) (by decide) (by omega) λEt Eu a w E I=>?_;replace hC:=hH.at w ((hp _ I.sub).rd (by omega));refine RH 0 E I hH hC λa E=>?_;refine cK E rfl I underlying22 Ty.t5 rfl rfl I.ai rfl (by simp[Value.oneCell']) (by decide) (by decide) (by omega) λwe Ew a w E I=>?_;refine RN 1 E I λa E=>?_;rw[← fF,um]at I;have m0:(dn++aP (zz ((k-i:Nat):Int))++[bs[i] ^^^ last])++dw (bs.drop k) bs[i]=dw bs 0:=by rw[← c6];simp
   rw[show dn.length+(aP (zz ((k-i:Nat):Int))).length+1=(dn++aP (zz ((k-i:Nat):Int))++[bs[i] ^^^ last]).length from by simp only[aL,jj]]at E I;generalize dn++aP (zz ((k-i:Nat):Int))++[bs[i] ^^^ last]=rj at E I m0;refine RN 4 E I λa E=>?_;refine SS E (ae E (((hp _ I.sub).rd (by omega)) i _ (dJ aH))) λa E=>?_;refine RN 4 E I λa E=>?_;rw[show ((i:Nat):Int)+((k-i:Nat):Int)=(k:Int) from by omega]at E;refine RN 1 E I λa E=>?_;exact⟨bs.length-k,by omega,k,_,we,rj,bs[i],⟨rfl,by omega,m0⟩,E.ab [0,3,4,5],I.sub⟩
  refine RH 0 E I hH hC λa E=>?_;refine cn E rfl I underlying22 Ty.t5 rfl rfl rfl rfl (by decide) (by decide) λKd a w E I ho=>?_;clear ho;refine aY 0 E I (sS (N:=((k-i:Nat):Int)) I (by omega) (by omega)) λcY dP a w E I=>?_;replace hC:=hH.at w ((hp _ I.sub).rd (by omega));obtain⟨bp,op,rfl,fb⟩:=(I.cr cY (aP (zz ((k-i:Nat):Int))) rfl rfl).get (q7 _);refine RH 0 E I hH hC λa E=>?_;refine cK E rfl I underlying22 Ty.t5 rfl rfl fb (by rw[dk,Nat.mul_one]) (en _) (q7 _) (by decide) (by omega) λEt Eu a w E I=>?_;replace hC:=hH.at w ((hp _ I.sub).rd (by omega));refine RH 0 E I hH hC λa E=>?_;refine cK E rfl I underlying22 Ty.t5 rfl rfl I.ai rfl (by simp[Value.oneCell']) (by decide) (by decide) (by omega) λwe Ew a w E I=>?_;refine RN 1 E I λa E=>?_;rw[← fF,um]at I;have m0:(dn++aP (zz ((k-i:Nat):Int))++[bs[i] ^^^ last])++dw (bs.drop k) bs[i]=dw bs 0:=by rw[← c6];simp
  rw[show dn.length+(aP (zz ((k-i:Nat):Int))).length+1=(dn++aP (zz ((k-i:Nat):Int))++[bs[i] ^^^ last]).length from by simp only[aL,jj]]at E I;generalize dn++aP (zz ((k-i:Nat):Int))++[bs[i] ^^^ last]=rj at E I m0;refine RN 4 E I λa E=>?_;refine SS E (ae E (((hp _ I.sub).rd (by omega)) i _ (dJ aH))) λa E=>?_;refine RN 4 E I λa E=>?_;rw[show ((i:Nat):Int)+((k-i:Nat):Int)=(k:Int) from by omega]at E;refine RN 1 E I λa E=>?_;exact⟨bs.length-k,by omega,k,_,we,rj,bs[i],⟨rfl,by omega,m0⟩,E.ab [0,3,4,5],I.sub⟩
 rw[drop_eq_nil_of_le (by omega),v7,append_nil]at c6;refine RT 3 E I ?_;exact⟨_,_,by rw[← c6],by rw[← c6];exact I⟩
theorem XF (I:U W w L)(hb:bs.length≤65536)(hc:bs.length≤c)(hm:m≤1000000)(hp:∀ w',U W w' L→aT w' ad bs.length bs) :
   Calls prog 333 #[.slice ad bs.length c,.int .i64 m] w λe w'=>∃ (out:List UInt8) (av:Option Addr) (c':Nat) (er:Int),e=.returned (.tuple #[.slice av out.length c',.int .i64 er])∧sT bs m out er∧U W w' (Sl 5 1 av out.length c' (bc out)::L):=by
 refine EN func333 ntmps333 rfl rfl λa E=>?_;refine RN 10 E I λa E=>?_;refine aO (λμ a w=>∃ (i c':Nat) (av:Option Addr) (dn:List UInt8) (last:UInt8),(μ=bs.length-i∧i≤bs.length∧dn.length≤m∧(0<i→dn≠[])∧∀ p:List UInt8,p.length≤m→bs=dw p 0→mq p dn last (bs.drop i))∧Fr a 79 [(0,.slice ad bs.length c),(1,.int .i64 m),(6,.slice av dn.length c'),(7,.int .u8 (last.toNat:Int)),(8,.int .i64 i)]∧U W w (Sl 5 1 av dn.length c' (bc dn)::L)) (bs.length) (⟨0,0,none,[],0,⟨rfl,by omega,by simp,by omega,λp _ e=>by rw[drop_zero,e];exact mq.start p⟩,E.ab [0,1,6,7,8],I.bN 5 1 none⟩) ?_;clear E I;rintro μ a w ⟨i,c',av,dn,last,⟨rfl,hi,Ey,Ez,mU⟩,E,I⟩;refine IF 6 E I (λaj a E=>?_) λaj a E=>?_
 ·
  obtain⟨bb,oo,rfl,_⟩:=(hp _ I.tail).get (by omega);have aH:i<bs.length:=by omega
  have bB:bs.drop i≠[]:=λe=>by have:=congrArg List.length e;simp at this;omega
  refine RN 4 E I λa E=>?_;rw[show bs.length-i=(bs.drop i).length from by simp]at E;refine jN 0 E I (Ka (bs:=bs.drop i) I (by simp;omega) (λw' hw=>(hp w' hw.tail).uh hi hc)) λx k er a w E ⟨hg,I⟩=>?_;refine RN 8 E I λa E=>?_;refine b7 (M:=λa w=>∃ z:Bool,(z=true↔(er≠0∨x<1∨bs.length≤i+k∨((bs.getD (i+k) 0).toNat=0∧0<i)))∧Fr a 79 [(0,.slice (some ⟨bb,oo,none⟩) bs.length c),(1,.int .i64 m),(6,.slice av dn.length c'),(7,.int .u8 (last.toNat:Int)),(8,.int .i64 i),(9,.int .i64 x),(10,.int .i64 k),(50,.bool z)]∧U W w (Sl 5 1 av dn.length c' (bc dn)::L)) ?_ ?_
  ·
   have mi:(bs.drop i).length=bs.length-i:=by simp
   have pw:=hg.2.2.1;have ni:=hg.2.1;have oh:=hg.1;have dM:k≤bs.length:=by
    by_cases h0:er=0
    ·have:=pw h0;omega
    ·have:=(hg.2.2.2.1 h0).1;omega
   refine BY 3 E I (λbD a E=>?_) λbD a E=>?_
   ·
    refine RN 24 E I λa E=>?_;exact⟨_,by first | (rw[cp];omega) | exact⟨λh=>(by cases h),λh=>absurd h (by omega)⟩ | exact⟨λ_=>by omega,λ_=>rfl⟩,E.ab [0,1,6,7,8,9,10,50],I⟩
   refine BY 4 E I (λjV a E=>?_) λjV a E=>?_
   ·
    refine RN 20 E I λa E=>?_;exact⟨_,by first | (rw[cp];omega) | exact⟨λh=>(by cases h),λh=>absurd h (by omega)⟩ | exact⟨λ_=>by omega,λ_=>rfl⟩,E.ab [0,1,6,7,8,9,10,50],I⟩
   refine BY 8 E I (λkN a E=>?_) λkN a E=>?_
   ·
    refine RN 12 E I λa E=>?_;exact⟨_,by first | (rw[cp];omega) | exact⟨λh=>(by cases h),λh=>absurd h (by omega)⟩ | exact⟨λ_=>by omega,λ_=>rfl⟩,E.ab [0,1,6,7,8,9,10,50],I⟩
   refine RN 4 E I λa E=>?_;rw[show ((i:Nat):Int)+((k:Nat):Int)=((i+k:Nat):Int) from by omega]at E;refine RN 1 E I λa E=>?_;refine bt E (cm E rfl (s:=38)) (ae E (((hp _ I.tail).rd (by omega)) (i+k) _ (kV (by omega)))) rfl λa E=>?_;refine BY 2 E I (λpy a E=>?_) λpy a E=>?_
   ·
    refine RN 4 E I λa E=>?_;exact⟨_,by first | (rw[cp];omega) | exact⟨λh=>(by cases h),λh=>absurd h (by omega)⟩ | exact⟨λ_=>by omega,λ_=>rfl⟩,E.ab [0,1,6,7,8,9,10,50],I⟩
   refine RN 4 E I λa E=>?_;exact⟨_,by first | (rw[cp];omega) | exact⟨λh=>(by cases h),λh=>absurd h (by omega)⟩ | exact⟨λ_=>by omega,λ_=>rfl⟩,E.ab [0,1,6,7,8,9,10,50],I⟩
  clear E;(try clear I);rintro a w ⟨z,hz,E,I⟩;refine IF 0 E I (λao a E=>?_) λao a E=>?_
  ·
   have jU:=hz.1 ao;refine RT 3 E I ?_;exact⟨[],none,0,1,rfl,sT.bad mU hm bB hg (by rw[Kc,c3];rcases jU with h | h | h | h;exact .inl h;exact .inr (.inl h);exact .inr (.inr (.inl (by omega)));exact .inr (.inr (.inr (.inl ⟨Ez h.2,h.1⟩)))) (.inl rfl),I.tail.bN _ _ _⟩
  have DX:¬ (er≠0∨x<1∨bs.length≤i+k∨((bs.getD (i+k) 0).toNat=0∧0<i)):=λh=>absurd (hz.2 h) (by simp[ao]);refine IF 9 E I (λay a E=>?_) λay a E=>?_
  ·
   refine RT 3 E I ?_;exact⟨[],none,0,4,rfl,sT.bad mU hm bB hg (.inr (.inr (.inr (.inr (by omega))))) (.inr rfl),I.tail.bN _ _ _⟩
  refine RN 6 E I λa E=>?_;rw[show ((i:Nat):Int)+((k:Nat):Int)=((i+k:Nat):Int) from by omega]at E;refine RN 1 E I λa E=>?_;refine SS E (ae E (((hp _ I.tail).rd (by omega)) (i+k) _ (kV (by omega)))) λa E=>?_;refine RN 2 E I λa E=>?_;generalize hy:last ^^^ bs.getD (i+k) 0=y at E;refine RN 4 E I λa E=>?_;refine aO (λμ a w=>∃ (j c2:Nat) (ad2:Option Addr),(μ=x.toNat-j∧j≤x.toNat)∧Fr a 79 [(0,.slice (some ⟨bb,oo,none⟩) bs.length c),(1,.int .i64 m),(6,.slice ad2 (dn++List.replicate j y).length c2),(7,.int .u8 (y.toNat:Int)),(8,.int .i64 i),(10,.int .i64 k),(66,.int .i64 x),(67,.int .i64 j)]∧U W w (Sl 5 1 ad2 (dn++List.replicate j y).length c2 (bc (dn++List.replicate j y))::L)) (x.toNat) (⟨0,c',av,⟨rfl,by omega⟩,by rw[List.replicate_zero,append_nil];exact E.ab [0,1,6,7,8,10,66,67],by rw[List.replicate_zero,append_nil];exact I⟩) ?_;clear E I;rintro μ a w ⟨j,c2,ad2,⟨rfl,hj⟩,E,I⟩;refine IF 3 E I (λbk a E=>?_) λbk a E=>?_
  ·
   refine RN 1 E I λa E=>?_;have eh:(dn++List.replicate j y).length=dn.length+j:=by simp
   refine RN 2 E I λa E=>?_;refine cn E rfl I underlying22 Ty.t5 rfl rfl rfl rfl (by decide) (by decide) λXG a w E I ho=>?_;clear ho;refine RN 0 E I λa E=>?_;refine cK E rfl I underlying22 Ty.t5 rfl rfl I.ai rfl (by simp[Value.oneCell']) (by decide) (by decide) (by omega) λKe Kf a w E I=>?_;refine RN 1 E I λa E=>?_;rw[um,show (dn++List.replicate j y)++[y]=dn++List.replicate (j+1) y from by rw[du,← replicate_succ']]at I;rw[show (dn++List.replicate j y).length+1=(dn++List.replicate (j+1) y).length from by simp;omega]at E I;refine RN 2 E I λa E=>?_;exact⟨x.toNat-(j+1),by omega,j+1,_,_,⟨rfl,by omega⟩,E.ab [0,1,6,7,8,10,66,67],I.sub⟩
  obtain rfl:j=x.toNat:=by omega
  refine RN 0 E I λa E=>?_;have oa:(dn++List.replicate x.toNat y).length=dn.length+x.toNat:=by simp
  refine RN 4 E I λa E=>?_;rw[show ((i:Nat):Int)+(((k:Nat):Int)+1)=((i+k+1:Nat):Int) from by omega]at E;refine RN 1 E I λa E=>?_;exact⟨bs.length-(i+k+1),by omega,i+k+1,_,_,_,y,⟨rfl,by omega,by omega,λ_ e=>(by rw[e]at oa;simp at oa;omega),λp uo e=>(by
   have h2:=((mU p uo e).get (by omega) bB hg).2.2.2.2.2;rw[Kc,hy,drop_drop]at h2;exact h2)⟩,E.ab [0,1,6,7,8],I⟩
 refine RT 4 E I ?_;exact⟨dn,_,_,0,rfl,⟨by omega,Ey,λp uo e=>⟨by have h2:=mU p uo e;rw[drop_eq_nil_of_le (by omega)]at h2;exact h2.done.symm,rfl⟩⟩,I⟩
theorem XH (I:U W w L)(hb:bs.length≤65536)(hc:bs.length≤c)(hm:m≤1000000)(hp:∀ w',U W w' L→aT w' ad bs.length bs) :
   Calls prog 216 #[.slice ad bs.length c,.int .i64 m] w λe w'=>∃ (out:List UInt8) (av:Option Addr) (c':Nat) (er:Int),e=.returned (.tuple #[.slice av out.length c',.int .i64 er])∧sT bs m out er∧U W w' (Sl 5 1 av out.length c' (bc out)::L):=by
 refine EN func216 ntmps216 rfl rfl λa E=>?_;refine RN 10 E I λa E=>?_;refine aO (λμ a w=>∃ (i c' ot:Nat) (av rk:Option Addr) (dn rest:List UInt8) (last:UInt8) (fi:Bool),(μ=rest.length∧rest.length≤bs.length∧rest.length≤ot∧dn.length≤m∧(fi=false→dn≠[])∧(∀ w',U W w' L→aT w' rk rest.length rest)∧∀ p:List UInt8,p.length≤m→bs=dw p 0→mq p dn last rest)∧Fr a 72 [(0,.slice rk rest.length ot),(1,.int .i64 m),(6,.slice av dn.length c'),(7,.int .u8 (last.toNat:Int)),(8,.bool fi)]∧U W w (Sl 5 1 av dn.length c' (bc dn)::L)) (bs.length) (⟨0,0,c,none,ad,[],bs,0,true,⟨rfl,by omega,hc,by simp,(by simp),hp,λp _ e=>by rw[e];exact mq.start p⟩,E.ab [0,1,6,7,8],I.bN 5 1 none⟩) ?_;clear E I;rintro μ a w ⟨i,c',ot,av,rk,dn,rest,last,fi,⟨rfl,Ar,jD,Ey,Ez,a6,mU⟩,E,I⟩;refine IF 5 E I (λaj a E=>?_) λaj a E=>?_
 ·
  obtain⟨bb,oo,rfl,_⟩:=(a6 _ I.tail).get (by omega);have bB:rest≠[]:=λe=>by rw[e]at aj;simp at aj
  refine jN 3 E I (Ep (bs:=rest) I (by omega) (λw' hw=>a6 w' hw.tail)) λx k er a w E ⟨hg,I⟩=>?_;refine RN 8 E I λa E=>?_;refine b7 (M:=λa w=>∃ z:Bool,(z=true↔(er≠0∨x<1∨rest.length≤k∨((rest.getD k 0).toNat=0∧fi=false)))∧Fr a 72 [(0,.slice (some ⟨bb,oo,none⟩) rest.length ot),(1,.int .i64 m),(6,.slice av dn.length c'),(7,.int .u8 (last.toNat:Int)),(8,.bool fi),(9,.int .i64 x),(10,.int .i64 k),(44,.bool z)]∧U W w (Sl 5 1 av dn.length c' (bc dn)::L)) ?_ ?_
  ·
   have pw:=hg.2.2.1;have ni:=hg.2.1;have oh:=hg.1;have dM:k≤rest.length:=by
    by_cases h0:er=0
    ·have:=pw h0;omega
    ·have:=(hg.2.2.2.1 h0).1;omega
   refine BY 3 E I (λbD a E=>?_) λbD a E=>?_
   ·
    refine RN 20 E I λa E=>?_;exact⟨_,by first | (rw[cp];omega) | exact⟨λh=>(by cases h),λh=>absurd h (by omega)⟩ | exact⟨λ_=>by omega,λ_=>rfl⟩ | (cases fi;exact⟨λ_=>.inr (.inr (.inr ⟨by omega,rfl⟩)),λ_=>rfl⟩;exact⟨λh=>(by cases h),λh=>by rcases h with h | h | h | h;exact absurd h (by omega);exact absurd h (by omega);exact absurd h (by omega);exact absurd h.2 (by decide)⟩),E.ab [0,1,6,7,8,9,10,44],I⟩
   refine BY 4 E I (λjV a E=>?_) λjV a E=>?_
   ·
    refine RN 16 E I λa E=>?_;exact⟨_,by first | (rw[cp];omega) | exact⟨λh=>(by cases h),λh=>absurd h (by omega)⟩ | exact⟨λ_=>by omega,λ_=>rfl⟩ | (cases fi;exact⟨λ_=>.inr (.inr (.inr ⟨by omega,rfl⟩)),λ_=>rfl⟩;exact⟨λh=>(by cases h),λh=>by rcases h with h | h | h | h;exact absurd h (by omega);exact absurd h (by omega);exact absurd h (by omega);exact absurd h.2 (by decide)⟩),E.ab [0,1,6,7,8,9,10,44],I⟩
   refine BY 6 E I (λhX a E=>?_) λhX a E=>?_
   ·
    refine RN 10 E I λa E=>?_;exact⟨_,by first | (rw[cp];omega) | exact⟨λh=>(by cases h),λh=>absurd h (by omega)⟩ | exact⟨λ_=>by omega,λ_=>rfl⟩ | (cases fi;exact⟨λ_=>.inr (.inr (.inr ⟨by omega,rfl⟩)),λ_=>rfl⟩;exact⟨λh=>(by cases h),λh=>by rcases h with h | h | h | h;exact absurd h (by omega);exact absurd h (by omega);exact absurd h (by omega);exact absurd h.2 (by decide)⟩),E.ab [0,1,6,7,8,9,10,44],I⟩
   refine RN 3 E I λa E=>?_;refine bt E (cm E rfl (s:=34)) (ae E (((a6 _ I.tail).rd (by omega)) k _ (kV (by omega)))) rfl λa E=>?_;refine BY 2 E I (λtT a E=>?_) λtT a E=>?_
   ·
    refine RN 4 E I λa E=>?_;exact⟨_,by first | (rw[cp];omega) | exact⟨λh=>(by cases h),λh=>absurd h (by omega)⟩ | exact⟨λ_=>by omega,λ_=>rfl⟩ | (cases fi;exact⟨λ_=>.inr (.inr (.inr ⟨by omega,rfl⟩)),λ_=>rfl⟩;exact⟨λh=>(by cases h),λh=>by rcases h with h | h | h | h;exact absurd h (by omega);exact absurd h (by omega);exact absurd h (by omega);exact absurd h.2 (by decide)⟩),E.ab [0,1,6,7,8,9,10,44],I⟩
   refine RN 4 E I λa E=>?_;exact⟨_,by first | (rw[cp];omega) | exact⟨λh=>(by cases h),λh=>absurd h (by omega)⟩ | exact⟨λ_=>by omega,λ_=>rfl⟩ | (cases fi;exact⟨λ_=>.inr (.inr (.inr ⟨by omega,rfl⟩)),λ_=>rfl⟩;exact⟨λh=>(by cases h),λh=>by rcases h with h | h | h | h;exact absurd h (by omega);exact absurd h (by omega);exact absurd h (by omega);exact absurd h.2 (by decide)⟩),E.ab [0,1,6,7,8,9,10,44],I⟩
  clear E;(try clear I);rintro a w ⟨z,hz,E,I⟩;refine IF 0 E I (λao a E=>?_) λao a E=>?_
  ·
   have jU:=hz.1 ao;refine RT 3 E I ?_;exact⟨[],none,0,1,rfl,sT.bad mU hm bB hg (by rcases jU with h | h | h | h;exact .inl h;exact .inr (.inl h);exact .inr (.inr (.inl (by omega)));exact .inr (.inr (.inr (.inl ⟨Ez h.2,h.1⟩)))) (.inl rfl),I.tail.bN _ _ _⟩
  have DX:¬ (er≠0∨x<1∨rest.length≤k∨((rest.getD k 0).toNat=0∧fi=false)):=λh=>absurd (hz.2 h) (by simp[ao]);refine IF 9 E I (λay a E=>?_) λay a E=>?_
  ·
   refine RT 3 E I ?_;exact⟨[],none,0,4,rfl,sT.bad mU hm bB hg (.inr (.inr (.inr (.inr (by omega))))) (.inr rfl),I.tail.bN _ _ _⟩
  refine RN 5 E I λa E=>?_;refine SS E (ae E (((a6 _ I.tail).rd (by omega)) k _ (kV (by omega)))) λa E=>?_;refine RN 2 E I λa E=>?_;generalize hy:last ^^^ rest.getD k 0=y at E;refine RN 3 E I λa E=>?_;refine aO (λμ a w=>∃ (j c2:Nat) (ad2:Option Addr),(μ=x.toNat-j∧j≤x.toNat)∧Fr a 72 [(0,.slice (some ⟨bb,oo,none⟩) rest.length ot),(1,.int .i64 m),(6,.slice ad2 (dn++List.replicate j y).length c2),(7,.int .u8 (y.toNat:Int)),(8,.bool fi),(9,.int .i64 x),(10,.int .i64 k),(12,.int .i64 j)]∧U W w (Sl 5 1 ad2 (dn++List.replicate j y).length c2 (bc (dn++List.replicate j y))::L)) (x.toNat) (⟨0,c',av,⟨rfl,by omega⟩,by rw[List.replicate_zero,append_nil];exact E.ab [0,1,6,7,8,9,10,12],by rw[List.replicate_zero,append_nil];exact I⟩) ?_;clear E I;rintro μ a w ⟨j,c2,ad2,⟨rfl,hj⟩,E,I⟩;refine IF 5 E I (λbk a E=>?_) λbk a E=>?_
  ·
   refine RN 1 E I λa E=>?_;have eh:(dn++List.replicate j y).length=dn.length+j:=by simp
   refine RN 2 E I λa E=>?_;refine cn E rfl I underlying22 Ty.t5 rfl rfl rfl rfl (by decide) (by decide) λQT a w E I ho=>?_;clear ho;refine RN 0 E I λa E=>?_;refine cK E rfl I underlying22 Ty.t5 rfl rfl I.ai rfl (by simp[Value.oneCell']) (by decide) (by decide) (by omega) λae8 c66 a w E I=>?_;refine RN 1 E I λa E=>?_;rw[um,show (dn++List.replicate j y)++[y]=dn++List.replicate (j+1) y from by rw[du,← replicate_succ']]at I;rw[show (dn++List.replicate j y).length+1=(dn++List.replicate (j+1) y).length from by simp;omega]at E I;refine RN 3 E I λa E=>?_;exact⟨x.toNat-(j+1),by omega,j+1,_,_,⟨rfl,by omega⟩,E.ab [0,1,6,7,8,9,10,12],I.sub⟩
  obtain rfl:j=x.toNat:=by omega
  refine RN 0 E I λa E=>?_;have oa:(dn++List.replicate x.toNat y).length=dn.length+x.toNat:=by simp
  refine RN 5 E I λa E=>?_;rw[show rest.length-(k+1)=(rest.drop (k+1)).length from by simp]at E;refine RN 1 E I λa E=>?_;exact⟨(rest.drop (k+1)).length,by simp;omega,0,_,_,_,_,_,rest.drop (k+1),y,false,⟨rfl,by simp;omega,by simp;omega,by omega,λ_ e=>(by rw[e]at oa;simp at oa;omega),λw' hw=>(a6 w' hw).uh (by omega) jD,λp uo e=>(by
   have h2:=((mU p uo e).get (by omega) bB hg).2.2.2.2.2;rw[hy]at h2;exact h2)⟩,E.ab [0,1,6,7,8],I⟩
 refine RT 4 E I ?_;have XI:rest=[]:=gT (by omega);exact⟨dn,_,_,0,rfl,⟨by omega,Ey,λp uo e=>⟨by have h2:=mU p uo e;rw[XI]at h2;exact h2.done.symm,rfl⟩⟩,I⟩
end
end
section
abbrev dK (p:Pk)(ad:Option Addr)(c:Nat):List Value:=[.int .i64 p.kind,.int .i64 p.aW,.int .i64 p.to,.int .i64 p.id,.int .i64 p.first,.slice ad p.al.length c,.int .i64 p.c7,.int .i64 p.frame,.int .u32 p.sum]
def pz (m:Int)(ns:List Int):Prop:=∀ n∈ns,0≤n∧n≤m
def EA (ns:List Int):List Value:=ns.map λn=>.int .i64 n
theorem XJ {ns:List Int}{i:Nat}(h:i<ns.length):(EA ns)[i]?=some (.int .i64 ns[i]):=by simp[EA,h]
def iB (p:Pk):Prop:=(0≤p.aW∧p.aW≤7)∧(0≤p.to∧p.to≤7)∧p.aW≠p.to∧(0≤p.id∧p.id≤1099511627776)
theorem EB {p:Pk}(h:iB p)(hk:p.kind=1):hJ p↔(pz 1000 [p.first,p.c7,p.frame]∧p.al.length≤32):=by
 unfold iB at h;simp only[hJ,pz,eD,forall_mem_cons,not_mem_nil,false_implies,implies_true,and_true];omega
theorem EC {p:Pk}(h:iB p)(hk:p.kind=2):hJ p↔(pz 0 [p.first,p.c7,p.frame,(p.al.length:Int)]∧p.sum=0):=by
 unfold iB at h;simp only[hJ,pz,eD,forall_mem_cons,not_mem_nil,false_implies,implies_true,and_true];omega
theorem As {p:Pk}(h:hJ p):iB p:=⟨h.1,h.2.1,h.2.2.1,h.2.2.2.1⟩
theorem x9 {p:Pk}(h:hJ p):p.kind=1∨p.kind=2:=by
 rcases h.2.2.2.2 with h | h
 ·exact .inl h.1
 ·exact .inr h.1
section
variable {W w:World}{L:List SP}{n c:Nat}{ad:Option Addr}{p:Pk}
theorem ED {ns:List Int}{b:Nat}{M:Int}(I:U W w L)(hb:ns.length≤1000)(hp:∀ w',U W w' L→Rd w' b 0 (EA ns)) :
   Calls prog 342 #[.int .i64 M,.slice (some ⟨b,0,none⟩) ns.length ns.length] w λe w'=>∃ r:Bool,e=.returned (.bool r)∧(r=true↔pz M ns)∧U W w' L:=by
 refine EN func342 ntmps342 rfl rfl λa E=>?_;refine RN 7 E I λa E=>?_;refine aO (λμ a w=>∃ (i:Nat),(μ=ns.length-i∧i≤ns.length∧pz M (ns.take i))∧Fr a 21 [(0,.int .i64 M),(7,.slice (some ⟨b,0,none⟩) ns.length ns.length),(8,.int .i64 ns.length),(9,.int .i64 i)]∧U W w L) (ns.length) (⟨0,⟨rfl,by omega,λn h=>by simp at h⟩,E.ab [0,7,8,9],I⟩) ?_;clear E I;rintro μ a w ⟨i,⟨rfl,hi,cC⟩,E,I⟩;refine IF 3 E I (λaj a E=>?_) λaj a E=>?_
 ·
  have aH:i<ns.length:=by omega
  refine RN 3 E I λa E=>?_;refine SS E (ae E (by have:=hp _ I i _ (XJ aH);rwa [Nat.zero_add]at this)) λa E=>?_;refine RN 1 E I λa E=>?_;refine b7 (M:=λa w=>∃ z:Bool,(z=true↔¬ (0≤ns[i]∧ns[i]≤M))∧Fr a 21 [(0,.int .i64 M),(7,.slice (some ⟨b,0,none⟩) ns.length ns.length),(8,.int .i64 ns.length),(9,.int .i64 i),(19,.bool z)]∧U W w L) ?_ ?_
  ·
   refine BY 3 E I (λbD a E=>?_) λbD a E=>?_
   ·
    refine RN 4 E I λa E=>?_;exact⟨_,by first | (rw[cp];omega) | exact⟨λh=>(by cases h),λh=>absurd h (by omega)⟩ | exact⟨λ_=>by omega,λ_=>rfl⟩,E.ab [0,7,8,9,19],I⟩
   refine RN 4 E I λa E=>?_;exact⟨_,by first | (rw[cp];omega) | exact⟨λh=>(by cases h),λh=>absurd h (by omega)⟩ | exact⟨λ_=>by omega,λ_=>rfl⟩,E.ab [0,7,8,9,19],I⟩
  clear E;(try clear I);rintro a w ⟨z,hz,E,I⟩;refine IF 0 E I (λao a E=>?_) λao a E=>?_
  ·
   refine RT 2 E I ?_;exact⟨_,rfl,⟨λh=>(by cases h),λh=>absurd (h _ (getElem_mem aH)) (hz.1 ao)⟩,I⟩
  refine RN 2 E I λa E=>?_;exact⟨ns.length-(i+1),by omega,i+1,⟨rfl,by omega,λn hn=>by
   rw[iZ aH,eN,mem_singleton]at hn;rcases hn with hn | rfl
   ·exact cC n hn
   ·exact Classical.byContradiction λh=>by have:=hz.2 h;rw[ao]at this;cases this⟩,E.ab [0,7,8,9],I⟩
 refine RT 2 E I ?_;rw[fZ (by omega)]at cC;exact⟨_,rfl,⟨λ_=>cC,λ_=>rfl⟩,I⟩
theorem Kg {M a b:Int}:pz M [a,b]↔(0≤a∧a≤M)∧(0≤b∧b≤M):=by simp[pz]
theorem XK {M a b c:Int}:pz M [a,b,c]↔(0≤a∧a≤M)∧(0≤b∧b≤M)∧(0≤c∧c≤M):=by simp[pz]
theorem XL (I:U W w L):Calls prog 336 #[.agg (dK p ad c).toArray] w λe w'=>∃ r:Bool,e=.returned (.bool r)∧(r=true↔hJ p)∧U W w' L:=by
 have rl:=I;refine EN func336 ntmps336 rfl rfl λa E=>?_;refine BX 1 E I λb1 a w E I=>?_;refine RN 2 E I λa E=>?_;refine b7 (M:=λa w=>∃ (z:Bool) (b1:Nat),(z=true↔¬ iB p)∧Fr a 63 [(1,pt b1),(26,.bool z)]∧U W w (aa b1 203 (dK p ad c)::L)) ?_ ?_
 ·
  refine RN 4 E I λa E=>?_;refine cn E rfl I underlying53 Ty.t3 rfl rfl rfl rfl (by decide) (by decide) λdq a w E I ho=>?_;clear ho;refine bh 0 E I (ED (ns:=[p.aW,p.to]) I (by simp) (λw' hw=>hw.ai)) λr1 a w E ⟨e8,I⟩=>?_;refine BY 2 E I (λjC a E=>?_) λjC a E=>?_
  ·
   have hh:¬ iB p:=λh=>by
    have:=e8.2 (Kg.2 ⟨h.1,h.2.1⟩);rw[jC]at this;cases this
   refine RN 16 E I λa E=>?_;exact⟨_,_,⟨λ_=>hh,λ_=>rfl⟩,E.ab [1,26],I.sub⟩
  have hh:=Kg.1 (e8.1 jC);refine BY 7 E I (λkN a E=>?_) λkN a E=>?_
  ·
   refine RN 9 E I λa E=>?_;exact⟨_,_,by unfold iB;first | (rw[cp];omega) | exact⟨λh=>(by cases h),λh=>absurd h (by omega)⟩ | exact⟨λ_=>by omega,λ_=>rfl⟩,E.ab [1,26],I.sub⟩
  refine BY 5 E I (λpA a E=>?_) λpA a E=>?_
  ·
   refine RN 4 E I λa E=>?_;exact⟨_,_,by unfold iB;first | (rw[cp];omega) | exact⟨λh=>(by cases h),λh=>absurd h (by omega)⟩ | exact⟨λ_=>by omega,λ_=>rfl⟩,E.ab [1,26],I.sub⟩
  refine RN 4 E I λa E=>?_;exact⟨_,_,by unfold iB;first | (rw[cp];omega) | exact⟨λh=>(by cases h),λh=>absurd h (by omega)⟩ | exact⟨λ_=>by omega,λ_=>rfl⟩,E.ab [1,26],I.sub⟩
 clear E;(try clear I);rintro a w ⟨z,b1,hz,E,I⟩;refine IF 0 E I (λaj a E=>?_) λaj a E=>?_
 ·
  have hn:=hz.1 aj;refine RT 2 E I ?_;exact⟨_,rfl,⟨λh=>(by cases h),λh=>absurd (As h) hn⟩,I.sub⟩
 have hh:iB p:=Classical.byContradiction λh=>by have:=hz.2 h;rw[aj]at this;cases this
 refine IF 7 E I (λao a E=>?_) λao a E=>?_
 ·
  have gX:p.kind=1:=ao;refine RN 7 E I λa E=>?_;refine cn E rfl I underlying53 Ty.t3 rfl rfl rfl rfl (by decide) (by decide) λUP a w E I ho=>?_;clear ho;refine bh 0 E I (ED (ns:=[p.first,p.c7,p.frame]) I (by simp) (λw' hw=>hw.ai)) λae9 a w E ⟨sU,I⟩=>?_;refine BY 1 E I (λfa a E=>?_) λfa a E=>?_
  ·
   refine RT 6 E I ?_;refine⟨_,rfl,?_,I.sub⟩;rw[EB hh gX,cp];exact⟨λh=>⟨sU.1 fa,by omega⟩,λh=>by omega⟩
  refine RT 6 E I ?_;exact⟨_,rfl,⟨λh=>(by cases h),λh=>by have:=sU.2 ((EB hh gX).1 h).1;rw[fa]at this;cases this⟩,I.sub⟩
 refine IF 3 E I (λay a E=>?_) λay a E=>?_
 ·
  have b9:p.kind=2:=ay;refine RN 10 E I λa E=>?_;refine cn E rfl I underlying53 Ty.t3 rfl rfl rfl rfl (by decide) (by decide) λXM a w E I ho=>?_;clear ho;refine bh 0 E I (ED (ns:=[p.first,p.c7,p.frame,(p.al.length:Int)]) I (by simp) (λw' hw=>hw.ai)) λafa a w E ⟨wg,I⟩=>?_;refine BY 1 E I (λkO a E=>?_) λkO a E=>?_
  ·
   refine RT 5 E I ?_;refine⟨_,rfl,?_,I.sub⟩;rw[EC hh b9,cp];exact⟨λh=>⟨wg.1 kO,by omega⟩,λh=>by omega⟩
  refine RT 5 E I ?_;exact⟨_,rfl,⟨λh=>(by cases h),λh=>by have:=wg.2 ((EC hh b9).1 h).1;rw[kO]at this;cases this⟩,I.sub⟩
 refine RT 2 E I ?_;exact⟨_,rfl,⟨λh=>(by cases h),λh=>by rcases x9 h with h | h;exact absurd h ao;exact absurd h ay⟩,I.sub⟩
theorem EE {x:Int}(I:U W w L):Calls prog 191 #[.int .i64 x] w λe w'=>∃ r:Bool,e=.returned (.bool r)∧(r=true↔eD x)∧U W w' L:=by
 refine EN func191 ntmps191 rfl rfl λa E=>?_;refine BY 6 E I (λbD a E=>?_) λbD a E=>?_
 ·
  refine RT 4 E I ?_;exact⟨_,rfl,by unfold eD;first | (rw[cp];omega) | exact⟨λh=>(by cases h),λh=>absurd h (by omega)⟩,I⟩
 refine RT 4 E I ?_;exact⟨_,rfl,by unfold eD;first | (rw[cp];omega) | exact⟨λh=>(by cases h),λh=>absurd h (by omega)⟩,I⟩
theorem XN (I:U W w L):Calls prog 156 #[.agg (dK p ad c).toArray] w λe w'=>∃ r:Bool,e=.returned (.bool r)∧(r=true↔hJ p)∧U W w' L:=by
 refine EN func156 ntmps156 rfl rfl λa E=>?_;refine BX 1 E I λb1 a w E I=>?_;refine RN 2 E I λa E=>?_;refine b7 (M:=λa w=>∃ (z:Bool) (b1:Nat),(z=true↔¬ (iB p∧1≤p.kind∧p.kind≤2))∧Fr a 94 [(1,pt b1),(47,.bool z)]∧U W w (aa b1 203 (dK p ad c)::L)) ?_ ?_
 ·
  refine BY 4 E I (λbW a E=>?_) λbW a E=>?_
  ·
   refine RN 41 E I λa E=>?_;exact⟨_,_,by unfold iB;first | (rw[cp];omega) | exact⟨λh=>(by cases h),λh=>absurd h (by omega)⟩ | exact⟨λ_=>by omega,λ_=>rfl⟩,E.ab [1,47],I.sub⟩
  refine BY 5 E I (λfa a E=>?_) λfa a E=>?_
  ·
   refine RN 36 E I λa E=>?_;exact⟨_,_,by unfold iB;first | (rw[cp];omega) | exact⟨λh=>(by cases h),λh=>absurd h (by omega)⟩ | exact⟨λ_=>by omega,λ_=>rfl⟩,E.ab [1,47],I.sub⟩
  refine BY 5 E I (λm1 a E=>?_) λm1 a E=>?_
  ·
   refine RN 31 E I λa E=>?_;exact⟨_,_,by unfold iB;first | (rw[cp];omega) | exact⟨λh=>(by cases h),λh=>absurd h (by omega)⟩ | exact⟨λ_=>by omega,λ_=>rfl⟩,E.ab [1,47],I.sub⟩
  refine BY 5 E I (λtT a E=>?_) λtT a E=>?_
  ·
   refine RN 26 E I λa E=>?_;exact⟨_,_,by unfold iB;first | (rw[cp];omega) | exact⟨λh=>(by cases h),λh=>absurd h (by omega)⟩ | exact⟨λ_=>by omega,λ_=>rfl⟩,E.ab [1,47],I.sub⟩
  refine BY 5 E I (λmm a E=>?_) λmm a E=>?_
  ·
   refine RN 21 E I λa E=>?_;exact⟨_,_,by unfold iB;first | (rw[cp];omega) | exact⟨λh=>(by cases h),λh=>absurd h (by omega)⟩ | exact⟨λ_=>by omega,λ_=>rfl⟩,E.ab [1,47],I.sub⟩
  refine BY 5 E I (λXO a E=>?_) λXO a E=>?_
  ·
   refine RN 16 E I λa E=>?_;exact⟨_,_,by unfold iB;first | (rw[cp];omega) | exact⟨λh=>(by cases h),λh=>absurd h (by omega)⟩ | exact⟨λ_=>by omega,λ_=>rfl⟩,E.ab [1,47],I.sub⟩
  refine BY 7 E I (λXP a E=>?_) λXP a E=>?_
  ·
   refine RN 9 E I λa E=>?_;exact⟨_,_,by unfold iB;first | (rw[cp];omega) | exact⟨λh=>(by cases h),λh=>absurd h (by omega)⟩ | exact⟨λ_=>by omega,λ_=>rfl⟩,E.ab [1,47],I.sub⟩
  refine BY 5 E I (λXQ a E=>?_) λXQ a E=>?_
  ·
   refine RN 4 E I λa E=>?_;exact⟨_,_,by unfold iB;first | (rw[cp];omega) | exact⟨λh=>(by cases h),λh=>absurd h (by omega)⟩ | exact⟨λ_=>by omega,λ_=>rfl⟩,E.ab [1,47],I.sub⟩
  refine RN 4 E I λa E=>?_;exact⟨_,_,by unfold iB;first | (rw[cp];omega) | exact⟨λh=>(by cases h),λh=>absurd h (by omega)⟩ | exact⟨λ_=>by omega,λ_=>rfl⟩,E.ab [1,47],I.sub⟩
 clear E;(try clear I);rintro a w ⟨z,b1,hz,E,I⟩;refine IF 0 E I (λaj a E=>?_) λaj a E=>?_
 ·
  have hn:=hz.1 aj;refine RT 2 E I ?_;exact⟨_,rfl,⟨λh=>(by cases h),λh=>absurd ⟨As h,by have:=x9 h;omega⟩ hn⟩,I.sub⟩
 have hh:iB p∧1≤p.kind∧p.kind≤2:=Classical.byContradiction λh=>by have:=hz.2 h;rw[aj]at this;cases this
 refine IF 5 E I (λao a E=>?_) λao a E=>?_
 ·
  have b9:p.kind=2:=ao;have kc:=EC hh.1 b9;simp only[pz,forall_mem_cons,not_mem_nil,false_implies,implies_true,and_true]at kc;refine BY 5 E I (λbW a E=>?_) λbW a E=>?_
  ·
   refine BY 6 E I (λuk a E=>?_) λuk a E=>?_
   ·
    refine BY 5 E I (λkN a E=>?_) λkN a E=>?_
    ·
     refine BY 5 E I (λpA a E=>?_) λpA a E=>?_
     ·
      refine RT 5 E I ?_
      first | exact⟨_,rfl,by rw[kc];first | (rw[cp];omega) | exact⟨λh=>(by cases h),λh=>absurd h (by omega)⟩ | exact⟨λ_=>by omega,λ_=>rfl⟩,I.sub⟩ | exact⟨_,rfl,by rw[gL];first | (rw[cp];omega) | exact⟨λh=>(by cases h),λh=>absurd h (by omega)⟩ | exact⟨λ_=>by omega,λ_=>rfl⟩,I.sub⟩
     refine RT 5 E I ?_
     first | exact⟨_,rfl,by rw[kc];first | (rw[cp];omega) | exact⟨λh=>(by cases h),λh=>absurd h (by omega)⟩ | exact⟨λ_=>by omega,λ_=>rfl⟩,I.sub⟩ | exact⟨_,rfl,by rw[gL];first | (rw[cp];omega) | exact⟨λh=>(by cases h),λh=>absurd h (by omega)⟩ | exact⟨λ_=>by omega,λ_=>rfl⟩,I.sub⟩
    refine RT 10 E I ?_
    first | exact⟨_,rfl,by rw[kc];first | (rw[cp];omega) | exact⟨λh=>(by cases h),λh=>absurd h (by omega)⟩ | exact⟨λ_=>by omega,λ_=>rfl⟩,I.sub⟩ | exact⟨_,rfl,by rw[gL];first | (rw[cp];omega) | exact⟨λh=>(by cases h),λh=>absurd h (by omega)⟩ | exact⟨λ_=>by omega,λ_=>rfl⟩,I.sub⟩
   refine RT 15 E I ?_
   first | exact⟨_,rfl,by rw[kc];first | (rw[cp];omega) | exact⟨λh=>(by cases h),λh=>absurd h (by omega)⟩ | exact⟨λ_=>by omega,λ_=>rfl⟩,I.sub⟩ | exact⟨_,rfl,by rw[gL];first | (rw[cp];omega) | exact⟨λh=>(by cases h),λh=>absurd h (by omega)⟩ | exact⟨λ_=>by omega,λ_=>rfl⟩,I.sub⟩
  refine RT 21 E I ?_
  first | exact⟨_,rfl,by rw[kc];first | (rw[cp];omega) | exact⟨λh=>(by cases h),λh=>absurd h (by omega)⟩ | exact⟨λ_=>by omega,λ_=>rfl⟩,I.sub⟩ | exact⟨_,rfl,by rw[gL];first | (rw[cp];omega) | exact⟨λh=>(by cases h),λh=>absurd h (by omega)⟩ | exact⟨λ_=>by omega,λ_=>rfl⟩,I.sub⟩
 have gX:p.kind=1:=by omega
 have gL:=EB hh.1 gX;rw[XK]at gL;refine bh 3 E I (EE I) λf1 a w E ⟨iX,I⟩=>?_;refine BY 1 E I (λbW a E=>?_) λbW a E=>?_
 ·
  have k1:=iX.1 bW;unfold eD at k1;refine bh 2 E I (EE I) λf2 a w E ⟨jw,I⟩=>?_;refine BY 2 E I (λfa a E=>?_) λfa a E=>?_
  ·
   have k2:=jw.1 fa;unfold eD at k2;refine bh 2 E I (EE I) λf3 a w E ⟨Kh,I⟩=>?_;refine BY 2 E I (λm1 a E=>?_) λm1 a E=>?_
   ·
    have k3:=Kh.1 m1;unfold eD at k3;refine RT 6 E I ?_
    first | exact⟨_,rfl,by rw[kc];first | (rw[cp];omega) | exact⟨λh=>(by cases h),λh=>absurd h (by omega)⟩ | exact⟨λ_=>by omega,λ_=>rfl⟩,I.sub⟩ | exact⟨_,rfl,by rw[gL];first | (rw[cp];omega) | exact⟨λh=>(by cases h),λh=>absurd h (by omega)⟩ | exact⟨λ_=>by omega,λ_=>rfl⟩,I.sub⟩
   have k3:¬ eD p.frame:=λh=>by rw[Kh.2 h]at m1;cases m1
   unfold eD at k3;refine RT 6 E I ?_
   first | exact⟨_,rfl,by rw[kc];first | (rw[cp];omega) | exact⟨λh=>(by cases h),λh=>absurd h (by omega)⟩ | exact⟨λ_=>by omega,λ_=>rfl⟩,I.sub⟩ | exact⟨_,rfl,by rw[gL];first | (rw[cp];omega) | exact⟨λh=>(by cases h),λh=>absurd h (by omega)⟩ | exact⟨λ_=>by omega,λ_=>rfl⟩,I.sub⟩
  have k2:¬ eD p.c7:=λh=>by rw[jw.2 h]at fa;cases fa
  unfold eD at k2;refine RT 11 E I ?_
  first | exact⟨_,rfl,by rw[kc];first | (rw[cp];omega) | exact⟨λh=>(by cases h),λh=>absurd h (by omega)⟩ | exact⟨λ_=>by omega,λ_=>rfl⟩,I.sub⟩ | exact⟨_,rfl,by rw[gL];first | (rw[cp];omega) | exact⟨λh=>(by cases h),λh=>absurd h (by omega)⟩ | exact⟨λ_=>by omega,λ_=>rfl⟩,I.sub⟩
 have k1:¬ eD p.first:=λh=>by rw[iX.2 h]at bW;cases bW
 unfold eD at k1;refine RT 16 E I ?_
 first | exact⟨_,rfl,by rw[kc];first | (rw[cp];omega) | exact⟨λh=>(by cases h),λh=>absurd h (by omega)⟩ | exact⟨λ_=>by omega,λ_=>rfl⟩,I.sub⟩ | exact⟨_,rfl,by rw[gL];first | (rw[cp];omega) | exact⟨λh=>(by cases h),λh=>absurd h (by omega)⟩ | exact⟨λ_=>by omega,λ_=>rfl⟩,I.sub⟩
end
end
section
def rp (p:Pk):List Int:=[p.first,p.c7,p.frame]
def hK (p:Pk)(i:Nat):List UInt8:=lq p++(aP (zz p.id)++((rp p).take i).flatMap λn=>aP (zz n))
theorem XR {p:Pk}{i:Nat}(h:i<3):hK p (i+1)=hK p i++aP (zz ((rp p).getD i 0)):=by
 have hl:i<(rp p).length:=h;rw[hK,hK,iZ hl,List.flatMap_append,du,du,bl,aD hl];simp
theorem Ki {p:Pk}(h:p.kind=1):hK p 3++(fc p.sum++(aP (zz (p.al.length:Int))++dw p.al 0))=ig p:=by
 simp[hK,ig,kU,mY,h,lQ,rp]
theorem Kj {p:Pk}(h:p.kind≠1):hK p 0=ig p:=by simp[hK,ig,kU,mY,h]
theorem EF {p:Pk}(h:hJ p){i:Nat}(hi:i≤3):(hK p i).length≤43:=by
 obtain⟨h1,h2,h3,h4,h5⟩:=h;have hq:∀ n:Int,0≤n→n≤1099511627776→(aP (zz n)).length≤10:=λn a b=>ri (by omega) (by omega);have hf:(0≤p.first∧p.first≤1000)∧(0≤p.c7∧p.c7≤1000)∧(0≤p.frame∧p.frame≤1000):=by unfold eD at h5;omega
 have a0:=hq p.id (by omega) (by omega);have df:=hq p.first (by omega) (by omega);have dc:=hq p.c7 (by omega) (by omega);have a3:=hq p.frame (by omega) (by omega);rcases (by omega:i=0∨i=1∨i=2∨i=3) with rfl | rfl | rfl | rfl <;> simp[hK,lq,rp] <;> omega
theorem XS {p:Pk}{i:Nat}(h:i<3):([Value.int .i64 p.first,.int .i64 p.c7,.int .i64 p.frame]:List Value)[i]?=some (.int .i64 ((rp p).getD i 0)):=by
 rcases (by omega:i=0∨i=1∨i=2) with rfl | rfl | rfl <;> rfl
theorem XT {p:Pk}(h:hJ p)(i:Nat):0≤(rp p).getD i 0∧(rp p).getD i 0≤1000:=by
 have h5:=h.2.2.2.2;have hf:(0≤p.first∧p.first≤1000)∧(0≤p.c7∧p.c7≤1000)∧(0≤p.frame∧p.frame≤1000):=by unfold eD at h5;omega
 match i with
 | 0=>exact hf.1
 | 1=>exact hf.2.1
 | 2=>exact hf.2.2
 | _+3=>exact⟨Int.le_refl _,by show (0:Int)≤1000;omega⟩
theorem EG {p:Pk}(h:hJ p):[[Value.int .u8 p.kind],[Value.int .u8 p.aW],[Value.int .u8 p.to]].flatten=bc (lq p):=by
 have hk:=x9 h;obtain⟨h1,h2,h3,h4,h5⟩:=h;simp[bc,lq,UInt8.toNat_ofNat'];omega
theorem Kk {p:Pk}(h:hJ p):(ig p).length≤503:=by
 have:=J6 h;simp[ig,lq];omega
section
variable {W w:World}{L:List SP}{n c:Nat}{ad:Option Addr}{bs:List UInt8}{p:Pk}
theorem Kl (I:U W w L)(lR:p.sum<4294967296)(hp:∀ w',U W w' L→aT w' ad p.al.length p.al) :
   Calls prog 330 #[.agg (dK p ad c).toArray] w λe w'=>∃ av c',e=.returned (.slice av (aR p).length c')∧U W w' (Sl 5 1 av (aR p).length c' (bc (aR p))::L):=by
 refine EN func330 ntmps330 rfl rfl λa E=>?_;refine BX 1 E I λb1 a w E I=>?_;refine bh 4 E I (XL (p:=p) (ad:=ad) (c:=c) I) λr1 a w E ⟨e8,I⟩=>?_;refine IF 1 E I (λaj a E=>?_) λaj a E=>?_
 ·
  have hn:¬ hJ p:=λh=>by rw[e8.2 h]at aj;cases aj
  refine RT 2 E I ?_;have he:aR p=[]:=by rw[aR,ag hn]
  rw[he];exact⟨none,0,rfl,I.tail.bN _ _ _⟩
 have hm:hJ p:=e8.1 aj;have hk:=x9 hm;have hh:=As hm;unfold iB at hh;have he:aR p=ig p++fc (ji (ig p)):=by rw[aR,ak hm,pq]
 have nY:=Kk hm;refine SX 3 E I (by rw[wrap_u8];omega) λa E=>?_;refine SX 2 E I (by rw[wrap_u8];omega) λa E=>?_;refine SX 2 E I (by rw[wrap_u8];omega) λa E=>?_;refine RN 0 E I λa E=>?_;refine cn E rfl I underlying22 Ty.t5 rfl rfl rfl rfl (by decide) (by decide) λsN a w E I ho=>?_;clear ho;replace I:=I.D4 (l:=lq p) rfl rfl (EG hm);refine aY 2 E I (sE (bs:=lq p) (N:=p.id) I (by omega) (by omega) (by simp[lq])) λfl dD a w E I=>?_;refine RN 1 E I λa E=>?_;rw[show lq p++aP (zz p.id)=hK p 0 from by simp[hK]]at E I;refine b7 (M:=λa w=>∃ (fl:Option Addr) (dD:Nat),Fr a 58 [(3,.slice fl (ig p).length dD)]∧U W w (Sl 5 1 fl (ig p).length dD (bc (ig p))::L)) ?_ ?_
 ·
  refine IF 4 E I (λao a E=>?_) λao a E=>?_
  ·
   have gX:p.kind=1:=ao;have ez:p.al.length≤32:=by have:=hm.2.2.2.2;omega
   refine RN 8 E I λa E=>?_;refine SS E (Cx E underlying429 Ty.t429 Ty.t3 rfl rfl) λa E=>?_;refine RN 1 E I λa E=>?_;refine aO (λμ a w=>∃ (i dD:Nat) (fl:Option Addr),(μ=3-i∧i≤3)∧Fr a 58 [(1,pt b1),(3,.slice fl (hK p i).length dD),(31,.agg #[.int .i64 p.first,.int .i64 p.c7,.int .i64 p.frame]),(32,.int .i64 i)]∧U W w (Sl 5 1 fl (hK p i).length dD (bc (hK p i))::aa b1 203 (dK p ad c)::L)) (3) (⟨0,dD,fl,⟨rfl,by omega⟩,E.ab [1,3,31,32],I⟩) ?_;clear E I;rintro μ a w ⟨i,dD,fl,⟨rfl,hi⟩,E,I⟩;refine IF 3 E I (λay a E=>?_) λay a E=>?_
   ·
    refine RN 2 E I λa E=>?_;refine SS E (r7 E underlying429 underlying3 rfl Ty.t3 (by omega) (XS (p:=p) (by omega))) λa E=>?_;refine RN 1 E I λa E=>?_;have cC:=XT hm i;have o2:=EF hm (show i≤3 by omega);refine aY 2 E I (sE I (by omega) (by omega) (by omega)) λma hs a w E I=>?_;refine RN 1 E I λa E=>?_;rw[← XR (by omega)]at E I;refine RN 2 E I λa E=>?_;exact⟨3-(i+1),by omega,i+1,_,_,⟨rfl,by omega⟩,E.ab [1,3,31,32],I.sub⟩
   obtain rfl:i=3:=by omega
   have o2:=EF hm (bd 3);have gD:=ri (n:=(p.al.length:Int)) (by omega) (by omega);have jg:=Ki gX;generalize hK p 3=XU at E I o2 jg;refine aX 1 (λw0 w=>Rd w b1 0 (dK p ad c)) [3,4,6,7] [0,1,5,3002,3006,3007,1003,1004,1008,9] E I λa w E I hH=>?_;have hC:Rd w b1 0 (dK p ad c):=I.ai;refine RH 3 E I hH hC λa E=>?_;refine QH E (λw hc=>ae E (hc 8 _ rfl)) hC λa E=>?_;refine QH E (λw hc=>ae E (hc 5 _ rfl)) hC λa E=>?_;refine RH 1 E I hH hC λa E=>?_;refine bh 0 E I (JZ I) λeb a w E I=>?_;replace hC:=hH.at w I.ai;refine RH 0 E I hH hC λa E=>?_;refine gY E rfl I underlying22 Ty.t5 rfl rfl (by decide) (λh0=>(I.cr eb (fc p.sum) rfl rfl).get h0) (by rw[dk];rfl) (en _) (by rw[mv];omega) λwe Ew a w E I=>?_;replace hC:=hH.at w I.ai;rw[← fF,← aL]at I;rw[← aL]at E;refine RH 0 E I hH hC λa E=>?_;refine aY 0 E I (sE I (by omega) (by omega) (by rw[aL,mv];omega)) λsA nZ a w E I=>?_;refine RN 1 E I λa E=>?_;have gk:=x6 p.al 0;generalize hu:XU++fc p.sum++aP (zz (p.al.length:Int))=wi at E I;have afb:wi.length≤60:=by rw[← hu];simp[mv];omega
   refine aY 3 E I (XD (bs:=p.al) I (by omega) (λw' hw=>hp w' hw.sub)) λsf qV a w E I=>?_;refine RN 0 E I λa E=>?_;refine gY E rfl I underlying22 Ty.t5 rfl rfl (by decide) (λh0=>(I.cr sf _ rfl rfl).get h0) (by rw[dk,Nat.mul_one]) (en _) (by omega) λrq rr a w E I=>?_;refine RN 1 E I λa E=>?_;rw[← fF,show wi.length+(dw p.al 0).length=(wi++dw p.al 0).length from by rw[aL]]at I;rw[show wi.length+(dw p.al 0).length=(wi++dw p.al 0).length from by rw[aL]]at E;rw[show wi++dw p.al 0=ig p from by rw[← hu,← jg];simp]at E I;exact⟨_,_,E.ab [3],I.sub⟩
  rw[Kj (by omega)]at E I;refine RN 0 E I λa E=>?_;exact⟨_,_,E.ab [3],I.sub⟩
 clear E;(try clear I);rintro a w ⟨fl,dD,E,I⟩;refine CL 3 E I (JX I (by omega) (λw' hw=>hw.cr fl _ rfl rfl)) λa w E I=>?_;refine bh 0 E I (JZ I) λAu a w E I=>?_;refine RN 0 E I λa E=>?_;refine gY E rfl I underlying22 Ty.t5 rfl rfl (by decide) (λh0=>(I.cr Au (fc (ji (ig p))) rfl rfl).get h0) (by rw[dk];rfl) (en _) (by rw[mv];omega) λEH EI a w E I=>?_;refine RT 1 E I ?_;rw[he];rw[← fF,← aL]at I;rw[← aL];exact⟨_,_,rfl,I.sub⟩
theorem EJ (I:U W w L)(lR:p.sum<4294967296)(hp:∀ w',U W w' L→aT w' ad p.al.length p.al) :
   Calls prog 114 #[.agg (dK p ad c).toArray] w λe w'=>∃ av c',e=.returned (.slice av (aR p).length c')∧U W w' (Sl 5 1 av (aR p).length c' (bc (aR p))::L):=by
 refine EN func114 ntmps114 rfl rfl λa E=>?_;refine BX 1 E I λb1 a w E I=>?_;refine bh 4 E I (XN (p:=p) (ad:=ad) (c:=c) I) λr1 a w E ⟨e8,I⟩=>?_;refine IF 1 E I (λaj a E=>?_) λaj a E=>?_
 ·
  have hn:¬ hJ p:=λh=>by rw[e8.2 h]at aj;cases aj
  refine RT 2 E I ?_;have he:aR p=[]:=by rw[aR,ag hn]
  rw[he];exact⟨none,0,rfl,I.tail.bN _ _ _⟩
 have hm:hJ p:=e8.1 aj;have hk:=x9 hm;have hh:=As hm;unfold iB at hh;have he:aR p=ig p++fc (ji (ig p)):=by rw[aR,ak hm,pq]
 have nY:=Kk hm;have bZ:=ri (n:=p.id) (by omega) (by omega);refine RN 0 E I λa E=>?_;refine b7 (M:=λa w=>∃ (a3:Option Addr) (dD:Nat),Fr a 57 [(1,pt b1),(3,.slice a3 (hK p 0).length dD)]∧U W w (Sl 5 1 a3 (hK p 0).length dD (bc (hK p 0))::aa b1 203 (dK p ad c)::L)) ?_ ?_
 ·
  refine aX 0 (λw0 w=>Rd w b1 0 (dK p ad c)) [4,5,7,8,9,11,12] [0,3,6,10,3001,2,3004,3005,3007,3008,3011,2009,1012,1013,14] E I λa w E I hH=>?_;have hC:Rd w b1 0 (dK p ad c):=I.ai;refine RH 4 E I hH hC λa E=>?_;refine QH E (λw hc=>ae E (hc 0 _ rfl)) hC λa E=>?_;refine QP E (λw=>oW E underlying3 underlying5 (by rw[wrap_u8];omega)) λa E=>?_;refine QH E (λw hc=>ae E (hc 1 _ rfl)) hC λa E=>?_;refine QH E (λw hc=>oW E underlying3 underlying5 (by rw[wrap_u8];omega)) hC λa E=>?_;refine QH E (λw hc=>ae E (hc 2 _ rfl)) hC λa E=>?_;refine QH E (λw hc=>oW E underlying3 underlying5 (by rw[wrap_u8];omega)) hC λa E=>?_;refine QH E (λw hc=>ae E (hc 3 _ rfl)) hC λa E=>?_;refine RH 0 E I hH hC λa E=>?_;refine DN [(9,[1012,1013,14]),(12,[1009,1013,14])] (by kernel_rfl) rfl ⟨⟨_,rfl,?_⟩,⟨_,rfl,?_⟩,trivial⟩
  ·
   refine RH 0 E I hH hC λa E=>?_;refine cn E rfl I underlying22 Ty.t5 rfl rfl rfl rfl (by decide) (by decide) λqn a w E I ho=>?_;clear ho;replace hC:=hH.at w I.ai;replace I:=I.D4 (l:=lq p) rfl rfl (EG hm);refine RH 0 E I hH hC λa E=>?_;refine aY 0 E I (sS (N:=p.id) I (by omega) (by omega)) λcY dP a w E I=>?_;replace hC:=hH.at w I.ai;refine RH 0 E I hH hC λa E=>?_;refine gY E rfl I underlying22 Ty.t5 rfl rfl (by decide) (λh0=>(I.cr cY (aP (zz p.id)) rfl rfl).get h0) (by rw[dk,Nat.mul_one]) (en _) (by omega) λxM Dw a w E I=>?_;refine RN 1 E I λa E=>?_;rw[show 3+(aP (zz p.id)).length=(lq p++aP (zz p.id)).length from by rw[aL];rfl]at E I;rw[← fF]at I;rw[show lq p++aP (zz p.id)=hK p 0 from by simp[hK]]at E I
   skip
   exact⟨_,_,E.ab [1,3],I.sub⟩
  refine RH 0 E I hH hC λa E=>?_;refine aY 0 E I (sS (N:=p.id) I (by omega) (by omega)) λcY dP a w E I=>?_;replace hC:=hH.at w I.ai;refine RH 0 E I hH hC λa E=>?_;refine cn E rfl I underlying22 Ty.t5 rfl rfl rfl rfl (by decide) (by decide) λqn a w E I ho=>?_;clear ho;replace hC:=hH.at w I.ai;replace I:=I.D4 (l:=lq p) rfl rfl (EG hm);refine RH 0 E I hH hC λa E=>?_;refine gY E rfl I underlying22 Ty.t5 rfl rfl (by decide) (λh0=>(I.cr cY (aP (zz p.id)) rfl rfl).get h0) (by rw[dk,Nat.mul_one]) (en _) (by omega) λxM Dw a w E I=>?_;refine RN 1 E I λa E=>?_;rw[show 3+(aP (zz p.id)).length=(lq p++aP (zz p.id)).length from by rw[aL];rfl]at E I;rw[← fF]at I;rw[show lq p++aP (zz p.id)=hK p 0 from by simp[hK]]at E I
  skip
  exact⟨_,_,E.ab [1,3],I.sub⟩
 clear E;(try clear I);rintro a w ⟨a3,dD,E,I⟩;refine b7 (M:=λa w=>∃ (fl:Option Addr) (dD:Nat),Fr a 57 [(3,.slice fl (ig p).length dD)]∧U W w (Sl 5 1 fl (ig p).length dD (bc (ig p))::L)) ?_ ?_
 ·
  refine IF 4 E I (λao a E=>?_) λao a E=>?_
  ·
   have gX:p.kind=1:=ao;have ez:p.al.length≤32:=by have:=hm.2.2.2.2;omega
   have ou:(0≤p.first∧p.first≤1000)∧(0≤p.c7∧p.c7≤1000)∧(0≤p.frame∧p.frame≤1000):=by have:=hm.2.2.2.2;unfold eD at this;omega
   have q1:=ri (n:=p.first) (by omega) (by omega);have q2:=ri (n:=p.c7) (by omega) (by omega);have Ap:=ri (n:=p.frame) (by omega) (by omega);have Ek:=ri (n:=(p.al.length:Int)) (by omega) (by omega);have o2:=EF hm (show 0≤3 by decide);have jg:hK p 0++aP (zz p.first)++aP (zz p.c7)++aP (zz p.frame)++fc p.sum++aP (zz (p.al.length:Int))++dw p.al 0=ig p:=by rw[← Ki gX];simp[hK,rp]
   generalize hu0:hK p 0=ya at E I o2 jg;refine aX 1 (λw0 w=>Rd w b1 0 (dK p ad c)) [3,4,6] [0,1,5,3002,3006,1003,1004,1007,1008,9] E I λa w E I hH=>?_;have hC:Rd w b1 0 (dK p ad c):=I.ai;refine RH 3 E I hH hC λa E=>?_;refine QH E (λw hc=>ae E (hc 4 _ rfl)) hC λa E=>?_;refine QH E (λw hc=>ae E (hc 6 _ rfl)) hC λa E=>?_;refine RH 0 E I hH hC λa E=>?_;refine aY 0 E I (sS I (by omega) (by omega)) λdf eM a w E I=>?_;replace hC:=hH.at w I.ai;refine RH 0 E I hH hC λa E=>?_;refine gY E rfl I underlying22 Ty.t5 rfl rfl (by decide) (λh0=>(I.cr df (aP (zz p.first)) rfl rfl).get h0) (by rw[dk,Nat.mul_one]) (en _) (by omega) λafc c28 a w E I=>?_;replace hC:=hH.at w I.ai;rw[← fF,← aL]at I;rw[← aL]at E;refine RH 0 E I hH hC λa E=>?_;refine aY 0 E I (sS I (by omega) (by omega)) λdc c2 a w E I=>?_;have kL:(ya++aP (zz p.first)).length≤53:=by rw[aL];omega
   refine RN 0 E I λa E=>?_;refine gY E rfl I underlying22 Ty.t5 rfl rfl (by decide) (λh0=>(I.cr dc (aP (zz p.c7)) rfl rfl).get h0) (by rw[dk,Nat.mul_one]) (en _) (by omega) λXV XW a w E I=>?_;rw[← fF,← aL]at I;rw[← aL]at E;refine RN 1 E I λa E=>?_;replace I:=I.sub (M:=Sl 5 1 XV (ya++aP (zz p.first)++aP (zz p.c7)).length XW (bc (ya++aP (zz p.first)++aP (zz p.c7)))::aa b1 203 (dK p ad c)::L);have lg:(ya++aP (zz p.first)++aP (zz p.c7)).length≤63:=by rw[aL];omega
   generalize ya++aP (zz p.first)++aP (zz p.c7)=yb at E I lg jg;refine aX 1 (λw0 w=>Rd w b1 0 (dK p ad c)) [3,4,6] [0,1,5,3002,3006,1003,1004,1007,1008,9] E I λa w E I hH=>?_;have hC:Rd w b1 0 (dK p ad c):=I.ai;refine RH 3 E I hH hC λa E=>?_;refine QH E (λw hc=>ae E (hc 7 _ rfl)) hC λa E=>?_;refine QH E (λw hc=>ae E (hc 8 _ rfl)) hC λa E=>?_;refine RH 0 E I hH hC λa E=>?_;refine aY 0 E I (sS I (by omega) (by omega)) λdf eM a w E I=>?_;replace hC:=hH.at w I.ai;refine RH 0 E I hH hC λa E=>?_;refine gY E rfl I underlying22 Ty.t5 rfl rfl (by decide) (λh0=>(I.cr df (aP (zz p.frame)) rfl rfl).get h0) (by rw[dk,Nat.mul_one]) (en _) (by omega) λXX XY a w E I=>?_;replace hC:=hH.at w I.ai;rw[← fF,← aL]at I;rw[← aL]at E;refine RH 0 E I hH hC λa E=>?_;refine bh 0 E I (Ea I) λdc a w E I=>?_;have kL:(yb++aP (zz p.frame)).length≤73:=by rw[aL];omega
   refine RN 0 E I λa E=>?_;refine gY E rfl I underlying22 Ty.t5 rfl rfl (by decide) (λh0=>(I.cr dc (fc p.sum) rfl rfl).get h0) (by rw[dk];rfl) (en _) (by rw[mv];omega) λx8 Es a w E I=>?_;rw[← fF,← aL]at I;rw[← aL]at E;refine RN 1 E I λa E=>?_;replace I:=I.sub (M:=Sl 5 1 x8 (yb++aP (zz p.frame)++fc p.sum).length Es (bc (yb++aP (zz p.frame)++fc p.sum))::aa b1 203 (dK p ad c)::L);have lg:(yb++aP (zz p.frame)++fc p.sum).length≤77:=by rw[aL,mv];omega
   generalize yb++aP (zz p.frame)++fc p.sum=XZ at E I lg jg;refine aX 0 (λw0 w=>Rd w b1 0 (dK p ad c)) [4,5,7] [0,1,6,3002,3,3007,1004,1005,1008,1009,10] E I λa w E I hH=>?_;have hC:Rd w b1 0 (dK p ad c):=I.ai;have gk:=x6 p.al 0;refine RH 3 E I hH hC λa E=>?_;refine QH E (λw hc=>ae E (hc 5 _ rfl)) hC λa E=>?_;refine RH 1 E I hH hC λa E=>?_;refine QH E (λw hc=>ae E (hc 5 _ rfl)) hC λa E=>?_;refine RH 0 E I hH hC λa E=>?_;refine aY 0 E I (sS I (by omega) (by omega)) λdf eM a w E I=>?_;replace hC:=hH.at w I.ai;refine RH 0 E I hH hC λa E=>?_;refine gY E rfl I underlying22 Ty.t5 rfl rfl (by decide) (λh0=>(I.cr df (aP (zz (p.al.length:Int))) rfl rfl).get h0) (by rw[dk,Nat.mul_one]) (en _) (by omega) λpB ru a w E I=>?_;replace hC:=hH.at w I.ai;rw[← fF,← aL]at I;rw[← aL]at E;refine RH 0 E I hH hC λa E=>?_;refine aY 0 E I (XE (bs:=p.al) I (by omega) (λw' hw=>hp w' hw.sub)) λdc c2 a w E I=>?_;have kL:(XZ++aP (zz (p.al.length:Int))).length≤87:=by rw[aL];omega
   refine RN 0 E I λa E=>?_;refine gY E rfl I underlying22 Ty.t5 rfl rfl (by decide) (λh0=>(I.cr dc (dw p.al 0) rfl rfl).get h0) (by rw[dk,Nat.mul_one]) (en _) (by omega) λKm Kn a w E I=>?_;rw[← fF,← aL]at I;rw[← aL]at E;refine RN 1 E I λa E=>?_;rw[jg]at E I;exact⟨_,_,E.ab [3],I.sub⟩
  rw[Kj (by omega)]at E I;refine RN 0 E I λa E=>?_;exact⟨_,_,E.ab [3],I.sub⟩
 clear E;(try clear I);rintro a w ⟨fl,dD,E,I⟩;refine CL 3 E I (JY I (by omega) (λw' hw=>hw.cr fl _ rfl rfl)) λa w E I=>?_;refine bh 0 E I (Ea I) λAu a w E I=>?_;refine RN 0 E I λa E=>?_;refine gY E rfl I underlying22 Ty.t5 rfl rfl (by decide) (λh0=>(I.cr Au (fc (ji (ig p))) rfl rfl).get h0) (by rw[dk];rfl) (en _) (by rw[mv];omega) λafd c56 a w E I=>?_;refine RT 1 E I ?_;rw[he];rw[← fF,← aL]at I;rw[← aL];exact⟨_,_,rfl,I.sub⟩
end
end
end Go.Proofs.YteoldcfapaiobaaGreat
