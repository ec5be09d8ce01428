/- Plain side of numbers read, of runs and of packets: what is written is read. -/
import Derived.Test.YteoldcfapaiobaaGreatC06Ref
namespace Go.Proofs.YteoldcfapaiobaaGreat
open Tryz
open List (drop_zero take_succ_cons getElem?_drop getElem?_append_right drop_drop drop_left nil_append drop_eq_nil_of_le cons_append append_nil getElem_mem mem_singleton forall_mem_cons not_mem_nil replicate_succ')
open Go.RowKit
set_option linter.unusedVariables false
set_option linter.unusedSimpArgs false
set_option maxRecDepth 10000
set_option synthInstance.maxSize 4000
set_option synthInstance.maxHeartbeats 400000
section
def mV:List UInt8→Nat→Nat→Option (Nat×Nat)
 | [],_,_=>none
 | c::cs,i,u =>
  if i=9∧1<c.toNat then none
  else if 127<c.toNat then mV cs (i+1) (u+c.toNat%128*128 ^ i)
  else if 0<i∧c.toNat=0 then none
  else some (u+c.toNat*128 ^ i,i+1)
def sC (bs:List UInt8):Option (Nat×Nat):=mV bs 0 0
def mW (u:Nat):Int:=if u%2=1 then -((u/2:Nat):Int)-1 else ((u/2:Nat):Int)
theorem DK (n:Int):mW (zz n)=n:=by
 unfold mW zz;split <;> split <;> omega
theorem DL {n:Int}(h1:-9223372036854775808≤n)(h2:n≤9223372036854775807):zz n<18446744073709551616:=by
 unfold zz;split <;> omega
theorem xI (i:Nat):128 ^ (i+1)=128 ^ i*128:=Nat.pow_succ ..
theorem WW (r:List UInt8):∀ (v i u:Nat),v*128 ^ i<18446744073709551616→(i=0∨0<v)→i≤9→mV (aO v++r) i u=some (u+v*128 ^ i,i+(aO v).length):=by
 intro v
 induction v using Nat.strongRecOn with
 | _ v ih =>
  intro i u hv h0 hi;by_cases I:v≤127
  ·rw[p7 I];have hb:(UInt8.ofNat v).toNat=v:=by rw[UInt8.toNat_ofNat'];omega
   simp only[cons_append,nil_append,mV,hb,iP];have h9:¬ (i=9∧1<v):=by
    rintro⟨qX,h⟩;rw[qX]at hv;have:v*128 ^ 9 ≥ 2*128 ^ 9:=Nat.mul_le_mul_right _ h;have h9':(128:Nat) ^ 9=9223372036854775808:=by decide
    omega
   rw[ae h9,ae (by omega),ae (by omega)]
  ·rw[vA I];have hb:(UInt8.ofNat (v%128+128)).toNat=v%128+128:=by rw[UInt8.toNat_ofNat'];omega
   simp only[cons_append,mV,hb,e7];have hle:128 ^ (i+1)≤v*128 ^ i:=by rw[xI,Nat.mul_comm];exact Nat.mul_le_mul_right _ (by omega)
   have qX:i+1≤9:=by
    rcases Nat.lt_or_ge i 9 with h | h
    ·omega
    ·have:128 ^ 10≤128 ^ (i+1):=Nat.pow_le_pow_right (by decide) (by omega);have fF:(128:Nat) ^ 10=1180591620717411303424:=by decide
     omega
   have hdv:v/128*128 ^ (i+1)+v%128*128 ^ i=v*128 ^ i:=by
    rw[xI,show v/128*(128 ^ i*128)=128*(v/128)*128 ^ i from by rw[Nat.mul_comm (128 ^ i),← Nat.mul_assoc,Nat.mul_comm (v/128)],← Nat.add_mul,Nat.div_add_mod]
   rw[ae (by omega),ak (by omega),ih (v/128) (by omega) (i+1) _ (by omega) (.inr (by omega)) qX];rw[show (v%128+128)%128=v%128 from by omega]
   congr 2
   ·omega
   ·omega
theorem zW {n:Int}(h1:-9223372036854775808≤n)(h2:n≤9223372036854775807)(r:List UInt8):sC (aO (zz n)++r)=some (zz n,(aO (zz n)).length):=by
 have:=WW r (zz n) 0 0 (by have:=DL h1 h2;omega) (.inl rfl) (by decide);simpa [sC] using this
theorem Jx:∀ (bs:List UInt8) (i u:Nat) {v k:Nat},i≤9→u<128 ^ i→mV bs i u=some (v,k)→v<18446744073709551616∧i+1≤k∧k≤i+bs.length∧k≤10
 | [],_,_,_,_,_,_,h=>by cases h
 | c::cs,i,u,v,k,hi,hu,h=>by
  rw[mV]at h;have hc:=lF c;have hp:128 ^ i≤128 ^ 9:=Nat.pow_le_pow_right (by decide) hi;have h9:(128:Nat) ^ 9=9223372036854775808:=by decide
  split at h
  ·cases h
  rename_i n9;split at h
  ·rename_i hb;have hm:c.toNat%128*128 ^ i≤127*128 ^ i:=Nat.mul_le_mul_right _ (by omega);have:=Jx cs (i+1) _ (by omega) (by rw[xI];omega) h;simp only[e7];omega
  ·rename_i hb;split at h
   ·cases h
   ·obtain⟨rfl,rfl⟩:u+c.toNat*128 ^ i=v∧i+1=k:=by simpa using h
    simp only[e7];refine⟨?_,by omega,by omega,by omega⟩;rcases Nat.lt_or_ge i 9 with h8 | h8
    ·have hp8:128 ^ i≤128 ^ 8:=Nat.pow_le_pow_right (by decide) (by omega);have h88:(128:Nat) ^ 8=72057594037927936:=by decide
     have hm:c.toNat*128 ^ i≤127*128 ^ i:=Nat.mul_le_mul_right _ (by omega);omega
    ·have:i=9:=by omega
     subst this;have hm:c.toNat*128 ^ 9≤1*128 ^ 9:=Nat.mul_le_mul_right _ (by omega);omega
theorem DM {bs:List UInt8}{v k:Nat}(h:sC bs=some (v,k)):v<18446744073709551616∧1≤k∧k≤bs.length∧k≤10:=by
 have:=Jx bs 0 0 (by decide) (by decide) h;omega
def lH (bs:List UInt8)(x:Int)(k:Nat)(er:Int):Prop :=
 (-9223372036854775808≤x∧x≤9223372036854775807)∧(er=0∨er=1∨er=2)∧(er=0→1≤k∧k≤bs.length)∧(er≠0→k=0∧x=0) ∧
 ∀ (n:Int) (r:List UInt8), -9223372036854775808≤n→n≤9223372036854775807→bs=aO (zz n)++r→x=n∧k=(aO (zz n)).length∧er=0
theorem lH.bad {bs:List UInt8}{er:Int}(h:sC bs=none)(he:er=1∨er=2):lH bs 0 0 er:=by
 refine⟨by omega,by omega,by omega,λ_=>⟨rfl,rfl⟩,λn r h1 h2 e=>?_⟩;rw[e,zW h1 h2]at h;cases h
theorem lH.Jy {bs:List UInt8}{u k:Nat}(h:sC bs=some (u,k)):lH bs (mW u) k 0:=by
 have hb:=DM h;refine⟨?_,by omega,by omega,by omega,λn r h1 h2 e=>?_⟩
 ·unfold mW;split <;> omega
 ·rw[e,zW h1 h2]at h;obtain⟨rfl,rfl⟩:zz n=u∧(aO (zz n)).length=k:=by simpa using h
  exact⟨DK n,rfl,rfl⟩
def runN (x:UInt8):List UInt8→Nat
 | []=>0
 | y::ys=>if y=x then runN x ys+1 else 0
theorem xJ (x:UInt8):∀ l:List UInt8,runN x l≤l.length
 | []=>bf _
 | y::ys=>by
  have:=xJ x ys;rw[runN];split <;> simp only[e7] <;> omega
def dy (l:List UInt8)(last:UInt8):List UInt8:=match l with
 | []=>[]
 | x::xs=>aO (zz ((runN x xs+1:Nat):Int))++(x ^^^ last)::dy (xs.drop (runN x xs)) x
termination_by l.length
decreasing_by simp only[c6,e7];omega
theorem vJ (last:UInt8):dy [] last=[]:=by rw[dy]
theorem sD (x:UInt8)(xs:List UInt8)(last:UInt8):dy (x::xs) last=aO (zz ((runN x xs+1:Nat):Int))++(x ^^^ last)::dy (xs.drop (runN x xs)) x:=by rw[dy]
theorem zX (x:UInt8):∀ l:List UInt8,l.take (runN x l)=List.replicate (runN x l) x
 | []=>rfl
 | y::ys=>by
  rw[runN];split
  ·rename_i h;subst h;rw[take_succ_cons,zX y ys,List.replicate_succ]
  ·rfl
theorem Jz (x:UInt8):∀ (l:List UInt8) (y:UInt8) (r:List UInt8),l.drop (runN x l)=y::r→y≠x
 | [],_,_,h=>by simp[runN]at h
 | z::zs,y,r,h=>by
  rw[runN]at h;split at h
  ·exact Jz x zs y r h
  ·rename_i hn;rw[drop_zero]at h;cases h;exact hn
theorem WX {x:UInt8}{l:List UInt8}{n:Nat}(h1:∀ i,i<n→l[i]?=some x)(h2:l[n]?≠some x):runN x l=n:=by
 induction l generalizing n with
 | nil =>
  cases n with
  | zero=>rfl
  | succ n=>have:=h1 0 (by omega);simp at this
 | cons y ys ih =>
  cases n with
  | zero =>
   rw[runN,ae];intro e;subst e;simp at h2
  | succ n =>
   have h0:=h1 0 (by omega);simp at h0;rw[runN,ak h0,ih (n:=n) (λi hi=>by have:=h1 (i+1) (by omega);simpa using this) (by simpa using h2)]
theorem xK (l:List UInt8):∀ last,(dy l last).length≤11*l.length:=by
 induction hn:l.length using Nat.strongRecOn generalizing l with
 | _ n ih =>
  intro last;cases l with
  | nil=>rw[vJ];simp
  | cons x xs =>
   rw[sD,aL,e7];have h1:=xJ x xs;subst hn;simp only[e7];by_cases hb:xs.length<4611686018427387904
   ·have h2 := p8 9 (zz ((runN x xs + 1 : Nat) : Int)) (by
     have:zz ((runN x xs+1:Nat):Int)=2*(runN x xs+1):=by unfold zz;rw[ae (by omega)];omega
     rw[this];have fF:(128:Nat) ^ (9+1)=1180591620717411303424:=by decide
     omega)
    have h3:=ih (xs.drop (runN x xs)).length (by simp only[c6,e7];omega) (xs.drop (runN x xs)) rfl x;simp only[c6]at h3;omega
   ·have h2 : (aO (zz ((runN x xs + 1 : Nat) : Int))).length ≤ runN x xs + 10 := by
     have:∀ u,(aO (2*(u+1))).length≤u+10:=by
      intro u
      induction u using Nat.strongRecOn with
      | _ u ih =>
       by_cases h:2*(u+1)≤127
       ·rw[p7 h];simp
       ·rw[vA h,e7];by_cases h2:2*(u+1)/128≤127
        ·rw[p7 h2];simp
        ·have hq : ∀ v, (aO v).length ≤ v + 1 := by
          intro v
          induction v using Nat.strongRecOn with
          | _ v WY =>
           by_cases h3:v≤127
           ·rw[p7 h3];simp
           ·rw[vA h3,e7];have:=WY (v/128) (by omega);omega
         have:=hq (2*(u+1)/128);omega
     have hz:zz ((runN x xs+1:Nat):Int)=2*(runN x xs+1):=by unfold zz;rw[ae (by omega)];omega
     rw[hz];exact this _
    have h3:=ih (xs.drop (runN x xs)).length (by simp only[c6,e7];omega) (xs.drop (runN x xs)) rfl x;simp only[c6]at h3;omega
theorem zY (a b:UInt8):b ^^^ (a ^^^ b)=a:=by rw[UInt8.xor_comm,UInt8.xor_assoc,UInt8.xor_self,UInt8.xor_zero]
theorem WZ {a b:UInt8}(h:(a ^^^ b).toNat=0):a=b:=by
 have h0:a ^^^ b=0:=UInt8.toNat_inj.1 (by simpa using h);have:=zY a b;rw[h0,UInt8.xor_zero]at this;exact this.symm
def mj (p out:List UInt8)(last:UInt8)(rest:List UInt8):Prop:=∃ q,p=out++q∧rest=dy q last∧(out=[]∨∀ y r,q=y::r→y≠last)
theorem mj.start (p:List UInt8):mj p [] 0 (dy p 0):=⟨p,rfl,rfl,.inl rfl⟩
theorem mj.done {p out:List UInt8}{last:UInt8}(h:mj p out last []):p=out:=by
 obtain⟨q,h1,h2,_⟩:=h;cases q with
 | nil=>simpa using h1
 | cons x xs =>
  rw[sD]at h2;have:=congrArg List.length h2;simp at this
theorem mj.next {p out:List UInt8}{last:UInt8}{rest:List UInt8}(h:mj p out last rest)(h0:rest≠[]):∃ (m:Nat) (x:UInt8) (r:List UInt8),rest=aO (zz ((m+1:Nat):Int))++(x ^^^ last)::r ∧
   out.length+(m+1)≤p.length∧(out≠[]→(x ^^^ last).toNat≠0)∧mj p (out++List.replicate (m+1) x) x r:=by
 obtain⟨q,h1,h2,h3⟩:=h;cases q with
 | nil=>rw[vJ]at h2;exact absurd h2 h0
 | cons x xs =>
  rw[sD]at h2;have hle:=xJ x xs;refine⟨runN x xs,x,_,h2,by rw[h1];simp;omega,λho hz=>?_,xs.drop (runN x xs),?_,rfl,.inr λy r hy=>Jz x xs y r hy⟩
  ·rcases h3 with h3 | h3
   ·exact ho h3
   ·exact h3 x xs rfl (WZ hz)
  ·rw[h1,dv]
   congr 1
   rw[List.replicate_succ,← zX,cons_append,jE]
structure Pk where
 kind:Int
 aV:Int
 to:Int
 id:Int
 first:Int
 c9:Int
 frame:Int
 sum:Nat
 al:List UInt8
def mX:Pk:=⟨0,0,0,0,0,0,0,0,[]⟩
def eG (n:Int):Prop:=0≤n∧n≤1000
instance (n:Int):Decidable (eG n):=inferInstanceAs (Decidable (_∧_))
def hs (p:Pk):Prop:=(0≤p.aV∧p.aV≤7)∧(0≤p.to∧p.to≤7)∧p.aV≠p.to∧(0≤p.id∧p.id≤1099511627776) ∧
 ((p.kind=1∧eG p.first∧eG p.c9∧eG p.frame∧p.al.length≤32)∨(p.kind=2∧p.first=0∧p.c9=0∧p.frame=0∧p.al.length=0∧p.sum=0))
instance (p:Pk):Decidable (hs p):=inferInstanceAs (Decidable (_∧_))
def lI (p:Pk):List UInt8:=fc p.sum++(aO (zz (p.al.length:Int))++dy p.al 0)
def mY (p:Pk):List UInt8:=if p.kind=1 then aO (zz p.first)++(aO (zz p.c9)++(aO (zz p.frame)++lI p)) else []
def kM (p:Pk):List UInt8:=aO (zz p.id)++mY p
def la (p:Pk):List UInt8:=[UInt8.ofNat p.kind.toNat,UInt8.ofNat p.aV.toNat,UInt8.ofNat p.to.toNat]
def ia (p:Pk):List UInt8:=la p++kM p
def pd (p:Pk):List UInt8:=ia p++fc (jf (ia p))
def aS (p:Pk):List UInt8:=if hs p then pd p else []
theorem ml (x:Nat):(fc x).length=4:=rfl
theorem xL (p:Pk):(pd p).length=(kM p).length+7:=by
 simp[pd,ia,la,ml]
theorem DO {p:Pk}{bs:List UInt8}(h:pd p=bs):(bs.drop 3).take (bs.length-7)=kM p:=by
 subst h;rw[xL,Nat.add_sub_cancel,pd];generalize jf (ia p)=c;rw[ia,dv,List.drop_left' (by rfl),List.take_left' rfl]
theorem DP {p:Pk}{bs:List UInt8}(h:pd p=bs):bs[0]?=some (UInt8.ofNat p.kind.toNat)∧bs[1]?=some (UInt8.ofNat p.aV.toNat)∧bs[2]?=some (UInt8.ofNat p.to.toNat):=by
 subst h;exact⟨rfl,rfl,rfl⟩
def DQ (a b c d:Nat):Nat:=((a*256+b)*256+c)*256+d
theorem DR {x:Nat}(h:x<4294967296):DQ (UInt8.ofNat (x/16777216)).toNat (UInt8.ofNat (x/65536)).toNat (UInt8.ofNat (x/256)).toNat (UInt8.ofNat x).toNat=x:=by
 simp only[UInt8.toNat_ofNat',DQ];omega
theorem W0 {x y:Nat}(hx:x<4294967296)(hy:y<4294967296)(h:fc x=fc y):x=y:=by
 simp only[fc,List.cons.injEq,and_true]at h;obtain⟨h1,h2,h3,h4⟩:=h;have:=DR hx;rw[h1,h2,h3,h4,DR hy]at this;exact this.symm
theorem vK {n m:Int}{r s:List UInt8}(h1:-9223372036854775808≤n)(h2:n≤9223372036854775807)(h3:-9223372036854775808≤m)(h4:m≤9223372036854775807)(h:aO (zz n)++r=aO (zz m)++s):n=m∧r=s:=by
 have e:=zW h1 h2 r;rw[h,zW h3 h4]at e;obtain⟨e1,e2⟩:zz m=zz n∧_:=by simpa using e
 have:n=m:=by rw[← DK n,← DK m,e1]
 subst this;exact⟨rfl,List.append_cancel_left h⟩
theorem JA:∀ (n:Nat) {p q:List UInt8} {l:UInt8},p.length≤n→p.length≤1000000→q.length≤1000000→dy p l=dy q l→p=q
 | n,[],[],_,_,_,_,_=>rfl
 | n,[],y::ys,l,_,_,_,h=>by
  rw[vJ,sD]at h;have:=congrArg List.length h;simp at this
 | n,x::xs,[],l,_,_,_,h=>by
  rw[vJ,sD]at h;have:=congrArg List.length h;simp at this
 | 0,x::xs,y::ys,l,hn,_,_,_=>by simp at hn
 | n+1,x::xs,y::ys,l,hn,hp,hq,h=>by
  have h1:=xJ x xs;have h2:=xJ y ys;simp only[e7]at hn hp hq;rw[sD,sD]at h;obtain⟨e1,e2⟩:=vK (by omega) (by omega) (by omega) (by omega) h;rw[List.cons.injEq]at e2;obtain⟨e2,e3⟩:=e2;have W1:x=y:=by
   have:=zY x l;rw[e2,zY]at this;exact this.symm
  subst W1;have iT:runN x xs=runN x ys:=by omega
  have sr:=JA n (by simp;omega) (by simp;omega) (by simp;omega) e3
  congr 1
  rw[← jE (runN x xs) xs,zX,sr,iT,← zX,jE]
theorem DS {a b:Int}(E:0≤a∧a<256)(hb:0≤b∧b<256)(h:UInt8.ofNat a.toNat=UInt8.ofNat b.toNat):a=b:=by
 have:=congrArg UInt8.toNat h;simp only[UInt8.toNat_ofNat']at this;omega
theorem W3 {p q:Pk}(hp:hs p)(hq:hs q)(DT:p.sum<4294967296)(W4:q.sum<4294967296)(h:pd p=pd q):p=q:=by
 have hm:kM p=kM q:=by rw[← DO (p:=p) rfl,← DO (p:=q) rfl,h]
 have h0:=DP (p:=p) rfl;have h1:=DP (p:=q) rfl;rw[h]at h0;obtain⟨cZ,dT,a3⟩:=h0;obtain⟨b1,b2,b3⟩:=h1;rw[b1]at cZ;rw[b2]at dT;rw[b3]at a3;obtain⟨f1,t1,vL,i1,k1⟩:=hp;obtain⟨f2,t2,sk,i2,k2⟩:=hq;have W5:=DS (by omega) (by omega) (Option.some.inj cZ);have W6:=DS (by omega) (by omega) (Option.some.inj dT);have rZ:=DS (by omega) (by omega) (Option.some.inj a3);rw[kM,kM]at hm;obtain⟨W7,hm⟩:=vK (by omega) (by omega) (by omega) (by omega) hm;obtain⟨pk,aet,pt,pi,JB,p2,aeu,aev,aew⟩:=p;obtain⟨aex,aey,aez,aeA,q1,q2,DU,DV,JC⟩:=q;simp only at *;subst W5 W6 rZ W7;rcases k1 with ⟨dK,c2,dC,g8,dD⟩ | ⟨dK,c2,dC,g8,dD,nX⟩
 ·rcases k2 with ⟨d1,d2,d3,d4,d5⟩ | ⟨d1,_⟩
  ·unfold eG at c2 dC g8 d2 d3 d4;rw[mY,mY,ak dK,ak d1]at hm;simp only at hm;obtain⟨e1,hm⟩:=vK (by omega) (by omega) (by omega) (by omega) hm;obtain⟨e2,hm⟩:=vK (by omega) (by omega) (by omega) (by omega) hm;obtain⟨e3,hm⟩:=vK (by omega) (by omega) (by omega) (by omega) hm;rw[lI,lI]at hm;simp only at hm;obtain⟨iT,hm⟩:=List.append_inj hm rfl;obtain⟨sr,hm⟩:=vK (by omega) (by omega) (by omega) (by omega) hm;have W8:=JA _ (bf _) (by omega) (by omega) hm;have W9:=W0 DT W4 iT;subst e1 e2 e3 W8 W9;rfl
  ·omega
 ·rcases k2 with ⟨d1,_⟩ | ⟨d1,d2,d3,d4,d5,d6⟩
  ·omega
  ·have:=g5 dD;have:=g5 d5;subst c2 dC g8 nX d2 d3 d4 d6;simp_all
def gW (bs:List UInt8)(p:Pk):Prop:=hs p∧p.sum<4294967296∧pd p=bs
open Classical in
noncomputable def ew (bs:List UInt8):Option Pk:=if h:∃ p,gW bs p then some (Classical.choose h) else none
theorem zZ {bs:List UInt8}{p:Pk}(h:gW bs p):ew bs=some p:=by
 have hx:∃ p,gW bs p:=⟨p,h⟩;rw[ew,dif_pos hx];have h2:=Classical.choose_spec hx;rw[W3 h2.1 h.1 h2.2.1 h.2.1 (h2.2.2.trans h.2.2.symm)]
theorem DX {bs:List UInt8}(h:∀ p,¬ gW bs p):ew bs=none:=by
 rw[ew,dif_neg];exact λ⟨p,hp⟩=>h p hp
theorem DY {bs:List UInt8}{p:Pk}(h:ew bs=some p):gW bs p:=by
 rw[ew]at h;split at h
 ·rename_i hx;cases h;exact Classical.choose_spec hx
 ·cases h
theorem JD {p:Pk}(h:hs p)(I:p.sum<4294967296):ew (aS p)=some p:=by
 rw[aS,ak h];exact zZ ⟨h,I,rfl⟩
theorem DZ {bs:List UInt8}{p:Pk}(h0:bs≠[])(I:p.sum<4294967296):gW bs p↔aS p=bs:=by
 unfold gW aS;split
 ·rename_i h;simp[h,I]
 ·rename_i h;simp[h,h0,Ne.symm h0]
theorem JE {p:Pk}(h:hs p):(kM p).length≤500:=by
 obtain⟨_,_,_,i1,k1⟩:=h;have pl:∀ n:Int,0≤n→n≤1099511627776→(aO (zz n)).length≤10:=λn h0 h1=>p8 9 _ (by
  have:zz n<18446744073709551616:=DL (by omega) (by omega);have fF:(128:Nat) ^ (9+1)=1180591620717411303424:=by decide
  omega)
 rw[kM,aL];have:=pl p.id i1.1 i1.2;rcases k1 with ⟨dK,c2,dC,g8,dD⟩ | ⟨dK,_⟩
 ·unfold eG at c2 dC g8;rw[mY,ak dK,lI];simp only[aL,ml];have h1:=pl p.first (by omega) (by omega);have h2:=pl p.c9 (by omega) (by omega);have h3:=pl p.frame (by omega) (by omega);have h4:=pl p.al.length (by omega) (by omega);have h5:=xK p.al 0;omega
 ·rw[mY,ae (by omega)];simp;omega
end
section
theorem Xa {x:Nat}(h:x<256):IntKind.u8.wrap ((BitVec.ofInt IntKind.u8.bits (x:Int) &&& BitVec.ofInt IntKind.u8.bits 127).toNat)=((x%128:Nat):Int):=by
 have:∀ y:Fin 256,IntKind.u8.wrap ((BitVec.ofInt IntKind.u8.bits ((y.val:Nat):Int) &&& BitVec.ofInt IntKind.u8.bits 127).toNat)=((y.val%128:Nat):Int):=by decide +kernel
 exact this ⟨x,h⟩
theorem JF (i:Nat):(2:Nat) ^ (7*i)=128 ^ i:=by rw[Nat.pow_mul]
theorem Xb {u d i:Nat}(hu:u<128 ^ i):u ||| d*128 ^ i=u+d*128 ^ i:=by
 rw[← JF]at hu ⊢;rw[Nat.mul_comm,Nat.add_comm,Nat.two_pow_add_eq_or_of_lt hu,Nat.or_comm]
theorem D0 {i:Nat}(hi:i≤9):128 ^ i≤9223372036854775808∧(i≤8→128 ^ i≤72057594037927936):=by
 have h9:(128:Nat) ^ 9=9223372036854775808:=by decide
 have h8:(128:Nat) ^ 8=72057594037927936:=by decide
 refine⟨h9 ▸ Nat.pow_le_pow_right (by decide) hi,λh=>h8 ▸ Nat.pow_le_pow_right (by decide) h⟩
theorem JG {i d:Nat}(hi:i≤9)(h:i=9→d≤1)(hd:d≤127):d*128 ^ i≤9223372036854775808∧(i≤8→d*128 ^ i+128 ^ i≤128 ^ (i+1)):=by
 obtain⟨h1,h2⟩:=D0 hi;have hm:d*128 ^ i≤127*128 ^ i:=Nat.mul_le_mul_right _ hd;refine⟨?_,λh8=>by rw[xI];omega⟩;rcases Nat.lt_or_ge i 9 with h9 | h9
 ·have:=h2 (by omega);omega
 ·have:i=9:=by omega
  have se:=h this;have:d*128 ^ i≤1*128 ^ i:=Nat.mul_le_mul_right _ se;omega
theorem JH {bs:List UInt8}{i:Nat}(h:i<bs.length)(u:Nat):mV (bs.drop i) i u=if i=9∧1<bs[i].toNat then none
   else if 127<bs[i].toNat then mV (bs.drop (i+1)) (i+1) (u+bs[i].toNat%128*128 ^ i)
   else if 0<i∧bs[i].toNat=0 then none
   else some (u+bs[i].toNat*128 ^ i,i+1):=by
 rw[ka h,mV]
theorem Xc {x:Nat}(h:x<18446744073709551616):IntKind.u64.wrap (((BitVec.ofInt IntKind.u64.bits (x:Int) &&& BitVec.ofInt IntKind.u64.bits 1).toNat:Nat):Int)=((x%2:Nat):Int):=by
 have h1:=WI (y:=1) h (by decide);rw[Nat.and_one_is_mod]at h1;exact h1
theorem Xd {x:Int}(h1:-9223372036854775808≤x)(h2:x≤9223372036854775807):IntKind.i64.wrap (((BitVec.ofInt IntKind.i64.bits (if IntKind.i64.signed then -1 else IntKind.i64.max) ^^^ BitVec.ofInt IntKind.i64.bits x).toNat:Nat):Int) = -x-1:=by
 have e:BitVec.ofInt IntKind.i64.bits (if IntKind.i64.signed then -1 else IntKind.i64.max)=BitVec.allOnes 64:=by
  show BitVec.ofInt 64 (-1)=_;decide
 rw[e];show IntKind.i64.wrap (((BitVec.allOnes 64 ^^^ BitVec.ofInt 64 x).toNat:Nat):Int)=_;rw[BitVec.allOnes_xor,BitVec.toNat_not,BitVec.toNat_ofInt];simp only[IntKind.wrap,IntKind.signed,IntKind.bits];simp;omega
section
variable {W w:World}{L:List SP}{c:Nat}{ad:Option Addr}{bs:List UInt8}
theorem JI (I:U W w L)(hb:bs.length≤1099511627776)(hp:∀ V,U W V L→a6 V ad bs.length bs) :
   Calls prog 339 #[.slice ad bs.length c] w λe V=>∃ (x:Int) (k:Nat) (er:Int),e=.returned (.tuple #[.int .i64 x,.int .i64 k,.int .i64 er])∧lH bs x k er∧U W V L:=by
 refine EN func339 ntmps339 rfl rfl λa E=>?_;refine RN 11 E I λa E=>?_;refine aR (λμ a w=>∃ (i u:Nat),(μ=bs.length-i∧i≤bs.length∧i≤9∧u<128 ^ i∧mV (bs.drop i) i u=sC bs)∧Fr a 50 [(5,.int .u64 u),(9,.slice ad bs.length c),(10,.int .i64 bs.length),(11,.int .i64 i)]∧U W w L) (bs.length) (⟨0,0,⟨rfl,by omega,by omega,by decide,rfl⟩,E.ab [5,9,10,11],I⟩) ?_;clear E I;rintro μ a w ⟨i,u,⟨rfl,hi,qX,hu,hg⟩,E,I⟩;refine IF 3 E I (λaj a E=>?_) λaj a E=>?_
 ·
  obtain⟨bb,oo,rfl,hr⟩:=(hp _ I).get (by omega);have aJ:i<bs.length:=by omega
  have qe:=lF bs[i];rw[JH aJ]at hg;obtain⟨gv,hR⟩:=D0 qX;refine RN 4 E I λa E=>?_;refine SS E (ag E (hr i _ (dO aJ))) λa E=>?_;refine RN 3 E I λa E=>?_;refine b7 (M:=λa w=>∃ z:Bool,(z=true↔(i=9∧1<bs[i].toNat))∧Fr a 50 [(5,.int .u64 u),(6,.int .i64 i),(7,.int .u8 (bs[i].toNat:Int)),(9,.slice (some ⟨bb,oo,none⟩) bs.length c),(10,.int .i64 bs.length),(11,.int .i64 i),(21,.bool z)]∧U W w L) ?_ ?_
  ·
   refine BY 3 E I (λbA a E=>?_) λbA a E=>?_
   ·
    refine RN 3 E I λa E=>?_;exact⟨_,by rw[cp];omega,E.ab [5,6,7,9,10,11,21],I⟩
   refine RN 3 E I λa E=>?_;exact⟨_,by simp;omega,E.ab [5,6,7,9,10,11,21],I⟩
  clear E;(try clear I);rintro a w ⟨z,hz,E,I⟩;refine IF 0 E I (λao a E=>?_) λao a E=>?_
  ·
   rw[ak (hz.1 ao)]at hg;refine RT 4 E I ?_;exact⟨_,_,_,rfl,lH.bad hg.symm (by omega),I⟩
  have km:¬ (i=9∧1<bs[i].toNat):=λh=>absurd (hz.2 h) (by simp[ao]);rw[ae km]at hg;obtain⟨se,kf⟩:=JG (d:=bs[i].toNat%128) qX (by omega) (by omega);refine RN 4 E I λa E=>?_;rw[Xa qe]at E;refine SX 0 E I (by rw[wrap_u64];omega) λa E=>?_;refine RN 2 E I λa E=>?_;rw[show (7:Int)*(i:Int)=((7*i:Nat):Int) from by omega]at E;refine SS E (Hv E (jn:=7*i) (by show 7*i≤64;omega)) λa E=>?_;rw[show ((bs[i].toNat%128:Nat):Int)*2 ^ (7*i)=((bs[i].toNat%128*128 ^ i:Nat):Int) from by rw[Int.natCast_mul,← JF];simp,show IntKind.u64.wrap ((bs[i].toNat%128*128 ^ i:Nat):Int)=((bs[i].toNat%128*128 ^ i:Nat):Int) from by rw[wrap_u64];omega]at E;refine RN 1 E I λa E=>?_;rw[WH (by omega) (by omega),Xb hu]at E;refine IF 5 E I (λay a E=>?_) λay a E=>?_
  ·
   rw[ak (by omega)]at hg;refine RN 2 E I λa E=>?_;exact⟨bs.length-(i+1),by omega,i+1,_,⟨rfl,by omega,by omega,by have:=kf (by omega);omega,hg⟩,E.ab [5,9,10,11],I⟩
  rw[ae (by omega)]at hg;rw[Nat.mod_eq_of_lt (show bs[i].toNat<128 from by omega)]at E se kf;refine RN 1 E I λa E=>?_;refine b7 (M:=λa w=>∃ z:Bool,(z=true↔(0<i∧bs[i].toNat=0))∧Fr a 50 [(5,.int .u64 ((u+bs[i].toNat*128 ^ i:Nat):Int)),(6,.int .i64 i),(37,.bool z)]∧U W w L) ?_ ?_
  ·
   refine BY 3 E I (λbA a E=>?_) λbA a E=>?_
   ·
    refine RN 3 E I λa E=>?_;exact⟨_,by rw[cp];omega,E.ab [5,6,37],I⟩
   refine RN 3 E I λa E=>?_;exact⟨_,by simp;omega,E.ab [5,6,37],I⟩
  clear E;(try clear I);rintro a w ⟨z,hz,E,I⟩;refine IF 0 E I (λbh a E=>?_) λbh a E=>?_
  ·
   rw[ak (hz.1 bh)]at hg;refine RT 4 E I ?_;exact⟨_,_,_,rfl,lH.bad hg.symm (by omega),I⟩
  rw[ae (λh=>absurd (hz.2 h) (by simp[bh]))]at hg;generalize u+bs[i].toNat*128 ^ i=v at E hg;have hv:=(DM hg.symm).1;refine RN 3 E I λa E=>?_;rw[show ((v:Nat):Int).fdiv (2 ^ 1)=((v/2:Nat):Int) from kI _ 2]at E;refine SS E (gg E underlying319 underlying2) λa E=>?_;rw[show IntKind.i64.wrap ((v/2:Nat):Int)=((v/2:Nat):Int) from gr (by omega) (by omega)]at E;refine RN 1 E I λa E=>?_;refine b7 (M:=λa w=>Fr a 50 [(6,.int .i64 i),(8,.int .i64 (mW v))]∧U W w L) ?_ ?_
  ·
   refine RN 3 E I λa E=>?_;rw[Xc hv]at E;refine IF 1 E I (λbR a E=>?_) λbR a E=>?_
   ·
    refine RN 2 E I λa E=>?_;rw[Xd (by omega) (by omega)]at E;refine RN 1 E I λa E=>?_;rw[show -((v/2:Nat):Int)-1=mW v from by rw[mW,ak (by omega)]]at E;exact⟨E.ab [6,8],I⟩
   refine RN 0 E I λa E=>?_;rw[show ((v/2:Nat):Int)=mW v from by rw[mW,ae (by omega)]]at E;exact⟨E.ab [6,8],I⟩
  clear E;(try clear I);rintro a w ⟨E,I⟩;refine RT 7 E I ?_;exact⟨_,_,_,rfl,lH.Jy hg.symm,I⟩
 rw[drop_eq_nil_of_le (by omega),mV]at hg;refine RT 4 E I ?_;exact⟨_,_,_,rfl,lH.bad hg.symm (by omega),I⟩
theorem D1 (I:U W w L)(hb:bs.length≤1099511627776)(hp:∀ V,U W V L→a6 V ad bs.length bs) :
   Calls prog 215 #[.slice ad bs.length c] w λe V=>∃ (x:Int) (k:Nat) (er:Int),e=.returned (.tuple #[.int .i64 x,.int .i64 k,.int .i64 er])∧lH bs x k er∧U W V L:=by
 refine EN func215 ntmps215 rfl rfl λa E=>?_;refine RN 11 E I λa E=>?_;refine aR (λμ a w=>∃ (i u:Nat),(μ=bs.length-i∧i≤bs.length∧i≤9∧u<128 ^ i∧mV (bs.drop i) i u=sC bs)∧Fr a 64 [(0,.slice ad bs.length c),(5,.int .u64 u),(6,.int .u64 ((128 ^ i:Nat):Int)),(7,.int .i64 i)]∧U W w L) (bs.length) (⟨0,0,⟨rfl,by omega,by omega,by decide,rfl⟩,E.ab [0,5,6,7],I⟩) ?_;clear E I;rintro μ a w ⟨i,u,⟨rfl,hi,qX,hu,hg⟩,E,I⟩;refine IF 6 E I (λaj a E=>?_) λaj a E=>?_
 ·
  obtain⟨bb,oo,rfl,hr⟩:=(hp _ I).get (by omega);have aJ:i<bs.length:=by omega
  have qe:=lF bs[i];rw[JH aJ]at hg;obtain⟨gv,hR⟩:=D0 qX;refine RN 2 E I λa E=>?_;refine b7 (M:=λa w=>∃ z:Bool,(z=true↔(i=9∧1<bs[i].toNat)∨(0<i∧bs[i].toNat=0))∧Fr a 64 [(0,.slice (some ⟨bb,oo,none⟩) bs.length c),(5,.int .u64 u),(6,.int .u64 ((128 ^ i:Nat):Int)),(7,.int .i64 i),(34,.bool z)]∧U W w L) ?_ ?_
  ·
   refine BY 3 E I (λbA a E=>?_) λbA a E=>?_
   ·
    refine RN 3 E I λa E=>?_;refine bE E (cS E rfl (s:=17)) (ag E (hr i _ (dO aJ))) rfl λa E=>?_;refine BY 3 E I (λtZ a E=>?_) λtZ a E=>?_
    ·
     refine RN 10 E I λa E=>?_;refine⟨_,?_,E.ab [0,5,6,7,34],I⟩
     (try simp only[cp]);(try simp only[Bool.false_eq_true,true_iff,false_iff]);omega
    refine BY 3 E I (λhS a E=>?_) λhS a E=>?_
    ·
     refine RN 3 E I λa E=>?_;refine bE E (cS E rfl (s:=27)) (ag E (hr i _ (dO aJ))) rfl λa E=>?_;refine RN 3 E I λa E=>?_;refine⟨_,?_,E.ab [0,5,6,7,34],I⟩
     (try simp only[cp]);(try simp only[Bool.false_eq_true,true_iff,false_iff]);omega
    refine RN 7 E I λa E=>?_;refine⟨_,?_,E.ab [0,5,6,7,34],I⟩
    (try simp only[cp]);(try simp only[Bool.false_eq_true,true_iff,false_iff]);omega
   refine BY 10 E I (λhS a E=>?_) λhS a E=>?_
   ·
    refine RN 3 E I λa E=>?_;refine bE E (cS E rfl (s:=27)) (ag E (hr i _ (dO aJ))) rfl λa E=>?_;refine RN 3 E I λa E=>?_;refine⟨_,?_,E.ab [0,5,6,7,34],I⟩
    (try simp only[cp]);(try simp only[Bool.false_eq_true,true_iff,false_iff]);omega
   refine RN 7 E I λa E=>?_;refine⟨_,?_,E.ab [0,5,6,7,34],I⟩
   (try simp only[cp]);(try simp only[Bool.false_eq_true,true_iff,false_iff]);omega
  clear E;(try clear I);rintro a w ⟨z,hz,E,I⟩;refine IF 0 E I (λao a E=>?_) λao a E=>?_
  ·
   have c0:=hz.1 ao;have zd:sC bs=none:=by
    rw[← hg];by_cases h9:i=9∧1<bs[i].toNat
    ·rw[ak h9]
    ·rw[ae h9,ae (by omega),ak (by omega)]
   refine RT 4 E I ?_;exact⟨_,_,_,rfl,lH.bad zd (by omega),I⟩
  have km:¬ ((i=9∧1<bs[i].toNat)∨(0<i∧bs[i].toNat=0)):=λh=>absurd (hz.2 h) (by simp[ao]);have hr:=(hp _ I).rd (by omega);obtain⟨se,kf⟩:=JG (d:=bs[i].toNat%128) qX (by omega) (by omega);refine RN 5 E I λa E=>?_;refine SS E (ag E (hr i _ (dO aJ))) λa E=>?_;refine SX 0 E I (by decide) λa E=>?_;rw[show ((bs[i].toNat:Nat):Int).tmod 128=((bs[i].toNat%128:Nat):Int) from nP _ 128]at E;refine SX 0 E I (by rw[wrap_u64];omega) λa E=>?_;refine RN 2 E I λa E=>?_;rw[show ((bs[i].toNat%128:Nat):Int)*((128 ^ i:Nat):Int)=((bs[i].toNat%128*128 ^ i:Nat):Int) from (Int.natCast_mul ..).symm,show IntKind.u64.wrap ((bs[i].toNat%128*128 ^ i:Nat):Int)=((bs[i].toNat%128*128 ^ i:Nat):Int) from by rw[wrap_u64];omega]at E;refine RN 1 E I λa E=>?_;rw[show IntKind.u64.wrap ((u:Int)+((bs[i].toNat%128*128 ^ i:Nat):Int))=((u+bs[i].toNat%128*128 ^ i:Nat):Int) from by rw[wrap_u64];omega]at E;refine RN 9 E I λa E=>?_;refine SS E (ag E (hr i _ (dO aJ))) λa E=>?_;refine IF 1 E I (λay a E=>?_) λay a E=>?_
  ·
   rw[ae (by omega),ae (by omega),ae (by omega)]at hg;rw[Nat.mod_eq_of_lt (show bs[i].toNat<128 from by omega)]at E se kf;generalize u+bs[i].toNat*128 ^ i=v at E hg;have hv:=(DM hg.symm).1;refine RN 2 E I λa E=>?_;refine SS E (vc E (by decide) (by rw[show ((v:Nat):Int).tdiv 2=((v/2:Nat):Int) from qy _ 2,wrap_u64];omega)) λa E=>?_;rw[show ((v:Nat):Int).tdiv 2=((v/2:Nat):Int) from qy _ 2]at E;refine RN 0 E I λa E=>?_;refine SS E (gg E underlying319 underlying2) λa E=>?_;rw[show IntKind.i64.wrap ((v/2:Nat):Int)=((v/2:Nat):Int) from gr (by omega) (by omega)]at E;refine RN 1 E I λa E=>?_;refine b7 (M:=λa w=>Fr a 64 [(7,.int .i64 i),(8,.int .i64 (mW v))]∧U W w L) ?_ ?_
   ·
    refine SX 2 E I (by decide) λa E=>?_;rw[show ((v:Nat):Int).tmod 2=((v%2:Nat):Int) from nP _ 2]at E;refine IF 1 E I (λbh a E=>?_) λbh a E=>?_
    ·
     refine RN 2 E I λa E=>?_;rw[show IntKind.i64.wrap (0-((v/2:Nat):Int)) = -((v/2:Nat):Int) from by rw[gr (by omega) (by omega)];omega]at E;refine RN 2 E I λa E=>?_;rw[show -((v/2:Nat):Int)-1=mW v from by rw[mW,ak (by omega)]]at E;exact⟨E.ab [7,8],I⟩
    refine RN 0 E I λa E=>?_;rw[show ((v/2:Nat):Int)=mW v from by rw[mW,ae (by omega)]]at E;exact⟨E.ab [7,8],I⟩
   clear E;(try clear I);rintro a w ⟨E,I⟩;refine RT 7 E I ?_;exact⟨_,_,_,rfl,lH.Jy hg.symm,I⟩
  rw[ae (by omega),ak (by omega)]at hg;have JJ:i≤8:=by omega
  rw[show IntKind.u64.wrap (((128 ^ i:Nat):Int)*128)=((128 ^ (i+1):Nat):Int) from by rw[wrap_u64,xI];have:=hR JJ;omega]at E;refine RN 3 E I λa E=>?_;exact⟨bs.length-(i+1),by omega,i+1,_,⟨rfl,by omega,by omega,by have:=kf (by omega);omega,hg⟩,E.ab [0,5,6,7],I⟩
 rw[drop_eq_nil_of_le (by omega),mV]at hg;refine RT 4 E I ?_;exact⟨_,_,_,rfl,lH.bad hg.symm (by omega),I⟩
theorem sE {N:Int}(I:U W w L)(h1:-9223372036854775808≤N)(h2:N≤9223372036854775807) :
   Calls prog 157 #[.int .i64 N] w λe V=>∃ av c',e=.returned (.slice av (aO (zz N)).length c')∧U W V (Sl 5 1 av (aO (zz N)).length c' (bc (aO (zz N)))::L):=by
 refine EN func157 ntmps157 rfl rfl λa E=>?_;refine RN 4 E I λa E=>?_;refine SS E (gg E underlying2 underlying319) λa E=>?_;refine RN 1 E I λa E=>?_;rw[wrap_u64,wrap_u64]at E;refine RN 1 E I λa E=>?_;obtain⟨U0,C3⟩:∃ U0:Nat,(N%18446744073709551616*2)%18446744073709551616=(U0:Int):=⟨((N%18446744073709551616*2)%18446744073709551616).toNat,by omega⟩;rw[C3]at E;have C4:U0<18446744073709551616:=by omega
 refine b7 (M:=λa w=>Fr a 28 [(3,.int .u64 ((zz N:Nat):Int))]∧U W w L) ?_ ?_
 ·
  refine IF 3 E I (λaj a E=>?_) λaj a E=>?_
  ·
   refine RN 2 E I λa E=>?_;rw[IS C4]at E;refine RN 1 E I λa E=>?_;rw[show 18446744073709551615-U0=zz N from by rw[zz,ak aj];omega]at E;exact⟨E.ab [3],I⟩
  refine RN 0 E I λa E=>?_;rw[show U0=zz N from by rw[zz,ae (by omega)];omega]at E;exact⟨E.ab [3],I⟩
 clear E;(try clear I);rintro a w ⟨E,I⟩;refine RN 3 E I λa E=>?_;refine aR (λμ a w=>∃ (ec c':Nat) (av:Option Addr) (dn:List UInt8),(μ=ec∧dn++aO ec=aO (zz N)∧ec≤zz N)∧Fr a 28 [(3,.int .u64 (ec:Int)),(4,.slice av dn.length c')]∧U W w (Sl 5 1 av dn.length c' (bc dn)::L)) (zz N) (⟨zz N,0,none,[],⟨rfl,rfl,by omega⟩,E.ab [3,4],I.bM 5 1 none⟩) ?_;clear E I;rintro μ a w ⟨ec,c',av,dn,⟨xt,c8,U7⟩,E,I⟩;refine RN 2 E I λa E=>?_;have c0:zz N<18446744073709551616:=by rw[zz];split <;> omega
 have gv:=p8 9 (zz N) (by simp;omega);have ma:dn.length≤10:=by
  have:=congrArg List.length c8;rw[aL]at this;omega
 clear gv;refine IF 2 E I (λao a E=>?_) λao a E=>?_
 ·
  refine SX 3 E I (by decide) λa E=>?_;rw[show ((ec:Nat):Int).tmod 128=((ec%128:Nat):Int) from nP _ 128]at E;refine RN 1 E I λa E=>?_;rw[show IntKind.u64.wrap (((ec%128:Nat):Int)+128)=((ec%128+128:Nat):Int) from by rw[wrap_u64];omega]at E;refine SX 0 E I (by rw[wrap_u8];omega) λa E=>?_;refine RN 0 E I λa E=>?_;refine cn E rfl I underlying22 Ty.t5 rfl rfl rfl rfl (by decide) (by decide) λmP a w E I ho=>?_;clear ho;refine RN 0 E I λa E=>?_;refine cI E rfl I underlying22 Ty.t5 rfl rfl I.ai rfl (by simp[Value.oneCell']) (by decide) (by decide) (by omega) λxu C5 a w E I=>?_;have aQ:bc dn++[[Value.int .u8 ((ec%128+128:Nat):Int)]].flatten=bc (dn++[UInt8.ofNat (ec%128+128)]):=by
   simp[bc,UInt8.toNat_ofNat'];omega
  rw[aQ]at I;refine RN 2 E I λa E=>?_;refine SS E (vc E (by decide) (by rw[show ((ec:Nat):Int).tdiv 128=((ec/128:Nat):Int) from qy _ 128,wrap_u64];omega)) λa E=>?_;rw[show ((ec:Nat):Int).tdiv 128=((ec/128:Nat):Int) from qy _ 128]at E;refine RN 1 E I λa E=>?_;exact⟨ec/128,by omega,ec/128,_,xu,dn++[UInt8.ofNat (ec%128+128)],⟨rfl,by rw[← c8,vA (u:=ec) (by omega),dv];rfl,by omega⟩,by rw[aL];exact E.ab [3,4],by rw[aL];exact I.sub⟩
 refine SX 3 E I (by rw[wrap_u8];omega) λa E=>?_;refine RN 0 E I λa E=>?_;refine cn E rfl I underlying22 Ty.t5 rfl rfl rfl rfl (by decide) (by decide) λIT a w E I ho=>?_;clear ho;refine RN 0 E I λa E=>?_;refine cI E rfl I underlying22 Ty.t5 rfl rfl I.ai rfl (by simp[Value.oneCell']) (by decide) (by decide) (by omega) λC6 C7 a w E I=>?_;have aQ:bc dn++[[Value.int .u8 ((ec:Nat):Int)]].flatten=bc (dn++[UInt8.ofNat ec]):=by
  simp[bc,UInt8.toNat_ofNat'];omega
 rw[aQ,← p7 (by omega),c8]at I;refine RT 1 E I ?_;have hl:dn.length+1=(aO (zz N)).length:=by rw[← c8,p7 (by omega),aL];rfl
 rw[hl]at I ⊢;exact⟨_,_,rfl,I.sub⟩
end
end
section
theorem qY {n:Int}(h1:-9223372036854775808≤n)(h2:n≤9223372036854775807):(aO (zz n)).length≤10:=p8 9 _ (by
 have:=DL h1 h2;have fF:(128:Nat) ^ (9+1)=1180591620717411303424:=by decide
 omega)
theorem ua {l:List UInt8}{x:UInt8}:bc l++[[Value.int .u8 (x.toNat:Int)]].flatten=bc (l++[x]):=by simp[bc]
structure mZ (bs:List UInt8)(i e:Nat):Prop where
 lt:i<e
 le:e≤bs.length
 same:∀ (j:Nat) (h:j<bs.length),i≤j→j<e→bs[j]=bs[i]'(by omega)
theorem mZ.one {bs:List UInt8}{i:Nat}(h:i<bs.length):mZ bs i (i+1):=⟨by omega,by omega,λj hj h1 h2=>by
 have:j=i:=by omega
 subst this;rfl⟩
theorem mZ.more {bs:List UInt8}{i e:Nat}(h:mZ bs i e)(he:e<bs.length)(hb:bs[e]'he=bs[i]'(by have:=h.lt;omega)):mZ bs i (e+1):=⟨by have:=h.lt;omega,by omega,λj hj h1 h2=>by
 by_cases Xe:j=e
 ·subst Xe;exact hb
 ·exact h.same j hj h1 (by omega)⟩
theorem mZ.runs {bs:List UInt8}{i e:Nat}(h:mZ bs i e)(hi:i<bs.length)(hn:∀ he:e<bs.length,bs[e]≠bs[i])(last:UInt8) :
   dy (bs.drop i) last=aO (zz ((e-i:Nat):Int))++(bs[i] ^^^ last)::dy (bs.drop e) bs[i]:=by
 have h1:=h.lt;have h2:=h.le;have hr:runN bs[i] (bs.drop (i+1))=e-i-1:=by
  refine WX (λj hj=>?_) ?_
  ·rw[getElem?_drop,aI (by omega),h.same (i+1+j) (by omega) (by omega) (by omega)]
  ·rw[getElem?_drop,show i+1+(e-i-1)=e from by omega];rcases Nat.lt_or_ge e bs.length with he | he
   ·rw[aI he];exact λhx=>hn he (Option.some.inj hx)
   ·rw[iH he];simp
 rw[ka hi,sD,hr,drop_drop,show i+1+(e-i-1)=e from by omega,show e-i-1+1=e-i from by omega]
theorem kN {bs:List UInt8}{i:Nat}(h:i<bs.length):(bc bs)[i]?=some (.int .u8 ((bs.getD i 0).toNat:Int)):=by rw[dO h,bl,aI h];rfl
theorem mj.get {p dn rest:List UInt8}{last:UInt8}{x:Int}{k:Nat}{er:Int}(h:mj p dn last rest)(hp:p.length≤1000000)(h0:rest≠[])(hg:lH rest x k er) :
   er=0∧1≤x∧k<rest.length∧(dn≠[]→(rest.getD k 0).toNat≠0)∧(dn.length:Int)+x≤p.length∧mj p (dn++List.replicate x.toNat (last ^^^ rest.getD k 0)) (last ^^^ rest.getD k 0) (rest.drop (k+1)):=by
 obtain⟨m,y,r,e1,e2,e3,iT⟩:=h.next h0;obtain⟨rfl,rfl,rfl⟩:=hg.2.2.2.2 ((m+1:Nat):Int) _ (by omega) (by omega) e1;have hk:rest.getD (aO (zz ((m+1:Nat):Int))).length 0=y ^^^ last:=by rw[e1,bl,getElem?_append_right (bf _)];simp
 refine⟨rfl,by omega,by rw[e1];simp,by rw[hk];exact e3,by omega,?_⟩;rw[hk,zY,show ((m+1:Nat):Int).toNat=m+1 from by omega];have hd:rest.drop ((aO (zz ((m+1:Nat):Int))).length+1)=r:=by
  rw[e1,← drop_drop,drop_left];rfl
 rw[hd];exact iT
def sF (bs:List UInt8)(m:Nat)(out:List UInt8)(er:Int):Prop:=(er=0∨er=1∨er=4)∧out.length≤m∧∀ p:List UInt8,p.length≤m→bs=dy p 0→out=p∧er=0
theorem JK (bs:List UInt8)(i k:Nat):(bs.drop i).getD k 0=bs.getD (i+k) 0:=by simp[bl,getElem?_drop]
theorem sF.bad {bs dn rest:List UInt8}{last:UInt8}{m k:Nat}{x er D2:Int}(mU:∀ p:List UInt8,p.length≤m→bs=dy p 0→mj p dn last rest)(hm:m≤1000000)(h0:rest≠[])(hg:lH rest x k er)
   (jR:er≠0∨x<1∨rest.length≤k∨(dn≠[]∧(rest.getD k 0).toNat=0)∨(m:Int)<dn.length+x) (he:D2=1∨D2=4):sF bs m [] D2:=by
 refine⟨by omega,by simp,λp hp e=>?_⟩;exfalso;obtain⟨g1,mH,qz,rO,vM,_⟩:=(mU p hp e).get (by omega) h0 hg;rcases jR with h | h | h | h | h
 ·exact h g1
 ·omega
 ·omega
 ·exact rO h.1 h.2
 ·omega
section
variable {W w:World}{L:List SP}{n c m:Nat}{ad:Option Addr}{bs:List UInt8}
theorem Xf (I:U W w L)(hb:bs.length≤65536)(hp:∀ V,U W V L→a6 V ad bs.length bs) :
   Calls prog 338 #[.slice ad bs.length c] w λe V=>∃ av c',e=.returned (.slice av (dy bs 0).length c')∧U W V (Sl 5 1 av (dy bs 0).length c' (bc (dy bs 0))::L):=by
 have iM:=xK bs 0;refine EN func338 ntmps338 rfl rfl λa E=>?_;refine RN 9 E I λa E=>?_;refine aR (λμ a w=>∃ (i c':Nat) (av:Option Addr) (dn:List UInt8) (last:UInt8),(μ=bs.length-i∧i≤bs.length∧dn++dy (bs.drop i) last=dy bs 0)∧Fr a 48 [(0,.slice ad bs.length c),(3,.slice av dn.length c'),(4,.int .u8 (last.toNat:Int)),(5,.int .i64 i)]∧U W w (Sl 5 1 av dn.length c' (bc dn)::L)) (bs.length) (⟨0,0,none,[],0,⟨rfl,by omega,rfl⟩,E.ab [0,3,4,5],I.bM 5 1 none⟩) ?_;clear E I;rintro μ a w ⟨i,c',av,dn,last,⟨rfl,hi,c8⟩,E,I⟩;refine IF 6 E I (λaj a E=>?_) λaj a E=>?_
 ·
  obtain⟨bb,oo,rfl,_⟩:=(hp _ I.tail).get (by omega);have aJ:i<bs.length:=by omega
  have ma:dn.length≤11*bs.length:=by
   have:=congrArg List.length c8;rw[aL]at this;omega
  refine RN 4 E I λa E=>?_;refine aR (λμ a w=>∃ (k:Nat),(μ=bs.length-k∧i≤k∧k≤bs.length∧(k=i∨mZ bs i k))∧Fr a 48 [(0,.slice (some ⟨bb,oo,none⟩) bs.length c),(3,.slice av dn.length c'),(4,.int .u8 (last.toNat:Int)),(5,.int .i64 i),(6,.int .i64 k)]∧U W w (Sl 5 1 av dn.length c' (bc dn)::L)) (bs.length-i) (⟨i,⟨rfl,by omega,by omega,.inl rfl⟩,E.ab [0,3,4,5,6],I⟩) ?_;clear E I;rintro μ a w ⟨k,⟨rfl,o5,hk,kn⟩,E,I⟩;refine RN 1 E I λa E=>?_;refine b7 (M:=λa w=>∃ z:Bool,(z=true→mZ bs i (k+1))∧(z=false→mZ bs i k∧∀ he:k<bs.length,bs[k]≠bs[i])∧Fr a 48 [(0,.slice (some ⟨bb,oo,none⟩) bs.length c),(3,.slice av dn.length c'),(4,.int .u8 (last.toNat:Int)),(5,.int .i64 i),(6,.int .i64 k),(26,.bool z)]∧U W w (Sl 5 1 av dn.length c' (bc dn)::L)) ?_ ?_
  ·
   refine bQ 0 [12] [0,1,2,3,4,5,6,7,9,10,11,3008,1012,13,14] E I λa w E I hH hC=>?_;have hr:=(hp _ I.tail).rd (by omega);refine RH 5 E I hH hC λa E=>?_;refine E.by (s:=16) (λdp E=>?_) (λdp E=>?_)
   ·
    refine RH 6 E I hH hC λa E=>?_;refine QH E (λw hc=>ag E ((hc.rd hr) k _ (dO (i:=k) (bs:=bs) (show k<bs.length by omega)))) hC λa E=>?_;refine RH 0 E I hH hC λa E=>?_;refine bE E (cS E rfl (s:=16)) (ag E ((hC.rd hr) i _ (dO aJ))) rfl λa E=>?_;refine RH 2 E I hH hC λa E=>?_;have eH:k<bs.length:=by omega
    refine⟨_,λh=>?_,λh=>?_,E.ab [0,3,4,5,6,26],I⟩
    ·have he:bs[k]=bs[i]:=UInt8.toNat_inj.1 (by have:=of_decide_eq_true h;omega);rcases kn with rfl | kn
     ·exact mZ.one aJ
     ·exact kn.more eH he
    ·have he:bs[k]≠bs[i]:=λe=>of_decide_eq_false h (by rw[e]);rcases kn with rfl | kn
     ·exact absurd rfl he
     ·exact⟨kn,λ_=>he⟩
   refine RH 10 E I hH hC λa E=>?_;refine⟨_,λh=>(by cases h),λh=>?_,E.ab [0,3,4,5,6,26],I⟩;rcases kn with rfl | kn
   ·omega
   ·exact⟨kn,λ_=>absurd (show k<bs.length by assumption) (by omega)⟩
  clear E;(try clear I);rintro a w ⟨z,c0,km,E,I⟩;refine IF 0 E I (λao a E=>?_) λao a E=>?_
  ·
   have pf:=c0 ao;refine RN 3 E I λa E=>?_;exact⟨bs.length-(k+1),by have:=pf.le;omega,k+1,⟨rfl,by omega,pf.le,.inr pf⟩,E.ab [0,3,4,5,6],I⟩
  obtain⟨pf,bN⟩:=km ao;rw[pf.runs aJ bN last]at c8;have eH:=pf.lt;have xp:=pf.le;refine aZ 1 (λw0 w=>Rd w bb oo (bc bs)) [4] [0,1,2,3,5,6,7,9,3008,10,2004,1011,1012,13] E I λa w E I hH=>?_;have hC:=(hp _ I.tail).rd (by omega);have eB:=qY (n:=((k-i:Nat):Int)) (by omega) (by omega);refine RH 4 E I hH hC λa E=>?_;rw[show ((k:Nat):Int)-((i:Nat):Int)=((k-i:Nat):Int) from by omega]at E;refine RH 4 E I hH hC λa E=>?_;refine QH E (λw hc=>ag E (hc i _ (dO aJ))) hC λa E=>?_;refine RH 1 E I hH hC λa E=>?_;refine DN [(4,[1011,1012,13]),(11,[1004,1012,13])] (by kernel_rfl) rfl ⟨⟨_,rfl,?_⟩,⟨_,rfl,?_⟩,trivial⟩
  ·
   refine RH 0 E I hH hC λa E=>?_;refine aY 0 E I (sf (N:=((k-i:Nat):Int)) (I.pick (Sl 5 1 av dn.length c' (bc dn))) (by omega) (by omega) (by omega)) λcV dN a w E I=>?_;replace hC:=hH.at w ((hp _ I.sub).rd (by omega));refine RH 0 E I hH hC λa E=>?_;refine cn E rfl I underlying22 Ty.t5 rfl rfl rfl rfl (by decide) (by decide) λHG a w E I ho=>?_;clear ho;refine RN 0 E I λa E=>?_;refine cI E rfl I underlying22 Ty.t5 rfl rfl I.ai rfl (by simp[Value.oneCell']) (by decide) (by decide) (by rw[aL];omega) λxM D3 a w E I=>?_;refine RN 1 E I λa E=>?_;rw[ua]at I;have m0:(dn++aO (zz ((k-i:Nat):Int))++[bs[i] ^^^ last])++dy (bs.drop k) bs[i]=dy bs 0:=by rw[← c8];simp
   rw[show (dn++aO (zz ((k-i:Nat):Int))).length+1=(dn++aO (zz ((k-i:Nat):Int))++[bs[i] ^^^ last]).length from by simp only[aL,iP]]at E I;generalize dn++aO (zz ((k-i:Nat):Int))++[bs[i] ^^^ last]=qZ at E I m0;refine RN 4 E I λa E=>?_;refine SS E (ag E (((hp _ I.sub).rd (by omega)) i _ (dO aJ))) λa E=>?_;refine RN 3 E I λa E=>?_;exact⟨bs.length-k,by omega,k,_,xM,qZ,bs[i],⟨rfl,by omega,m0⟩,E.ab [0,3,4,5],I.sub⟩
  refine RH 0 E I hH hC λa E=>?_;refine cn E rfl I underlying22 Ty.t5 rfl rfl rfl rfl (by decide) (by decide) λHG a w E I ho=>?_;clear ho;refine aY 0 E I (sf (N:=((k-i:Nat):Int)) (I.pick (Sl 5 1 av dn.length c' (bc dn))) (by omega) (by omega) (by omega)) λcV dN a w E I=>?_;replace hC:=hH.at w ((hp _ I.sub).rd (by omega));refine RH 0 E I hH hC λa E=>?_;refine cI E rfl I underlying22 Ty.t5 rfl rfl I.ai rfl (by simp[Value.oneCell']) (by decide) (by decide) (by rw[aL];omega) λxM D3 a w E I=>?_;refine RN 1 E I λa E=>?_;rw[ua]at I;have m0:(dn++aO (zz ((k-i:Nat):Int))++[bs[i] ^^^ last])++dy (bs.drop k) bs[i]=dy bs 0:=by rw[← c8];simp
  rw[show (dn++aO (zz ((k-i:Nat):Int))).length+1=(dn++aO (zz ((k-i:Nat):Int))++[bs[i] ^^^ last]).length from by simp only[aL,iP]]at E I;generalize dn++aO (zz ((k-i:Nat):Int))++[bs[i] ^^^ last]=qZ at E I m0;refine RN 4 E I λa E=>?_;refine SS E (ag E (((hp _ I.sub).rd (by omega)) i _ (dO aJ))) λa E=>?_;refine RN 3 E I λa E=>?_;exact⟨bs.length-k,by omega,k,_,xM,qZ,bs[i],⟨rfl,by omega,m0⟩,E.ab [0,3,4,5],I.sub⟩
 rw[drop_eq_nil_of_le (by omega),vJ,append_nil]at c8;refine RT 3 E I ?_;exact⟨_,_,by rw[← c8],by rw[← c8];exact I⟩
theorem Xg (I:U W w L)(hb:bs.length≤65536)(hp:∀ V,U W V L→a6 V ad bs.length bs) :
   Calls prog 159 #[.slice ad bs.length c] w λe V=>∃ av c',e=.returned (.slice av (dy bs 0).length c')∧U W V (Sl 5 1 av (dy bs 0).length c' (bc (dy bs 0))::L):=by
 have iM:=xK bs 0;refine EN func159 ntmps159 rfl rfl λa E=>?_;refine RN 9 E I λa E=>?_;refine aR (λμ a w=>∃ (i c':Nat) (av:Option Addr) (dn:List UInt8) (last:UInt8),(μ=bs.length-i∧i≤bs.length∧dn++dy (bs.drop i) last=dy bs 0)∧Fr a 52 [(0,.slice ad bs.length c),(3,.slice av dn.length c'),(4,.int .u8 (last.toNat:Int)),(5,.int .i64 i)]∧U W w (Sl 5 1 av dn.length c' (bc dn)::L)) (bs.length) (⟨0,0,none,[],0,⟨rfl,by omega,rfl⟩,E.ab [0,3,4,5],I.bM 5 1 none⟩) ?_;clear E I;rintro μ a w ⟨i,c',av,dn,last,⟨rfl,hi,c8⟩,E,I⟩;refine IF 6 E I (λaj a E=>?_) λaj a E=>?_
 ·
  obtain⟨bb,oo,rfl,_⟩:=(hp _ I.tail).get (by omega);have aJ:i<bs.length:=by omega
  have ma:dn.length≤11*bs.length:=by
   have:=congrArg List.length c8;rw[aL]at this;omega
  refine RN 3 E I λa E=>?_;refine aR (λμ a w=>∃ (k:Nat),(μ=bs.length-k∧k≤bs.length∧mZ bs i k)∧Fr a 52 [(0,.slice (some ⟨bb,oo,none⟩) bs.length c),(3,.slice av dn.length c'),(4,.int .u8 (last.toNat:Int)),(5,.int .i64 i),(6,.int .i64 ((k-i:Nat):Int))]∧U W w (Sl 5 1 av dn.length c' (bc dn)::L)) (bs.length-(i+1)) (⟨i+1,⟨rfl,by omega,mZ.one aJ⟩,by rw[show i+1-i=1 from by omega];exact E.ab [0,3,4,5,6],I⟩) ?_;clear E I;rintro μ a w ⟨k,⟨rfl,hk,kn⟩,E,I⟩;refine RN 1 E I λa E=>?_;refine b7 (M:=λa w=>∃ z:Bool,(z=true→mZ bs i (k+1))∧(z=false→∀ he:k<bs.length,bs[k]≠bs[i])∧Fr a 52 [(0,.slice (some ⟨bb,oo,none⟩) bs.length c),(3,.slice av dn.length c'),(4,.int .u8 (last.toNat:Int)),(5,.int .i64 i),(6,.int .i64 ((k-i:Nat):Int)),(29,.bool z)]∧U W w (Sl 5 1 av dn.length c' (bc dn)::L)) ?_ ?_
  ·
   refine RN 0 E I λa E=>?_;have o5:=kn.lt;refine bQ 0 [16] [0,1,2,3,4,5,6,7,8,9,10,11,13,14,15,3012,1016,17,18] E I λa w E I hH hC=>?_;have hr:=(hp _ I.tail).rd (by omega);refine RH 3 E I hH hC λa E=>?_;rw[show ((i:Nat):Int)+((k-i:Nat):Int)=(k:Int) from by omega]at E;refine RH 4 E I hH hC λa E=>?_;refine E.by (s:=17) (λjS E=>?_) (λjS E=>?_)
   ·
    refine RH 4 E I hH hC λa E=>?_;rw[show ((i:Nat):Int)+((k-i:Nat):Int)=(k:Int) from by omega]at E;refine RH 4 E I hH hC λa E=>?_;refine QH E (λw hc=>ag E ((hc.rd hr) k _ (dO (i:=k) (bs:=bs) (show k<bs.length by omega)))) hC λa E=>?_;refine RH 0 E I hH hC λa E=>?_;refine bE E (cS E rfl (s:=17)) (ag E ((hC.rd hr) i _ (dO aJ))) rfl λa E=>?_;refine RH 2 E I hH hC λa E=>?_;have eH:k<bs.length:=by omega
    refine⟨_,λh=>?_,λh=>?_,E.ab [0,3,4,5,6,29],I⟩
    ·have he:bs[k]=bs[i]:=UInt8.toNat_inj.1 (by have:=of_decide_eq_true h;omega);exact kn.more eH he
    ·have he:bs[k]≠bs[i]:=λe=>of_decide_eq_false h (by rw[e]);exact λ_=>he
   refine RH 12 E I hH hC λa E=>?_;refine⟨_,λh=>(by cases h),λh=>?_,E.ab [0,3,4,5,6,29],I⟩;exact λ_=>absurd (show k<bs.length by assumption) (by omega)
  clear E;(try clear I);rintro a w ⟨z,c0,km,E,I⟩;refine IF 0 E I (λao a E=>?_) λao a E=>?_
  ·
   have pf:=c0 ao;refine RN 1 E I λa E=>?_;have o5:=kn.lt;have ch:((k-i:Nat):Int)≤65536:=by omega
   refine RN 1 E I λa E=>?_;rw[show ((k-i:Nat):Int)+1=((k+1-i:Nat):Int) from by omega]at E;refine RN 1 E I λa E=>?_;exact⟨bs.length-(k+1),by have:=pf.le;omega,k+1,⟨rfl,pf.le,pf⟩,E.ab [0,3,4,5,6],I⟩
  have bN:=km ao;rw[kn.runs aJ bN last]at c8;have eH:=kn.lt;have xp:=kn.le;refine aZ 1 (λw0 w=>Rd w bb oo (bc bs)) [2,3] [0,1,4,5,6,8,3007,9,2002,2003,1010,1011,12] E I λa w E I hH=>?_;have hC:=(hp _ I.tail).rd (by omega);have eB:=qY (n:=((k-i:Nat):Int)) (by omega) (by omega);refine RH 6 E I hH hC λa E=>?_;refine QH E (λw hc=>ag E (hc i _ (dO aJ))) hC λa E=>?_;refine RH 1 E I hH hC λa E=>?_;refine DN [(2,[2003,1010,1011,12]),(10,[1002,1003,1011,12])] (by kernel_rfl) rfl ⟨⟨_,rfl,?_⟩,⟨_,rfl,?_⟩,trivial⟩
  ·
   refine RH 0 E I hH hC λa E=>?_;refine aY 0 E I (sE (N:=((k-i:Nat):Int)) I (by omega) (by omega)) λcV dN a w E I=>?_;replace hC:=hH.at w ((hp _ I.sub).rd (by omega));refine RH 0 E I hH hC λa E=>?_;refine DN [(3,[1010,1011,12]),(10,[1003,1011,12])] (by kernel_rfl) rfl ⟨⟨_,rfl,?_⟩,⟨_,rfl,?_⟩,trivial⟩
   ·
    obtain⟨bp,op,rfl,fb⟩:=(I.cF cV (aO (zz ((k-i:Nat):Int))) rfl rfl).get (qR _);refine RH 0 E I hH hC λa E=>?_;refine cI E rfl I underlying22 Ty.t5 rfl rfl fb (by rw[dw,Nat.mul_one]) (ep _) (qR _) (by decide) (by omega) λD4 D5 a w E I=>?_;replace hC:=hH.at w ((hp _ I.sub).rd (by omega));refine RH 0 E I hH hC λa E=>?_;refine cn E rfl I underlying22 Ty.t5 rfl rfl rfl rfl (by decide) (by decide) λJL a w E I ho=>?_;clear ho;refine RN 0 E I λa E=>?_;refine cI E rfl I underlying22 Ty.t5 rfl rfl I.ai rfl (by simp[Value.oneCell']) (by decide) (by decide) (by omega) λvN D6 a w E I=>?_;refine RN 1 E I λa E=>?_;rw[← fH,ua]at I;have m0:(dn++aO (zz ((k-i:Nat):Int))++[bs[i] ^^^ last])++dy (bs.drop k) bs[i]=dy bs 0:=by rw[← c8];simp
    rw[show dn.length+(aO (zz ((k-i:Nat):Int))).length+1=(dn++aO (zz ((k-i:Nat):Int))++[bs[i] ^^^ last]).length from by simp only[aL,iP]]at E I;generalize dn++aO (zz ((k-i:Nat):Int))++[bs[i] ^^^ last]=qZ at E I m0;refine RN 4 E I λa E=>?_;refine SS E (ag E (((hp _ I.sub).rd (by omega)) i _ (dO aJ))) λa E=>?_;refine RN 4 E I λa E=>?_;rw[show ((i:Nat):Int)+((k-i:Nat):Int)=(k:Int) from by omega]at E;refine RN 1 E I λa E=>?_;exact⟨bs.length-k,by omega,k,_,vN,qZ,bs[i],⟨rfl,by omega,m0⟩,E.ab [0,3,4,5],I.sub⟩
   refine RH 0 E I hH hC λa E=>?_;refine cn E rfl I underlying22 Ty.t5 rfl rfl rfl rfl (by decide) (by decide) λJL a w E I ho=>?_;clear ho;obtain⟨bp,op,rfl,fb⟩:=(I.cF cV (aO (zz ((k-i:Nat):Int))) rfl rfl).get (qR _);refine RN 0 E I λa E=>?_;refine cI E rfl I underlying22 Ty.t5 rfl rfl fb (by rw[dw,Nat.mul_one]) (ep _) (qR _) (by decide) (by omega) λD4 D5 a w E I=>?_;replace hC:=hH.at w ((hp _ I.sub).rd (by omega));refine RH 0 E I hH hC λa E=>?_;refine cI E rfl I underlying22 Ty.t5 rfl rfl I.ai rfl (by simp[Value.oneCell']) (by decide) (by decide) (by omega) λvN D6 a w E I=>?_;refine RN 1 E I λa E=>?_;rw[← fH,ua]at I;have m0:(dn++aO (zz ((k-i:Nat):Int))++[bs[i] ^^^ last])++dy (bs.drop k) bs[i]=dy bs 0:=by rw[← c8];simp
   rw[show dn.length+(aO (zz ((k-i:Nat):Int))).length+1=(dn++aO (zz ((k-i:Nat):Int))++[bs[i] ^^^ last]).length from by simp only[aL,iP]]at E I;generalize dn++aO (zz ((k-i:Nat):Int))++[bs[i] ^^^ last]=qZ at E I m0;refine RN 4 E I λa E=>?_;refine SS E (ag E (((hp _ I.sub).rd (by omega)) i _ (dO aJ))) λa E=>?_;refine RN 4 E I λa E=>?_;rw[show ((i:Nat):Int)+((k-i:Nat):Int)=(k:Int) from by omega]at E;refine RN 1 E I λa E=>?_;exact⟨bs.length-k,by omega,k,_,vN,qZ,bs[i],⟨rfl,by omega,m0⟩,E.ab [0,3,4,5],I.sub⟩
  refine RH 0 E I hH hC λa E=>?_;refine cn E rfl I underlying22 Ty.t5 rfl rfl rfl rfl (by decide) (by decide) λJL a w E I ho=>?_;clear ho;refine aY 0 E I (sE (N:=((k-i:Nat):Int)) I (by omega) (by omega)) λcV dN a w E I=>?_;replace hC:=hH.at w ((hp _ I.sub).rd (by omega));obtain⟨bp,op,rfl,fb⟩:=(I.cF cV (aO (zz ((k-i:Nat):Int))) rfl rfl).get (qR _);refine RH 0 E I hH hC λa E=>?_;refine cI E rfl I underlying22 Ty.t5 rfl rfl fb (by rw[dw,Nat.mul_one]) (ep _) (qR _) (by decide) (by omega) λD4 D5 a w E I=>?_;replace hC:=hH.at w ((hp _ I.sub).rd (by omega));refine RH 0 E I hH hC λa E=>?_;refine cI E rfl I underlying22 Ty.t5 rfl rfl I.ai rfl (by simp[Value.oneCell']) (by decide) (by decide) (by omega) λvN D6 a w E I=>?_;refine RN 1 E I λa E=>?_;rw[← fH,ua]at I;have m0:(dn++aO (zz ((k-i:Nat):Int))++[bs[i] ^^^ last])++dy (bs.drop k) bs[i]=dy bs 0:=by rw[← c8];simp
  rw[show dn.length+(aO (zz ((k-i:Nat):Int))).length+1=(dn++aO (zz ((k-i:Nat):Int))++[bs[i] ^^^ last]).length from by simp only[aL,iP]]at E I;generalize dn++aO (zz ((k-i:Nat):Int))++[bs[i] ^^^ last]=qZ at E I m0;refine RN 4 E I λa E=>?_;refine SS E (ag E (((hp _ I.sub).rd (by omega)) i _ (dO aJ))) λa E=>?_;refine RN 4 E I λa E=>?_;rw[show ((i:Nat):Int)+((k-i:Nat):Int)=(k:Int) from by omega]at E;refine RN 1 E I λa E=>?_;exact⟨bs.length-k,by omega,k,_,vN,qZ,bs[i],⟨rfl,by omega,m0⟩,E.ab [0,3,4,5],I.sub⟩
 rw[drop_eq_nil_of_le (by omega),vJ,append_nil]at c8;refine RT 3 E I ?_;exact⟨_,_,by rw[← c8],by rw[← c8];exact I⟩
theorem Xh (I:U W w L)(hb:bs.length≤65536)(hc:bs.length≤c)(hm:m≤1000000)(hp:∀ V,U W V L→a6 V ad bs.length bs) :
   Calls prog 333 #[.slice ad bs.length c,.int .i64 m] w λe V=>∃ (out:List UInt8) (av:Option Addr) (c':Nat) (er:Int),e=.returned (.tuple #[.slice av out.length c',.int .i64 er])∧sF bs m out er∧U W V (Sl 5 1 av out.length c' (bc out)::L):=by
 refine EN func333 ntmps333 rfl rfl λa E=>?_;refine RN 10 E I λa E=>?_;refine aR (λμ a w=>∃ (i c':Nat) (av:Option Addr) (dn:List UInt8) (last:UInt8),(μ=bs.length-i∧i≤bs.length∧dn.length≤m∧(0<i→dn≠[])∧∀ p:List UInt8,p.length≤m→bs=dy p 0→mj p dn last (bs.drop i))∧Fr a 79 [(0,.slice ad bs.length c),(1,.int .i64 m),(6,.slice av dn.length c'),(7,.int .u8 (last.toNat:Int)),(8,.int .i64 i)]∧U W w (Sl 5 1 av dn.length c' (bc dn)::L)) (bs.length) (⟨0,0,none,[],0,⟨rfl,by omega,by simp,by omega,λp _ e=>by rw[drop_zero,e];exact mj.start p⟩,E.ab [0,1,6,7,8],I.bM 5 1 none⟩) ?_;clear E I;rintro μ a w ⟨i,c',av,dn,last,⟨rfl,hi,D7,D8,mU⟩,E,I⟩;refine IF 6 E I (λaj a E=>?_) λaj a E=>?_
 ·
  obtain⟨bb,oo,rfl,_⟩:=(hp _ I.tail).get (by omega);have aJ:i<bs.length:=by omega
  have bN:bs.drop i≠[]:=λe=>by have:=congrArg List.length e;simp at this;omega
  refine RN 4 E I λa E=>?_;rw[show bs.length-i=(bs.drop i).length from by simp]at E;refine jI 0 E I (JI (bs:=bs.drop i) I (by simp;omega) (λV hw=>(hp V hw.tail).tW hi hc)) λx k er a w E ⟨hg,I⟩=>?_;refine RN 8 E I λa E=>?_;refine b7 (M:=λa w=>∃ z:Bool,(z=true↔(er≠0∨x<1∨bs.length≤i+k∨((bs.getD (i+k) 0).toNat=0∧0<i)))∧Fr a 79 [(0,.slice (some ⟨bb,oo,none⟩) bs.length c),(1,.int .i64 m),(6,.slice av dn.length c'),(7,.int .u8 (last.toNat:Int)),(8,.int .i64 i),(9,.int .i64 x),(10,.int .i64 k),(50,.bool z)]∧U W w (Sl 5 1 av dn.length c' (bc dn)::L)) ?_ ?_
  ·
   have ma:(bs.drop i).length=bs.length-i:=by simp
   have pg:=hg.2.2.1;have ng:=hg.2.1;have oc:=hg.1;have eH:k≤bs.length:=by
    by_cases h0:er=0
    ·have:=pg h0;omega
    ·have:=(hg.2.2.2.1 h0).1;omega
   refine BY 3 E I (λbA a E=>?_) λbA a E=>?_
   ·
    refine RN 24 E I λa E=>?_;exact⟨_,by first | (rw[cp];omega) | exact⟨λh=>(by cases h),λh=>absurd h (by omega)⟩ | exact⟨λ_=>by omega,λ_=>rfl⟩,E.ab [0,1,6,7,8,9,10,50],I⟩
   refine BY 4 E I (λjS a E=>?_) λjS a E=>?_
   ·
    refine RN 20 E I λa E=>?_;exact⟨_,by first | (rw[cp];omega) | exact⟨λh=>(by cases h),λh=>absurd h (by omega)⟩ | exact⟨λ_=>by omega,λ_=>rfl⟩,E.ab [0,1,6,7,8,9,10,50],I⟩
   refine BY 8 E I (λkF a E=>?_) λkF a E=>?_
   ·
    refine RN 12 E I λa E=>?_;exact⟨_,by first | (rw[cp];omega) | exact⟨λh=>(by cases h),λh=>absurd h (by omega)⟩ | exact⟨λ_=>by omega,λ_=>rfl⟩,E.ab [0,1,6,7,8,9,10,50],I⟩
   refine RN 4 E I λa E=>?_;rw[show ((i:Nat):Int)+((k:Nat):Int)=((i+k:Nat):Int) from by omega]at E;refine RN 1 E I λa E=>?_;refine bE E (cS E rfl (s:=38)) (ag E (((hp _ I.tail).rd (by omega)) (i+k) _ (kN (by omega)))) rfl λa E=>?_;refine BY 2 E I (λph a E=>?_) λph a E=>?_
   ·
    refine RN 4 E I λa E=>?_;exact⟨_,by first | (rw[cp];omega) | exact⟨λh=>(by cases h),λh=>absurd h (by omega)⟩ | exact⟨λ_=>by omega,λ_=>rfl⟩,E.ab [0,1,6,7,8,9,10,50],I⟩
   refine RN 4 E I λa E=>?_;exact⟨_,by first | (rw[cp];omega) | exact⟨λh=>(by cases h),λh=>absurd h (by omega)⟩ | exact⟨λ_=>by omega,λ_=>rfl⟩,E.ab [0,1,6,7,8,9,10,50],I⟩
  clear E;(try clear I);rintro a w ⟨z,hz,E,I⟩;refine IF 0 E I (λao a E=>?_) λao a E=>?_
  ·
   have jR:=hz.1 ao;refine RT 3 E I ?_;exact⟨[],none,0,1,rfl,sF.bad mU hm bN hg (by rw[JK,c6];rcases jR with h | h | h | h;exact .inl h;exact .inr (.inl h);exact .inr (.inr (.inl (by omega)));exact .inr (.inr (.inr (.inl ⟨D8 h.2,h.1⟩)))) (.inl rfl),I.tail.bM _ _ _⟩
  have Dw:¬ (er≠0∨x<1∨bs.length≤i+k∨((bs.getD (i+k) 0).toNat=0∧0<i)):=λh=>absurd (hz.2 h) (by simp[ao]);refine IF 9 E I (λay a E=>?_) λay a E=>?_
  ·
   refine RT 3 E I ?_;exact⟨[],none,0,4,rfl,sF.bad mU hm bN hg (.inr (.inr (.inr (.inr (by omega))))) (.inr rfl),I.tail.bM _ _ _⟩
  refine RN 6 E I λa E=>?_;rw[show ((i:Nat):Int)+((k:Nat):Int)=((i+k:Nat):Int) from by omega]at E;refine RN 1 E I λa E=>?_;refine SS E (ag E (((hp _ I.tail).rd (by omega)) (i+k) _ (kN (by omega)))) λa E=>?_;refine RN 2 E I λa E=>?_;generalize hy:last ^^^ bs.getD (i+k) 0=y at E;refine RN 4 E I λa E=>?_;refine aR (λμ a w=>∃ (j c2:Nat) (ad2:Option Addr),(μ=x.toNat-j∧j≤x.toNat)∧Fr a 79 [(0,.slice (some ⟨bb,oo,none⟩) bs.length c),(1,.int .i64 m),(6,.slice ad2 (dn++List.replicate j y).length c2),(7,.int .u8 (y.toNat:Int)),(8,.int .i64 i),(10,.int .i64 k),(66,.int .i64 x),(67,.int .i64 j)]∧U W w (Sl 5 1 ad2 (dn++List.replicate j y).length c2 (bc (dn++List.replicate j y))::L)) (x.toNat) (⟨0,c',av,⟨rfl,by omega⟩,by rw[List.replicate_zero,append_nil];exact E.ab [0,1,6,7,8,10,66,67],by rw[List.replicate_zero,append_nil];exact I⟩) ?_;clear E I;rintro μ a w ⟨j,c2,ad2,⟨rfl,hj⟩,E,I⟩;refine IF 3 E I (λbh a E=>?_) λbh a E=>?_
  ·
   refine RN 1 E I λa E=>?_;have dG:(dn++List.replicate j y).length=dn.length+j:=by simp
   refine RN 2 E I λa E=>?_;refine cn E rfl I underlying22 Ty.t5 rfl rfl rfl rfl (by decide) (by decide) λXi a w E I ho=>?_;clear ho;refine RN 0 E I λa E=>?_;refine cI E rfl I underlying22 Ty.t5 rfl rfl I.ai rfl (by simp[Value.oneCell']) (by decide) (by decide) (by omega) λJM JN a w E I=>?_;refine RN 1 E I λa E=>?_;rw[ua,show (dn++List.replicate j y)++[y]=dn++List.replicate (j+1) y from by rw[dv,← replicate_succ']]at I;rw[show (dn++List.replicate j y).length+1=(dn++List.replicate (j+1) y).length from by simp;omega]at E I;refine RN 2 E I λa E=>?_;exact⟨x.toNat-(j+1),by omega,j+1,_,_,⟨rfl,by omega⟩,E.ab [0,1,6,7,8,10,66,67],I.sub⟩
  obtain rfl:j=x.toNat:=by omega
  refine RN 0 E I λa E=>?_;have o6:(dn++List.replicate x.toNat y).length=dn.length+x.toNat:=by simp
  refine RN 4 E I λa E=>?_;rw[show ((i:Nat):Int)+(((k:Nat):Int)+1)=((i+k+1:Nat):Int) from by omega]at E;refine RN 1 E I λa E=>?_;exact⟨bs.length-(i+k+1),by omega,i+k+1,_,_,_,y,⟨rfl,by omega,by omega,λ_ e=>(by rw[e]at o6;simp at o6;omega),λp ub e=>(by
   have h2:=((mU p ub e).get (by omega) bN hg).2.2.2.2.2;rw[JK,hy,drop_drop]at h2;exact h2)⟩,E.ab [0,1,6,7,8],I⟩
 refine RT 4 E I ?_;exact⟨dn,_,_,0,rfl,⟨by omega,D7,λp ub e=>⟨by have h2:=mU p ub e;rw[drop_eq_nil_of_le (by omega)]at h2;exact h2.done.symm,rfl⟩⟩,I⟩
theorem Xj (I:U W w L)(hb:bs.length≤65536)(hc:bs.length≤c)(hm:m≤1000000)(hp:∀ V,U W V L→a6 V ad bs.length bs) :
   Calls prog 216 #[.slice ad bs.length c,.int .i64 m] w λe V=>∃ (out:List UInt8) (av:Option Addr) (c':Nat) (er:Int),e=.returned (.tuple #[.slice av out.length c',.int .i64 er])∧sF bs m out er∧U W V (Sl 5 1 av out.length c' (bc out)::L):=by
 refine EN func216 ntmps216 rfl rfl λa E=>?_;refine RN 10 E I λa E=>?_;refine aR (λμ a w=>∃ (i c' oj:Nat) (av q0:Option Addr) (dn rest:List UInt8) (last:UInt8) (fi:Bool),(μ=rest.length∧rest.length≤bs.length∧rest.length≤oj∧dn.length≤m∧(fi=false→dn≠[])∧(∀ V,U W V L→a6 V q0 rest.length rest)∧∀ p:List UInt8,p.length≤m→bs=dy p 0→mj p dn last rest)∧Fr a 72 [(0,.slice q0 rest.length oj),(1,.int .i64 m),(6,.slice av dn.length c'),(7,.int .u8 (last.toNat:Int)),(8,.bool fi)]∧U W w (Sl 5 1 av dn.length c' (bc dn)::L)) (bs.length) (⟨0,0,c,none,ad,[],bs,0,true,⟨rfl,by omega,hc,by simp,(by simp),hp,λp _ e=>by rw[e];exact mj.start p⟩,E.ab [0,1,6,7,8],I.bM 5 1 none⟩) ?_;clear E I;rintro μ a w ⟨i,c',oj,av,q0,dn,rest,last,fi,⟨rfl,z6,jw,D7,D8,a1,mU⟩,E,I⟩;refine IF 5 E I (λaj a E=>?_) λaj a E=>?_
 ·
  obtain⟨bb,oo,rfl,_⟩:=(a1 _ I.tail).get (by omega);have bN:rest≠[]:=λe=>by rw[e]at aj;simp at aj
  refine jI 3 E I (D1 (bs:=rest) I (by omega) (λV hw=>a1 V hw.tail)) λx k er a w E ⟨hg,I⟩=>?_;refine RN 8 E I λa E=>?_;refine b7 (M:=λa w=>∃ z:Bool,(z=true↔(er≠0∨x<1∨rest.length≤k∨((rest.getD k 0).toNat=0∧fi=false)))∧Fr a 72 [(0,.slice (some ⟨bb,oo,none⟩) rest.length oj),(1,.int .i64 m),(6,.slice av dn.length c'),(7,.int .u8 (last.toNat:Int)),(8,.bool fi),(9,.int .i64 x),(10,.int .i64 k),(44,.bool z)]∧U W w (Sl 5 1 av dn.length c' (bc dn)::L)) ?_ ?_
  ·
   have pg:=hg.2.2.1;have ng:=hg.2.1;have oc:=hg.1;have eH:k≤rest.length:=by
    by_cases h0:er=0
    ·have:=pg h0;omega
    ·have:=(hg.2.2.2.1 h0).1;omega
   refine BY 3 E I (λbA a E=>?_) λbA a E=>?_
   ·
    refine RN 20 E I λa E=>?_;exact⟨_,by first | (rw[cp];omega) | exact⟨λh=>(by cases h),λh=>absurd h (by omega)⟩ | exact⟨λ_=>by omega,λ_=>rfl⟩ | (cases fi;exact⟨λ_=>.inr (.inr (.inr ⟨by omega,rfl⟩)),λ_=>rfl⟩;exact⟨λh=>(by cases h),λh=>by rcases h with h | h | h | h;exact absurd h (by omega);exact absurd h (by omega);exact absurd h (by omega);exact absurd h.2 (by decide)⟩),E.ab [0,1,6,7,8,9,10,44],I⟩
   refine BY 4 E I (λjS a E=>?_) λjS a E=>?_
   ·
    refine RN 16 E I λa E=>?_;exact⟨_,by first | (rw[cp];omega) | exact⟨λh=>(by cases h),λh=>absurd h (by omega)⟩ | exact⟨λ_=>by omega,λ_=>rfl⟩ | (cases fi;exact⟨λ_=>.inr (.inr (.inr ⟨by omega,rfl⟩)),λ_=>rfl⟩;exact⟨λh=>(by cases h),λh=>by rcases h with h | h | h | h;exact absurd h (by omega);exact absurd h (by omega);exact absurd h (by omega);exact absurd h.2 (by decide)⟩),E.ab [0,1,6,7,8,9,10,44],I⟩
   refine BY 6 E I (λhS a E=>?_) λhS a E=>?_
   ·
    refine RN 10 E I λa E=>?_;exact⟨_,by first | (rw[cp];omega) | exact⟨λh=>(by cases h),λh=>absurd h (by omega)⟩ | exact⟨λ_=>by omega,λ_=>rfl⟩ | (cases fi;exact⟨λ_=>.inr (.inr (.inr ⟨by omega,rfl⟩)),λ_=>rfl⟩;exact⟨λh=>(by cases h),λh=>by rcases h with h | h | h | h;exact absurd h (by omega);exact absurd h (by omega);exact absurd h (by omega);exact absurd h.2 (by decide)⟩),E.ab [0,1,6,7,8,9,10,44],I⟩
   refine RN 3 E I λa E=>?_;refine bE E (cS E rfl (s:=34)) (ag E (((a1 _ I.tail).rd (by omega)) k _ (kN (by omega)))) rfl λa E=>?_;refine BY 2 E I (λtG a E=>?_) λtG a E=>?_
   ·
    refine RN 4 E I λa E=>?_;exact⟨_,by first | (rw[cp];omega) | exact⟨λh=>(by cases h),λh=>absurd h (by omega)⟩ | exact⟨λ_=>by omega,λ_=>rfl⟩ | (cases fi;exact⟨λ_=>.inr (.inr (.inr ⟨by omega,rfl⟩)),λ_=>rfl⟩;exact⟨λh=>(by cases h),λh=>by rcases h with h | h | h | h;exact absurd h (by omega);exact absurd h (by omega);exact absurd h (by omega);exact absurd h.2 (by decide)⟩),E.ab [0,1,6,7,8,9,10,44],I⟩
   refine RN 4 E I λa E=>?_;exact⟨_,by first | (rw[cp];omega) | exact⟨λh=>(by cases h),λh=>absurd h (by omega)⟩ | exact⟨λ_=>by omega,λ_=>rfl⟩ | (cases fi;exact⟨λ_=>.inr (.inr (.inr ⟨by omega,rfl⟩)),λ_=>rfl⟩;exact⟨λh=>(by cases h),λh=>by rcases h with h | h | h | h;exact absurd h (by omega);exact absurd h (by omega);exact absurd h (by omega);exact absurd h.2 (by decide)⟩),E.ab [0,1,6,7,8,9,10,44],I⟩
  clear E;(try clear I);rintro a w ⟨z,hz,E,I⟩;refine IF 0 E I (λao a E=>?_) λao a E=>?_
  ·
   have jR:=hz.1 ao;refine RT 3 E I ?_;exact⟨[],none,0,1,rfl,sF.bad mU hm bN hg (by rcases jR with h | h | h | h;exact .inl h;exact .inr (.inl h);exact .inr (.inr (.inl (by omega)));exact .inr (.inr (.inr (.inl ⟨D8 h.2,h.1⟩)))) (.inl rfl),I.tail.bM _ _ _⟩
  have Dw:¬ (er≠0∨x<1∨rest.length≤k∨((rest.getD k 0).toNat=0∧fi=false)):=λh=>absurd (hz.2 h) (by simp[ao]);refine IF 9 E I (λay a E=>?_) λay a E=>?_
  ·
   refine RT 3 E I ?_;exact⟨[],none,0,4,rfl,sF.bad mU hm bN hg (.inr (.inr (.inr (.inr (by omega))))) (.inr rfl),I.tail.bM _ _ _⟩
  refine RN 5 E I λa E=>?_;refine SS E (ag E (((a1 _ I.tail).rd (by omega)) k _ (kN (by omega)))) λa E=>?_;refine RN 2 E I λa E=>?_;generalize hy:last ^^^ rest.getD k 0=y at E;refine RN 3 E I λa E=>?_;refine aR (λμ a w=>∃ (j c2:Nat) (ad2:Option Addr),(μ=x.toNat-j∧j≤x.toNat)∧Fr a 72 [(0,.slice (some ⟨bb,oo,none⟩) rest.length oj),(1,.int .i64 m),(6,.slice ad2 (dn++List.replicate j y).length c2),(7,.int .u8 (y.toNat:Int)),(8,.bool fi),(9,.int .i64 x),(10,.int .i64 k),(12,.int .i64 j)]∧U W w (Sl 5 1 ad2 (dn++List.replicate j y).length c2 (bc (dn++List.replicate j y))::L)) (x.toNat) (⟨0,c',av,⟨rfl,by omega⟩,by rw[List.replicate_zero,append_nil];exact E.ab [0,1,6,7,8,9,10,12],by rw[List.replicate_zero,append_nil];exact I⟩) ?_;clear E I;rintro μ a w ⟨j,c2,ad2,⟨rfl,hj⟩,E,I⟩;refine IF 5 E I (λbh a E=>?_) λbh a E=>?_
  ·
   refine RN 1 E I λa E=>?_;have dG:(dn++List.replicate j y).length=dn.length+j:=by simp
   refine RN 2 E I λa E=>?_;refine cn E rfl I underlying22 Ty.t5 rfl rfl rfl rfl (by decide) (by decide) λQw a w E I ho=>?_;clear ho;refine RN 0 E I λa E=>?_;refine cI E rfl I underlying22 Ty.t5 rfl rfl I.ai rfl (by simp[Value.oneCell']) (by decide) (by decide) (by omega) λaeB c66 a w E I=>?_;refine RN 1 E I λa E=>?_;rw[ua,show (dn++List.replicate j y)++[y]=dn++List.replicate (j+1) y from by rw[dv,← replicate_succ']]at I;rw[show (dn++List.replicate j y).length+1=(dn++List.replicate (j+1) y).length from by simp;omega]at E I;refine RN 3 E I λa E=>?_;exact⟨x.toNat-(j+1),by omega,j+1,_,_,⟨rfl,by omega⟩,E.ab [0,1,6,7,8,9,10,12],I.sub⟩
  obtain rfl:j=x.toNat:=by omega
  refine RN 0 E I λa E=>?_;have o6:(dn++List.replicate x.toNat y).length=dn.length+x.toNat:=by simp
  refine RN 5 E I λa E=>?_;rw[show rest.length-(k+1)=(rest.drop (k+1)).length from by simp]at E;refine RN 1 E I λa E=>?_;exact⟨(rest.drop (k+1)).length,by simp;omega,0,_,_,_,_,_,rest.drop (k+1),y,false,⟨rfl,by simp;omega,by simp;omega,by omega,λ_ e=>(by rw[e]at o6;simp at o6;omega),λV hw=>(a1 V hw).tW (by omega) jw,λp ub e=>(by
   have h2:=((mU p ub e).get (by omega) bN hg).2.2.2.2.2;rw[hy]at h2;exact h2)⟩,E.ab [0,1,6,7,8],I⟩
 refine RT 4 E I ?_;have Xk:rest=[]:=g5 (by omega);exact⟨dn,_,_,0,rfl,⟨by omega,D7,λp ub e=>⟨by have h2:=mU p ub e;rw[Xk]at h2;exact h2.done.symm,rfl⟩⟩,I⟩
end
end
section
abbrev dI (p:Pk)(ad:Option Addr)(c:Nat):List Value:=[.int .i64 p.kind,.int .i64 p.aV,.int .i64 p.to,.int .i64 p.id,.int .i64 p.first,.slice ad p.al.length c,.int .i64 p.c9,.int .i64 p.frame,.int .u32 p.sum]
def pj (m:Int)(ns:List Int):Prop:=∀ n∈ns,0≤n∧n≤m
def D9 (ns:List Int):List Value:=ns.map λn=>.int .i64 n
theorem Xl {ns:List Int}{i:Nat}(h:i<ns.length):(D9 ns)[i]?=some (.int .i64 ns[i]):=by simp[D9,h]
def iz (p:Pk):Prop:=(0≤p.aV∧p.aV≤7)∧(0≤p.to∧p.to≤7)∧p.aV≠p.to∧(0≤p.id∧p.id≤1099511627776)
theorem Ea {p:Pk}(h:iz p)(hk:p.kind=1):hs p↔(pj 1000 [p.first,p.c9,p.frame]∧p.al.length≤32):=by
 unfold iz at h;simp only[hs,pj,eG,forall_mem_cons,not_mem_nil,false_implies,implies_true,and_true];omega
theorem Eb {p:Pk}(h:iz p)(hk:p.kind=2):hs p↔(pj 0 [p.first,p.c9,p.frame,(p.al.length:Int)]∧p.sum=0):=by
 unfold iz at h;simp only[hs,pj,eG,forall_mem_cons,not_mem_nil,false_implies,implies_true,and_true];omega
theorem z7 {p:Pk}(h:hs p):iz p:=⟨h.1,h.2.1,h.2.2.1,h.2.2.2.1⟩
theorem xN {p:Pk}(h:hs p):p.kind=1∨p.kind=2:=by
 rcases h.2.2.2.2 with h | h
 ·exact .inl h.1
 ·exact .inr h.1
section
variable {W w:World}{L:List SP}{n c:Nat}{ad:Option Addr}{p:Pk}
theorem Ec {ns:List Int}{b:Nat}{M:Int}(I:U W w L)(hb:ns.length≤1000)(hp:∀ V,U W V L→Rd V b 0 (D9 ns)) :
   Calls prog 342 #[.int .i64 M,.slice (some ⟨b,0,none⟩) ns.length ns.length] w λe V=>∃ r:Bool,e=.returned (.bool r)∧(r=true↔pj M ns)∧U W V L:=by
 refine EN func342 ntmps342 rfl rfl λa E=>?_;refine RN 7 E I λa E=>?_;refine aR (λμ a w=>∃ (i:Nat),(μ=ns.length-i∧i≤ns.length∧pj M (ns.take i))∧Fr a 21 [(0,.int .i64 M),(7,.slice (some ⟨b,0,none⟩) ns.length ns.length),(8,.int .i64 ns.length),(9,.int .i64 i)]∧U W w L) (ns.length) (⟨0,⟨rfl,by omega,λn h=>by simp at h⟩,E.ab [0,7,8,9],I⟩) ?_;clear E I;rintro μ a w ⟨i,⟨rfl,hi,cD⟩,E,I⟩;refine IF 3 E I (λaj a E=>?_) λaj a E=>?_
 ·
  have aJ:i<ns.length:=by omega
  refine RN 3 E I λa E=>?_;refine SS E (ag E (by have:=hp _ I i _ (Xl aJ);rwa [Nat.zero_add]at this)) λa E=>?_;refine RN 1 E I λa E=>?_;refine b7 (M:=λa w=>∃ z:Bool,(z=true↔¬ (0≤ns[i]∧ns[i]≤M))∧Fr a 21 [(0,.int .i64 M),(7,.slice (some ⟨b,0,none⟩) ns.length ns.length),(8,.int .i64 ns.length),(9,.int .i64 i),(19,.bool z)]∧U W w L) ?_ ?_
  ·
   refine BY 3 E I (λbA a E=>?_) λbA a E=>?_
   ·
    refine RN 4 E I λa E=>?_;exact⟨_,by first | (rw[cp];omega) | exact⟨λh=>(by cases h),λh=>absurd h (by omega)⟩ | exact⟨λ_=>by omega,λ_=>rfl⟩,E.ab [0,7,8,9,19],I⟩
   refine RN 4 E I λa E=>?_;exact⟨_,by first | (rw[cp];omega) | exact⟨λh=>(by cases h),λh=>absurd h (by omega)⟩ | exact⟨λ_=>by omega,λ_=>rfl⟩,E.ab [0,7,8,9,19],I⟩
  clear E;(try clear I);rintro a w ⟨z,hz,E,I⟩;refine IF 0 E I (λao a E=>?_) λao a E=>?_
  ·
   refine RT 2 E I ?_;exact⟨_,rfl,⟨λh=>(by cases h),λh=>absurd (h _ (getElem_mem aJ)) (hz.1 ao)⟩,I⟩
  refine RN 2 E I λa E=>?_;exact⟨ns.length-(i+1),by omega,i+1,⟨rfl,by omega,λn hn=>by
   rw[iX aJ,eM,mem_singleton]at hn;rcases hn with hn | rfl
   ·exact cD n hn
   ·exact Classical.byContradiction λh=>by have:=hz.2 h;rw[ao]at this;cases this⟩,E.ab [0,7,8,9],I⟩
 refine RT 2 E I ?_;rw[fX (by omega)]at cD;exact⟨_,rfl,⟨λ_=>cD,λ_=>rfl⟩,I⟩
theorem JO {M a b:Int}:pj M [a,b]↔(0≤a∧a≤M)∧(0≤b∧b≤M):=by simp[pj]
theorem Xm {M a b c:Int}:pj M [a,b,c]↔(0≤a∧a≤M)∧(0≤b∧b≤M)∧(0≤c∧c≤M):=by simp[pj]
theorem Xn (I:U W w L):Calls prog 336 #[.agg (dI p ad c).toArray] w λe V=>∃ r:Bool,e=.returned (.bool r)∧(r=true↔hs p)∧U W V L:=by
 have q3:=I;refine EN func336 ntmps336 rfl rfl λa E=>?_;refine BX 1 E I λb1 a w E I=>?_;refine RN 2 E I λa E=>?_;refine b7 (M:=λa w=>∃ (z:Bool) (b1:Nat),(z=true↔¬ iz p)∧Fr a 63 [(1,pt b1),(26,.bool z)]∧U W w (aa b1 203 (dI p ad c)::L)) ?_ ?_
 ·
  refine RN 4 E I λa E=>?_;refine cn E rfl I underlying53 Ty.t3 rfl rfl rfl rfl (by decide) (by decide) λdr a w E I ho=>?_;clear ho;refine bg 0 E I (Ec (ns:=[p.aV,p.to]) I (by simp) (λV hw=>hw.ai)) λr1 a w E ⟨e8,I⟩=>?_;refine BY 2 E I (λjv a E=>?_) λjv a E=>?_
  ·
   have hh:¬ iz p:=λh=>by
    have:=e8.2 (JO.2 ⟨h.1,h.2.1⟩);rw[jv]at this;cases this
   refine RN 16 E I λa E=>?_;exact⟨_,_,⟨λ_=>hh,λ_=>rfl⟩,E.ab [1,26],I.sub⟩
  have hh:=JO.1 (e8.1 jv);refine BY 7 E I (λkF a E=>?_) λkF a E=>?_
  ·
   refine RN 9 E I λa E=>?_;exact⟨_,_,by unfold iz;first | (rw[cp];omega) | exact⟨λh=>(by cases h),λh=>absurd h (by omega)⟩ | exact⟨λ_=>by omega,λ_=>rfl⟩,E.ab [1,26],I.sub⟩
  refine BY 5 E I (λpn a E=>?_) λpn a E=>?_
  ·
   refine RN 4 E I λa E=>?_;exact⟨_,_,by unfold iz;first | (rw[cp];omega) | exact⟨λh=>(by cases h),λh=>absurd h (by omega)⟩ | exact⟨λ_=>by omega,λ_=>rfl⟩,E.ab [1,26],I.sub⟩
  refine RN 4 E I λa E=>?_;exact⟨_,_,by unfold iz;first | (rw[cp];omega) | exact⟨λh=>(by cases h),λh=>absurd h (by omega)⟩ | exact⟨λ_=>by omega,λ_=>rfl⟩,E.ab [1,26],I.sub⟩
 clear E;(try clear I);rintro a w ⟨z,b1,hz,E,I⟩;refine IF 0 E I (λaj a E=>?_) λaj a E=>?_
 ·
  have hn:=hz.1 aj;refine RT 2 E I ?_;exact⟨_,rfl,⟨λh=>(by cases h),λh=>absurd (z7 h) hn⟩,I.sub⟩
 have hh:iz p:=Classical.byContradiction λh=>by have:=hz.2 h;rw[aj]at this;cases this
 refine IF 7 E I (λao a E=>?_) λao a E=>?_
 ·
  have gU:p.kind=1:=ao;refine RN 7 E I λa E=>?_;refine cn E rfl I underlying53 Ty.t3 rfl rfl rfl rfl (by decide) (by decide) λUr a w E I ho=>?_;clear ho;refine bg 0 E I (Ec (ns:=[p.first,p.c9,p.frame]) I (by simp) (λV hw=>hw.ai)) λaeC a w E ⟨sG,I⟩=>?_;refine BY 1 E I (λfa a E=>?_) λfa a E=>?_
  ·
   refine RT 6 E I ?_;refine⟨_,rfl,?_,I.sub⟩;rw[Ea hh gU,cp];exact⟨λh=>⟨sG.1 fa,by omega⟩,λh=>by omega⟩
  refine RT 6 E I ?_;exact⟨_,rfl,⟨λh=>(by cases h),λh=>by have:=sG.2 ((Ea hh gU).1 h).1;rw[fa]at this;cases this⟩,I.sub⟩
 refine IF 3 E I (λay a E=>?_) λay a E=>?_
 ·
  have ch:p.kind=2:=ay;refine RN 10 E I λa E=>?_;refine cn E rfl I underlying53 Ty.t3 rfl rfl rfl rfl (by decide) (by decide) λXo a w E I ho=>?_;clear ho;refine bg 0 E I (Ec (ns:=[p.first,p.c9,p.frame,(p.al.length:Int)]) I (by simp) (λV hw=>hw.ai)) λaeD a w E ⟨vO,I⟩=>?_;refine BY 1 E I (λkG a E=>?_) λkG a E=>?_
  ·
   refine RT 5 E I ?_;refine⟨_,rfl,?_,I.sub⟩;rw[Eb hh ch,cp];exact⟨λh=>⟨vO.1 kG,by omega⟩,λh=>by omega⟩
  refine RT 5 E I ?_;exact⟨_,rfl,⟨λh=>(by cases h),λh=>by have:=vO.2 ((Eb hh ch).1 h).1;rw[kG]at this;cases this⟩,I.sub⟩
 refine RT 2 E I ?_;exact⟨_,rfl,⟨λh=>(by cases h),λh=>by rcases xN h with h | h;exact absurd h ao;exact absurd h ay⟩,I.sub⟩
theorem Ed {x:Int}(I:U W w L):Calls prog 191 #[.int .i64 x] w λe V=>∃ r:Bool,e=.returned (.bool r)∧(r=true↔eG x)∧U W V L:=by
 refine EN func191 ntmps191 rfl rfl λa E=>?_;refine BY 6 E I (λbA a E=>?_) λbA a E=>?_
 ·
  refine RT 4 E I ?_;exact⟨_,rfl,by unfold eG;first | (rw[cp];omega) | exact⟨λh=>(by cases h),λh=>absurd h (by omega)⟩,I⟩
 refine RT 4 E I ?_;exact⟨_,rfl,by unfold eG;first | (rw[cp];omega) | exact⟨λh=>(by cases h),λh=>absurd h (by omega)⟩,I⟩
theorem Xp (I:U W w L):Calls prog 156 #[.agg (dI p ad c).toArray] w λe V=>∃ r:Bool,e=.returned (.bool r)∧(r=true↔hs p)∧U W V L:=by
 refine EN func156 ntmps156 rfl rfl λa E=>?_;refine BX 1 E I λb1 a w E I=>?_;refine RN 2 E I λa E=>?_;refine b7 (M:=λa w=>∃ (z:Bool) (b1:Nat),(z=true↔¬ (iz p∧1≤p.kind∧p.kind≤2))∧Fr a 94 [(1,pt b1),(47,.bool z)]∧U W w (aa b1 203 (dI p ad c)::L)) ?_ ?_
 ·
  refine BY 4 E I (λbS a E=>?_) λbS a E=>?_
  ·
   refine RN 41 E I λa E=>?_;exact⟨_,_,by unfold iz;first | (rw[cp];omega) | exact⟨λh=>(by cases h),λh=>absurd h (by omega)⟩ | exact⟨λ_=>by omega,λ_=>rfl⟩,E.ab [1,47],I.sub⟩
  refine BY 5 E I (λfa a E=>?_) λfa a E=>?_
  ·
   refine RN 36 E I λa E=>?_;exact⟨_,_,by unfold iz;first | (rw[cp];omega) | exact⟨λh=>(by cases h),λh=>absurd h (by omega)⟩ | exact⟨λ_=>by omega,λ_=>rfl⟩,E.ab [1,47],I.sub⟩
  refine BY 5 E I (λm1 a E=>?_) λm1 a E=>?_
  ·
   refine RN 31 E I λa E=>?_;exact⟨_,_,by unfold iz;first | (rw[cp];omega) | exact⟨λh=>(by cases h),λh=>absurd h (by omega)⟩ | exact⟨λ_=>by omega,λ_=>rfl⟩,E.ab [1,47],I.sub⟩
  refine BY 5 E I (λtG a E=>?_) λtG a E=>?_
  ·
   refine RN 26 E I λa E=>?_;exact⟨_,_,by unfold iz;first | (rw[cp];omega) | exact⟨λh=>(by cases h),λh=>absurd h (by omega)⟩ | exact⟨λ_=>by omega,λ_=>rfl⟩,E.ab [1,47],I.sub⟩
  refine BY 5 E I (λmf a E=>?_) λmf a E=>?_
  ·
   refine RN 21 E I λa E=>?_;exact⟨_,_,by unfold iz;first | (rw[cp];omega) | exact⟨λh=>(by cases h),λh=>absurd h (by omega)⟩ | exact⟨λ_=>by omega,λ_=>rfl⟩,E.ab [1,47],I.sub⟩
  refine BY 5 E I (λXq a E=>?_) λXq a E=>?_
  ·
   refine RN 16 E I λa E=>?_;exact⟨_,_,by unfold iz;first | (rw[cp];omega) | exact⟨λh=>(by cases h),λh=>absurd h (by omega)⟩ | exact⟨λ_=>by omega,λ_=>rfl⟩,E.ab [1,47],I.sub⟩
  refine BY 7 E I (λXr a E=>?_) λXr a E=>?_
  ·
   refine RN 9 E I λa E=>?_;exact⟨_,_,by unfold iz;first | (rw[cp];omega) | exact⟨λh=>(by cases h),λh=>absurd h (by omega)⟩ | exact⟨λ_=>by omega,λ_=>rfl⟩,E.ab [1,47],I.sub⟩
  refine BY 5 E I (λXs a E=>?_) λXs a E=>?_
  ·
   refine RN 4 E I λa E=>?_;exact⟨_,_,by unfold iz;first | (rw[cp];omega) | exact⟨λh=>(by cases h),λh=>absurd h (by omega)⟩ | exact⟨λ_=>by omega,λ_=>rfl⟩,E.ab [1,47],I.sub⟩
  refine RN 4 E I λa E=>?_;exact⟨_,_,by unfold iz;first | (rw[cp];omega) | exact⟨λh=>(by cases h),λh=>absurd h (by omega)⟩ | exact⟨λ_=>by omega,λ_=>rfl⟩,E.ab [1,47],I.sub⟩
 clear E;(try clear I);rintro a w ⟨z,b1,hz,E,I⟩;refine IF 0 E I (λaj a E=>?_) λaj a E=>?_
 ·
  have hn:=hz.1 aj;refine RT 2 E I ?_;exact⟨_,rfl,⟨λh=>(by cases h),λh=>absurd ⟨z7 h,by have:=xN h;omega⟩ hn⟩,I.sub⟩
 have hh:iz p∧1≤p.kind∧p.kind≤2:=Classical.byContradiction λh=>by have:=hz.2 h;rw[aj]at this;cases this
 refine IF 5 E I (λao a E=>?_) λao a E=>?_
 ·
  have ch:p.kind=2:=ao;have j5:=Eb hh.1 ch;simp only[pj,forall_mem_cons,not_mem_nil,false_implies,implies_true,and_true]at j5;refine BY 5 E I (λbS a E=>?_) λbS a E=>?_
  ·
   refine BY 6 E I (λtZ a E=>?_) λtZ a E=>?_
   ·
    refine BY 5 E I (λkF a E=>?_) λkF a E=>?_
    ·
     refine BY 5 E I (λpn a E=>?_) λpn a E=>?_
     ·
      refine RT 5 E I ?_
      first | exact⟨_,rfl,by rw[j5];first | (rw[cp];omega) | exact⟨λh=>(by cases h),λh=>absurd h (by omega)⟩ | exact⟨λ_=>by omega,λ_=>rfl⟩,I.sub⟩ | exact⟨_,rfl,by rw[gF];first | (rw[cp];omega) | exact⟨λh=>(by cases h),λh=>absurd h (by omega)⟩ | exact⟨λ_=>by omega,λ_=>rfl⟩,I.sub⟩
     refine RT 5 E I ?_
     first | exact⟨_,rfl,by rw[j5];first | (rw[cp];omega) | exact⟨λh=>(by cases h),λh=>absurd h (by omega)⟩ | exact⟨λ_=>by omega,λ_=>rfl⟩,I.sub⟩ | exact⟨_,rfl,by rw[gF];first | (rw[cp];omega) | exact⟨λh=>(by cases h),λh=>absurd h (by omega)⟩ | exact⟨λ_=>by omega,λ_=>rfl⟩,I.sub⟩
    refine RT 10 E I ?_
    first | exact⟨_,rfl,by rw[j5];first | (rw[cp];omega) | exact⟨λh=>(by cases h),λh=>absurd h (by omega)⟩ | exact⟨λ_=>by omega,λ_=>rfl⟩,I.sub⟩ | exact⟨_,rfl,by rw[gF];first | (rw[cp];omega) | exact⟨λh=>(by cases h),λh=>absurd h (by omega)⟩ | exact⟨λ_=>by omega,λ_=>rfl⟩,I.sub⟩
   refine RT 15 E I ?_
   first | exact⟨_,rfl,by rw[j5];first | (rw[cp];omega) | exact⟨λh=>(by cases h),λh=>absurd h (by omega)⟩ | exact⟨λ_=>by omega,λ_=>rfl⟩,I.sub⟩ | exact⟨_,rfl,by rw[gF];first | (rw[cp];omega) | exact⟨λh=>(by cases h),λh=>absurd h (by omega)⟩ | exact⟨λ_=>by omega,λ_=>rfl⟩,I.sub⟩
  refine RT 21 E I ?_
  first | exact⟨_,rfl,by rw[j5];first | (rw[cp];omega) | exact⟨λh=>(by cases h),λh=>absurd h (by omega)⟩ | exact⟨λ_=>by omega,λ_=>rfl⟩,I.sub⟩ | exact⟨_,rfl,by rw[gF];first | (rw[cp];omega) | exact⟨λh=>(by cases h),λh=>absurd h (by omega)⟩ | exact⟨λ_=>by omega,λ_=>rfl⟩,I.sub⟩
 have gU:p.kind=1:=by omega
 have gF:=Ea hh.1 gU;rw[Xm]at gF;refine bg 3 E I (Ed I) λf1 a w E ⟨iV,I⟩=>?_;refine BY 1 E I (λbS a E=>?_) λbS a E=>?_
 ·
  have k1:=iV.1 bS;unfold eG at k1;refine bg 2 E I (Ed I) λf2 a w E ⟨jr,I⟩=>?_;refine BY 2 E I (λfa a E=>?_) λfa a E=>?_
  ·
   have k2:=jr.1 fa;unfold eG at k2;refine bg 2 E I (Ed I) λf3 a w E ⟨JP,I⟩=>?_;refine BY 2 E I (λm1 a E=>?_) λm1 a E=>?_
   ·
    have k3:=JP.1 m1;unfold eG at k3;refine RT 6 E I ?_
    first | exact⟨_,rfl,by rw[j5];first | (rw[cp];omega) | exact⟨λh=>(by cases h),λh=>absurd h (by omega)⟩ | exact⟨λ_=>by omega,λ_=>rfl⟩,I.sub⟩ | exact⟨_,rfl,by rw[gF];first | (rw[cp];omega) | exact⟨λh=>(by cases h),λh=>absurd h (by omega)⟩ | exact⟨λ_=>by omega,λ_=>rfl⟩,I.sub⟩
   have k3:¬ eG p.frame:=λh=>by rw[JP.2 h]at m1;cases m1
   unfold eG at k3;refine RT 6 E I ?_
   first | exact⟨_,rfl,by rw[j5];first | (rw[cp];omega) | exact⟨λh=>(by cases h),λh=>absurd h (by omega)⟩ | exact⟨λ_=>by omega,λ_=>rfl⟩,I.sub⟩ | exact⟨_,rfl,by rw[gF];first | (rw[cp];omega) | exact⟨λh=>(by cases h),λh=>absurd h (by omega)⟩ | exact⟨λ_=>by omega,λ_=>rfl⟩,I.sub⟩
  have k2:¬ eG p.c9:=λh=>by rw[jr.2 h]at fa;cases fa
  unfold eG at k2;refine RT 11 E I ?_
  first | exact⟨_,rfl,by rw[j5];first | (rw[cp];omega) | exact⟨λh=>(by cases h),λh=>absurd h (by omega)⟩ | exact⟨λ_=>by omega,λ_=>rfl⟩,I.sub⟩ | exact⟨_,rfl,by rw[gF];first | (rw[cp];omega) | exact⟨λh=>(by cases h),λh=>absurd h (by omega)⟩ | exact⟨λ_=>by omega,λ_=>rfl⟩,I.sub⟩
 have k1:¬ eG p.first:=λh=>by rw[iV.2 h]at bS;cases bS
 unfold eG at k1;refine RT 16 E I ?_
 first | exact⟨_,rfl,by rw[j5];first | (rw[cp];omega) | exact⟨λh=>(by cases h),λh=>absurd h (by omega)⟩ | exact⟨λ_=>by omega,λ_=>rfl⟩,I.sub⟩ | exact⟨_,rfl,by rw[gF];first | (rw[cp];omega) | exact⟨λh=>(by cases h),λh=>absurd h (by omega)⟩ | exact⟨λ_=>by omega,λ_=>rfl⟩,I.sub⟩
end
end
section
def q4 (p:Pk):List Int:=[p.first,p.c9,p.frame]
def hE (p:Pk)(i:Nat):List UInt8:=la p++(aO (zz p.id)++((q4 p).take i).flatMap λn=>aO (zz n))
theorem Xt {p:Pk}{i:Nat}(h:i<3):hE p (i+1)=hE p i++aO (zz ((q4 p).getD i 0)):=by
 have hl:i<(q4 p).length:=h;rw[hE,hE,iX hl,List.flatMap_append,dv,dv,bl,aI hl];simp
theorem JQ {p:Pk}(h:p.kind=1):hE p 3++(fc p.sum++(aO (zz (p.al.length:Int))++dy p.al 0))=ia p:=by
 simp[hE,ia,kM,mY,h,lI,q4]
theorem JR {p:Pk}(h:p.kind≠1):hE p 0=ia p:=by simp[hE,ia,kM,mY,h]
theorem Ee {p:Pk}(h:hs p){i:Nat}(hi:i≤3):(hE p i).length≤43:=by
 obtain⟨h1,h2,h3,h4,h5⟩:=h;have hq:∀ n:Int,0≤n→n≤1099511627776→(aO (zz n)).length≤10:=λn a b=>qY (by omega) (by omega);have hf:(0≤p.first∧p.first≤1000)∧(0≤p.c9∧p.c9≤1000)∧(0≤p.frame∧p.frame≤1000):=by unfold eG at h5;omega
 have a0:=hq p.id (by omega) (by omega);have cZ:=hq p.first (by omega) (by omega);have dT:=hq p.c9 (by omega) (by omega);have a3:=hq p.frame (by omega) (by omega);rcases (by omega:i=0∨i=1∨i=2∨i=3) with rfl | rfl | rfl | rfl <;> simp[hE,la,q4] <;> omega
theorem Xu {p:Pk}{i:Nat}(h:i<3):([Value.int .i64 p.first,.int .i64 p.c9,.int .i64 p.frame]:List Value)[i]?=some (.int .i64 ((q4 p).getD i 0)):=by
 rcases (by omega:i=0∨i=1∨i=2) with rfl | rfl | rfl <;> rfl
theorem Xv {p:Pk}(h:hs p)(i:Nat):0≤(q4 p).getD i 0∧(q4 p).getD i 0≤1000:=by
 have h5:=h.2.2.2.2;have hf:(0≤p.first∧p.first≤1000)∧(0≤p.c9∧p.c9≤1000)∧(0≤p.frame∧p.frame≤1000):=by unfold eG at h5;omega
 match i with
 | 0=>exact hf.1
 | 1=>exact hf.2.1
 | 2=>exact hf.2.2
 | _+3=>exact⟨Int.le_refl _,by show (0:Int)≤1000;omega⟩
theorem Ef {p:Pk}(h:hs p):[[Value.int .u8 p.kind],[Value.int .u8 p.aV],[Value.int .u8 p.to]].flatten=bc (la p):=by
 have hk:=xN h;obtain⟨h1,h2,h3,h4,h5⟩:=h;simp[bc,la,UInt8.toNat_ofNat'];omega
theorem JS {p:Pk}(h:hs p):(ia p).length≤503:=by
 have:=JE h;simp[ia,la];omega
section
variable {W w:World}{L:List SP}{n c:Nat}{ad:Option Addr}{bs:List UInt8}{p:Pk}
theorem JT (I:U W w L)(lJ:p.sum<4294967296)(hp:∀ V,U W V L→a6 V ad p.al.length p.al) :
   Calls prog 330 #[.agg (dI p ad c).toArray] w λe V=>∃ av c',e=.returned (.slice av (aS p).length c')∧U W V (Sl 5 1 av (aS p).length c' (bc (aS p))::L):=by
 refine EN func330 ntmps330 rfl rfl λa E=>?_;refine BX 1 E I λb1 a w E I=>?_;refine bg 4 E I (Xn (p:=p) (ad:=ad) (c:=c) I) λr1 a w E ⟨e8,I⟩=>?_;refine IF 1 E I (λaj a E=>?_) λaj a E=>?_
 ·
  have hn:¬ hs p:=λh=>by rw[e8.2 h]at aj;cases aj
  refine RT 2 E I ?_;have he:aS p=[]:=by rw[aS,ae hn]
  rw[he];exact⟨none,0,rfl,I.tail.bM _ _ _⟩
 have hm:hs p:=e8.1 aj;have hk:=xN hm;have hh:=z7 hm;unfold iz at hh;have he:aS p=ia p++fc (jf (ia p)):=by rw[aS,ak hm,pd]
 have nW:=JS hm;refine SX 3 E I (by rw[wrap_u8];omega) λa E=>?_;refine SX 2 E I (by rw[wrap_u8];omega) λa E=>?_;refine SX 2 E I (by rw[wrap_u8];omega) λa E=>?_;refine RN 0 E I λa E=>?_;refine cn E rfl I underlying22 Ty.t5 rfl rfl rfl rfl (by decide) (by decide) λsx a w E I ho=>?_;clear ho;replace I:=I.DD (l:=la p) rfl rfl (Ef hm);refine aY 2 E I (sf (bs:=la p) (N:=p.id) I (by omega) (by omega) (by simp[la])) λfl dC a w E I=>?_;refine RN 1 E I λa E=>?_;rw[show la p++aO (zz p.id)=hE p 0 from by simp[hE]]at E I;refine b7 (M:=λa w=>∃ (fl:Option Addr) (dC:Nat),Fr a 58 [(3,.slice fl (ia p).length dC)]∧U W w (Sl 5 1 fl (ia p).length dC (bc (ia p))::L)) ?_ ?_
 ·
  refine IF 4 E I (λao a E=>?_) λao a E=>?_
  ·
   have gU:p.kind=1:=ao;have eB:p.al.length≤32:=by have:=hm.2.2.2.2;omega
   refine RN 8 E I λa E=>?_;refine SS E (B8 E underlying429 Ty.t429 Ty.t3 rfl rfl) λa E=>?_;refine RN 1 E I λa E=>?_;refine aR (λμ a w=>∃ (i dC:Nat) (fl:Option Addr),(μ=3-i∧i≤3)∧Fr a 58 [(1,pt b1),(3,.slice fl (hE p i).length dC),(31,.agg #[.int .i64 p.first,.int .i64 p.c9,.int .i64 p.frame]),(32,.int .i64 i)]∧U W w (Sl 5 1 fl (hE p i).length dC (bc (hE p i))::aa b1 203 (dI p ad c)::L)) (3) (⟨0,dC,fl,⟨rfl,by omega⟩,E.ab [1,3,31,32],I⟩) ?_;clear E I;rintro μ a w ⟨i,dC,fl,⟨rfl,hi⟩,E,I⟩;refine IF 3 E I (λay a E=>?_) λay a E=>?_
   ·
    refine RN 2 E I λa E=>?_;refine SS E (rM E underlying429 underlying3 rfl Ty.t3 (by omega) (Xu (p:=p) (by omega))) λa E=>?_;refine RN 1 E I λa E=>?_;have cD:=Xv hm i;have nS:=Ee hm (show i≤3 by omega);refine aY 2 E I (sf I (by omega) (by omega) (by omega)) λl4 g8 a w E I=>?_;refine RN 1 E I λa E=>?_;rw[← Xt (by omega)]at E I;refine RN 2 E I λa E=>?_;exact⟨3-(i+1),by omega,i+1,_,_,⟨rfl,by omega⟩,E.ab [1,3,31,32],I.sub⟩
   obtain rfl:i=3:=by omega
   have nS:=Ee hm (bf 3);have ib:=qY (n:=(p.al.length:Int)) (by omega) (by omega);have jd:=JQ gU;generalize hE p 3=Xw at E I nS jd;refine aZ 1 (λw0 w=>Rd w b1 0 (dI p ad c)) [3,4,6,7] [0,1,5,3002,3006,3007,1003,1004,1008,9] E I λa w E I hH=>?_;have hC:Rd w b1 0 (dI p ad c):=I.ai;refine RH 3 E I hH hC λa E=>?_;refine QH E (λw hc=>ag E (hc 8 _ rfl)) hC λa E=>?_;refine QH E (λw hc=>ag E (hc 5 _ rfl)) hC λa E=>?_;refine RH 1 E I hH hC λa E=>?_;refine bg 0 E I (Ju I) λed a w E I=>?_;replace hC:=hH.at w I.ai;refine RH 0 E I hH hC λa E=>?_;refine gV E rfl I underlying22 Ty.t5 rfl rfl (by decide) (λh0=>(I.cF ed (fc p.sum) rfl rfl).get h0) (by rw[dw];rfl) (ep _) (by rw[ml];omega) λvN D6 a w E I=>?_;replace hC:=hH.at w I.ai;rw[← fH,← aL]at I;rw[← aL]at E;refine RH 0 E I hH hC λa E=>?_;refine aY 0 E I (sf I (by omega) (by omega) (by rw[aL,ml];omega)) λsa nX a w E I=>?_;refine RN 1 E I λa E=>?_;have iM:=xK p.al 0;generalize hu:Xw++fc p.sum++aO (zz (p.al.length:Int))=vP at E I;have aeE:vP.length≤60:=by rw[← hu];simp[ml];omega
   refine aY 3 E I (Xf (bs:=p.al) I (by omega) (λV hw=>hp V hw.sub)) λrU qH a w E I=>?_;refine RN 0 E I λa E=>?_;refine gV E rfl I underlying22 Ty.t5 rfl rfl (by decide) (λh0=>(I.cF rU _ rfl rfl).get h0) (by rw[dw,Nat.mul_one]) (ep _) (by omega) λq5 q6 a w E I=>?_;refine RN 1 E I λa E=>?_;rw[← fH,show vP.length+(dy p.al 0).length=(vP++dy p.al 0).length from by rw[aL]]at I;rw[show vP.length+(dy p.al 0).length=(vP++dy p.al 0).length from by rw[aL]]at E;rw[show vP++dy p.al 0=ia p from by rw[← hu,← jd];simp]at E I;exact⟨_,_,E.ab [3],I.sub⟩
  rw[JR (by omega)]at E I;refine RN 0 E I λa E=>?_;exact⟨_,_,E.ab [3],I.sub⟩
 clear E;(try clear I);rintro a w ⟨fl,dC,E,I⟩;refine CL 3 E I (Jr I (by omega) (λV hw=>hw.cF fl _ rfl rfl)) λa w E I=>?_;refine bg 0 E I (Ju I) λz8 a w E I=>?_;refine RN 0 E I λa E=>?_;refine gV E rfl I underlying22 Ty.t5 rfl rfl (by decide) (λh0=>(I.cF z8 (fc (jf (ia p))) rfl rfl).get h0) (by rw[dw];rfl) (ep _) (by rw[ml];omega) λEg Eh a w E I=>?_;refine RT 1 E I ?_;rw[he];rw[← fH,← aL]at I;rw[← aL];exact⟨_,_,rfl,I.sub⟩
theorem Ei (I:U W w L)(lJ:p.sum<4294967296)(hp:∀ V,U W V L→a6 V ad p.al.length p.al) :
   Calls prog 114 #[.agg (dI p ad c).toArray] w λe V=>∃ av c',e=.returned (.slice av (aS p).length c')∧U W V (Sl 5 1 av (aS p).length c' (bc (aS p))::L):=by
 refine EN func114 ntmps114 rfl rfl λa E=>?_;refine BX 1 E I λb1 a w E I=>?_;refine bg 4 E I (Xp (p:=p) (ad:=ad) (c:=c) I) λr1 a w E ⟨e8,I⟩=>?_;refine IF 1 E I (λaj a E=>?_) λaj a E=>?_
 ·
  have hn:¬ hs p:=λh=>by rw[e8.2 h]at aj;cases aj
  refine RT 2 E I ?_;have he:aS p=[]:=by rw[aS,ae hn]
  rw[he];exact⟨none,0,rfl,I.tail.bM _ _ _⟩
 have hm:hs p:=e8.1 aj;have hk:=xN hm;have hh:=z7 hm;unfold iz at hh;have he:aS p=ia p++fc (jf (ia p)):=by rw[aS,ak hm,pd]
 have nW:=JS hm;have bO:=qY (n:=p.id) (by omega) (by omega);refine RN 0 E I λa E=>?_;refine b7 (M:=λa w=>∃ (a3:Option Addr) (dC:Nat),Fr a 57 [(1,pt b1),(3,.slice a3 (hE p 0).length dC)]∧U W w (Sl 5 1 a3 (hE p 0).length dC (bc (hE p 0))::aa b1 203 (dI p ad c)::L)) ?_ ?_
 ·
  refine aZ 0 (λw0 w=>Rd w b1 0 (dI p ad c)) [4,5,7,8,9,11,12] [0,3,6,10,3001,2,3004,3005,3007,3008,3011,2009,1012,1013,14] E I λa w E I hH=>?_;have hC:Rd w b1 0 (dI p ad c):=I.ai;refine RH 4 E I hH hC λa E=>?_;refine QH E (λw hc=>ag E (hc 0 _ rfl)) hC λa E=>?_;refine QP E (λw=>oR E underlying3 underlying5 (by rw[wrap_u8];omega)) λa E=>?_;refine QH E (λw hc=>ag E (hc 1 _ rfl)) hC λa E=>?_;refine QH E (λw hc=>oR E underlying3 underlying5 (by rw[wrap_u8];omega)) hC λa E=>?_;refine QH E (λw hc=>ag E (hc 2 _ rfl)) hC λa E=>?_;refine QH E (λw hc=>oR E underlying3 underlying5 (by rw[wrap_u8];omega)) hC λa E=>?_;refine QH E (λw hc=>ag E (hc 3 _ rfl)) hC λa E=>?_;refine RH 0 E I hH hC λa E=>?_;refine DN [(9,[1012,1013,14]),(12,[1009,1013,14])] (by kernel_rfl) rfl ⟨⟨_,rfl,?_⟩,⟨_,rfl,?_⟩,trivial⟩
  ·
   refine RH 0 E I hH hC λa E=>?_;refine cn E rfl I underlying22 Ty.t5 rfl rfl rfl rfl (by decide) (by decide) λuc a w E I ho=>?_;clear ho;replace hC:=hH.at w I.ai;replace I:=I.DD (l:=la p) rfl rfl (Ef hm);refine RH 0 E I hH hC λa E=>?_;refine aY 0 E I (sE (N:=p.id) I (by omega) (by omega)) λcV dN a w E I=>?_;replace hC:=hH.at w I.ai;refine RH 0 E I hH hC λa E=>?_;refine gV E rfl I underlying22 Ty.t5 rfl rfl (by decide) (λh0=>(I.cF cV (aO (zz p.id)) rfl rfl).get h0) (by rw[dw,Nat.mul_one]) (ep _) (by omega) λxu C5 a w E I=>?_;refine RN 1 E I λa E=>?_;rw[show 3+(aO (zz p.id)).length=(la p++aO (zz p.id)).length from by rw[aL];rfl]at E I;rw[← fH]at I;rw[show la p++aO (zz p.id)=hE p 0 from by simp[hE]]at E I
   skip
   exact⟨_,_,E.ab [1,3],I.sub⟩
  refine RH 0 E I hH hC λa E=>?_;refine aY 0 E I (sE (N:=p.id) I (by omega) (by omega)) λcV dN a w E I=>?_;replace hC:=hH.at w I.ai;refine RH 0 E I hH hC λa E=>?_;refine cn E rfl I underlying22 Ty.t5 rfl rfl rfl rfl (by decide) (by decide) λuc a w E I ho=>?_;clear ho;replace hC:=hH.at w I.ai;replace I:=I.DD (l:=la p) rfl rfl (Ef hm);refine RH 0 E I hH hC λa E=>?_;refine gV E rfl I underlying22 Ty.t5 rfl rfl (by decide) (λh0=>(I.cF cV (aO (zz p.id)) rfl rfl).get h0) (by rw[dw,Nat.mul_one]) (ep _) (by omega) λxu C5 a w E I=>?_;refine RN 1 E I λa E=>?_;rw[show 3+(aO (zz p.id)).length=(la p++aO (zz p.id)).length from by rw[aL];rfl]at E I;rw[← fH]at I;rw[show la p++aO (zz p.id)=hE p 0 from by simp[hE]]at E I
  skip
  exact⟨_,_,E.ab [1,3],I.sub⟩
 clear E;(try clear I);rintro a w ⟨a3,dC,E,I⟩;refine b7 (M:=λa w=>∃ (fl:Option Addr) (dC:Nat),Fr a 57 [(3,.slice fl (ia p).length dC)]∧U W w (Sl 5 1 fl (ia p).length dC (bc (ia p))::L)) ?_ ?_
 ·
  refine IF 4 E I (λao a E=>?_) λao a E=>?_
  ·
   have gU:p.kind=1:=ao;have eB:p.al.length≤32:=by have:=hm.2.2.2.2;omega
   have om:(0≤p.first∧p.first≤1000)∧(0≤p.c9∧p.c9≤1000)∧(0≤p.frame∧p.frame≤1000):=by have:=hm.2.2.2.2;unfold eG at this;omega
   have q1:=qY (n:=p.first) (by omega) (by omega);have q2:=qY (n:=p.c9) (by omega) (by omega);have DU:=qY (n:=p.frame) (by omega) (by omega);have DV:=qY (n:=(p.al.length:Int)) (by omega) (by omega);have nS:=Ee hm (show 0≤3 by decide);have jd:hE p 0++aO (zz p.first)++aO (zz p.c9)++aO (zz p.frame)++fc p.sum++aO (zz (p.al.length:Int))++dy p.al 0=ia p:=by rw[← JQ gU];simp[hE,q4]
   generalize hu0:hE p 0=xO at E I nS jd;refine aZ 1 (λw0 w=>Rd w b1 0 (dI p ad c)) [3,4,6] [0,1,5,3002,3006,1003,1004,1007,1008,9] E I λa w E I hH=>?_;have hC:Rd w b1 0 (dI p ad c):=I.ai;refine RH 3 E I hH hC λa E=>?_;refine QH E (λw hc=>ag E (hc 4 _ rfl)) hC λa E=>?_;refine QH E (λw hc=>ag E (hc 6 _ rfl)) hC λa E=>?_;refine RH 0 E I hH hC λa E=>?_;refine aY 0 E I (sE I (by omega) (by omega)) λcZ dK a w E I=>?_;replace hC:=hH.at w I.ai;refine RH 0 E I hH hC λa E=>?_;refine gV E rfl I underlying22 Ty.t5 rfl rfl (by decide) (λh0=>(I.cF cZ (aO (zz p.first)) rfl rfl).get h0) (by rw[dw,Nat.mul_one]) (ep _) (by omega) λaeF c28 a w E I=>?_;replace hC:=hH.at w I.ai;rw[← fH,← aL]at I;rw[← aL]at E;refine RH 0 E I hH hC λa E=>?_;refine aY 0 E I (sE I (by omega) (by omega)) λdT c2 a w E I=>?_;have kD:(xO++aO (zz p.first)).length≤53:=by rw[aL];omega
   refine RN 0 E I λa E=>?_;refine gV E rfl I underlying22 Ty.t5 rfl rfl (by decide) (λh0=>(I.cF dT (aO (zz p.c9)) rfl rfl).get h0) (by rw[dw,Nat.mul_one]) (ep _) (by omega) λXx Xy a w E I=>?_;rw[← fH,← aL]at I;rw[← aL]at E;refine RN 1 E I λa E=>?_;replace I:=I.sub (M:=Sl 5 1 Xx (xO++aO (zz p.first)++aO (zz p.c9)).length Xy (bc (xO++aO (zz p.first)++aO (zz p.c9)))::aa b1 203 (dI p ad c)::L);have l3:(xO++aO (zz p.first)++aO (zz p.c9)).length≤63:=by rw[aL];omega
   generalize xO++aO (zz p.first)++aO (zz p.c9)=xP at E I l3 jd;refine aZ 1 (λw0 w=>Rd w b1 0 (dI p ad c)) [3,4,6] [0,1,5,3002,3006,1003,1004,1007,1008,9] E I λa w E I hH=>?_;have hC:Rd w b1 0 (dI p ad c):=I.ai;refine RH 3 E I hH hC λa E=>?_;refine QH E (λw hc=>ag E (hc 7 _ rfl)) hC λa E=>?_;refine QH E (λw hc=>ag E (hc 8 _ rfl)) hC λa E=>?_;refine RH 0 E I hH hC λa E=>?_;refine aY 0 E I (sE I (by omega) (by omega)) λcZ dK a w E I=>?_;replace hC:=hH.at w I.ai;refine RH 0 E I hH hC λa E=>?_;refine gV E rfl I underlying22 Ty.t5 rfl rfl (by decide) (λh0=>(I.cF cZ (aO (zz p.frame)) rfl rfl).get h0) (by rw[dw,Nat.mul_one]) (ep _) (by omega) λXz XA a w E I=>?_;replace hC:=hH.at w I.ai;rw[← fH,← aL]at I;rw[← aL]at E;refine RH 0 E I hH hC λa E=>?_;refine bg 0 E I (DJ I) λdT a w E I=>?_;have kD:(xP++aO (zz p.frame)).length≤73:=by rw[aL];omega
   refine RN 0 E I λa E=>?_;refine gV E rfl I underlying22 Ty.t5 rfl rfl (by decide) (λh0=>(I.cF dT (fc p.sum) rfl rfl).get h0) (by rw[dw];rfl) (ep _) (by rw[ml];omega) λxM D3 a w E I=>?_;rw[← fH,← aL]at I;rw[← aL]at E;refine RN 1 E I λa E=>?_;replace I:=I.sub (M:=Sl 5 1 xM (xP++aO (zz p.frame)++fc p.sum).length D3 (bc (xP++aO (zz p.frame)++fc p.sum))::aa b1 203 (dI p ad c)::L);have l3:(xP++aO (zz p.frame)++fc p.sum).length≤77:=by rw[aL,ml];omega
   generalize xP++aO (zz p.frame)++fc p.sum=XB at E I l3 jd;refine aZ 0 (λw0 w=>Rd w b1 0 (dI p ad c)) [4,5,7] [0,1,6,3002,3,3007,1004,1005,1008,1009,10] E I λa w E I hH=>?_;have hC:Rd w b1 0 (dI p ad c):=I.ai;have iM:=xK p.al 0;refine RH 3 E I hH hC λa E=>?_;refine QH E (λw hc=>ag E (hc 5 _ rfl)) hC λa E=>?_;refine RH 1 E I hH hC λa E=>?_;refine QH E (λw hc=>ag E (hc 5 _ rfl)) hC λa E=>?_;refine RH 0 E I hH hC λa E=>?_;refine aY 0 E I (sE I (by omega) (by omega)) λcZ dK a w E I=>?_;replace hC:=hH.at w I.ai;refine RH 0 E I hH hC λa E=>?_;refine gV E rfl I underlying22 Ty.t5 rfl rfl (by decide) (λh0=>(I.cF cZ (aO (zz (p.al.length:Int))) rfl rfl).get h0) (by rw[dw,Nat.mul_one]) (ep _) (by omega) λpo q7 a w E I=>?_;replace hC:=hH.at w I.ai;rw[← fH,← aL]at I;rw[← aL]at E;refine RH 0 E I hH hC λa E=>?_;refine aY 0 E I (Xg (bs:=p.al) I (by omega) (λV hw=>hp V hw.sub)) λdT c2 a w E I=>?_;have kD:(XB++aO (zz (p.al.length:Int))).length≤87:=by rw[aL];omega
   refine RN 0 E I λa E=>?_;refine gV E rfl I underlying22 Ty.t5 rfl rfl (by decide) (λh0=>(I.cF dT (dy p.al 0) rfl rfl).get h0) (by rw[dw,Nat.mul_one]) (ep _) (by omega) λJU JV a w E I=>?_;rw[← fH,← aL]at I;rw[← aL]at E;refine RN 1 E I λa E=>?_;rw[jd]at E I;exact⟨_,_,E.ab [3],I.sub⟩
  rw[JR (by omega)]at E I;refine RN 0 E I λa E=>?_;exact⟨_,_,E.ab [3],I.sub⟩
 clear E;(try clear I);rintro a w ⟨fl,dC,E,I⟩;refine CL 3 E I (Jt I (by omega) (λV hw=>hw.cF fl _ rfl rfl)) λa w E I=>?_;refine bg 0 E I (DJ I) λz8 a w E I=>?_;refine RN 0 E I λa E=>?_;refine gV E rfl I underlying22 Ty.t5 rfl rfl (by decide) (λh0=>(I.cF z8 (fc (jf (ia p))) rfl rfl).get h0) (by rw[dw];rfl) (ep _) (by rw[ml];omega) λaeG c56 a w E I=>?_;refine RT 1 E I ?_;rw[he];rw[← fH,← aL]at I;rw[← aL];exact⟨_,_,rfl,I.sub⟩
end
end
end Go.Proofs.YteoldcfapaiobaaGreat
