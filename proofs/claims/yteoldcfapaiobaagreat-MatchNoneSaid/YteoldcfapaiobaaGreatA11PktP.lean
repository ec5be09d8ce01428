/- Plain side of numbers read, of runs and of packets: what is written is read. -/
import Derived.Test.YteoldcfapaiobaaGreatA10Wk
namespace Go.Proofs.YteoldcfapaiobaaGreat
open Go.RowKit
set_option linter.unusedVariables false
set_option linter.unusedSimpArgs false
set_option maxRecDepth 10000
set_option synthInstance.maxSize 4000
set_option synthInstance.maxHeartbeats 400000
section
def getL:List UInt8→Nat→Nat→Option (Nat×Nat)
 | [],_,_=>none
 | c::cs,i,u =>
   if i=9∧1<c.toNat then none
   else if 127<c.toNat then getL cs (i+1) (u+c.toNat%128*128 ^ i)
   else if 0<i∧c.toNat=0 then none
   else some (u+c.toNat*128 ^ i,i+1)
def getF (bs:List UInt8):Option (Nat×Nat):=getL bs 0 0
def unzz (u:Nat):Int:=if u%2=1 then -((u/2:Nat):Int)-1 else ((u/2:Nat):Int)
theorem unzz_zz (n:Int):unzz (zz n)=n:=by
 unfold unzz zz
 split <;> split <;> omega
theorem zz_lt {n:Int}(h1:-9223372036854775808≤n)(h2:n≤9223372036854775807):zz n<18446744073709551616:=by
 unfold zz;split <;> omega
theorem pow_mul128 (i:Nat):128 ^ (i+1)=128 ^ i*128:=Nat.pow_succ ..
theorem getL_put (r:List UInt8):∀ (v i u:Nat),v*128 ^ i<18446744073709551616→(i=0∨0<v)→i≤9→getL (putL v++r) i u=some (u+v*128 ^ i,i+(putL v).length):=by
 intro v
 induction v using Nat.strongRecOn with
 | _ v ih =>
   intro i u hv h0 hi
   by_cases hs:v≤127
   · rw[putL_small hs]
     have hb:(UInt8.ofNat v).toNat=v:=by rw[UInt8.toNat_ofNat'];omega
     simp only[List.cons_append,List.nil_append,getL,hb,List.length_singleton]
     have h9:¬ (i=9∧1<v):=by
       rintro⟨hi9,h⟩
       rw[hi9]at hv
       have:v*128 ^ 9 ≥ 2*128 ^ 9:=Nat.mul_le_mul_right _ h
       have h9':(128:Nat) ^ 9=9223372036854775808:=by decide
       omega
     rw[if_neg h9,if_neg (by omega),if_neg (by omega)]
   · rw[putL_big hs]
     have hb:(UInt8.ofNat (v%128+128)).toNat=v%128+128:=by rw[UInt8.toNat_ofNat'];omega
     simp only[List.cons_append,getL,hb,List.length_cons]
     have hle:128 ^ (i+1)≤v*128 ^ i:=by rw[pow_mul128,Nat.mul_comm];exact Nat.mul_le_mul_right _ (by omega)
     have hi9:i+1≤9:=by
       rcases Nat.lt_or_ge i 9 with h | h
       · omega
       · have:128 ^ 10≤128 ^ (i+1):=Nat.pow_le_pow_right (by decide) (by omega)
         have h10:(128:Nat) ^ 10=1180591620717411303424:=by decide
         omega
     have hdv:v/128*128 ^ (i+1)+v%128*128 ^ i=v*128 ^ i:=by
       rw[pow_mul128,show v/128*(128 ^ i*128)=128*(v/128)*128 ^ i from by rw[Nat.mul_comm (128 ^ i),← Nat.mul_assoc,Nat.mul_comm (v/128)],← Nat.add_mul,Nat.div_add_mod]
     rw[if_neg (by omega),if_pos (by omega),ih (v/128) (by omega) (i+1) _ (by omega) (.inr (by omega)) hi9]
     rw[show (v%128+128)%128=v%128 from by omega]
     congr 2
     · omega
     · omega
theorem getF_put {n:Int}(h1:-9223372036854775808≤n)(h2:n≤9223372036854775807)(r:List UInt8):getF (putL (zz n)++r)=some (zz n,(putL (zz n)).length):=by
 have:=getL_put r (zz n) 0 0 (by have:=zz_lt h1 h2;omega) (.inl rfl) (by decide)
 simpa [getF] using this
theorem getL_bd:∀ (bs:List UInt8) (i u:Nat) {v k:Nat},i≤9→u<128 ^ i→getL bs i u=some (v,k)→v<18446744073709551616∧i+1≤k∧k≤i+bs.length∧k≤10
 | [],_,_,_,_,_,_,h=>by cases h
 | c::cs,i,u,v,k,hi,hu,h=>by
   rw[getL]at h
   have hc:=u8_lt c
   have hp:128 ^ i≤128 ^ 9:=Nat.pow_le_pow_right (by decide) hi
   have h9:(128:Nat) ^ 9=9223372036854775808:=by decide
   split at h
   · cases h
   rename_i n9
   split at h
   · rename_i hb
     have hm:c.toNat%128*128 ^ i≤127*128 ^ i:=Nat.mul_le_mul_right _ (by omega)
     have:=getL_bd cs (i+1) _ (by omega) (by rw[pow_mul128];omega) h
     simp only[List.length_cons]
     omega
   · rename_i hb
     split at h
     · cases h
     · obtain⟨rfl,rfl⟩:u+c.toNat*128 ^ i=v∧i+1=k:=by simpa using h
       simp only[List.length_cons]
       refine⟨?_,by omega,by omega,by omega⟩
       rcases Nat.lt_or_ge i 9 with h8 | h8
       · have hp8:128 ^ i≤128 ^ 8:=Nat.pow_le_pow_right (by decide) (by omega)
         have h88:(128:Nat) ^ 8=72057594037927936:=by decide
         have hm:c.toNat*128 ^ i≤127*128 ^ i:=Nat.mul_le_mul_right _ (by omega)
         omega
       · have:i=9:=by omega
         subst this
         have hm:c.toNat*128 ^ 9≤1*128 ^ 9:=Nat.mul_le_mul_right _ (by omega)
         omega
theorem getF_bd {bs:List UInt8}{v k:Nat}(h:getF bs=some (v,k)):v<18446744073709551616∧1≤k∧k≤bs.length∧k≤10:=by
 have:=getL_bd bs 0 0 (by decide) (by decide) h
 omega
def GetR (bs:List UInt8)(x:Int)(k:Nat)(er:Int):Prop :=
 (-9223372036854775808≤x∧x≤9223372036854775807)∧(er=0∨er=1∨er=2)∧(er=0→1≤k∧k≤bs.length)∧(er≠0→k=0∧x=0) ∧
 ∀ (n:Int) (r:List UInt8), -9223372036854775808≤n→n≤9223372036854775807→bs=putL (zz n)++r→x=n∧k=(putL (zz n)).length∧er=0
theorem GetR.bad {bs:List UInt8}{er:Int}(h:getF bs=none)(he:er=1∨er=2):GetR bs 0 0 er:=by
 refine⟨by omega,by omega,by omega,λ_=>⟨rfl,rfl⟩,λn r h1 h2 e=>?_⟩
 rw[e,getF_put h1 h2]at h;cases h
theorem GetR.good {bs:List UInt8}{u k:Nat}(h:getF bs=some (u,k)):GetR bs (unzz u) k 0:=by
 have hb:=getF_bd h
 refine⟨?_,by omega,by omega,by omega,λn r h1 h2 e=>?_⟩
 · unfold unzz;split <;> omega
 · rw[e,getF_put h1 h2]at h
   obtain⟨rfl,rfl⟩:zz n=u∧(putL (zz n)).length=k:=by simpa using h
   exact⟨unzz_zz n,rfl,rfl⟩
def runN (x:UInt8):List UInt8→Nat
 | []=>0
 | y::ys=>if y=x then runN x ys+1 else 0
theorem runN_le (x:UInt8):∀ l:List UInt8,runN x l≤l.length
 | []=>Nat.le_refl _
 | y::ys=>by
   have:=runN_le x ys
   rw[runN];split <;> simp only[List.length_cons] <;> omega
def runsL (l:List UInt8)(last:UInt8):List UInt8:=match l with
 | []=>[]
 | x::xs=>putL (zz ((runN x xs+1:Nat):Int))++(x ^^^ last)::runsL (xs.drop (runN x xs)) x
termination_by l.length
decreasing_by simp only[List.length_drop,List.length_cons];omega
theorem runsL_nil (last:UInt8):runsL [] last=[]:=by rw[runsL]
theorem runsL_cons (x:UInt8)(xs:List UInt8)(last:UInt8):runsL (x::xs) last=putL (zz ((runN x xs+1:Nat):Int))++(x ^^^ last)::runsL (xs.drop (runN x xs)) x:=by rw[runsL]
theorem runN_take (x:UInt8):∀ l:List UInt8,l.take (runN x l)=List.replicate (runN x l) x
 | []=>rfl
 | y::ys=>by
   rw[runN]
   split
   · rename_i h;subst h;rw[List.take_succ_cons,runN_take y ys,List.replicate_succ]
   · rfl
theorem runN_next (x:UInt8):∀ (l:List UInt8) (y:UInt8) (r:List UInt8),l.drop (runN x l)=y::r→y≠x
 | [],_,_,h=>by simp[runN]at h
 | z::zs,y,r,h=>by
   rw[runN]at h
   split at h
   · exact runN_next x zs y r h
   · rename_i hn
     rw[List.drop_zero]at h
     cases h;exact hn
theorem runN_eq {x:UInt8}{l:List UInt8}{n:Nat}(h1:∀ i,i<n→l[i]?=some x)(h2:l[n]?≠some x):runN x l=n:=by
 induction l generalizing n with
 | nil =>
   cases n with
   | zero=>rfl
   | succ n=>have:=h1 0 (by omega);simp at this
 | cons y ys ih =>
   cases n with
   | zero =>
     rw[runN,if_neg]
     intro e;subst e;simp at h2
   | succ n =>
     have h0:=h1 0 (by omega)
     simp at h0
     rw[runN,if_pos h0,ih (n:=n) (λi hi=>by have:=h1 (i+1) (by omega);simpa using this) (by simpa using h2)]
theorem runsL_len (l:List UInt8):∀ last,(runsL l last).length≤11*l.length:=by
 induction hn:l.length using Nat.strongRecOn generalizing l with
 | _ n ih =>
   intro last
   cases l with
   | nil=>rw[runsL_nil];simp
   | cons x xs =>
     rw[runsL_cons,List.length_append,List.length_cons]
     have h1:=runN_le x xs
     subst hn
     simp only[List.length_cons]
     by_cases hb:xs.length<4611686018427387904
     · have h2 := putL_len 9 (zz ((runN x xs + 1 : Nat) : Int)) (by
         have:zz ((runN x xs+1:Nat):Int)=2*(runN x xs+1):=by unfold zz;rw[if_neg (by omega)];omega
         rw[this]
         have h10:(128:Nat) ^ (9+1)=1180591620717411303424:=by decide
         omega)
       have h3:=ih (xs.drop (runN x xs)).length (by simp only[List.length_drop,List.length_cons];omega) (xs.drop (runN x xs)) rfl x
       simp only[List.length_drop]at h3
       omega
     · have h2 : (putL (zz ((runN x xs + 1 : Nat) : Int))).length ≤ runN x xs + 10 := by
         have:∀ u,(putL (2*(u+1))).length≤u+10:=by
           intro u
           induction u using Nat.strongRecOn with
           | _ u ih =>
             by_cases h:2*(u+1)≤127
             · rw[putL_small h];simp
             · rw[putL_big h,List.length_cons]
               by_cases h2:2*(u+1)/128≤127
               · rw[putL_small h2];simp
               · have hq : ∀ v, (putL v).length ≤ v + 1 := by
                   intro v
                   induction v using Nat.strongRecOn with
                   | _ v ihv =>
                     by_cases h3:v≤127
                     · rw[putL_small h3];simp
                     · rw[putL_big h3,List.length_cons]
                       have:=ihv (v/128) (by omega)
                       omega
                 have:=hq (2*(u+1)/128)
                 omega
         have hz:zz ((runN x xs+1:Nat):Int)=2*(runN x xs+1):=by unfold zz;rw[if_neg (by omega)];omega
         rw[hz];exact this _
       have h3:=ih (xs.drop (runN x xs)).length (by simp only[List.length_drop,List.length_cons];omega) (xs.drop (runN x xs)) rfl x
       simp only[List.length_drop]at h3
       omega
theorem xor_back (a b:UInt8):b ^^^ (a ^^^ b)=a:=by rw[UInt8.xor_comm,UInt8.xor_assoc,UInt8.xor_self,UInt8.xor_zero]
theorem xor_zero_iff {a b:UInt8}(h:(a ^^^ b).toNat=0):a=b:=by
 have h0:a ^^^ b=0:=UInt8.toNat_inj.1 (by simpa using h)
 have:=xor_back a b
 rw[h0,UInt8.xor_zero]at this
 exact this.symm
def RunsAt (p out:List UInt8)(last:UInt8)(rest:List UInt8):Prop:=∃ q,p=out++q∧rest=runsL q last∧(out=[]∨∀ y r,q=y::r→y≠last)
theorem RunsAt.start (p:List UInt8):RunsAt p [] 0 (runsL p 0):=⟨p,rfl,rfl,.inl rfl⟩
theorem RunsAt.done {p out:List UInt8}{last:UInt8}(h:RunsAt p out last []):p=out:=by
 obtain⟨q,h1,h2,_⟩:=h
 cases q with
 | nil=>simpa using h1
 | cons x xs =>
   rw[runsL_cons]at h2
   have:=congrArg List.length h2
   simp at this
theorem RunsAt.next {p out:List UInt8}{last:UInt8}{rest:List UInt8}(h:RunsAt p out last rest)(h0:rest≠[]):∃ (m:Nat) (x:UInt8) (r:List UInt8),rest=putL (zz ((m+1:Nat):Int))++(x ^^^ last)::r ∧
   out.length+(m+1)≤p.length∧(out≠[]→(x ^^^ last).toNat≠0)∧RunsAt p (out++List.replicate (m+1) x) x r:=by
 obtain⟨q,h1,h2,h3⟩:=h
 cases q with
 | nil=>rw[runsL_nil]at h2;exact absurd h2 h0
 | cons x xs =>
   rw[runsL_cons]at h2
   have hle:=runN_le x xs
   refine⟨runN x xs,x,_,h2,by rw[h1];simp;omega,λho hz=>?_,xs.drop (runN x xs),?_,rfl,.inr λy r hy=>runN_next x xs y r hy⟩
   · rcases h3 with h3 | h3
     · exact ho h3
     · exact h3 x xs rfl (xor_zero_iff hz)
   · rw[h1,List.append_assoc]
     congr 1
     rw[List.replicate_succ,← runN_take,List.cons_append,List.take_append_drop]
structure Pk where
 kind:Int
 from':Int
 to:Int
 id:Int
 first:Int
 ack:Int
 frame:Int
 sum:Nat
 press:List UInt8
def pk0:Pk:=⟨0,0,0,0,0,0,0,0,[]⟩
def frP (n:Int):Prop:=0≤n∧n≤1000
instance (n:Int):Decidable (frP n):=inferInstanceAs (Decidable (_∧_))
def mayPk (p:Pk):Prop:=(0≤p.from'∧p.from'≤7)∧(0≤p.to∧p.to≤7)∧p.from'≠p.to∧(0≤p.id∧p.id≤1099511627776) ∧
 ((p.kind=1∧frP p.first∧frP p.ack∧frP p.frame∧p.press.length≤32)∨(p.kind=2∧p.first=0∧p.ack=0∧p.frame=0∧p.press.length=0∧p.sum=0))
instance (p:Pk):Decidable (mayPk p):=inferInstanceAs (Decidable (_∧_))
def tailPk (p:Pk):List UInt8:=fourL p.sum++(putL (zz (p.press.length:Int))++runsL p.press 0)
def numsPk (p:Pk):List UInt8:=if p.kind=1 then putL (zz p.first)++(putL (zz p.ack)++(putL (zz p.frame)++tailPk p)) else []
def midPk (p:Pk):List UInt8:=putL (zz p.id)++numsPk p
def headPk (p:Pk):List UInt8:=[UInt8.ofNat p.kind.toNat,UInt8.ofNat p.from'.toNat,UInt8.ofNat p.to.toNat]
def bodyPk (p:Pk):List UInt8:=headPk p++midPk p
def encPk (p:Pk):List UInt8:=bodyPk p++fourL (crcSum (bodyPk p))
def encO (p:Pk):List UInt8:=if mayPk p then encPk p else []
theorem fourL_len (x:Nat):(fourL x).length=4:=rfl
theorem encPk_len (p:Pk):(encPk p).length=(midPk p).length+7:=by
 simp[encPk,bodyPk,headPk,fourL_len]
theorem encPk_mid {p:Pk}{bs:List UInt8}(h:encPk p=bs):(bs.drop 3).take (bs.length-7)=midPk p:=by
 subst h
 rw[encPk_len,Nat.add_sub_cancel,encPk]
 generalize crcSum (bodyPk p)=c
 rw[bodyPk,List.append_assoc,List.drop_left' (by rfl),List.take_left' rfl]
theorem encPk_head {p:Pk}{bs:List UInt8}(h:encPk p=bs):bs[0]?=some (UInt8.ofNat p.kind.toNat)∧bs[1]?=some (UInt8.ofNat p.from'.toNat)∧bs[2]?=some (UInt8.ofNat p.to.toNat):=by
 subst h;exact⟨rfl,rfl,rfl⟩
def fourN (a b c d:Nat):Nat:=((a*256+b)*256+c)*256+d
theorem fourL_back {x:Nat}(h:x<4294967296):fourN (UInt8.ofNat (x/16777216)).toNat (UInt8.ofNat (x/65536)).toNat (UInt8.ofNat (x/256)).toNat (UInt8.ofNat x).toNat=x:=by
 simp only[UInt8.toNat_ofNat',fourN];omega
theorem fourL_inj {x y:Nat}(hx:x<4294967296)(hy:y<4294967296)(h:fourL x=fourL y):x=y:=by
 simp only[fourL,List.cons.injEq,and_true]at h
 obtain⟨h1,h2,h3,h4⟩:=h
 have:=fourL_back hx
 rw[h1,h2,h3,h4,fourL_back hy]at this
 exact this.symm
theorem put_inj {n m:Int}{r s:List UInt8}(h1:-9223372036854775808≤n)(h2:n≤9223372036854775807)(h3:-9223372036854775808≤m)(h4:m≤9223372036854775807)(h:putL (zz n)++r=putL (zz m)++s):n=m∧r=s:=by
 have e:=getF_put h1 h2 r
 rw[h,getF_put h3 h4]at e
 obtain⟨e1,e2⟩:zz m=zz n∧_:=by simpa using e
 have:n=m:=by rw[← unzz_zz n,← unzz_zz m,e1]
 subst this
 exact⟨rfl,List.append_cancel_left h⟩
theorem runs_inj:∀ (n:Nat) {p q:List UInt8} {l:UInt8},p.length≤n→p.length≤1000000→q.length≤1000000→runsL p l=runsL q l→p=q
 | n,[],[],_,_,_,_,_=>rfl
 | n,[],y::ys,l,_,_,_,h=>by
   rw[runsL_nil,runsL_cons]at h
   have:=congrArg List.length h
   simp at this
 | n,x::xs,[],l,_,_,_,h=>by
   rw[runsL_nil,runsL_cons]at h
   have:=congrArg List.length h
   simp at this
 | 0,x::xs,y::ys,l,hn,_,_,_=>by simp at hn
 | n+1,x::xs,y::ys,l,hn,hp,hq,h=>by
   have h1:=runN_le x xs
   have h2:=runN_le y ys
   simp only[List.length_cons]at hn hp hq
   rw[runsL_cons,runsL_cons]at h
   obtain⟨e1,e2⟩:=put_inj (by omega) (by omega) (by omega) (by omega) h
   rw[List.cons.injEq]at e2
   obtain⟨e2,e3⟩:=e2
   have exy:x=y:=by
     have:=xor_back x l
     rw[e2,xor_back]at this
     exact this.symm
   subst exy
   have e4:runN x xs=runN x ys:=by omega
   have e5:=runs_inj n (by simp;omega) (by simp;omega) (by simp;omega) e3
   congr 1
   rw[← List.take_append_drop (runN x xs) xs,runN_take,e5,e4,← runN_take,List.take_append_drop]
theorem u8_int {a b:Int}(ha:0≤a∧a<256)(hb:0≤b∧b<256)(h:UInt8.ofNat a.toNat=UInt8.ofNat b.toNat):a=b:=by
 have:=congrArg UInt8.toNat h
 simp only[UInt8.toNat_ofNat']at this
 omega
theorem encPk_inj {p q:Pk}(hp:mayPk p)(hq:mayPk q)(hsp:p.sum<4294967296)(hsq:q.sum<4294967296)(h:encPk p=encPk q):p=q:=by
 have hm:midPk p=midPk q:=by rw[← encPk_mid (p:=p) rfl,← encPk_mid (p:=q) rfl,h]
 have h0:=encPk_head (p:=p) rfl
 have h1:=encPk_head (p:=q) rfl
 rw[h]at h0
 obtain⟨a1,a2,a3⟩:=h0
 obtain⟨b1,b2,b3⟩:=h1
 rw[b1]at a1;rw[b2]at a2;rw[b3]at a3
 obtain⟨f1,t1,n1,i1,k1⟩:=hp
 obtain⟨f2,t2,n2,i2,k2⟩:=hq
 have ek:=u8_int (by omega) (by omega) (Option.some.inj a1)
 have ef:=u8_int (by omega) (by omega) (Option.some.inj a2)
 have et:=u8_int (by omega) (by omega) (Option.some.inj a3)
 rw[midPk,midPk]at hm
 obtain⟨ei,hm⟩:=put_inj (by omega) (by omega) (by omega) (by omega) hm
 obtain⟨pk,pf,pt,pi,p1,p2,p3,p4,p5⟩:=p
 obtain⟨qk,qf,qt,qi,q1,q2,q3,q4,q5⟩:=q
 simp only at *
 subst ek ef et ei
 rcases k1 with ⟨c1,c2,c3,c4,c5⟩ | ⟨c1,c2,c3,c4,c5,c6⟩
 · rcases k2 with ⟨d1,d2,d3,d4,d5⟩ | ⟨d1,_⟩
   · unfold frP at c2 c3 c4 d2 d3 d4
     rw[numsPk,numsPk,if_pos c1,if_pos d1]at hm
     simp only at hm
     obtain⟨e1,hm⟩:=put_inj (by omega) (by omega) (by omega) (by omega) hm
     obtain⟨e2,hm⟩:=put_inj (by omega) (by omega) (by omega) (by omega) hm
     obtain⟨e3,hm⟩:=put_inj (by omega) (by omega) (by omega) (by omega) hm
     rw[tailPk,tailPk]at hm
     simp only at hm
     obtain⟨e4,hm⟩:=List.append_inj hm rfl
     obtain⟨e5,hm⟩:=put_inj (by omega) (by omega) (by omega) (by omega) hm
     have e6:=runs_inj _ (Nat.le_refl _) (by omega) (by omega) hm
     have e7:=fourL_inj hsp hsq e4
     subst e1 e2 e3 e6 e7
     rfl
   · omega
 · rcases k2 with ⟨d1,_⟩ | ⟨d1,d2,d3,d4,d5,d6⟩
   · omega
   · have:=List.eq_nil_of_length_eq_zero c5
     have:=List.eq_nil_of_length_eq_zero d5
     subst c2 c3 c4 c6 d2 d3 d4 d6
     simp_all
def decP (bs:List UInt8)(p:Pk):Prop:=mayPk p∧p.sum<4294967296∧encPk p=bs
open Classical in
noncomputable def decO (bs:List UInt8):Option Pk:=if h:∃ p,decP bs p then some (Classical.choose h) else none
theorem decO_some {bs:List UInt8}{p:Pk}(h:decP bs p):decO bs=some p:=by
 have hx:∃ p,decP bs p:=⟨p,h⟩
 rw[decO,dif_pos hx]
 have h2:=Classical.choose_spec hx
 rw[encPk_inj h2.1 h.1 h2.2.1 h.2.1 (h2.2.2.trans h.2.2.symm)]
theorem decO_none {bs:List UInt8}(h:∀ p,¬ decP bs p):decO bs=none:=by
 rw[decO,dif_neg];exact λ⟨p,hp⟩=>h p hp
theorem decO_is {bs:List UInt8}{p:Pk}(h:decO bs=some p):decP bs p:=by
 rw[decO]at h
 split at h
 · rename_i hx;cases h;exact Classical.choose_spec hx
 · cases h
theorem decO_enc {p:Pk}(h:mayPk p)(hs:p.sum<4294967296):decO (encO p)=some p:=by
 rw[encO,if_pos h];exact decO_some ⟨h,hs,rfl⟩
theorem decP_iff {bs:List UInt8}{p:Pk}(h0:bs≠[])(hs:p.sum<4294967296):decP bs p↔encO p=bs:=by
 unfold decP encO
 split
 · rename_i h;simp[h,hs]
 · rename_i h;simp[h,h0,Ne.symm h0]
theorem midPk_len {p:Pk}(h:mayPk p):(midPk p).length≤500:=by
 obtain⟨_,_,_,i1,k1⟩:=h
 have pl:∀ n:Int,0≤n→n≤1099511627776→(putL (zz n)).length≤10:=λn h0 h1=>putL_len 9 _ (by
   have:zz n<18446744073709551616:=zz_lt (by omega) (by omega)
   have h10:(128:Nat) ^ (9+1)=1180591620717411303424:=by decide
   omega)
 rw[midPk,List.length_append]
 have:=pl p.id i1.1 i1.2
 rcases k1 with ⟨c1,c2,c3,c4,c5⟩ | ⟨c1,_⟩
 · unfold frP at c2 c3 c4
   rw[numsPk,if_pos c1,tailPk]
   simp only[List.length_append,fourL_len]
   have h1:=pl p.first (by omega) (by omega)
   have h2:=pl p.ack (by omega) (by omega)
   have h3:=pl p.frame (by omega) (by omega)
   have h4:=pl p.press.length (by omega) (by omega)
   have h5:=runsL_len p.press 0
   omega
 · rw[numsPk,if_neg (by omega)];simp;omega
end
section
theorem and_u8 {x:Nat}(h:x<256):IntKind.u8.wrap ((BitVec.ofInt IntKind.u8.bits (x:Int) &&& BitVec.ofInt IntKind.u8.bits 127).toNat)=((x%128:Nat):Int):=by
 have:∀ y:Fin 256,IntKind.u8.wrap ((BitVec.ofInt IntKind.u8.bits ((y.val:Nat):Int) &&& BitVec.ofInt IntKind.u8.bits 127).toNat)=((y.val%128:Nat):Int):=by decide +kernel
 exact this ⟨x,h⟩
theorem pow7 (i:Nat):(2:Nat) ^ (7*i)=128 ^ i:=by rw[Nat.pow_mul]
theorem or_add {u d i:Nat}(hu:u<128 ^ i):u ||| d*128 ^ i=u+d*128 ^ i:=by
 rw[← pow7]at hu ⊢
 rw[Nat.mul_comm,Nat.add_comm,Nat.two_pow_add_eq_or_of_lt hu,Nat.or_comm]
theorem p128 {i:Nat}(hi:i≤9):128 ^ i≤9223372036854775808∧(i≤8→128 ^ i≤72057594037927936):=by
 have h9:(128:Nat) ^ 9=9223372036854775808:=by decide
 have h8:(128:Nat) ^ 8=72057594037927936:=by decide
 refine⟨h9 ▸ Nat.pow_le_pow_right (by decide) hi,λh=>h8 ▸ Nat.pow_le_pow_right (by decide) h⟩
theorem dig_lt {i d:Nat}(hi:i≤9)(h:i=9→d≤1)(hd:d≤127):d*128 ^ i≤9223372036854775808∧(i≤8→d*128 ^ i+128 ^ i≤128 ^ (i+1)):=by
 obtain⟨h1,h2⟩:=p128 hi
 have hm:d*128 ^ i≤127*128 ^ i:=Nat.mul_le_mul_right _ hd
 refine⟨?_,λh8=>by rw[pow_mul128];omega⟩
 rcases Nat.lt_or_ge i 9 with h9 | h9
 · have:=h2 (by omega);omega
 · have:i=9:=by omega
   have hd1:=h this
   have:d*128 ^ i≤1*128 ^ i:=Nat.mul_le_mul_right _ hd1
   omega
theorem getL_step {bs:List UInt8}{i:Nat}(h:i<bs.length)(u:Nat):getL (bs.drop i) i u=if i=9∧1<bs[i].toNat then none
   else if 127<bs[i].toNat then getL (bs.drop (i+1)) (i+1) (u+bs[i].toNat%128*128 ^ i)
   else if 0<i∧bs[i].toNat=0 then none
   else some (u+bs[i].toNat*128 ^ i,i+1):=by
 rw[List.drop_eq_getElem_cons h,getL]
theorem and_one64 {x:Nat}(h:x<18446744073709551616):IntKind.u64.wrap (((BitVec.ofInt IntKind.u64.bits (x:Int) &&& BitVec.ofInt IntKind.u64.bits 1).toNat:Nat):Int)=((x%2:Nat):Int):=by
 have h1:=and_u64 (y:=1) h (by decide)
 rw[Nat.and_one_is_mod]at h1;exact h1
theorem com_i64 {x:Int}(h1:-9223372036854775808≤x)(h2:x≤9223372036854775807):IntKind.i64.wrap (((BitVec.ofInt IntKind.i64.bits (if IntKind.i64.signed then -1 else IntKind.i64.max) ^^^ BitVec.ofInt IntKind.i64.bits x).toNat:Nat):Int) = -x-1:=by
 have e:BitVec.ofInt IntKind.i64.bits (if IntKind.i64.signed then -1 else IntKind.i64.max)=BitVec.allOnes 64:=by
   show BitVec.ofInt 64 (-1)=_
   decide
 rw[e]
 show IntKind.i64.wrap (((BitVec.allOnes 64 ^^^ BitVec.ofInt 64 x).toNat:Nat):Int)=_
 rw[BitVec.allOnes_xor,BitVec.toNat_not,BitVec.toNat_ofInt]
 simp only[IntKind.wrap,IntKind.signed,IntKind.bits]
 simp
 omega
section
variable {W w:World}{L:List SP}{c:Nat}{ad:Option Addr}{bs:List UInt8}
theorem num_get (hs:St W w L)(hb:bs.length≤1099511627776)(hp:∀ w',St W w' L→RdB w' ad bs.length bs) :
   Calls Tryz.prog 339 #[.slice ad bs.length c] w λe w'=>∃ (x:Int) (k:Nat) (er:Int),e=.returned (.tuple #[.int .i64 x,.int .i64 k,.int .i64 er])∧GetR bs x k er∧St W w' L:=by
 refine EN Tryz.func339 Tryz.ntmps339 rfl rfl λa ha=>?_
 refine RN 11 ha hs λa ha=>?_
 refine wp_loop_ghost (λμ a w=>∃ (i u:Nat),(μ=bs.length-i∧i≤bs.length∧i≤9∧u<128 ^ i∧getL (bs.drop i) i u=getF bs)∧Fr a 50 [(5,.int .u64 u),(9,.slice ad bs.length c),(10,.int .i64 bs.length),(11,.int .i64 i)]∧St W w L) (bs.length) (⟨0,0,⟨rfl,by omega,by omega,by decide,rfl⟩,ha.keep [5,9,10,11],hs⟩) ?_
 clear ha hs
 rintro μ a w ⟨i,u,⟨rfl,hi,hi9,hu,hg⟩,ha,hs⟩
 refine IF 3 ha hs (λhc0 a ha=>?_) λhc0 a ha=>?_
 ·
  obtain⟨bb,oo,rfl,hr⟩:=(hp _ hs).get (by omega)
  have hil:i<bs.length:=by omega
  have hb8:=u8_lt bs[i]
  rw[getL_step hil]at hg
  obtain⟨hp1,hp2⟩:=p128 hi9
  refine RN 4 ha hs λa ha=>?_
  refine SS ha (ld1 ha (hr i _ (bc_at hil))) λa ha=>?_
  refine RN 3 ha hs λa ha=>?_
  refine wp_seq_cut (M:=λa w=>∃ z:Bool,(z=true↔(i=9∧1<bs[i].toNat))∧Fr a 50 [(5,.int .u64 u),(6,.int .i64 i),(7,.int .u8 (bs[i].toNat:Int)),(9,.slice (some ⟨bb,oo,none⟩) bs.length c),(10,.int .i64 bs.length),(11,.int .i64 i),(21,.bool z)]∧St W w L) ?_ ?_
  ·
   refine BY 3 ha hs (λhg2 a ha=>?_) λhg2 a ha=>?_
   ·
    refine RN 3 ha hs λa ha=>?_
    exact⟨_,by rw[decide_eq_true_iff];omega,ha.keep [5,6,7,9,10,11,21],hs⟩
   refine RN 3 ha hs λa ha=>?_
   exact⟨_,by simp;omega,ha.keep [5,6,7,9,10,11,21],hs⟩
  clear ha;(try clear hs)
  rintro a w ⟨z,hz,ha,hs⟩
  refine IF 0 ha hs (λhc1 a ha=>?_) λhc1 a ha=>?_
  ·
   rw[if_pos (hz.1 hc1)]at hg
   refine RT 4 ha hs ?_
   exact⟨_,_,_,rfl,GetR.bad hg.symm (by omega),hs⟩
  have hz0:¬ (i=9∧1<bs[i].toNat):=λh=>absurd (hz.2 h) (by simp[hc1])
  rw[if_neg hz0]at hg
  obtain⟨hd1,hd2⟩:=dig_lt (d:=bs[i].toNat%128) hi9 (by omega) (by omega)
  refine RN 4 ha hs λa ha=>?_
  rw[and_u8 hb8]at ha
  refine SX 0 ha hs (by rw[wrap_u64];omega) λa ha=>?_
  refine RN 2 ha hs λa ha=>?_
  rw[show (7:Int)*(i:Int)=((7*i:Nat):Int) from by omega]at ha
  refine SS ha (ex_shl ha (jn:=7*i) (by show 7*i≤64;omega)) λa ha=>?_
  rw[show ((bs[i].toNat%128:Nat):Int)*2 ^ (7*i)=((bs[i].toNat%128*128 ^ i:Nat):Int) from by rw[Int.natCast_mul,← pow7];simp,show IntKind.u64.wrap ((bs[i].toNat%128*128 ^ i:Nat):Int)=((bs[i].toNat%128*128 ^ i:Nat):Int) from by rw[wrap_u64];omega]at ha
  refine RN 1 ha hs λa ha=>?_
  rw[or_u64 (by omega) (by omega),or_add hu]at ha
  refine IF 5 ha hs (λhc2 a ha=>?_) λhc2 a ha=>?_
  ·
   rw[if_pos (by omega)]at hg
   refine RN 2 ha hs λa ha=>?_
   exact⟨bs.length-(i+1),by omega,i+1,_,⟨rfl,by omega,by omega,by have:=hd2 (by omega);omega,hg⟩,ha.keep [5,9,10,11],hs⟩
  rw[if_neg (by omega)]at hg
  rw[Nat.mod_eq_of_lt (show bs[i].toNat<128 from by omega)]at ha hd1 hd2
  refine RN 1 ha hs λa ha=>?_
  refine wp_seq_cut (M:=λa w=>∃ z:Bool,(z=true↔(0<i∧bs[i].toNat=0))∧Fr a 50 [(5,.int .u64 ((u+bs[i].toNat*128 ^ i:Nat):Int)),(6,.int .i64 i),(37,.bool z)]∧St W w L) ?_ ?_
  ·
   refine BY 3 ha hs (λhg2 a ha=>?_) λhg2 a ha=>?_
   ·
    refine RN 3 ha hs λa ha=>?_
    exact⟨_,by rw[decide_eq_true_iff];omega,ha.keep [5,6,37],hs⟩
   refine RN 3 ha hs λa ha=>?_
   exact⟨_,by simp;omega,ha.keep [5,6,37],hs⟩
  clear ha;(try clear hs)
  rintro a w ⟨z,hz,ha,hs⟩
  refine IF 0 ha hs (λhc3 a ha=>?_) λhc3 a ha=>?_
  ·
   rw[if_pos (hz.1 hc3)]at hg
   refine RT 4 ha hs ?_
   exact⟨_,_,_,rfl,GetR.bad hg.symm (by omega),hs⟩
  rw[if_neg (λh=>absurd (hz.2 h) (by simp[hc3]))]at hg
  generalize u+bs[i].toNat*128 ^ i=v at ha hg
  have hv:=(getF_bd hg.symm).1
  refine RN 3 ha hs λa ha=>?_
  rw[show ((v:Nat):Int).fdiv (2 ^ 1)=((v/2:Nat):Int) from fdivN _ 2]at ha
  refine SS ha (ex_convII ha Tryz.underlying319 Tryz.underlying2) λa ha=>?_
  rw[show IntKind.i64.wrap ((v/2:Nat):Int)=((v/2:Nat):Int) from wrap_in (by omega) (by omega)]at ha
  refine RN 1 ha hs λa ha=>?_
  refine wp_seq_cut (M:=λa w=>Fr a 50 [(6,.int .i64 i),(8,.int .i64 (unzz v))]∧St W w L) ?_ ?_
  ·
   refine RN 3 ha hs λa ha=>?_
   rw[and_one64 hv]at ha
   refine IF 1 ha hs (λhc4 a ha=>?_) λhc4 a ha=>?_
   ·
    refine RN 2 ha hs λa ha=>?_
    rw[com_i64 (by omega) (by omega)]at ha
    refine RN 1 ha hs λa ha=>?_
    rw[show -((v/2:Nat):Int)-1=unzz v from by rw[unzz,if_pos (by omega)]]at ha
    exact⟨ha.keep [6,8],hs⟩
   refine RN 0 ha hs λa ha=>?_
   rw[show ((v/2:Nat):Int)=unzz v from by rw[unzz,if_neg (by omega)]]at ha
   exact⟨ha.keep [6,8],hs⟩
  clear ha;(try clear hs)
  rintro a w ⟨ha,hs⟩
  refine RT 7 ha hs ?_
  exact⟨_,_,_,rfl,GetR.good hg.symm,hs⟩
 rw[List.drop_eq_nil_of_le (by omega),getL]at hg
 refine RT 4 ha hs ?_
 exact⟨_,_,_,rfl,GetR.bad hg.symm (by omega),hs⟩
end
end
section
theorem putz_len {n:Int}(h1:-9223372036854775808≤n)(h2:n≤9223372036854775807):(putL (zz n)).length≤10:=putL_len 9 _ (by
 have:=zz_lt h1 h2
 have h10:(128:Nat) ^ (9+1)=1180591620717411303424:=by decide
 omega)
theorem bc_snoc {l:List UInt8}{x:UInt8}:bc l++[[Value.int .u8 (x.toNat:Int)]].flatten=bc (l++[x]):=by simp[bc]
structure Same (bs:List UInt8)(i e:Nat):Prop where
 lt:i<e
 le:e≤bs.length
 same:∀ (j:Nat) (h:j<bs.length),i≤j→j<e→bs[j]=bs[i]'(by omega)
theorem Same.one {bs:List UInt8}{i:Nat}(h:i<bs.length):Same bs i (i+1):=⟨by omega,by omega,λj hj h1 h2=>by
 have:j=i:=by omega
 subst this;rfl⟩
theorem Same.more {bs:List UInt8}{i e:Nat}(h:Same bs i e)(he:e<bs.length)(hb:bs[e]'he=bs[i]'(by have:=h.lt;omega)):Same bs i (e+1):=⟨by have:=h.lt;omega,by omega,λj hj h1 h2=>by
 by_cases hje:j=e
 · subst hje;exact hb
 · exact h.same j hj h1 (by omega)⟩
theorem Same.runs {bs:List UInt8}{i e:Nat}(h:Same bs i e)(hi:i<bs.length)(hn:∀ he:e<bs.length,bs[e]≠bs[i])(last:UInt8) :
   runsL (bs.drop i) last=putL (zz ((e-i:Nat):Int))++(bs[i] ^^^ last)::runsL (bs.drop e) bs[i]:=by
 have h1:=h.lt
 have h2:=h.le
 have hr:runN bs[i] (bs.drop (i+1))=e-i-1:=by
   refine runN_eq (λj hj=>?_) ?_
   · rw[List.getElem?_drop,List.getElem?_eq_getElem (by omega),h.same (i+1+j) (by omega) (by omega) (by omega)]
   · rw[List.getElem?_drop,show i+1+(e-i-1)=e from by omega]
     rcases Nat.lt_or_ge e bs.length with he | he
     · rw[List.getElem?_eq_getElem he]
       exact λhx=>hn he (Option.some.inj hx)
     · rw[List.getElem?_eq_none he];simp
 rw[List.drop_eq_getElem_cons hi,runsL_cons,hr,List.drop_drop,show i+1+(e-i-1)=e from by omega,show e-i-1+1=e-i from by omega]
theorem bc_atD {bs:List UInt8}{i:Nat}(h:i<bs.length):(bc bs)[i]?=some (.int .u8 ((bs.getD i 0).toNat:Int)):=by rw[bc_at h,List.getD_eq_getElem?_getD,List.getElem?_eq_getElem h];rfl
theorem RunsAt.get {p dn rest:List UInt8}{last:UInt8}{x:Int}{k:Nat}{er:Int}(h:RunsAt p dn last rest)(hp:p.length≤1000000)(h0:rest≠[])(hg:GetR rest x k er) :
   er=0∧1≤x∧k<rest.length∧(dn≠[]→(rest.getD k 0).toNat≠0)∧(dn.length:Int)+x≤p.length∧RunsAt p (dn++List.replicate x.toNat (last ^^^ rest.getD k 0)) (last ^^^ rest.getD k 0) (rest.drop (k+1)):=by
 obtain⟨m,y,r,e1,e2,e3,e4⟩:=h.next h0
 obtain⟨rfl,rfl,rfl⟩:=hg.2.2.2.2 ((m+1:Nat):Int) _ (by omega) (by omega) e1
 have hk:rest.getD (putL (zz ((m+1:Nat):Int))).length 0=y ^^^ last:=by rw[e1,List.getD_eq_getElem?_getD,List.getElem?_append_right (Nat.le_refl _)];simp
 refine⟨rfl,by omega,by rw[e1];simp,by rw[hk];exact e3,by omega,?_⟩
 rw[hk,xor_back,show ((m+1:Nat):Int).toNat=m+1 from by omega]
 have hd:rest.drop ((putL (zz ((m+1:Nat):Int))).length+1)=r:=by
   rw[e1,← List.drop_drop,List.drop_left];rfl
 rw[hd];exact e4
def Unr (bs:List UInt8)(m:Nat)(out:List UInt8)(er:Int):Prop:=(er=0∨er=1∨er=4)∧out.length≤m∧∀ p:List UInt8,p.length≤m→bs=runsL p 0→out=p∧er=0
theorem getD_drop (bs:List UInt8)(i k:Nat):(bs.drop i).getD k 0=bs.getD (i+k) 0:=by simp[List.getD_eq_getElem?_getD,List.getElem?_drop]
theorem Unr.bad {bs dn rest:List UInt8}{last:UInt8}{m k:Nat}{x er er':Int}(hrn:∀ p:List UInt8,p.length≤m→bs=runsL p 0→RunsAt p dn last rest)(hm:m≤1000000)(h0:rest≠[])(hg:GetR rest x k er)
   (hbad:er≠0∨x<1∨rest.length≤k∨(dn≠[]∧(rest.getD k 0).toNat=0)∨(m:Int)<dn.length+x) (he:er'=1∨er'=4):Unr bs m [] er':=by
 refine⟨by omega,by simp,λp hp e=>?_⟩
 exfalso
 obtain⟨g1,g2,g3,g4,g5,_⟩:=(hrn p hp e).get (by omega) h0 hg
 rcases hbad with h | h | h | h | h
 · exact h g1
 · omega
 · omega
 · exact g4 h.1 h.2
 · omega
section
variable {W w:World}{L:List SP}{n c m:Nat}{ad:Option Addr}{bs:List UInt8}
theorem runs_enc (hs:St W w L)(hb:bs.length≤65536)(hp:∀ w',St W w' L→RdB w' ad bs.length bs) :
   Calls Tryz.prog 338 #[.slice ad bs.length c] w λe w'=>∃ ad' c',e=.returned (.slice ad' (runsL bs 0).length c')∧St W w' (Sl 5 1 ad' (runsL bs 0).length c' (bc (runsL bs 0))::L):=by
 have hrl:=runsL_len bs 0
 refine EN Tryz.func338 Tryz.ntmps338 rfl rfl λa ha=>?_
 refine RN 9 ha hs λa ha=>?_
 refine wp_loop_ghost (λμ a w=>∃ (i c':Nat) (ad':Option Addr) (dn:List UInt8) (last:UInt8),(μ=bs.length-i∧i≤bs.length∧dn++runsL (bs.drop i) last=runsL bs 0)∧Fr a 48 [(0,.slice ad bs.length c),(3,.slice ad' dn.length c'),(4,.int .u8 (last.toNat:Int)),(5,.int .i64 i)]∧St W w (Sl 5 1 ad' dn.length c' (bc dn)::L)) (bs.length) (⟨0,0,none,[],0,⟨rfl,by omega,rfl⟩,ha.keep [0,3,4,5],hs.sl0 5 1 none⟩) ?_
 clear ha hs
 rintro μ a w ⟨i,c',ad',dn,last,⟨rfl,hi,hdn⟩,ha,hs⟩
 refine IF 6 ha hs (λhc0 a ha=>?_) λhc0 a ha=>?_
 ·
  obtain⟨bb,oo,rfl,_⟩:=(hp _ hs.tail).get (by omega)
  have hil:i<bs.length:=by omega
  have hdl:dn.length≤11*bs.length:=by
    have:=congrArg List.length hdn
    rw[List.length_append]at this
    omega
  refine RN 4 ha hs λa ha=>?_
  refine wp_loop_ghost (λμ a w=>∃ (k:Nat),(μ=bs.length-k∧i≤k∧k≤bs.length∧(k=i∨Same bs i k))∧Fr a 48 [(0,.slice (some ⟨bb,oo,none⟩) bs.length c),(3,.slice ad' dn.length c'),(4,.int .u8 (last.toNat:Int)),(5,.int .i64 i),(6,.int .i64 k)]∧St W w (Sl 5 1 ad' dn.length c' (bc dn)::L)) (bs.length-i) (⟨i,⟨rfl,by omega,by omega,.inl rfl⟩,ha.keep [0,3,4,5,6],hs⟩) ?_
  clear ha hs
  rintro μ a w ⟨k,⟨rfl,hik,hk,hsm⟩,ha,hs⟩
  refine RN 1 ha hs λa ha=>?_
  refine wp_seq_cut (M:=λa w=>∃ z:Bool,(z=true→Same bs i (k+1))∧(z=false→Same bs i k∧∀ he:k<bs.length,bs[k]≠bs[i])∧Fr a 48 [(0,.slice (some ⟨bb,oo,none⟩) bs.length c),(3,.slice ad' dn.length c'),(4,.int .u8 (last.toNat:Int)),(5,.int .i64 i),(6,.int .i64 k),(26,.bool z)]∧St W w (Sl 5 1 ad' dn.length c' (bc dn)::L)) ?_ ?_
  ·
   refine DWO 0 [12] [0,1,2,3,4,5,6,7,9,10,11,3008,1012,13,14] ha hs λa w ha hs hH hC=>?_
   have hr:=(hp _ hs.tail).rd (by omega)
   refine RH 5 ha hs hH hC λa ha=>?_
   refine ha.by (s:=16) (λhg4 ha=>?_) (λhg4 ha=>?_)
   ·
    refine RH 6 ha hs hH hC λa ha=>?_
    refine QH ha (λw hc=>ld1 ha ((hc.rd hr) k _ (bc_at (i:=k) (bs:=bs) (show k<bs.length by omega)))) hC λa ha=>?_
    refine RH 0 ha hs hH hC λa ha=>?_
    refine st_set ha (wgT ha rfl (s:=16)) (ld1 ha ((hC.rd hr) i _ (bc_at hil))) rfl λa ha=>?_
    refine RH 2 ha hs hH hC λa ha=>?_
    have hkl:k<bs.length:=by omega
    refine⟨_,λh=>?_,λh=>?_,ha.keep [0,3,4,5,6,26],hs⟩
    · have he:bs[k]=bs[i]:=UInt8.toNat_inj.1 (by have:=of_decide_eq_true h;omega)
      rcases hsm with rfl | hsm
      · exact Same.one hil
      · exact hsm.more hkl he
    · have he:bs[k]≠bs[i]:=λe=>of_decide_eq_false h (by rw[e])
      rcases hsm with rfl | hsm
      · exact absurd rfl he
      · exact⟨hsm,λ_=>he⟩
   refine RH 10 ha hs hH hC λa ha=>?_
   refine⟨_,λh=>(by cases h),λh=>?_,ha.keep [0,3,4,5,6,26],hs⟩
   rcases hsm with rfl | hsm
   · omega
   · exact⟨hsm,λ_=>absurd (show k<bs.length by assumption) (by omega)⟩
  clear ha;(try clear hs)
  rintro a w ⟨z,hz1,hz0,ha,hs⟩
  refine IF 0 ha hs (λhc1 a ha=>?_) λhc1 a ha=>?_
  ·
   have hsm':=hz1 hc1
   refine RN 3 ha hs λa ha=>?_
   exact⟨bs.length-(k+1),by have:=hsm'.le;omega,k+1,⟨rfl,by omega,hsm'.le,.inr hsm'⟩,ha.keep [0,3,4,5,6],hs⟩
  obtain⟨hsm',hne⟩:=hz0 hc1
  rw[hsm'.runs hil hne last]at hdn
  have hkl:=hsm'.lt
  have hke:=hsm'.le
  refine DWC 1 (λw0 w=>Rd w bb oo (bc bs)) [4] [0,1,2,3,5,6,7,9,3008,10,2004,1011,1012,13] ha hs λa w ha hs hH=>?_
  have hC:=(hp _ hs.tail).rd (by omega)
  have hpl:=putz_len (n:=((k-i:Nat):Int)) (by omega) (by omega)
  refine RH 4 ha hs hH hC λa ha=>?_
  rw[show ((k:Nat):Int)-((i:Nat):Int)=((k-i:Nat):Int) from by omega]at ha
  refine RH 4 ha hs hH hC λa ha=>?_
  refine QH ha (λw hc=>ld1 ha (hc i _ (bc_at hil))) hC λa ha=>?_
  refine RH 1 ha hs hH hC λa ha=>?_
  refine DN [(4,[1011,1012,13]),(11,[1004,1012,13])] (by kernel_rfl) rfl ⟨⟨_,rfl,?_⟩,⟨_,rfl,?_⟩,trivial⟩
  ·
   refine RH 0 ha hs hH hC λa ha=>?_
   refine CL2 0 ha hs (put_bytes (N:=((k-i:Nat):Int)) (hs.pick (Sl 5 1 ad' dn.length c' (bc dn))) (by omega) (by omega) (by omega)) λadp cp a w ha hs=>?_
   replace hC:=hH.at w ((hp _ hs.sub).rd (by omega))
   refine RH 0 ha hs hH hC λa ha=>?_
   refine st_buildSlice ha rfl hs Tryz.underlying22 Ty.t5 rfl rfl rfl rfl (by decide) (by decide) λb40 a w ha hs ho=>?_
   clear ho
   refine RN 0 ha hs λa ha=>?_
   refine st_append ha rfl hs Tryz.underlying22 Ty.t5 rfl rfl hs.rdAll rfl (by simp[Value.oneCell']) (by decide) (by decide) (by rw[List.length_append];omega) λad41 c41 a w ha hs=>?_
   refine RN 1 ha hs λa ha=>?_
   rw[bc_snoc]at hs
   have hdn':(dn++putL (zz ((k-i:Nat):Int))++[bs[i] ^^^ last])++runsL (bs.drop k) bs[i]=runsL bs 0:=by rw[← hdn];simp
   rw[show (dn++putL (zz ((k-i:Nat):Int))).length+1=(dn++putL (zz ((k-i:Nat):Int))++[bs[i] ^^^ last]).length from by simp only[List.length_append,List.length_singleton]]at ha hs
   generalize dn++putL (zz ((k-i:Nat):Int))++[bs[i] ^^^ last]=dn' at ha hs hdn'
   refine RN 4 ha hs λa ha=>?_
   refine SS ha (ld1 ha (((hp _ hs.sub).rd (by omega)) i _ (bc_at hil))) λa ha=>?_
   refine RN 3 ha hs λa ha=>?_
   exact⟨bs.length-k,by omega,k,_,ad41,dn',bs[i],⟨rfl,by omega,hdn'⟩,ha.keep [0,3,4,5],hs.sub⟩
  refine RH 0 ha hs hH hC λa ha=>?_
  refine st_buildSlice ha rfl hs Tryz.underlying22 Ty.t5 rfl rfl rfl rfl (by decide) (by decide) λb40 a w ha hs ho=>?_
  clear ho
  refine CL2 0 ha hs (put_bytes (N:=((k-i:Nat):Int)) (hs.pick (Sl 5 1 ad' dn.length c' (bc dn))) (by omega) (by omega) (by omega)) λadp cp a w ha hs=>?_
  replace hC:=hH.at w ((hp _ hs.sub).rd (by omega))
  refine RH 0 ha hs hH hC λa ha=>?_
  refine st_append ha rfl hs Tryz.underlying22 Ty.t5 rfl rfl hs.rdAll rfl (by simp[Value.oneCell']) (by decide) (by decide) (by rw[List.length_append];omega) λad41 c41 a w ha hs=>?_
  refine RN 1 ha hs λa ha=>?_
  rw[bc_snoc]at hs
  have hdn':(dn++putL (zz ((k-i:Nat):Int))++[bs[i] ^^^ last])++runsL (bs.drop k) bs[i]=runsL bs 0:=by rw[← hdn];simp
  rw[show (dn++putL (zz ((k-i:Nat):Int))).length+1=(dn++putL (zz ((k-i:Nat):Int))++[bs[i] ^^^ last]).length from by simp only[List.length_append,List.length_singleton]]at ha hs
  generalize dn++putL (zz ((k-i:Nat):Int))++[bs[i] ^^^ last]=dn' at ha hs hdn'
  refine RN 4 ha hs λa ha=>?_
  refine SS ha (ld1 ha (((hp _ hs.sub).rd (by omega)) i _ (bc_at hil))) λa ha=>?_
  refine RN 3 ha hs λa ha=>?_
  exact⟨bs.length-k,by omega,k,_,ad41,dn',bs[i],⟨rfl,by omega,hdn'⟩,ha.keep [0,3,4,5],hs.sub⟩
 rw[List.drop_eq_nil_of_le (by omega),runsL_nil,List.append_nil]at hdn
 refine RT 3 ha hs ?_
 exact⟨_,_,by rw[← hdn],by rw[← hdn];exact hs⟩
theorem runs_dec (hs:St W w L)(hb:bs.length≤65536)(hc:bs.length≤c)(hm:m≤1000000)(hp:∀ w',St W w' L→RdB w' ad bs.length bs) :
   Calls Tryz.prog 333 #[.slice ad bs.length c,.int .i64 m] w λe w'=>∃ (out:List UInt8) (ad':Option Addr) (c':Nat) (er:Int),e=.returned (.tuple #[.slice ad' out.length c',.int .i64 er])∧Unr bs m out er∧St W w' (Sl 5 1 ad' out.length c' (bc out)::L):=by
 refine EN Tryz.func333 Tryz.ntmps333 rfl rfl λa ha=>?_
 refine RN 10 ha hs λa ha=>?_
 refine wp_loop_ghost (λμ a w=>∃ (i c':Nat) (ad':Option Addr) (dn:List UInt8) (last:UInt8),(μ=bs.length-i∧i≤bs.length∧dn.length≤m∧(0<i→dn≠[])∧∀ p:List UInt8,p.length≤m→bs=runsL p 0→RunsAt p dn last (bs.drop i))∧Fr a 79 [(0,.slice ad bs.length c),(1,.int .i64 m),(6,.slice ad' dn.length c'),(7,.int .u8 (last.toNat:Int)),(8,.int .i64 i)]∧St W w (Sl 5 1 ad' dn.length c' (bc dn)::L)) (bs.length) (⟨0,0,none,[],0,⟨rfl,by omega,by simp,by omega,λp _ e=>by rw[List.drop_zero,e];exact RunsAt.start p⟩,ha.keep [0,1,6,7,8],hs.sl0 5 1 none⟩) ?_
 clear ha hs
 rintro μ a w ⟨i,c',ad',dn,last,⟨rfl,hi,hdm,hd0,hrn⟩,ha,hs⟩
 refine IF 6 ha hs (λhc0 a ha=>?_) λhc0 a ha=>?_
 ·
  obtain⟨bb,oo,rfl,_⟩:=(hp _ hs.tail).get (by omega)
  have hil:i<bs.length:=by omega
  have hne:bs.drop i≠[]:=λe=>by have:=congrArg List.length e;simp at this;omega
  refine RN 4 ha hs λa ha=>?_
  rw[show bs.length-i=(bs.drop i).length from by simp]at ha
  refine CL3 0 ha hs (num_get (bs:=bs.drop i) hs (by simp;omega) (λw' hw=>(hp w' hw.tail).cutL hi hc)) λx k er a w ha ⟨hg,hs⟩=>?_
  refine RN 8 ha hs λa ha=>?_
  refine wp_seq_cut (M:=λa w=>∃ z:Bool,(z=true↔(er≠0∨x<1∨bs.length≤i+k∨((bs.getD (i+k) 0).toNat=0∧0<i)))∧Fr a 79 [(0,.slice (some ⟨bb,oo,none⟩) bs.length c),(1,.int .i64 m),(6,.slice ad' dn.length c'),(7,.int .u8 (last.toNat:Int)),(8,.int .i64 i),(9,.int .i64 x),(10,.int .i64 k),(50,.bool z)]∧St W w (Sl 5 1 ad' dn.length c' (bc dn)::L)) ?_ ?_
  ·
   have hdl:(bs.drop i).length=bs.length-i:=by simp
   have hgk:=hg.2.2.1
   have hge:=hg.2.1
   have hgb:=hg.1
   have hkl:k≤bs.length:=by
     by_cases h0:er=0
     · have:=hgk h0;omega
     · have:=(hg.2.2.2.1 h0).1;omega
   refine BY 3 ha hs (λhg2 a ha=>?_) λhg2 a ha=>?_
   ·
    refine RN 24 ha hs λa ha=>?_
    exact⟨_,by first | (rw[decide_eq_true_iff];omega) | exact⟨λh=>(by cases h),λh=>absurd h (by omega)⟩ | exact⟨λ_=>by omega,λ_=>rfl⟩,ha.keep [0,1,6,7,8,9,10,50],hs⟩
   refine BY 4 ha hs (λhg6 a ha=>?_) λhg6 a ha=>?_
   ·
    refine RN 20 ha hs λa ha=>?_
    exact⟨_,by first | (rw[decide_eq_true_iff];omega) | exact⟨λh=>(by cases h),λh=>absurd h (by omega)⟩ | exact⟨λ_=>by omega,λ_=>rfl⟩,ha.keep [0,1,6,7,8,9,10,50],hs⟩
   refine BY 8 ha hs (λhg14 a ha=>?_) λhg14 a ha=>?_
   ·
    refine RN 12 ha hs λa ha=>?_
    exact⟨_,by first | (rw[decide_eq_true_iff];omega) | exact⟨λh=>(by cases h),λh=>absurd h (by omega)⟩ | exact⟨λ_=>by omega,λ_=>rfl⟩,ha.keep [0,1,6,7,8,9,10,50],hs⟩
   refine RN 4 ha hs λa ha=>?_
   rw[show ((i:Nat):Int)+((k:Nat):Int)=((i+k:Nat):Int) from by omega]at ha
   refine RN 1 ha hs λa ha=>?_
   refine st_set ha (wgT ha rfl (s:=38)) (ld1 ha (((hp _ hs.tail).rd (by omega)) (i+k) _ (bc_atD (by omega)))) rfl λa ha=>?_
   refine BY 2 ha hs (λhg22 a ha=>?_) λhg22 a ha=>?_
   ·
    refine RN 4 ha hs λa ha=>?_
    exact⟨_,by first | (rw[decide_eq_true_iff];omega) | exact⟨λh=>(by cases h),λh=>absurd h (by omega)⟩ | exact⟨λ_=>by omega,λ_=>rfl⟩,ha.keep [0,1,6,7,8,9,10,50],hs⟩
   refine RN 4 ha hs λa ha=>?_
   exact⟨_,by first | (rw[decide_eq_true_iff];omega) | exact⟨λh=>(by cases h),λh=>absurd h (by omega)⟩ | exact⟨λ_=>by omega,λ_=>rfl⟩,ha.keep [0,1,6,7,8,9,10,50],hs⟩
  clear ha;(try clear hs)
  rintro a w ⟨z,hz,ha,hs⟩
  refine IF 0 ha hs (λhc1 a ha=>?_) λhc1 a ha=>?_
  ·
   have hbad:=hz.1 hc1
   refine RT 3 ha hs ?_
   exact⟨[],none,0,1,rfl,Unr.bad hrn hm hne hg (by rw[getD_drop,List.length_drop];rcases hbad with h | h | h | h;exact .inl h;exact .inr (.inl h);exact .inr (.inr (.inl (by omega)));exact .inr (.inr (.inr (.inl ⟨hd0 h.2,h.1⟩)))) (.inl rfl),hs.tail.sl0 _ _ _⟩
  have hgood:¬ (er≠0∨x<1∨bs.length≤i+k∨((bs.getD (i+k) 0).toNat=0∧0<i)):=λh=>absurd (hz.2 h) (by simp[hc1])
  refine IF 9 ha hs (λhc2 a ha=>?_) λhc2 a ha=>?_
  ·
   refine RT 3 ha hs ?_
   exact⟨[],none,0,4,rfl,Unr.bad hrn hm hne hg (.inr (.inr (.inr (.inr (by omega))))) (.inr rfl),hs.tail.sl0 _ _ _⟩
  refine RN 6 ha hs λa ha=>?_
  rw[show ((i:Nat):Int)+((k:Nat):Int)=((i+k:Nat):Int) from by omega]at ha
  refine RN 1 ha hs λa ha=>?_
  refine SS ha (ld1 ha (((hp _ hs.tail).rd (by omega)) (i+k) _ (bc_atD (by omega)))) λa ha=>?_
  refine RN 2 ha hs λa ha=>?_
  generalize hy:last ^^^ bs.getD (i+k) 0=y at ha
  refine RN 4 ha hs λa ha=>?_
  refine wp_loop_ghost (λμ a w=>∃ (j c2:Nat) (ad2:Option Addr),(μ=x.toNat-j∧j≤x.toNat)∧Fr a 79 [(0,.slice (some ⟨bb,oo,none⟩) bs.length c),(1,.int .i64 m),(6,.slice ad2 (dn++List.replicate j y).length c2),(7,.int .u8 (y.toNat:Int)),(8,.int .i64 i),(10,.int .i64 k),(66,.int .i64 x),(67,.int .i64 j)]∧St W w (Sl 5 1 ad2 (dn++List.replicate j y).length c2 (bc (dn++List.replicate j y))::L)) (x.toNat) (⟨0,c',ad',⟨rfl,by omega⟩,by rw[List.replicate_zero,List.append_nil];exact ha.keep [0,1,6,7,8,10,66,67],by rw[List.replicate_zero,List.append_nil];exact hs⟩) ?_
  clear ha hs
  rintro μ a w ⟨j,c2,ad2,⟨rfl,hj⟩,ha,hs⟩
  refine IF 3 ha hs (λhc3 a ha=>?_) λhc3 a ha=>?_
  ·
   refine RN 1 ha hs λa ha=>?_
   have hjl:(dn++List.replicate j y).length=dn.length+j:=by simp
   refine RN 2 ha hs λa ha=>?_
   refine st_buildSlice ha rfl hs Tryz.underlying22 Ty.t5 rfl rfl rfl rfl (by decide) (by decide) λb71 a w ha hs ho=>?_
   clear ho
   refine RN 0 ha hs λa ha=>?_
   refine st_append ha rfl hs Tryz.underlying22 Ty.t5 rfl rfl hs.rdAll rfl (by simp[Value.oneCell']) (by decide) (by decide) (by omega) λad72 c72 a w ha hs=>?_
   refine RN 1 ha hs λa ha=>?_
   rw[bc_snoc,show (dn++List.replicate j y)++[y]=dn++List.replicate (j+1) y from by rw[List.append_assoc,← List.replicate_succ']]at hs
   rw[show (dn++List.replicate j y).length+1=(dn++List.replicate (j+1) y).length from by simp;omega]at ha hs
   refine RN 2 ha hs λa ha=>?_
   exact⟨x.toNat-(j+1),by omega,j+1,_,_,⟨rfl,by omega⟩,ha.keep [0,1,6,7,8,10,66,67],hs.sub⟩
  obtain rfl:j=x.toNat:=by omega
  refine RN 0 ha hs λa ha=>?_
  have hnl:(dn++List.replicate x.toNat y).length=dn.length+x.toNat:=by simp
  refine RN 4 ha hs λa ha=>?_
  rw[show ((i:Nat):Int)+(((k:Nat):Int)+1)=((i+k+1:Nat):Int) from by omega]at ha
  refine RN 1 ha hs λa ha=>?_
  exact⟨bs.length-(i+k+1),by omega,i+k+1,_,_,_,y,⟨rfl,by omega,by omega,λ_ e=>(by rw[e]at hnl;simp at hnl;omega),λp hp' e=>(by
    have h2:=((hrn p hp' e).get (by omega) hne hg).2.2.2.2.2
    rw[getD_drop,hy,List.drop_drop]at h2
    exact h2)⟩,ha.keep [0,1,6,7,8],hs⟩
 refine RT 4 ha hs ?_
 exact⟨dn,_,_,0,rfl,⟨by omega,hdm,λp hp' e=>⟨by have h2:=hrn p hp' e;rw[List.drop_eq_nil_of_le (by omega)]at h2;exact h2.done.symm,rfl⟩⟩,hs⟩
end
end
section
abbrev pkC (p:Pk)(ad:Option Addr)(c:Nat):List Value:=[.int .i64 p.kind,.int .i64 p.from',.int .i64 p.to,.int .i64 p.id,.int .i64 p.first,.slice ad p.press.length c,.int .i64 p.ack,.int .i64 p.frame,.int .u32 p.sum]
def inP (m:Int)(ns:List Int):Prop:=∀ n∈ns,0≤n∧n≤m
def ivs (ns:List Int):List Value:=ns.map λn=>.int .i64 n
theorem ivs_at {ns:List Int}{i:Nat}(h:i<ns.length):(ivs ns)[i]?=some (.int .i64 ns[i]):=by simp[ivs,h]
def headP (p:Pk):Prop:=(0≤p.from'∧p.from'≤7)∧(0≤p.to∧p.to≤7)∧p.from'≠p.to∧(0≤p.id∧p.id≤1099511627776)
theorem mayPk_1 {p:Pk}(h:headP p)(hk:p.kind=1):mayPk p↔(inP 1000 [p.first,p.ack,p.frame]∧p.press.length≤32):=by
 unfold headP at h
 simp only[mayPk,inP,frP,List.forall_mem_cons,List.not_mem_nil,false_implies,implies_true,and_true]
 omega
theorem mayPk_2 {p:Pk}(h:headP p)(hk:p.kind=2):mayPk p↔(inP 0 [p.first,p.ack,p.frame,(p.press.length:Int)]∧p.sum=0):=by
 unfold headP at h
 simp only[mayPk,inP,frP,List.forall_mem_cons,List.not_mem_nil,false_implies,implies_true,and_true]
 omega
theorem mayPk_h {p:Pk}(h:mayPk p):headP p:=⟨h.1,h.2.1,h.2.2.1,h.2.2.2.1⟩
theorem mayPk_k {p:Pk}(h:mayPk p):p.kind=1∨p.kind=2:=by
 rcases h.2.2.2.2 with h | h
 · exact .inl h.1
 · exact .inr h.1
section
variable {W w:World}{L:List SP}{n c:Nat}{ad:Option Addr}{p:Pk}
theorem in_any {ns:List Int}{b:Nat}{M:Int}(hs:St W w L)(hb:ns.length≤1000)(hp:∀ w',St W w' L→Rd w' b 0 (ivs ns)) :
   Calls Tryz.prog 342 #[.int .i64 M,.slice (some ⟨b,0,none⟩) ns.length ns.length] w λe w'=>∃ r:Bool,e=.returned (.bool r)∧(r=true↔inP M ns)∧St W w' L:=by
 refine EN Tryz.func342 Tryz.ntmps342 rfl rfl λa ha=>?_
 refine RN 7 ha hs λa ha=>?_
 refine wp_loop_ghost (λμ a w=>∃ (i:Nat),(μ=ns.length-i∧i≤ns.length∧inP M (ns.take i))∧Fr a 21 [(0,.int .i64 M),(7,.slice (some ⟨b,0,none⟩) ns.length ns.length),(8,.int .i64 ns.length),(9,.int .i64 i)]∧St W w L) (ns.length) (⟨0,⟨rfl,by omega,λn h=>by simp at h⟩,ha.keep [0,7,8,9],hs⟩) ?_
 clear ha hs
 rintro μ a w ⟨i,⟨rfl,hi,hin⟩,ha,hs⟩
 refine IF 3 ha hs (λhc0 a ha=>?_) λhc0 a ha=>?_
 ·
  have hil:i<ns.length:=by omega
  refine RN 3 ha hs λa ha=>?_
  refine SS ha (ld1 ha (by have:=hp _ hs i _ (ivs_at hil);rwa [Nat.zero_add]at this)) λa ha=>?_
  refine RN 1 ha hs λa ha=>?_
  refine wp_seq_cut (M:=λa w=>∃ z:Bool,(z=true↔¬ (0≤ns[i]∧ns[i]≤M))∧Fr a 21 [(0,.int .i64 M),(7,.slice (some ⟨b,0,none⟩) ns.length ns.length),(8,.int .i64 ns.length),(9,.int .i64 i),(19,.bool z)]∧St W w L) ?_ ?_
  ·
   refine BY 3 ha hs (λhg2 a ha=>?_) λhg2 a ha=>?_
   ·
    refine RN 4 ha hs λa ha=>?_
    exact⟨_,by first | (rw[decide_eq_true_iff];omega) | exact⟨λh=>(by cases h),λh=>absurd h (by omega)⟩ | exact⟨λ_=>by omega,λ_=>rfl⟩,ha.keep [0,7,8,9,19],hs⟩
   refine RN 4 ha hs λa ha=>?_
   exact⟨_,by first | (rw[decide_eq_true_iff];omega) | exact⟨λh=>(by cases h),λh=>absurd h (by omega)⟩ | exact⟨λ_=>by omega,λ_=>rfl⟩,ha.keep [0,7,8,9,19],hs⟩
  clear ha;(try clear hs)
  rintro a w ⟨z,hz,ha,hs⟩
  refine IF 0 ha hs (λhc1 a ha=>?_) λhc1 a ha=>?_
  ·
   refine RT 2 ha hs ?_
   exact⟨_,rfl,⟨λh=>(by cases h),λh=>absurd (h _ (List.getElem_mem hil)) (hz.1 hc1)⟩,hs⟩
  refine RN 2 ha hs λa ha=>?_
  exact⟨ns.length-(i+1),by omega,i+1,⟨rfl,by omega,λn hn=>by
    rw[List.take_succ_eq_append_getElem hil,List.mem_append,List.mem_singleton]at hn
    rcases hn with hn | rfl
    · exact hin n hn
    · exact Classical.byContradiction λh=>by have:=hz.2 h;rw[hc1]at this;cases this⟩,ha.keep [0,7,8,9],hs⟩
 refine RT 2 ha hs ?_
 rw[List.take_of_length_le (by omega)]at hin
 exact⟨_,rfl,⟨λ_=>hin,λ_=>rfl⟩,hs⟩
theorem in2 {M a b:Int}:inP M [a,b]↔(0≤a∧a≤M)∧(0≤b∧b≤M):=by simp[inP]
theorem packet_may (hs:St W w L):Calls Tryz.prog 336 #[.agg (pkC p ad c).toArray] w λe w'=>∃ r:Bool,e=.returned (.bool r)∧(r=true↔mayPk p)∧St W w' L:=by
 have hL:=hs
 refine EN Tryz.func336 Tryz.ntmps336 rfl rfl λa ha=>?_
 refine BX 1 ha hs λb1 a w ha hs=>?_
 refine RN 2 ha hs λa ha=>?_
 refine wp_seq_cut (M:=λa w=>∃ (z:Bool) (b1:Nat),(z=true↔¬ headP p)∧Fr a 63 [(1,pt b1),(26,.bool z)]∧St W w (blk b1 203 (pkC p ad c)::L)) ?_ ?_
 ·
  refine RN 4 ha hs λa ha=>?_
  refine st_buildSlice ha rfl hs Tryz.underlying53 Ty.t3 rfl rfl rfl rfl (by decide) (by decide) λb7 a w ha hs ho=>?_
  clear ho
  refine CL1 0 ha hs (in_any (ns:=[p.from',p.to]) hs (by simp) (λw' hw=>hw.rdAll)) λr1 a w ha ⟨hr1,hs⟩=>?_
  refine BY 2 ha hs (λhg7 a ha=>?_) λhg7 a ha=>?_
  ·
   have hh:¬ headP p:=λh=>by
     have:=hr1.2 (in2.2 ⟨h.1,h.2.1⟩)
     rw[hg7]at this;cases this
   refine RN 16 ha hs λa ha=>?_
   exact⟨_,_,⟨λ_=>hh,λ_=>rfl⟩,ha.keep [1,26],hs.sub⟩
  have hh:=in2.1 (hr1.1 hg7)
  refine BY 7 ha hs (λhg14 a ha=>?_) λhg14 a ha=>?_
  ·
   refine RN 9 ha hs λa ha=>?_
   exact⟨_,_,by unfold headP;first | (rw[decide_eq_true_iff];omega) | exact⟨λh=>(by cases h),λh=>absurd h (by omega)⟩ | exact⟨λ_=>by omega,λ_=>rfl⟩,ha.keep [1,26],hs.sub⟩
  refine BY 5 ha hs (λhg19 a ha=>?_) λhg19 a ha=>?_
  ·
   refine RN 4 ha hs λa ha=>?_
   exact⟨_,_,by unfold headP;first | (rw[decide_eq_true_iff];omega) | exact⟨λh=>(by cases h),λh=>absurd h (by omega)⟩ | exact⟨λ_=>by omega,λ_=>rfl⟩,ha.keep [1,26],hs.sub⟩
  refine RN 4 ha hs λa ha=>?_
  exact⟨_,_,by unfold headP;first | (rw[decide_eq_true_iff];omega) | exact⟨λh=>(by cases h),λh=>absurd h (by omega)⟩ | exact⟨λ_=>by omega,λ_=>rfl⟩,ha.keep [1,26],hs.sub⟩
 clear ha;(try clear hs)
 rintro a w ⟨z,b1,hz,ha,hs⟩
 refine IF 0 ha hs (λhc0 a ha=>?_) λhc0 a ha=>?_
 ·
  have hn:=hz.1 hc0
  refine RT 2 ha hs ?_
  exact⟨_,rfl,⟨λh=>(by cases h),λh=>absurd (mayPk_h h) hn⟩,hs.sub⟩
 have hh:headP p:=Classical.byContradiction λh=>by have:=hz.2 h;rw[hc0]at this;cases this
 refine IF 7 ha hs (λhc1 a ha=>?_) λhc1 a ha=>?_
 ·
  have hk1:p.kind=1:=hc1
  refine RN 7 ha hs λa ha=>?_
  refine st_buildSlice ha rfl hs Tryz.underlying53 Ty.t3 rfl rfl rfl rfl (by decide) (by decide) λb37 a w ha hs ho=>?_
  clear ho
  refine CL1 0 ha hs (in_any (ns:=[p.first,p.ack,p.frame]) hs (by simp) (λw' hw=>hw.rdAll)) λr5 a w ha ⟨hr5,hs⟩=>?_
  refine BY 1 ha hs (λhg8 a ha=>?_) λhg8 a ha=>?_
  ·
   refine RT 6 ha hs ?_
   refine⟨_,rfl,?_,hs.sub⟩
   rw[mayPk_1 hh hk1,decide_eq_true_iff]
   exact⟨λh=>⟨hr5.1 hg8,by omega⟩,λh=>by omega⟩
  refine RT 6 ha hs ?_
  exact⟨_,rfl,⟨λh=>(by cases h),λh=>by have:=hr5.2 ((mayPk_1 hh hk1).1 h).1;rw[hg8]at this;cases this⟩,hs.sub⟩
 refine IF 3 ha hs (λhc2 a ha=>?_) λhc2 a ha=>?_
 ·
  have hk2:p.kind=2:=hc2
  refine RN 10 ha hs λa ha=>?_
  refine st_buildSlice ha rfl hs Tryz.underlying53 Ty.t3 rfl rfl rfl rfl (by decide) (by decide) λb56 a w ha hs ho=>?_
  clear ho
  refine CL1 0 ha hs (in_any (ns:=[p.first,p.ack,p.frame,(p.press.length:Int)]) hs (by simp) (λw' hw=>hw.rdAll)) λr7 a w ha ⟨hr7,hs⟩=>?_
  refine BY 1 ha hs (λhg11 a ha=>?_) λhg11 a ha=>?_
  ·
   refine RT 5 ha hs ?_
   refine⟨_,rfl,?_,hs.sub⟩
   rw[mayPk_2 hh hk2,decide_eq_true_iff]
   exact⟨λh=>⟨hr7.1 hg11,by omega⟩,λh=>by omega⟩
  refine RT 5 ha hs ?_
  exact⟨_,rfl,⟨λh=>(by cases h),λh=>by have:=hr7.2 ((mayPk_2 hh hk2).1 h).1;rw[hg11]at this;cases this⟩,hs.sub⟩
 refine RT 2 ha hs ?_
 exact⟨_,rfl,⟨λh=>(by cases h),λh=>by rcases mayPk_k h with h | h;exact absurd h hc1;exact absurd h hc2⟩,hs.sub⟩
end
end
section
def numsL (p:Pk):List Int:=[p.first,p.ack,p.frame]
def upN (p:Pk)(i:Nat):List UInt8:=headPk p++(putL (zz p.id)++((numsL p).take i).flatMap λn=>putL (zz n))
theorem upN_succ {p:Pk}{i:Nat}(h:i<3):upN p (i+1)=upN p i++putL (zz ((numsL p).getD i 0)):=by
 have hl:i<(numsL p).length:=h
 rw[upN,upN,List.take_succ_eq_append_getElem hl,List.flatMap_append,List.append_assoc,List.append_assoc,List.getD_eq_getElem?_getD,List.getElem?_eq_getElem hl]
 simp
theorem upN_all {p:Pk}(h:p.kind=1):upN p 3++(fourL p.sum++(putL (zz (p.press.length:Int))++runsL p.press 0))=bodyPk p:=by
 simp[upN,bodyPk,midPk,numsPk,h,tailPk,numsL]
theorem upN_quit {p:Pk}(h:p.kind≠1):upN p 0=bodyPk p:=by simp[upN,bodyPk,midPk,numsPk,h]
theorem upN_len {p:Pk}(h:mayPk p){i:Nat}(hi:i≤3):(upN p i).length≤43:=by
 obtain⟨h1,h2,h3,h4,h5⟩:=h
 have hq:∀ n:Int,0≤n→n≤1099511627776→(putL (zz n)).length≤10:=λn a b=>putz_len (by omega) (by omega)
 have hf:(0≤p.first∧p.first≤1000)∧(0≤p.ack∧p.ack≤1000)∧(0≤p.frame∧p.frame≤1000):=by unfold frP at h5;omega
 have a0:=hq p.id (by omega) (by omega)
 have a1:=hq p.first (by omega) (by omega)
 have a2:=hq p.ack (by omega) (by omega)
 have a3:=hq p.frame (by omega) (by omega)
 rcases (by omega:i=0∨i=1∨i=2∨i=3) with rfl | rfl | rfl | rfl <;> simp[upN,headPk,numsL] <;> omega
theorem numsL_at {p:Pk}{i:Nat}(h:i<3):([Value.int .i64 p.first,.int .i64 p.ack,.int .i64 p.frame]:List Value)[i]?=some (.int .i64 ((numsL p).getD i 0)):=by
 rcases (by omega:i=0∨i=1∨i=2) with rfl | rfl | rfl <;> rfl
theorem numsL_in {p:Pk}(h:mayPk p)(i:Nat):0≤(numsL p).getD i 0∧(numsL p).getD i 0≤1000:=by
 have h5:=h.2.2.2.2
 have hf:(0≤p.first∧p.first≤1000)∧(0≤p.ack∧p.ack≤1000)∧(0≤p.frame∧p.frame≤1000):=by unfold frP at h5;omega
 match i with
 | 0=>exact hf.1
 | 1=>exact hf.2.1
 | 2=>exact hf.2.2
 | _+3=>exact⟨Int.le_refl _,by show (0:Int)≤1000;omega⟩
theorem headPk_c {p:Pk}(h:mayPk p):[[Value.int .u8 p.kind],[Value.int .u8 p.from'],[Value.int .u8 p.to]].flatten=bc (headPk p):=by
 have hk:=mayPk_k h
 obtain⟨h1,h2,h3,h4,h5⟩:=h
 simp[bc,headPk,UInt8.toNat_ofNat']
 omega
theorem bodyPk_len {p:Pk}(h:mayPk p):(bodyPk p).length≤503:=by
 have:=midPk_len h
 simp[bodyPk,headPk];omega
section
variable {W w:World}{L:List SP}{n c:Nat}{ad:Option Addr}{bs:List UInt8}{p:Pk}
theorem packet_enc (hs:St W w L)(hsum:p.sum<4294967296)(hp:∀ w',St W w' L→RdB w' ad p.press.length p.press) :
   Calls Tryz.prog 330 #[.agg (pkC p ad c).toArray] w λe w'=>∃ ad' c',e=.returned (.slice ad' (encO p).length c')∧St W w' (Sl 5 1 ad' (encO p).length c' (bc (encO p))::L):=by
 refine EN Tryz.func330 Tryz.ntmps330 rfl rfl λa ha=>?_
 refine BX 1 ha hs λb1 a w ha hs=>?_
 refine CL1 4 ha hs (packet_may (p:=p) (ad:=ad) (c:=c) hs) λr1 a w ha ⟨hr1,hs⟩=>?_
 refine IF 1 ha hs (λhc0 a ha=>?_) λhc0 a ha=>?_
 ·
  have hn:¬ mayPk p:=λh=>by rw[hr1.2 h]at hc0;cases hc0
  refine RT 2 ha hs ?_
  have he:encO p=[]:=by rw[encO,if_neg hn]
  rw[he]
  exact⟨none,0,rfl,hs.tail.sl0 _ _ _⟩
 have hm:mayPk p:=hr1.1 hc0
 have hk:=mayPk_k hm
 have hh:=mayPk_h hm
 unfold headP at hh
 have he:encO p=bodyPk p++fourL (crcSum (bodyPk p)):=by rw[encO,if_pos hm,encPk]
 have hbl:=bodyPk_len hm
 refine SX 3 ha hs (by rw[wrap_u8];omega) λa ha=>?_
 refine SX 2 ha hs (by rw[wrap_u8];omega) λa ha=>?_
 refine SX 2 ha hs (by rw[wrap_u8];omega) λa ha=>?_
 refine RN 0 ha hs λa ha=>?_
 refine st_buildSlice ha rfl hs Tryz.underlying22 Ty.t5 rfl rfl rfl rfl (by decide) (by decide) λb18 a w ha hs ho=>?_
 clear ho
 replace hs:=hs.litS (l:=headPk p) rfl rfl (headPk_c hm)
 refine CL2 2 ha hs (put_bytes (bs:=headPk p) (N:=p.id) hs (by omega) (by omega) (by simp[headPk])) λad3 c3 a w ha hs=>?_
 refine RN 1 ha hs λa ha=>?_
 rw[show headPk p++putL (zz p.id)=upN p 0 from by simp[upN]]at ha hs
 refine wp_seq_cut (M:=λa w=>∃ (ad3:Option Addr) (c3:Nat),Fr a 58 [(3,.slice ad3 (bodyPk p).length c3)]∧St W w (Sl 5 1 ad3 (bodyPk p).length c3 (bc (bodyPk p))::L)) ?_ ?_
 ·
  refine IF 4 ha hs (λhc1 a ha=>?_) λhc1 a ha=>?_
  ·
   have hk1:p.kind=1:=hc1
   have hpl:p.press.length≤32:=by have:=hm.2.2.2.2;omega
   refine RN 8 ha hs λa ha=>?_
   refine SS ha (ex_buildA ha Tryz.underlying429 Ty.t429 Ty.t3 rfl rfl) λa ha=>?_
   refine RN 1 ha hs λa ha=>?_
   refine wp_loop_ghost (λμ a w=>∃ (i c3:Nat) (ad3:Option Addr),(μ=3-i∧i≤3)∧Fr a 58 [(1,pt b1),(3,.slice ad3 (upN p i).length c3),(31,.agg #[.int .i64 p.first,.int .i64 p.ack,.int .i64 p.frame]),(32,.int .i64 i)]∧St W w (Sl 5 1 ad3 (upN p i).length c3 (bc (upN p i))::blk b1 203 (pkC p ad c)::L)) (3) (⟨0,c3,ad3,⟨rfl,by omega⟩,ha.keep [1,3,31,32],hs⟩) ?_
   clear ha hs
   rintro μ a w ⟨i,c3,ad3,⟨rfl,hi⟩,ha,hs⟩
   refine IF 3 ha hs (λhc2 a ha=>?_) λhc2 a ha=>?_
   ·
    refine RN 2 ha hs λa ha=>?_
    refine SS ha (ex_index1 ha Tryz.underlying429 Tryz.underlying3 rfl Ty.t3 (by omega) (numsL_at (p:=p) (by omega))) λa ha=>?_
    refine RN 1 ha hs λa ha=>?_
    have hin:=numsL_in hm i
    have hul:=upN_len hm (show i≤3 by omega)
    refine CL2 2 ha hs (put_bytes hs (by omega) (by omega) (by omega)) λad4 c4 a w ha hs=>?_
    refine RN 1 ha hs λa ha=>?_
    rw[← upN_succ (by omega)]at ha hs
    refine RN 2 ha hs λa ha=>?_
    exact⟨3-(i+1),by omega,i+1,_,_,⟨rfl,by omega⟩,ha.keep [1,3,31,32],hs.sub⟩
   obtain rfl:i=3:=by omega
   have hul:=upN_len hm (Nat.le_refl 3)
   have hll:=putz_len (n:=(p.press.length:Int)) (by omega) (by omega)
   have hal:=upN_all hk1
   generalize upN p 3=u3 at ha hs hul hal
   refine DWC 1 (λw0 w=>Rd w b1 0 (pkC p ad c)) [3,4,6,7] [0,1,5,3002,3006,3007,1003,1004,1008,9] ha hs λa w ha hs hH=>?_
   have hC:Rd w b1 0 (pkC p ad c):=hs.rdAll
   refine RH 3 ha hs hH hC λa ha=>?_
   refine QH ha (λw hc=>ld1 ha (hc 8 _ rfl)) hC λa ha=>?_
   refine QH ha (λw hc=>ld1 ha (hc 5 _ rfl)) hC λa ha=>?_
   refine RH 1 ha hs hH hC λa ha=>?_
   refine CL1 0 ha hs (num_four hs) λad5 a w ha hs=>?_
   replace hC:=hH.at w hs.rdAll
   refine RH 0 ha hs hH hC λa ha=>?_
   refine st_appendT ha rfl hs Tryz.underlying22 Ty.t5 rfl rfl (by decide) (λh0=>(hs.rdB ad5 (fourL p.sum) rfl rfl).get h0) (by rw[bc_len];rfl) (bc_one _) (by rw[fourL_len];omega) λad43 c43 a w ha hs=>?_
   replace hC:=hH.at w hs.rdAll
   rw[← bc_app,← List.length_append]at hs
   rw[← List.length_append]at ha
   refine RH 0 ha hs hH hC λa ha=>?_
   refine CL2 0 ha hs (put_bytes hs (by omega) (by omega) (by rw[List.length_append,fourL_len];omega)) λad6 c6 a w ha hs=>?_
   refine RN 1 ha hs λa ha=>?_
   have hrl:=runsL_len p.press 0
   generalize hu:u3++fourL p.sum++putL (zz (p.press.length:Int))=u4 at ha hs
   have hul4:u4.length≤60:=by rw[← hu];simp[fourL_len];omega
   refine CL2 3 ha hs (runs_enc (bs:=p.press) hs (by omega) (λw' hw=>hp w' hw.sub)) λad7 c7 a w ha hs=>?_
   refine RN 0 ha hs λa ha=>?_
   refine st_appendT ha rfl hs Tryz.underlying22 Ty.t5 rfl rfl (by decide) (λh0=>(hs.rdB ad7 _ rfl rfl).get h0) (by rw[bc_len,Nat.mul_one]) (bc_one _) (by omega) λad52 c52 a w ha hs=>?_
   refine RN 1 ha hs λa ha=>?_
   rw[← bc_app,show u4.length+(runsL p.press 0).length=(u4++runsL p.press 0).length from by rw[List.length_append]]at hs
   rw[show u4.length+(runsL p.press 0).length=(u4++runsL p.press 0).length from by rw[List.length_append]]at ha
   rw[show u4++runsL p.press 0=bodyPk p from by rw[← hu,← hal];simp]at ha hs
   exact⟨_,_,ha.keep [3],hs.sub⟩
  rw[upN_quit (by omega)]at ha hs
  refine RN 0 ha hs λa ha=>?_
  exact⟨_,_,ha.keep [3],hs.sub⟩
 clear ha;(try clear hs)
 rintro a w ⟨ad3,c3,ha,hs⟩
 refine CL 3 ha hs (crc_sum hs (by omega) (λw' hw=>hw.rdB ad3 _ rfl rfl)) λa w ha hs=>?_
 refine CL1 0 ha hs (num_four hs) λad8 a w ha hs=>?_
 refine RN 0 ha hs λa ha=>?_
 refine st_appendT ha rfl hs Tryz.underlying22 Ty.t5 rfl rfl (by decide) (λh0=>(hs.rdB ad8 (fourL (crcSum (bodyPk p))) rfl rfl).get h0) (by rw[bc_len];rfl) (bc_one _) (by rw[fourL_len];omega) λad57 c57 a w ha hs=>?_
 refine RT 1 ha hs ?_
 rw[he]
 rw[← bc_app,← List.length_append]at hs
 rw[← List.length_append]
 exact⟨_,_,rfl,hs.sub⟩
end
end
end Go.Proofs.YteoldcfapaiobaaGreat
