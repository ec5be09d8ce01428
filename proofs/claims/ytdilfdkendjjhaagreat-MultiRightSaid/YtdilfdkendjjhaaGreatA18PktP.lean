/- Plain side of numbers read, of runs and of packets: what is written is read. -/
import Derived.Test.YtdilfdkendjjhaaGreatA17Shop
namespace Go.Proofs.YtdilfdkendjjhaaGreat
open Go.RowKit
set_option linter.unusedVariables false
set_option linter.unusedSimpArgs false
set_option maxRecDepth 10000
set_option synthInstance.maxSize 4000
set_option synthInstance.maxHeartbeats 400000
section
def getL:List UInt8→Nat→Nat→Option (Nat×Nat)
 | [],_,_=>none
 | c::cs,i,u =>
   if i=9∧1<c.toNat then none
   else if 127<c.toNat then getL cs (i+1) (u+c.toNat%128*128 ^ i)
   else if 0<i∧c.toNat=0 then none
   else some (u+c.toNat*128 ^ i,i+1)
def getF (bs:List UInt8):Option (Nat×Nat):=getL bs 0 0
def unzz (u:Nat):Int:=if u%2=1 then -((u/2:Nat):Int)-1 else ((u/2:Nat):Int)
theorem unzz_zz (n:Int):unzz (zz n)=n:=by
 unfold unzz zz
 split <;> split <;> omega
theorem zz_lt {n:Int}(h1:-9223372036854775808≤n)(h2:n≤9223372036854775807):zz n<18446744073709551616:=by
 unfold zz;split <;> omega
theorem pow_mul128 (i:Nat):128 ^ (i+1)=128 ^ i*128:=Nat.pow_succ ..
theorem getL_put (r:List UInt8):∀ (v i u:Nat),v*128 ^ i<18446744073709551616→(i=0∨0<v)→i≤9→getL (putL v++r) i u=some (u+v*128 ^ i,i+(putL v).length):=by
 intro v
 induction v using Nat.strongRecOn with
 | _ v ih =>
   intro i u hv h0 hi
   by_cases hs:v≤127
   · rw[putL_small hs]
     have hb:(UInt8.ofNat v).toNat=v:=by rw[UInt8.toNat_ofNat'];omega
     simp only[List.cons_append,List.nil_append,getL,hb,List.length_singleton]
     have h9:¬ (i=9∧1<v):=by
       rintro⟨hi9,h⟩
       rw[hi9]at hv
       have:v*128 ^ 9 ≥ 2*128 ^ 9:=Nat.mul_le_mul_right _ h
       have h9':(128:Nat) ^ 9=9223372036854775808:=by decide
       omega
     rw[if_neg h9,if_neg (by omega),if_neg (by omega)]
   · rw[putL_big hs]
     have hb:(UInt8.ofNat (v%128+128)).toNat=v%128+128:=by rw[UInt8.toNat_ofNat'];omega
     simp only[List.cons_append,getL,hb,List.length_cons]
     have hle:128 ^ (i+1)≤v*128 ^ i:=by rw[pow_mul128,Nat.mul_comm];exact Nat.mul_le_mul_right _ (by omega)
     have hi9:i+1≤9:=by
       rcases Nat.lt_or_ge i 9 with h | h
       · omega
       · have:128 ^ 10≤128 ^ (i+1):=Nat.pow_le_pow_right (by decide) (by omega)
         have h10:(128:Nat) ^ 10=1180591620717411303424:=by decide
         omega
     have hdv:v/128*128 ^ (i+1)+v%128*128 ^ i=v*128 ^ i:=by
       rw[pow_mul128,show v/128*(128 ^ i*128)=128*(v/128)*128 ^ i from by rw[Nat.mul_comm (128 ^ i),← Nat.mul_assoc,Nat.mul_comm (v/128)],← Nat.add_mul,Nat.div_add_mod]
     rw[if_neg (by omega),if_pos (by omega),ih (v/128) (by omega) (i+1) _ (by omega) (.inr (by omega)) hi9]
     rw[show (v%128+128)%128=v%128 from by omega]
     congr 2
     · omega
     · omega
theorem getF_put {n:Int}(h1:-9223372036854775808≤n)(h2:n≤9223372036854775807)(r:List UInt8):getF (putL (zz n)++r)=some (zz n,(putL (zz n)).length):=by
 have:=getL_put r (zz n) 0 0 (by have:=zz_lt h1 h2;omega) (.inl rfl) (by decide)
 simpa [getF] using this
theorem getL_bd:∀ (bs:List UInt8) (i u:Nat) {v k:Nat},i≤9→u<128 ^ i→getL bs i u=some (v,k)→v<18446744073709551616∧i+1≤k∧k≤i+bs.length∧k≤10
 | [],_,_,_,_,_,_,h=>by cases h
 | c::cs,i,u,v,k,hi,hu,h=>by
   rw[getL]at h
   have hc:=u8_lt c
   have hp:128 ^ i≤128 ^ 9:=Nat.pow_le_pow_right (by decide) hi
   have h9:(128:Nat) ^ 9=9223372036854775808:=by decide
   split at h
   · cases h
   rename_i n9
   split at h
   · rename_i hb
     have hm:c.toNat%128*128 ^ i≤127*128 ^ i:=Nat.mul_le_mul_right _ (by omega)
     have:=getL_bd cs (i+1) _ (by omega) (by rw[pow_mul128];omega) h
     simp only[List.length_cons]
     omega
   · rename_i hb
     split at h
     · cases h
     · obtain⟨rfl,rfl⟩:u+c.toNat*128 ^ i=v∧i+1=k:=by simpa using h
       simp only[List.length_cons]
       refine⟨?_,by omega,by omega,by omega⟩
       rcases Nat.lt_or_ge i 9 with h8 | h8
       · have hp8:128 ^ i≤128 ^ 8:=Nat.pow_le_pow_right (by decide) (by omega)
         have h88:(128:Nat) ^ 8=72057594037927936:=by decide
         have hm:c.toNat*128 ^ i≤127*128 ^ i:=Nat.mul_le_mul_right _ (by omega)
         omega
       · have:i=9:=by omega
         subst this
         have hm:c.toNat*128 ^ 9≤1*128 ^ 9:=Nat.mul_le_mul_right _ (by omega)
         omega
theorem getF_bd {bs:List UInt8}{v k:Nat}(h:getF bs=some (v,k)):v<18446744073709551616∧1≤k∧k≤bs.length∧k≤10:=by
 have:=getL_bd bs 0 0 (by decide) (by decide) h
 omega
def GetR (bs:List UInt8)(x:Int)(k:Nat)(er:Int):Prop :=
 (-9223372036854775808≤x∧x≤9223372036854775807)∧(er=0∨er=1∨er=2)∧(er=0→1≤k∧k≤bs.length)∧(er≠0→k=0∧x=0) ∧
 ∀ (n:Int) (r:List UInt8), -9223372036854775808≤n→n≤9223372036854775807→bs=putL (zz n)++r→x=n∧k=(putL (zz n)).length∧er=0
theorem GetR.bad {bs:List UInt8}{er:Int}(h:getF bs=none)(he:er=1∨er=2):GetR bs 0 0 er:=by
 refine⟨by omega,by omega,by omega,λ_=>⟨rfl,rfl⟩,λn r h1 h2 e=>?_⟩
 rw[e,getF_put h1 h2]at h;cases h
theorem GetR.good {bs:List UInt8}{u k:Nat}(h:getF bs=some (u,k)):GetR bs (unzz u) k 0:=by
 have hb:=getF_bd h
 refine⟨?_,by omega,by omega,by omega,λn r h1 h2 e=>?_⟩
 · unfold unzz;split <;> omega
 · rw[e,getF_put h1 h2]at h
   obtain⟨rfl,rfl⟩:zz n=u∧(putL (zz n)).length=k:=by simpa using h
   exact⟨unzz_zz n,rfl,rfl⟩
def runN (x:UInt8):List UInt8→Nat
 | []=>0
 | y::ys=>if y=x then runN x ys+1 else 0
theorem runN_le (x:UInt8):∀ l:List UInt8,runN x l≤l.length
 | []=>Nat.le_refl _
 | y::ys=>by
   have:=runN_le x ys
   rw[runN];split <;> simp only[List.length_cons] <;> omega
def runsL (l:List UInt8)(last:UInt8):List UInt8:=match l with
 | []=>[]
 | x::xs=>putL (zz ((runN x xs+1:Nat):Int))++(x ^^^ last)::runsL (xs.drop (runN x xs)) x
termination_by l.length
decreasing_by simp only[List.length_drop,List.length_cons];omega
theorem runsL_nil (last:UInt8):runsL [] last=[]:=by rw[runsL]
theorem runsL_cons (x:UInt8)(xs:List UInt8)(last:UInt8):runsL (x::xs) last=putL (zz ((runN x xs+1:Nat):Int))++(x ^^^ last)::runsL (xs.drop (runN x xs)) x:=by rw[runsL]
theorem runN_take (x:UInt8):∀ l:List UInt8,l.take (runN x l)=List.replicate (runN x l) x
 | []=>rfl
 | y::ys=>by
   rw[runN]
   split
   · rename_i h;subst h;rw[List.take_succ_cons,runN_take y ys,List.replicate_succ]
   · rfl
theorem runN_next (x:UInt8):∀ (l:List UInt8) (y:UInt8) (r:List UInt8),l.drop (runN x l)=y::r→y≠x
 | [],_,_,h=>by simp[runN]at h
 | z::zs,y,r,h=>by
   rw[runN]at h
   split at h
   · exact runN_next x zs y r h
   · rename_i hn
     rw[List.drop_zero]at h
     cases h;exact hn
theorem runN_eq {x:UInt8}{l:List UInt8}{n:Nat}(h1:∀ i,i<n→l[i]?=some x)(h2:l[n]?≠some x):runN x l=n:=by
 induction l generalizing n with
 | nil =>
   cases n with
   | zero=>rfl
   | succ n=>have:=h1 0 (by omega);simp at this
 | cons y ys ih =>
   cases n with
   | zero =>
     rw[runN,if_neg]
     intro e;subst e;simp at h2
   | succ n =>
     have h0:=h1 0 (by omega)
     simp at h0
     rw[runN,if_pos h0,ih (n:=n) (λi hi=>by have:=h1 (i+1) (by omega);simpa using this) (by simpa using h2)]
theorem runsL_len (l:List UInt8):∀ last,(runsL l last).length≤11*l.length:=by
 induction hn:l.length using Nat.strongRecOn generalizing l with
 | _ n ih =>
   intro last
   cases l with
   | nil=>rw[runsL_nil];simp
   | cons x xs =>
     rw[runsL_cons,List.length_append,List.length_cons]
     have h1:=runN_le x xs
     subst hn
     simp only[List.length_cons]
     by_cases hb:xs.length<4611686018427387904
     · have h2 := putL_len 9 (zz ((runN x xs + 1 : Nat) : Int)) (by
         have:zz ((runN x xs+1:Nat):Int)=2*(runN x xs+1):=by unfold zz;rw[if_neg (by omega)];omega
         rw[this]
         have h10:(128:Nat) ^ (9+1)=1180591620717411303424:=by decide
         omega)
       have h3:=ih (xs.drop (runN x xs)).length (by simp only[List.length_drop,List.length_cons];omega) (xs.drop (runN x xs)) rfl x
       simp only[List.length_drop]at h3
       omega
     · have h2 : (putL (zz ((runN x xs + 1 : Nat) : Int))).length ≤ runN x xs + 10 := by
         have:∀ u,(putL (2*(u+1))).length≤u+10:=by
           intro u
           induction u using Nat.strongRecOn with
           | _ u ih =>
             by_cases h:2*(u+1)≤127
             · rw[putL_small h];simp
             · rw[putL_big h,List.length_cons]
               by_cases h2:2*(u+1)/128≤127
               · rw[putL_small h2];simp
               · have hq : ∀ v, (putL v).length ≤ v + 1 := by
                   intro v
                   induction v using Nat.strongRecOn with
                   | _ v ihv =>
                     by_cases h3:v≤127
                     · rw[putL_small h3];simp
                     · rw[putL_big h3,List.length_cons]
                       have:=ihv (v/128) (by omega)
                       omega
                 have:=hq (2*(u+1)/128)
                 omega
         have hz:zz ((runN x xs+1:Nat):Int)=2*(runN x xs+1):=by unfold zz;rw[if_neg (by omega)];omega
         rw[hz];exact this _
       have h3:=ih (xs.drop (runN x xs)).length (by simp only[List.length_drop,List.length_cons];omega) (xs.drop (runN x xs)) rfl x
       simp only[List.length_drop]at h3
       omega
theorem xor_back (a b:UInt8):b ^^^ (a ^^^ b)=a:=by rw[UInt8.xor_comm,UInt8.xor_assoc,UInt8.xor_self,UInt8.xor_zero]
theorem xor_zero_iff {a b:UInt8}(h:(a ^^^ b).toNat=0):a=b:=by
 have h0:a ^^^ b=0:=UInt8.toNat_inj.1 (by simpa using h)
 have:=xor_back a b
 rw[h0,UInt8.xor_zero]at this
 exact this.symm
def RunsAt (p out:List UInt8)(last:UInt8)(rest:List UInt8):Prop:=∃ q,p=out++q∧rest=runsL q last∧(out=[]∨∀ y r,q=y::r→y≠last)
theorem RunsAt.start (p:List UInt8):RunsAt p [] 0 (runsL p 0):=⟨p,rfl,rfl,.inl rfl⟩
theorem RunsAt.done {p out:List UInt8}{last:UInt8}(h:RunsAt p out last []):p=out:=by
 obtain⟨q,h1,h2,_⟩:=h
 cases q with
 | nil=>simpa using h1
 | cons x xs =>
   rw[runsL_cons]at h2
   have:=congrArg List.length h2
   simp at this
theorem RunsAt.next {p out:List UInt8}{last:UInt8}{rest:List UInt8}(h:RunsAt p out last rest)(h0:rest≠[]):∃ (m:Nat) (x:UInt8) (r:List UInt8),rest=putL (zz ((m+1:Nat):Int))++(x ^^^ last)::r ∧
   out.length+(m+1)≤p.length∧(out≠[]→(x ^^^ last).toNat≠0)∧RunsAt p (out++List.replicate (m+1) x) x r:=by
 obtain⟨q,h1,h2,h3⟩:=h
 cases q with
 | nil=>rw[runsL_nil]at h2;exact absurd h2 h0
 | cons x xs =>
   rw[runsL_cons]at h2
   have hle:=runN_le x xs
   refine⟨runN x xs,x,_,h2,by rw[h1];simp;omega,λho hz=>?_,xs.drop (runN x xs),?_,rfl,.inr λy r hy=>runN_next x xs y r hy⟩
   · rcases h3 with h3 | h3
     · exact ho h3
     · exact h3 x xs rfl (xor_zero_iff hz)
   · rw[h1,List.append_assoc]
     congr 1
     rw[List.replicate_succ,← runN_take,List.cons_append,List.take_append_drop]
structure Pk where
 kind:Int
 from':Int
 to:Int
 id:Int
 first:Int
 ack:Int
 frame:Int
 sum:Nat
 press:List UInt8
def pk0:Pk:=⟨0,0,0,0,0,0,0,0,[]⟩
def frP (n:Int):Prop:=0≤n∧n≤1000
instance (n:Int):Decidable (frP n):=inferInstanceAs (Decidable (_∧_))
def mayPk (p:Pk):Prop:=(0≤p.from'∧p.from'≤7)∧(0≤p.to∧p.to≤7)∧p.from'≠p.to∧(0≤p.id∧p.id≤1099511627776) ∧
 ((p.kind=1∧frP p.first∧frP p.ack∧frP p.frame∧p.press.length≤32)∨(p.kind=2∧p.first=0∧p.ack=0∧p.frame=0∧p.press.length=0∧p.sum=0))
instance (p:Pk):Decidable (mayPk p):=inferInstanceAs (Decidable (_∧_))
def tailPk (p:Pk):List UInt8:=fourL p.sum++(putL (zz (p.press.length:Int))++runsL p.press 0)
def numsPk (p:Pk):List UInt8:=if p.kind=1 then putL (zz p.first)++(putL (zz p.ack)++(putL (zz p.frame)++tailPk p)) else []
def midPk (p:Pk):List UInt8:=putL (zz p.id)++numsPk p
def headPk (p:Pk):List UInt8:=[UInt8.ofNat p.kind.toNat,UInt8.ofNat p.from'.toNat,UInt8.ofNat p.to.toNat]
def bodyPk (p:Pk):List UInt8:=headPk p++midPk p
def encPk (p:Pk):List UInt8:=bodyPk p++fourL (crcSum (bodyPk p))
def encO (p:Pk):List UInt8:=if mayPk p then encPk p else []
theorem fourL_len (x:Nat):(fourL x).length=4:=rfl
theorem encPk_len (p:Pk):(encPk p).length=(midPk p).length+7:=by
 simp[encPk,bodyPk,headPk,fourL_len]
theorem encPk_mid {p:Pk}{bs:List UInt8}(h:encPk p=bs):(bs.drop 3).take (bs.length-7)=midPk p:=by
 subst h
 rw[encPk_len,Nat.add_sub_cancel,encPk]
 generalize crcSum (bodyPk p)=c
 rw[bodyPk,List.append_assoc,List.drop_left' (by rfl),List.take_left' rfl]
theorem encPk_head {p:Pk}{bs:List UInt8}(h:encPk p=bs):bs[0]?=some (UInt8.ofNat p.kind.toNat)∧bs[1]?=some (UInt8.ofNat p.from'.toNat)∧bs[2]?=some (UInt8.ofNat p.to.toNat):=by
 subst h;exact⟨rfl,rfl,rfl⟩
def fourN (a b c d:Nat):Nat:=((a*256+b)*256+c)*256+d
theorem fourL_back {x:Nat}(h:x<4294967296):fourN (UInt8.ofNat (x/16777216)).toNat (UInt8.ofNat (x/65536)).toNat (UInt8.ofNat (x/256)).toNat (UInt8.ofNat x).toNat=x:=by
 simp only[UInt8.toNat_ofNat',fourN];omega
theorem fourL_inj {x y:Nat}(hx:x<4294967296)(hy:y<4294967296)(h:fourL x=fourL y):x=y:=by
 simp only[fourL,List.cons.injEq,and_true]at h
 obtain⟨h1,h2,h3,h4⟩:=h
 have:=fourL_back hx
 rw[h1,h2,h3,h4,fourL_back hy]at this
 exact this.symm
theorem put_inj {n m:Int}{r s:List UInt8}(h1:-9223372036854775808≤n)(h2:n≤9223372036854775807)(h3:-9223372036854775808≤m)(h4:m≤9223372036854775807)(h:putL (zz n)++r=putL (zz m)++s):n=m∧r=s:=by
 have e:=getF_put h1 h2 r
 rw[h,getF_put h3 h4]at e
 obtain⟨e1,e2⟩:zz m=zz n∧_:=by simpa using e
 have:n=m:=by rw[← unzz_zz n,← unzz_zz m,e1]
 subst this
 exact⟨rfl,List.append_cancel_left h⟩
theorem runs_inj:∀ (n:Nat) {p q:List UInt8} {l:UInt8},p.length≤n→p.length≤1000000→q.length≤1000000→runsL p l=runsL q l→p=q
 | n,[],[],_,_,_,_,_=>rfl
 | n,[],y::ys,l,_,_,_,h=>by
   rw[runsL_nil,runsL_cons]at h
   have:=congrArg List.length h
   simp at this
 | n,x::xs,[],l,_,_,_,h=>by
   rw[runsL_nil,runsL_cons]at h
   have:=congrArg List.length h
   simp at this
 | 0,x::xs,y::ys,l,hn,_,_,_=>by simp at hn
 | n+1,x::xs,y::ys,l,hn,hp,hq,h=>by
   have h1:=runN_le x xs
   have h2:=runN_le y ys
   simp only[List.length_cons]at hn hp hq
   rw[runsL_cons,runsL_cons]at h
   obtain⟨e1,e2⟩:=put_inj (by omega) (by omega) (by omega) (by omega) h
   rw[List.cons.injEq]at e2
   obtain⟨e2,e3⟩:=e2
   have exy:x=y:=by
     have:=xor_back x l
     rw[e2,xor_back]at this
     exact this.symm
   subst exy
   have e4:runN x xs=runN x ys:=by omega
   have e5:=runs_inj n (by simp;omega) (by simp;omega) (by simp;omega) e3
   congr 1
   rw[← List.take_append_drop (runN x xs) xs,runN_take,e5,e4,← runN_take,List.take_append_drop]
theorem u8_int {a b:Int}(ha:0≤a∧a<256)(hb:0≤b∧b<256)(h:UInt8.ofNat a.toNat=UInt8.ofNat b.toNat):a=b:=by
 have:=congrArg UInt8.toNat h
 simp only[UInt8.toNat_ofNat']at this
 omega
theorem encPk_inj {p q:Pk}(hp:mayPk p)(hq:mayPk q)(hsp:p.sum<4294967296)(hsq:q.sum<4294967296)(h:encPk p=encPk q):p=q:=by
 have hm:midPk p=midPk q:=by rw[← encPk_mid (p:=p) rfl,← encPk_mid (p:=q) rfl,h]
 have h0:=encPk_head (p:=p) rfl
 have h1:=encPk_head (p:=q) rfl
 rw[h]at h0
 obtain⟨a1,a2,a3⟩:=h0
 obtain⟨b1,b2,b3⟩:=h1
 rw[b1]at a1;rw[b2]at a2;rw[b3]at a3
 obtain⟨f1,t1,n1,i1,k1⟩:=hp
 obtain⟨f2,t2,n2,i2,k2⟩:=hq
 have ek:=u8_int (by omega) (by omega) (Option.some.inj a1)
 have ef:=u8_int (by omega) (by omega) (Option.some.inj a2)
 have et:=u8_int (by omega) (by omega) (Option.some.inj a3)
 rw[midPk,midPk]at hm
 obtain⟨ei,hm⟩:=put_inj (by omega) (by omega) (by omega) (by omega) hm
 obtain⟨pk,pf,pt,pi,p1,p2,p3,p4,p5⟩:=p
 obtain⟨qk,qf,qt,qi,q1,q2,q3,q4,q5⟩:=q
 simp only at *
 subst ek ef et ei
 rcases k1 with ⟨c1,c2,c3,c4,c5⟩ | ⟨c1,c2,c3,c4,c5,c6⟩
 · rcases k2 with ⟨d1,d2,d3,d4,d5⟩ | ⟨d1,_⟩
   · unfold frP at c2 c3 c4 d2 d3 d4
     rw[numsPk,numsPk,if_pos c1,if_pos d1]at hm
     simp only at hm
     obtain⟨e1,hm⟩:=put_inj (by omega) (by omega) (by omega) (by omega) hm
     obtain⟨e2,hm⟩:=put_inj (by omega) (by omega) (by omega) (by omega) hm
     obtain⟨e3,hm⟩:=put_inj (by omega) (by omega) (by omega) (by omega) hm
     rw[tailPk,tailPk]at hm
     simp only at hm
     obtain⟨e4,hm⟩:=List.append_inj hm rfl
     obtain⟨e5,hm⟩:=put_inj (by omega) (by omega) (by omega) (by omega) hm
     have e6:=runs_inj _ (Nat.le_refl _) (by omega) (by omega) hm
     have e7:=fourL_inj hsp hsq e4
     subst e1 e2 e3 e6 e7
     rfl
   · omega
 · rcases k2 with ⟨d1,_⟩ | ⟨d1,d2,d3,d4,d5,d6⟩
   · omega
   · have:=List.eq_nil_of_length_eq_zero c5
     have:=List.eq_nil_of_length_eq_zero d5
     subst c2 c3 c4 c6 d2 d3 d4 d6
     simp_all
def decP (bs:List UInt8)(p:Pk):Prop:=mayPk p∧p.sum<4294967296∧encPk p=bs
open Classical in
noncomputable def decO (bs:List UInt8):Option Pk:=if h:∃ p,decP bs p then some (Classical.choose h) else none
theorem decO_some {bs:List UInt8}{p:Pk}(h:decP bs p):decO bs=some p:=by
 have hx:∃ p,decP bs p:=⟨p,h⟩
 rw[decO,dif_pos hx]
 have h2:=Classical.choose_spec hx
 rw[encPk_inj h2.1 h.1 h2.2.1 h.2.1 (h2.2.2.trans h.2.2.symm)]
theorem decO_none {bs:List UInt8}(h:∀ p,¬ decP bs p):decO bs=none:=by
 rw[decO,dif_neg];exact λ⟨p,hp⟩=>h p hp
theorem decO_is {bs:List UInt8}{p:Pk}(h:decO bs=some p):decP bs p:=by
 rw[decO]at h
 split at h
 · rename_i hx;cases h;exact Classical.choose_spec hx
 · cases h
theorem decP_iff {bs:List UInt8}{p:Pk}(h0:bs≠[])(hs:p.sum<4294967296):decP bs p↔encO p=bs:=by
 unfold decP encO
 split
 · rename_i h;simp[h,hs]
 · rename_i h;simp[h,h0,Ne.symm h0]
theorem midPk_len {p:Pk}(h:mayPk p):(midPk p).length≤500:=by
 obtain⟨_,_,_,i1,k1⟩:=h
 have pl:∀ n:Int,0≤n→n≤1099511627776→(putL (zz n)).length≤10:=λn h0 h1=>putL_len 9 _ (by
   have:zz n<18446744073709551616:=zz_lt (by omega) (by omega)
   have h10:(128:Nat) ^ (9+1)=1180591620717411303424:=by decide
   omega)
 rw[midPk,List.length_append]
 have:=pl p.id i1.1 i1.2
 rcases k1 with ⟨c1,c2,c3,c4,c5⟩ | ⟨c1,_⟩
 · unfold frP at c2 c3 c4
   rw[numsPk,if_pos c1,tailPk]
   simp only[List.length_append,fourL_len]
   have h1:=pl p.first (by omega) (by omega)
   have h2:=pl p.ack (by omega) (by omega)
   have h3:=pl p.frame (by omega) (by omega)
   have h4:=pl p.press.length (by omega) (by omega)
   have h5:=runsL_len p.press 0
   omega
 · rw[numsPk,if_neg (by omega)];simp;omega
end
section
theorem and_u8 {x:Nat}(h:x<256):IntKind.u8.wrap ((BitVec.ofInt IntKind.u8.bits (x:Int) &&& BitVec.ofInt IntKind.u8.bits 127).toNat)=((x%128:Nat):Int):=by
 have:∀ y:Fin 256,IntKind.u8.wrap ((BitVec.ofInt IntKind.u8.bits ((y.val:Nat):Int) &&& BitVec.ofInt IntKind.u8.bits 127).toNat)=((y.val%128:Nat):Int):=by decide +kernel
 exact this ⟨x,h⟩
theorem pow7 (i:Nat):(2:Nat) ^ (7*i)=128 ^ i:=by rw[Nat.pow_mul]
theorem or_add {u d i:Nat}(hu:u<128 ^ i):u ||| d*128 ^ i=u+d*128 ^ i:=by
 rw[← pow7]at hu ⊢
 rw[Nat.mul_comm,Nat.add_comm,Nat.two_pow_add_eq_or_of_lt hu,Nat.or_comm]
theorem p128 {i:Nat}(hi:i≤9):128 ^ i≤9223372036854775808∧(i≤8→128 ^ i≤72057594037927936):=by
 have h9:(128:Nat) ^ 9=9223372036854775808:=by decide
 have h8:(128:Nat) ^ 8=72057594037927936:=by decide
 refine⟨h9 ▸ Nat.pow_le_pow_right (by decide) hi,λh=>h8 ▸ Nat.pow_le_pow_right (by decide) h⟩
theorem dig_lt {i d:Nat}(hi:i≤9)(h:i=9→d≤1)(hd:d≤127):d*128 ^ i≤9223372036854775808∧(i≤8→d*128 ^ i+128 ^ i≤128 ^ (i+1)):=by
 obtain⟨h1,h2⟩:=p128 hi
 have hm:d*128 ^ i≤127*128 ^ i:=Nat.mul_le_mul_right _ hd
 refine⟨?_,λh8=>by rw[pow_mul128];omega⟩
 rcases Nat.lt_or_ge i 9 with h9 | h9
 · have:=h2 (by omega);omega
 · have:i=9:=by omega
   have hd1:=h this
   have:d*128 ^ i≤1*128 ^ i:=Nat.mul_le_mul_right _ hd1
   omega
theorem getL_step {bs:List UInt8}{i:Nat}(h:i<bs.length)(u:Nat):getL (bs.drop i) i u=if i=9∧1<bs[i].toNat then none
   else if 127<bs[i].toNat then getL (bs.drop (i+1)) (i+1) (u+bs[i].toNat%128*128 ^ i)
   else if 0<i∧bs[i].toNat=0 then none
   else some (u+bs[i].toNat*128 ^ i,i+1):=by
 rw[List.drop_eq_getElem_cons h,getL]
theorem and_one64 {x:Nat}(h:x<18446744073709551616):IntKind.u64.wrap (((BitVec.ofInt IntKind.u64.bits (x:Int) &&& BitVec.ofInt IntKind.u64.bits 1).toNat:Nat):Int)=((x%2:Nat):Int):=by
 have h1:=and_u64 (y:=1) h (by decide)
 rw[Nat.and_one_is_mod]at h1;exact h1
theorem com_i64 {x:Int}(h1:-9223372036854775808≤x)(h2:x≤9223372036854775807):IntKind.i64.wrap (((BitVec.ofInt IntKind.i64.bits (if IntKind.i64.signed then -1 else IntKind.i64.max) ^^^ BitVec.ofInt IntKind.i64.bits x).toNat:Nat):Int) = -x-1:=by
 have e:BitVec.ofInt IntKind.i64.bits (if IntKind.i64.signed then -1 else IntKind.i64.max)=BitVec.allOnes 64:=by
   show BitVec.ofInt 64 (-1)=_
   decide
 rw[e]
 show IntKind.i64.wrap (((BitVec.allOnes 64 ^^^ BitVec.ofInt 64 x).toNat:Nat):Int)=_
 rw[BitVec.allOnes_xor,BitVec.toNat_not,BitVec.toNat_ofInt]
 simp only[IntKind.wrap,IntKind.signed,IntKind.bits]
 simp
 omega
section
variable {W w:World}{L:List SP}{c:Nat}{ad:Option Addr}{bs:List UInt8}
theorem num_get (hs:St W w L)(hb:bs.length≤1099511627776)(hp:∀ w',St W w' L→RdB w' ad bs.length bs) :
   Calls Tryz.prog 275 #[.slice ad bs.length c] w λe w'=>∃ (x:Int) (k:Nat) (er:Int),e=.returned (.tuple #[.int .i64 x,.int .i64 k,.int .i64 er])∧GetR bs x k er∧St W w' L:=by
 refine EN Tryz.func275 Tryz.ntmps275 rfl rfl λa ha=>?_
 refine RN 11 ha hs λa ha=>?_
 refine wp_loop_ghost (λμ a w=>∃ (i u:Nat),(μ=bs.length-i∧i≤bs.length∧i≤9∧u<128 ^ i∧getL (bs.drop i) i u=getF bs)∧Fr a 50 [(5,.int .u64 u),(9,.slice ad bs.length c),(10,.int .i64 bs.length),(11,.int .i64 i)]∧St W w L) (bs.length) (⟨0,0,⟨rfl,by omega,by omega,by decide,rfl⟩,ha.keep [5,9,10,11],hs⟩) ?_
 clear ha hs
 rintro μ a w ⟨i,u,⟨rfl,hi,hi9,hu,hg⟩,ha,hs⟩
 refine IF 3 ha hs (λhc0 a ha=>?_) λhc0 a ha=>?_
 ·
  obtain⟨bb,oo,rfl,hr⟩:=(hp _ hs).get (by omega)
  have hil:i<bs.length:=by omega
  have hb8:=u8_lt bs[i]
  rw[getL_step hil]at hg
  obtain⟨hp1,hp2⟩:=p128 hi9
  refine RN 4 ha hs λa ha=>?_
  refine SS ha (ld1 ha (hr i _ (bc_at hil))) λa ha=>?_
  refine RN 3 ha hs λa ha=>?_
  refine wp_seq_cut (M:=λa w=>∃ z:Bool,(z=true↔(i=9∧1<bs[i].toNat))∧Fr a 50 [(5,.int .u64 u),(6,.int .i64 i),(7,.int .u8 (bs[i].toNat:Int)),(9,.slice (some ⟨bb,oo,none⟩) bs.length c),(10,.int .i64 bs.length),(11,.int .i64 i),(21,.bool z)]∧St W w L) ?_ ?_
  ·
   refine BY 3 ha hs (λhg2 a ha=>?_) λhg2 a ha=>?_
   ·
    refine RN 3 ha hs λa ha=>?_
    exact⟨_,by rw[decide_eq_true_iff];omega,ha.keep [5,6,7,9,10,11,21],hs⟩
   refine RN 3 ha hs λa ha=>?_
   exact⟨_,by simp;omega,ha.keep [5,6,7,9,10,11,21],hs⟩
  clear ha;(try clear hs)
  rintro a w ⟨z,hz,ha,hs⟩
  refine IF 0 ha hs (λhc1 a ha=>?_) λhc1 a ha=>?_
  ·
   rw[if_pos (hz.1 hc1)]at hg
   refine RT 4 ha hs ?_
   exact⟨_,_,_,rfl,GetR.bad hg.symm (by omega),hs⟩
  have hz0:¬ (i=9∧1<bs[i].toNat):=λh=>absurd (hz.2 h) (by simp[hc1])
  rw[if_neg hz0]at hg
  obtain⟨hd1,hd2⟩:=dig_lt (d:=bs[i].toNat%128) hi9 (by omega) (by omega)
  refine RN 4 ha hs λa ha=>?_
  rw[and_u8 hb8]at ha
  refine SX 0 ha hs (by rw[wrap_u64];omega) λa ha=>?_
  refine RN 2 ha hs λa ha=>?_
  rw[show (7:Int)*(i:Int)=((7*i:Nat):Int) from by omega]at ha
  refine SS ha (ex_shl ha (jn:=7*i) (by show 7*i≤64;omega)) λa ha=>?_
  rw[show ((bs[i].toNat%128:Nat):Int)*2 ^ (7*i)=((bs[i].toNat%128*128 ^ i:Nat):Int) from by rw[Int.natCast_mul,← pow7];simp,show IntKind.u64.wrap ((bs[i].toNat%128*128 ^ i:Nat):Int)=((bs[i].toNat%128*128 ^ i:Nat):Int) from by rw[wrap_u64];omega]at ha
  refine RN 1 ha hs λa ha=>?_
  rw[or_u64 (by omega) (by omega),or_add hu]at ha
  refine IF 5 ha hs (λhc2 a ha=>?_) λhc2 a ha=>?_
  ·
   rw[if_pos (by omega)]at hg
   refine RN 2 ha hs λa ha=>?_
   exact⟨bs.length-(i+1),by omega,i+1,_,⟨rfl,by omega,by omega,by have:=hd2 (by omega);omega,hg⟩,ha.keep [5,9,10,11],hs⟩
  rw[if_neg (by omega)]at hg
  rw[Nat.mod_eq_of_lt (show bs[i].toNat<128 from by omega)]at ha hd1 hd2
  refine RN 1 ha hs λa ha=>?_
  refine wp_seq_cut (M:=λa w=>∃ z:Bool,(z=true↔(0<i∧bs[i].toNat=0))∧Fr a 50 [(5,.int .u64 ((u+bs[i].toNat*128 ^ i:Nat):Int)),(6,.int .i64 i),(37,.bool z)]∧St W w L) ?_ ?_
  ·
   refine BY 3 ha hs (λhg2 a ha=>?_) λhg2 a ha=>?_
   ·
    refine RN 3 ha hs λa ha=>?_
    exact⟨_,by rw[decide_eq_true_iff];omega,ha.keep [5,6,37],hs⟩
   refine RN 3 ha hs λa ha=>?_
   exact⟨_,by simp;omega,ha.keep [5,6,37],hs⟩
  clear ha;(try clear hs)
  rintro a w ⟨z,hz,ha,hs⟩
  refine IF 0 ha hs (λhc3 a ha=>?_) λhc3 a ha=>?_
  ·
   rw[if_pos (hz.1 hc3)]at hg
   refine RT 4 ha hs ?_
   exact⟨_,_,_,rfl,GetR.bad hg.symm (by omega),hs⟩
  rw[if_neg (λh=>absurd (hz.2 h) (by simp[hc3]))]at hg
  generalize u+bs[i].toNat*128 ^ i=v at ha hg
  have hv:=(getF_bd hg.symm).1
  refine RN 3 ha hs λa ha=>?_
  rw[show ((v:Nat):Int).fdiv (2 ^ 1)=((v/2:Nat):Int) from fdivN _ 2]at ha
  refine SS ha (ex_convII ha Tryz.underlying224 Tryz.underlying2) λa ha=>?_
  rw[show IntKind.i64.wrap ((v/2:Nat):Int)=((v/2:Nat):Int) from wrap_in (by omega) (by omega)]at ha
  refine RN 1 ha hs λa ha=>?_
  refine wp_seq_cut (M:=λa w=>Fr a 50 [(6,.int .i64 i),(8,.int .i64 (unzz v))]∧St W w L) ?_ ?_
  ·
   refine RN 3 ha hs λa ha=>?_
   rw[and_one64 hv]at ha
   refine IF 1 ha hs (λhc4 a ha=>?_) λhc4 a ha=>?_
   ·
    refine RN 2 ha hs λa ha=>?_
    rw[com_i64 (by omega) (by omega)]at ha
    refine RN 1 ha hs λa ha=>?_
    rw[show -((v/2:Nat):Int)-1=unzz v from by rw[unzz,if_pos (by omega)]]at ha
    exact⟨ha.keep [6,8],hs⟩
   refine RN 0 ha hs λa ha=>?_
   rw[show ((v/2:Nat):Int)=unzz v from by rw[unzz,if_neg (by omega)]]at ha
   exact⟨ha.keep [6,8],hs⟩
  clear ha;(try clear hs)
  rintro a w ⟨ha,hs⟩
  refine RT 7 ha hs ?_
  exact⟨_,_,_,rfl,GetR.good hg.symm,hs⟩
 rw[List.drop_eq_nil_of_le (by omega),getL]at hg
 refine RT 4 ha hs ?_
 exact⟨_,_,_,rfl,GetR.bad hg.symm (by omega),hs⟩
theorem refGet_spec (hs:St W w L)(hb:bs.length≤1099511627776)(hp:∀ w',St W w' L→RdB w' ad bs.length bs) :
   Calls Tryz.prog 212 #[.slice ad bs.length c] w λe w'=>∃ (x:Int) (k:Nat) (er:Int),e=.returned (.tuple #[.int .i64 x,.int .i64 k,.int .i64 er])∧GetR bs x k er∧St W w' L:=by
 refine EN Tryz.func212 Tryz.ntmps212 rfl rfl λa ha=>?_
 refine RN 11 ha hs λa ha=>?_
 refine wp_loop_ghost (λμ a w=>∃ (i u:Nat),(μ=bs.length-i∧i≤bs.length∧i≤9∧u<128 ^ i∧getL (bs.drop i) i u=getF bs)∧Fr a 64 [(0,.slice ad bs.length c),(5,.int .u64 u),(6,.int .u64 ((128 ^ i:Nat):Int)),(7,.int .i64 i)]∧St W w L) (bs.length) (⟨0,0,⟨rfl,by omega,by omega,by decide,rfl⟩,ha.keep [0,5,6,7],hs⟩) ?_
 clear ha hs
 rintro μ a w ⟨i,u,⟨rfl,hi,hi9,hu,hg⟩,ha,hs⟩
 refine IF 6 ha hs (λhc0 a ha=>?_) λhc0 a ha=>?_
 ·
  obtain⟨bb,oo,rfl,hr⟩:=(hp _ hs).get (by omega)
  have hil:i<bs.length:=by omega
  have hb8:=u8_lt bs[i]
  rw[getL_step hil]at hg
  obtain⟨hp1,hp2⟩:=p128 hi9
  refine RN 2 ha hs λa ha=>?_
  refine wp_seq_cut (M:=λa w=>∃ z:Bool,(z=true↔(i=9∧1<bs[i].toNat)∨(0<i∧bs[i].toNat=0))∧Fr a 64 [(0,.slice (some ⟨bb,oo,none⟩) bs.length c),(5,.int .u64 u),(6,.int .u64 ((128 ^ i:Nat):Int)),(7,.int .i64 i),(34,.bool z)]∧St W w L) ?_ ?_
  ·
   refine BY 3 ha hs (λhg2 a ha=>?_) λhg2 a ha=>?_
   ·
    refine RN 3 ha hs λa ha=>?_
    refine st_set ha (wgT ha rfl (s:=17)) (ld1 ha (hr i _ (bc_at hil))) rfl λa ha=>?_
    refine BY 3 ha hs (λhg9 a ha=>?_) λhg9 a ha=>?_
    ·
     refine RN 10 ha hs λa ha=>?_
     refine⟨_,?_,ha.keep [0,5,6,7,34],hs⟩
     (try simp only[decide_eq_true_iff]);(try simp only[Bool.false_eq_true,true_iff,false_iff]);omega
    refine BY 3 ha hs (λhg12 a ha=>?_) λhg12 a ha=>?_
    ·
     refine RN 3 ha hs λa ha=>?_
     refine st_set ha (wgT ha rfl (s:=27)) (ld1 ha (hr i _ (bc_at hil))) rfl λa ha=>?_
     refine RN 3 ha hs λa ha=>?_
     refine⟨_,?_,ha.keep [0,5,6,7,34],hs⟩
     (try simp only[decide_eq_true_iff]);(try simp only[Bool.false_eq_true,true_iff,false_iff]);omega
    refine RN 7 ha hs λa ha=>?_
    refine⟨_,?_,ha.keep [0,5,6,7,34],hs⟩
    (try simp only[decide_eq_true_iff]);(try simp only[Bool.false_eq_true,true_iff,false_iff]);omega
   refine BY 10 ha hs (λhg12 a ha=>?_) λhg12 a ha=>?_
   ·
    refine RN 3 ha hs λa ha=>?_
    refine st_set ha (wgT ha rfl (s:=27)) (ld1 ha (hr i _ (bc_at hil))) rfl λa ha=>?_
    refine RN 3 ha hs λa ha=>?_
    refine⟨_,?_,ha.keep [0,5,6,7,34],hs⟩
    (try simp only[decide_eq_true_iff]);(try simp only[Bool.false_eq_true,true_iff,false_iff]);omega
   refine RN 7 ha hs λa ha=>?_
   refine⟨_,?_,ha.keep [0,5,6,7,34],hs⟩
   (try simp only[decide_eq_true_iff]);(try simp only[Bool.false_eq_true,true_iff,false_iff]);omega
  clear ha;(try clear hs)
  rintro a w ⟨z,hz,ha,hs⟩
  refine IF 0 ha hs (λhc1 a ha=>?_) λhc1 a ha=>?_
  ·
   have hz1:=hz.1 hc1
   have hgn:getF bs=none:=by
     rw[← hg]
     by_cases h9:i=9∧1<bs[i].toNat
     · rw[if_pos h9]
     · rw[if_neg h9,if_neg (by omega),if_pos (by omega)]
   refine RT 4 ha hs ?_
   exact⟨_,_,_,rfl,GetR.bad hgn (by omega),hs⟩
  have hz0:¬ ((i=9∧1<bs[i].toNat)∨(0<i∧bs[i].toNat=0)):=λh=>absurd (hz.2 h) (by simp[hc1])
  have hr:=(hp _ hs).rd (by omega)
  obtain⟨hd1,hd2⟩:=dig_lt (d:=bs[i].toNat%128) hi9 (by omega) (by omega)
  refine RN 5 ha hs λa ha=>?_
  refine SS ha (ld1 ha (hr i _ (bc_at hil))) λa ha=>?_
  refine SX 0 ha hs (by decide) λa ha=>?_
  rw[show ((bs[i].toNat:Nat):Int).tmod 128=((bs[i].toNat%128:Nat):Int) from remN _ 128]at ha
  refine SX 0 ha hs (by rw[wrap_u64];omega) λa ha=>?_
  refine RN 2 ha hs λa ha=>?_
  rw[show ((bs[i].toNat%128:Nat):Int)*((128 ^ i:Nat):Int)=((bs[i].toNat%128*128 ^ i:Nat):Int) from (Int.natCast_mul ..).symm,show IntKind.u64.wrap ((bs[i].toNat%128*128 ^ i:Nat):Int)=((bs[i].toNat%128*128 ^ i:Nat):Int) from by rw[wrap_u64];omega]at ha
  refine RN 1 ha hs λa ha=>?_
  rw[show IntKind.u64.wrap ((u:Int)+((bs[i].toNat%128*128 ^ i:Nat):Int))=((u+bs[i].toNat%128*128 ^ i:Nat):Int) from by rw[wrap_u64];omega]at ha
  refine RN 9 ha hs λa ha=>?_
  refine SS ha (ld1 ha (hr i _ (bc_at hil))) λa ha=>?_
  refine IF 1 ha hs (λhc2 a ha=>?_) λhc2 a ha=>?_
  ·
   rw[if_neg (by omega),if_neg (by omega),if_neg (by omega)]at hg
   rw[Nat.mod_eq_of_lt (show bs[i].toNat<128 from by omega)]at ha hd1 hd2
   generalize u+bs[i].toNat*128 ^ i=v at ha hg
   have hv:=(getF_bd hg.symm).1
   refine RN 2 ha hs λa ha=>?_
   refine SS ha (ex_quo ha (by decide) (by rw[show ((v:Nat):Int).tdiv 2=((v/2:Nat):Int) from quoN _ 2,wrap_u64];omega)) λa ha=>?_
   rw[show ((v:Nat):Int).tdiv 2=((v/2:Nat):Int) from quoN _ 2]at ha
   refine RN 0 ha hs λa ha=>?_
   refine SS ha (ex_convII ha Tryz.underlying224 Tryz.underlying2) λa ha=>?_
   rw[show IntKind.i64.wrap ((v/2:Nat):Int)=((v/2:Nat):Int) from wrap_in (by omega) (by omega)]at ha
   refine RN 1 ha hs λa ha=>?_
   refine wp_seq_cut (M:=λa w=>Fr a 64 [(7,.int .i64 i),(8,.int .i64 (unzz v))]∧St W w L) ?_ ?_
   ·
    refine SX 2 ha hs (by decide) λa ha=>?_
    rw[show ((v:Nat):Int).tmod 2=((v%2:Nat):Int) from remN _ 2]at ha
    refine IF 1 ha hs (λhc3 a ha=>?_) λhc3 a ha=>?_
    ·
     refine RN 2 ha hs λa ha=>?_
     rw[show IntKind.i64.wrap (0-((v/2:Nat):Int)) = -((v/2:Nat):Int) from by rw[wrap_in (by omega) (by omega)];omega]at ha
     refine RN 2 ha hs λa ha=>?_
     rw[show -((v/2:Nat):Int)-1=unzz v from by rw[unzz,if_pos (by omega)]]at ha
     exact⟨ha.keep [7,8],hs⟩
    refine RN 0 ha hs λa ha=>?_
    rw[show ((v/2:Nat):Int)=unzz v from by rw[unzz,if_neg (by omega)]]at ha
    exact⟨ha.keep [7,8],hs⟩
   clear ha;(try clear hs)
   rintro a w ⟨ha,hs⟩
   refine RT 7 ha hs ?_
   exact⟨_,_,_,rfl,GetR.good hg.symm,hs⟩
  rw[if_neg (by omega),if_pos (by omega)]at hg
  have hi8:i≤8:=by omega
  rw[show IntKind.u64.wrap (((128 ^ i:Nat):Int)*128)=((128 ^ (i+1):Nat):Int) from by rw[wrap_u64,pow_mul128];have:=hp2 hi8;omega]at ha
  refine RN 3 ha hs λa ha=>?_
  exact⟨bs.length-(i+1),by omega,i+1,_,⟨rfl,by omega,by omega,by have:=hd2 (by omega);omega,hg⟩,ha.keep [0,5,6,7],hs⟩
 rw[List.drop_eq_nil_of_le (by omega),getL]at hg
 refine RT 4 ha hs ?_
 exact⟨_,_,_,rfl,GetR.bad hg.symm (by omega),hs⟩
theorem refPut_spec {N:Int}(hs:St W w L)(h1:-9223372036854775808≤N)(h2:N≤9223372036854775807) :
   Calls Tryz.prog 77 #[.int .i64 N] w λe w'=>∃ ad' c',e=.returned (.slice ad' (putL (zz N)).length c')∧St W w' (Sl 5 1 ad' (putL (zz N)).length c' (bc (putL (zz N)))::L):=by
 refine EN Tryz.func77 Tryz.ntmps77 rfl rfl λa ha=>?_
 refine RN 4 ha hs λa ha=>?_
 refine SS ha (ex_convII ha Tryz.underlying2 Tryz.underlying224) λa ha=>?_
 refine RN 1 ha hs λa ha=>?_
 rw[wrap_u64,wrap_u64]at ha
 refine RN 1 ha hs λa ha=>?_
 obtain⟨U0,hU0⟩:∃ U0:Nat,(N%18446744073709551616*2)%18446744073709551616=(U0:Int):=⟨((N%18446744073709551616*2)%18446744073709551616).toNat,by omega⟩
 rw[hU0]at ha
 have hU1:U0<18446744073709551616:=by omega
 refine wp_seq_cut (M:=λa w=>Fr a 28 [(3,.int .u64 ((zz N:Nat):Int))]∧St W w L) ?_ ?_
 ·
  refine IF 3 ha hs (λhc0 a ha=>?_) λhc0 a ha=>?_
  ·
   refine RN 2 ha hs λa ha=>?_
   rw[com_u64 hU1]at ha
   refine RN 1 ha hs λa ha=>?_
   rw[show 18446744073709551615-U0=zz N from by rw[zz,if_pos hc0];omega]at ha
   exact⟨ha.keep [3],hs⟩
  refine RN 0 ha hs λa ha=>?_
  rw[show U0=zz N from by rw[zz,if_neg (by omega)];omega]at ha
  exact⟨ha.keep [3],hs⟩
 clear ha;(try clear hs)
 rintro a w ⟨ha,hs⟩
 refine RN 3 ha hs λa ha=>?_
 refine wp_loop_ghost (λμ a w=>∃ (U c':Nat) (ad':Option Addr) (dn:List UInt8),(μ=U∧dn++putL U=putL (zz N)∧U≤zz N)∧Fr a 28 [(3,.int .u64 (U:Int)),(4,.slice ad' dn.length c')]∧St W w (Sl 5 1 ad' dn.length c' (bc dn)::L)) (zz N) (⟨zz N,0,none,[],⟨rfl,rfl,by omega⟩,ha.keep [3,4],hs.sl0 5 1 none⟩) ?_
 clear ha hs
 rintro μ a w ⟨U,c',ad',dn,⟨hμ,hdn,hUz⟩,ha,hs⟩
 refine RN 2 ha hs λa ha=>?_
 have hz1:zz N<18446744073709551616:=by rw[zz];split <;> omega
 have hp1:=putL_len 9 (zz N) (by simp;omega)
 have hdl:dn.length≤10:=by
   have:=congrArg List.length hdn
   rw[List.length_append]at this
   omega
 clear hp1
 refine IF 2 ha hs (λhc1 a ha=>?_) λhc1 a ha=>?_
 ·
  refine SX 3 ha hs (by decide) λa ha=>?_
  rw[show ((U:Nat):Int).tmod 128=((U%128:Nat):Int) from remN _ 128]at ha
  refine RN 1 ha hs λa ha=>?_
  rw[show IntKind.u64.wrap (((U%128:Nat):Int)+128)=((U%128+128:Nat):Int) from by rw[wrap_u64];omega]at ha
  refine SX 0 ha hs (by rw[wrap_u8];omega) λa ha=>?_
  refine RN 0 ha hs λa ha=>?_
  refine st_buildSlice ha rfl hs Tryz.underlying22 Ty.t5 rfl rfl rfl rfl (by decide) (by decide) λb19 a w ha hs ho=>?_
  clear ho
  refine RN 0 ha hs λa ha=>?_
  refine st_append ha rfl hs Tryz.underlying22 Ty.t5 rfl rfl hs.rdAll rfl (by simp[Value.oneCell']) (by decide) (by decide) (by omega) λad20 c20 a w ha hs=>?_
  have hst:bc dn++[[Value.int .u8 ((U%128+128:Nat):Int)]].flatten=bc (dn++[UInt8.ofNat (U%128+128)]):=by
    simp[bc,UInt8.toNat_ofNat']
    omega
  rw[hst]at hs
  refine RN 2 ha hs λa ha=>?_
  refine SS ha (ex_quo ha (by decide) (by rw[show ((U:Nat):Int).tdiv 128=((U/128:Nat):Int) from quoN _ 128,wrap_u64];omega)) λa ha=>?_
  rw[show ((U:Nat):Int).tdiv 128=((U/128:Nat):Int) from quoN _ 128]at ha
  refine RN 1 ha hs λa ha=>?_
  exact⟨U/128,by omega,U/128,_,ad20,dn++[UInt8.ofNat (U%128+128)],⟨rfl,by rw[← hdn,putL_big (u:=U) (by omega),List.append_assoc];rfl,by omega⟩,by rw[List.length_append];exact ha.keep [3,4],by rw[List.length_append];exact hs.sub⟩
 refine SX 3 ha hs (by rw[wrap_u8];omega) λa ha=>?_
 refine RN 0 ha hs λa ha=>?_
 refine st_buildSlice ha rfl hs Tryz.underlying22 Ty.t5 rfl rfl rfl rfl (by decide) (by decide) λb26 a w ha hs ho=>?_
 clear ho
 refine RN 0 ha hs λa ha=>?_
 refine st_append ha rfl hs Tryz.underlying22 Ty.t5 rfl rfl hs.rdAll rfl (by simp[Value.oneCell']) (by decide) (by decide) (by omega) λad27 c27 a w ha hs=>?_
 have hst:bc dn++[[Value.int .u8 ((U:Nat):Int)]].flatten=bc (dn++[UInt8.ofNat U]):=by
   simp[bc,UInt8.toNat_ofNat']
   omega
 rw[hst,← putL_small (by omega),hdn]at hs
 refine RT 1 ha hs ?_
 have hl:dn.length+1=(putL (zz N)).length:=by rw[← hdn,putL_small (by omega),List.length_append];rfl
 rw[hl]at hs ⊢
 exact⟨_,_,rfl,hs.sub⟩
end
end
end Go.Proofs.YtdilfdkendjjhaaGreat
