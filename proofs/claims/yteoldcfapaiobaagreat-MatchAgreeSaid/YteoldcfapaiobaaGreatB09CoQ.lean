/- Plain side of what a player knows: the document's P21 and P22. -/
import Derived.Test.YteoldcfapaiobaaGreatB08Pkt3
import Derived.Test.YteoldcfapaiobaaGreatB05Vm
namespace Go.Proofs.YteoldcfapaiobaaGreat
open Tryz
open List (length_range length_nil mem_range getElem_set_self eraseIdx_set_eq ext_getElem? mem_or_eq_of_mem_set getElem_mem mem_singleton range_succ getElem?_set_ne map_singleton)
open Go.RowKit
set_option linter.unusedVariables false
set_option linter.unusedSimpArgs false
set_option maxRecDepth 10000
set_option synthInstance.maxSize 4000
set_option synthInstance.maxHeartbeats 400000
section
structure Cf where
 n:Int
 me:Int
 id:Int
 aE:Int
 bm:Int
 aX:Int
 order:Int
 cm:Int
 workers:Int
 room:Int
abbrev br (c:Cf):List Value:=[.int .i64 c.n,.int .i64 c.me,.int .i64 c.id,.int .i64 c.aE,.int .i64 c.bm,.int .i64 c.aX,.int .i64 c.order,.int .i64 c.cm,.int .i64 c.workers,.int .i64 c.room]
def dE (n l h:Int):Prop:=l≤n∧n≤h
instance (n l h:Int):Decidable (dE n l h):=inferInstanceAs (Decidable (_∧_))
def eO (c:Cf):Prop:=(dE c.n 2 8∧dE c.me 0 (c.n-1)∧dE c.id 0 1099511627776)∧(dE c.aE 0 8∧dE c.bm 1 16∧dE c.aX 1 3∧dE c.order 0 3) ∧
 (c.order=0∨c.aX=2)∧dE c.cm 0 8∧dE c.workers 0 4∧dE c.room 3 50
instance (c:Cf):Decidable (eO c):=inferInstanceAs (Decidable (_∧_))
structure Pe where
 has:Nat
 heard:Nat
 frame:Nat
 sum:Nat
 apart:Bool
structure Ks where
 n:Nat
 me:Nat
 aE:Nat
 bm:Nat
 id:Int
 aX:Int
 order:Int
 cm:Int
 workers:Int
 room:Int
 ls:List (List UInt8)
 ps:List Pe
 mr:List Nat
 ev:List (Nat×Nat×Nat)
 now:Nat
 cl:Bool
def fg (k:Ks):Cf:=⟨k.n,k.me,k.id,k.aE,k.bm,k.aX,k.order,k.cm,k.workers,k.room⟩
def fy (d:Nat):Pe:=⟨d,0,0,0,false⟩
def fh (c:Cf):Ks:=⟨c.n.toNat,c.me.toNat,c.aE.toNat,c.bm.toNat,c.id,c.aX,c.order,c.cm,c.workers,c.room,
 List.replicate c.n.toNat (List.replicate c.aE.toNat 0),List.replicate c.n.toNat (fy c.aE.toNat),[],[],0,false⟩
def aI (k:Ks):Nat:=(k.ls.getD k.me []).length
def aw (k:Ks):Nat:=aW k.ls
def vX (mk:List Nat)(p:Pe):Prop:=p.apart=false∧1≤p.frame∧p.frame≤mk.length∧mk.getD (p.frame-1) 0≠p.sum
instance (mk:List Nat)(p:Pe):Decidable (vX mk p):=inferInstanceAs (Decidable (_∧_))
def ar (k:Ks)(i:Nat):Pe:=k.ps.getD i (fy 0)
def kY (k:Ks)(i:Nat):Ks:=if vX k.mr (ar k i) then { k with ps:=k.ps.set i { ar k i with apart:=true },ev:=k.ev++[(3,i,(ar k i).frame)] } else k
def gn (k:Ks):Nat→Ks
 | 0=>k
 | i+1=>kY (gn k i) i
def kZ (k:Ks):Ks:=gn k k.ps.length
def lq (k:Ks)(s:Nat):Ks:=kZ (if k.mr.length<1000 then { k with mr:=k.mr++[s] } else k)
def c3 (b:UInt8)(k:Ks):Int×Ks:=if k.cl=true then (6,k) else if 1000≤aI k then (4,k) else if k.bm+aw k≤aI k then (5,k) else (0,{ k with ls:=k.ls.set k.me (k.ls.getD k.me []++[b]) })
def fR (now head:Nat)(p:Pk)(x:Pe):Pe :=
 let h:=if x.has<p.dd.toNat∧p.dd.toNat≤head then p.dd.toNat else x.has
 if 0<p.frame∧(x.frame:Int)≤p.frame then { x with heard:=now,has:=h,frame:=p.frame.toNat,sum:=p.sum } else { x with heard:=now,has:=h }
def fS (k:Ks)(p:Pk):Ks :=
 if p.kind=2 then { k with ps:=k.ps.set p.aZ.toNat { ar k p.aZ.toNat with heard:=k.now },ev:=k.ev++[(1,p.aZ.toNat,0)],cl:=true }
 else kZ { k with ls:=k.ls.set p.aZ.toNat (dw (k.ls.getD p.aZ.toNat []) p.first.toNat p.ak),ps:=k.ps.set p.aZ.toNat (fR k.now (aI k) p (ar k p.aZ.toNat)) }
noncomputable def dD (bs:List UInt8)(k:Ks):Int×Ks:=if k.cl=true then (6,k) else match eB bs with
 | none=>(1,k)
 | some p=>if p.to≠k.me∨(k.n:Int)≤p.aZ∨p.id≠k.id then (1,k) else (0,fS k p)
def dT (k:Ks)(i:Nat):Pk:=⟨1,k.me,i,k.id,(ar k i).has,(k.ls.getD i []).length,k.mr.length,k.mr.getLastD 0,((k.ls.getD k.me []).drop (ar k i).has).take 32⟩
def gp (k:Ks)(i:Nat):Pk:=⟨2,k.me,i,k.id,0,0,0,0,[]⟩
def bI (k:Ks):List Nat:=(List.range k.n).filter (·≠k.me)
def jj (k:Ks)(i:Nat):Prop:=(ar k i).heard+40≤k.now
instance (k:Ks)(i:Nat):Decidable (jj k i):=inferInstanceAs (Decidable (_≤_))
abbrev Ml:=Nat×Nat×List UInt8
def bo (k:Ks):List Ml×Ks:=if k.cl=true then ([],k) else
 let k:={ k with now:=k.now+1 }
 match (bI k).find? (λi=>decide (jj k i)) with
 | some i=>([],{ k with ev:=k.ev++[(2,i,0)],cl:=true })
 | none=>((bI k).map λi=>(k.me,i,aS (dT k i)),k)
def bG (k:Ks):List Ml×Ks:=if k.cl=true then ([],k) else ((bI k).map λi=>(k.me,i,aS (gp k i)),{ k with cl:=true })
def held (k:Ks):Prop:=∀ i,i<k.ps.length→¬ vX k.mr (ar k i)
structure WC (k:Ks):Prop where
 n:2≤k.n∧k.n≤8
 me:k.me<k.n
 id:0≤k.id∧k.id≤1099511627776
 aE:k.aE≤8
 bm:1≤k.bm∧k.bm≤16
 ls:k.ls.length=k.n
 ps:k.ps.length=k.n
 m6:∀ l∈k.ls,l.length≤1000
 mr:k.mr.length≤1000
 rp:∀ s∈k.mr,s<4294967296
 now:∀ p∈k.ps,p.heard≤k.now
 pe:∀ p∈k.ps,p.has≤1000∧p.frame≤1000∧p.sum<4294967296
 bx:∀ e∈k.ev,e.1≤3∧1≤e.1∧e.2.1<8∧e.2.2≤1000∧(e.1=3∨e.2.2=0)
 ot:k.ev.length+k.ps.countP (λp=>!p.apart)+(if k.cl=true then 0 else 1)≤k.n+1
section
variable {k:Ks}{i:Nat}
theorem WC.kx (h:WC k):k.ev.length≤9:=by have:=h.ot;have:=h.n;omega
theorem Yl (h:i<k.ps.length):ar k i∈k.ps:=by
 rw[ar,bl,aF h];exact getElem_mem _
theorem ui {ls:List (List UInt8)}(h:i<ls.length):ls.getD i []∈ls:=by
 rw[bl,aF h];exact getElem_mem _
theorem WC.pw (h:WC k)(hi:i<k.n):(ar k i).has≤1000∧(ar k i).heard≤k.now∧(ar k i).frame≤1000∧(ar k i).sum<4294967296:=by
 have hm:=Yl (k:=k) (i:=i) (by rw[h.ps];exact hi);exact⟨(h.pe _ hm).1,h.now _ hm,(h.pe _ hm).2⟩
theorem WC.lS (h:WC k)(hi:i<k.n):(k.ls.getD i []).length≤1000:=h.m6 _ (ui (by rw[h.ls];exact hi))
theorem WC.lr (h:WC k):aI k≤1000:=h.lS h.me
theorem WC.m7 (h:WC k):aw k≤aI k:=vV (ui (by rw[h.ls];exact h.me))
theorem mem_set {α:Type}{l:List α}{x y:α}(h:y∈l.set i x):y∈l∨y=x:=mem_or_eq_of_mem_set h
theorem WC.AA (h:WC k){p:Pe}{ev:List (Nat×Nat×Nat)}{cl:Bool}(hp:p.has≤1000∧p.frame≤1000∧p.sum<4294967296)(hh:p.heard≤k.now)
   (he:∀ e∈ev,e.1≤3∧1≤e.1∧e.2.1<8∧e.2.2≤1000∧(e.1=3∨e.2.2=0)) (hn:ev.length+(k.ps.set i p).countP (λp=>!p.apart)+(if cl=true then 0 else 1)≤k.n+1):WC { k with ps:=k.ps.set i p,ev:=ev,cl:=cl } :=
 { h with
  ps:=by show (k.ps.set i p).length=_;rw[bu];exact h.ps
  now:=λq hq=>by
   rcases mem_set hq with hq | rfl
   ·exact h.now q hq
   ·exact hh
  pe:=λq hq=>by
   rcases mem_set hq with hq | rfl
   ·exact h.pe q hq
   ·exact hp
  bx:=he
  ot:=hn }
theorem count_set {l:List Pe}{p:Pe}(h:i<l.length):(l.set i p).countP (λp=>!p.apart)+(if l[i].apart=true then 0 else 1)=l.countP (λp=>!p.apart)+(if p.apart=true then 0 else 1):=by
 have h1:l.countP (λp=>!p.apart)=(l[i]::l.eraseIdx i).countP (λp=>!p.apart):=List.Perm.countP_eq _ (rU _ h);have hi:i<(l.set i p).length:=by simpa using h
 have h2:(l.set i p).countP (λp=>!p.apart)=((l.set i p)[i]::(l.set i p).eraseIdx i).countP (λp=>!p.apart):=List.Perm.countP_eq _ (rU _ hi);rw[h1,h2,List.countP_cons,List.countP_cons,getElem_set_self,eraseIdx_set_eq];cases l[i].apart <;> cases p.apart <;> simp <;> omega
theorem WC.kY (h:WC k)(hi:i<k.n):WC (kY k i):=by
 unfold Go.Proofs.YteoldcfapaiobaaGreat.kY;split
 ·rename_i hb;have aG:i<k.ps.length:=by rw[h.ps];exact hi
  have hp:=h.pw hi;have oV:ar k i=k.ps[i]:=by rw[ar,bl,aF aG];rfl
  refine h.AA ⟨hp.1,hp.2.2⟩ hp.2.1 (λe he=>?_) ?_
  ·rcases eR.1 he with he | he
   ·exact h.bx e he
   ·rw[mem_singleton]at he;subst he;have:=h.n;exact⟨by simp,by simp,by simp;omega,hp.2.2.1,.inl rfl⟩
  ·have hc:=count_set (p:={ ar k i with apart:=true }) aG;rw[← oV,hb.1]at hc;have:=h.ot;rw[aM,ji];simp at hc ⊢;omega
 ·exact h
end
section
variable {k:Ks}{i:Nat}
theorem KN (k:Ks)(i:Nat):∃ ps ev,kY k i={ k with ps:=ps,ev:=ev }∧ps.length=k.ps.length:=by
 unfold kY;split
 ·exact⟨_,_,rfl,by simp⟩
 ·exact⟨k.ps,k.ev,rfl,rfl⟩
theorem ye (k:Ks):∀ i,∃ ps ev,gn k i={ k with ps:=ps,ev:=ev }∧ps.length=k.ps.length
 | 0=>⟨k.ps,k.ev,rfl,rfl⟩
 | i+1=>by
  obtain⟨ps,ev,h1,h2⟩:=ye k i;obtain⟨gk,KO,h3,h4⟩:=KN (gn k i) i;refine⟨gk,KO,?_,?_⟩
  ·rw[gn,h3,h1]
  ·rw[h4,h1];exact h2
theorem vY (k:Ks):∃ ps ev,kZ k={ k with ps:=ps,ev:=ev }∧ps.length=k.ps.length:=ye k _
theorem WC.gn (h:WC k):∀ {i},i≤k.n→WC (gn k i)
 | 0,_=>h
 | i+1,hi=>by
  rw[Go.Proofs.YteoldcfapaiobaaGreat.gn];refine (h.gn (i:=i) (by omega)).kY ?_;obtain⟨ps,ev,h1,_⟩:=ye k i;rw[h1];show i<k.n;omega
theorem WC.kZ (h:WC k):WC (kZ k):=h.gn (by rw[h.ps];exact bk _)
theorem Ym (k:Ks)(i:Nat)(hi:i<k.ps.length):¬ vX (kY k i).mr (ar (kY k i) i):=by
 unfold kY;split
 ·intro hb;have:=hb.1;simp[ar,hi]at this
 ·assumption
theorem Yn (k:Ks){i j:Nat}(h:j≠i):ar (kY k i) j=ar k j:=by
 unfold kY;split
 ·simp only[ar,bl];rw[getElem?_set_ne (by omega)]
 ·rfl
theorem Yo (k:Ks)(i:Nat):(kY k i).mr=k.mr:=by
 obtain⟨ps,ev,h1,_⟩:=KN k i;rw[h1]
theorem AB (k:Ks)(i:Nat):(gn k i).ps.length=k.ps.length:=by
 obtain⟨ps,ev,h1,h2⟩:=ye k i;rw[h1];exact h2
theorem KP (k:Ks):∀ {i j},i≤k.ps.length→j<i→¬ vX (gn k i).mr (ar (gn k i) j)
 | 0,_,_,h=>absurd h (by omega)
 | i+1,j,hi,hj=>by
  rw[Go.Proofs.YteoldcfapaiobaaGreat.gn];by_cases h:j=i
  ·subst h;exact Ym _ _ (by rw[AB];omega)
  ·rw[Yo,Yn _ h];exact KP k (by omega) (by omega)
theorem KQ (k:Ks):held (kZ k):=λi hi=>KP k (bk _) (by rw[kZ,AB]at hi;exact hi)
theorem held.gn (h:held k):∀ {i},i≤k.ps.length→gn k i=k
 | 0,_=>rfl
 | i+1,hi=>by
  rw[Go.Proofs.YteoldcfapaiobaaGreat.gn,h.gn (i:=i) (by omega),kY,ag (h i (by omega))]
theorem held.kZ (h:held k):kZ k=k:=h.gn (bk _)
theorem held.of {k':Ks}(h:held k)(hm:k'.mr=k.mr)(hl:k'.ps.length=k.ps.length)(hp:∀ i,i<k.ps.length→(ar k' i).apart=(ar k i).apart∧(ar k' i).frame=(ar k i).frame∧(ar k' i).sum=(ar k i).sum):held k':=by
 intro i hi hb;rw[hl]at hi;obtain⟨h1,h2,h3⟩:=hp i hi;refine h i hi ?_;simp only[vX,hm,h1,h2,h3]at hb;exact hb
theorem WC.mark (h:WC k){s:Nat}(I:s<4294967296):WC (lq k s):=by
 unfold lq;refine WC.kZ ?_;split
 ·exact { h with
   mr:=by show (k.mr++[s]).length≤1000;rw[aM,ji];omega
   rp:=λx hx=>by
    rcases eR.1 hx with hx | hx
    ·exact h.rp x hx
    ·rw[mem_singleton]at hx;rw[hx];exact I }
 ·exact h
theorem KR (k:Ks)(s:Nat)(hl:k.mr.length<1000):∃ ps ev,lq k s={ k with ps:=ps,ev:=ev,mr:=k.mr++[s] }∧ps.length=k.ps.length:=by
 obtain⟨ps,ev,h1,h2⟩:=vY { k with mr:=k.mr++[s] };refine⟨ps,ev,?_,h2⟩;rw[lq,al hl,h1]
theorem uj {k:Ks}{b:UInt8}(h:(c3 b k).1=0):k.cl=false∧aI k<1000∧aI k<k.bm+aw k∧(c3 b k).2={ k with ls:=k.ls.set k.me (k.ls.getD k.me []++[b]) }:=by
 unfold c3 at h ⊢;split at h
 ·cases h
 ·split at h
  ·cases h
  ·split at h
   ·cases h
   ·rename_i h1 h2 h3;refine⟨by simpa using h1,by omega,by omega,?_⟩;rw[ag h1,ag h2,ag h3]
theorem uk {k:Ks}{b:UInt8}(h:(c3 b k).1≠0):(c3 b k).2=k:=by
 unfold c3 at h ⊢;split
 ·rfl
 ·rename_i h1;rw[ag h1]at h;split
  ·rfl
  ·rename_i h2;rw[ag h2]at h;split
   ·rfl
   ·rename_i h3;rw[ag h3]at h;exact absurd rfl h
theorem WC.ak (h:WC k)(b:UInt8):WC (c3 b k).2:=by
 by_cases h0:(c3 b k).1=0
 ·obtain⟨h1,h2,h3,h4⟩:=uj h0;rw[h4];exact { h with
   ls:=by show (k.ls.set _ _).length=_;rw[bu];exact h.ls
   m6:=λl hl=>by
    rcases mem_set hl with hl | rfl
    ·exact h.m6 l hl
    ·rw[aM,ji];simp only[aI]at h2;omega }
 ·rw[uk h0];exact h
theorem held.ak (h:held k)(b:UInt8):held (c3 b k).2:=by
 by_cases h0:(c3 b k).1=0
 ·obtain⟨h1,h2,h3,h4⟩:=uj h0;rw[h4];exact h
 ·rw[uk h0];exact h
theorem WC.Yp (h:WC k):WC { k with ev:=[] } :=
 { h with
  bx:=λe he=>by cases he
  ot:=by have:=h.ot;show ([]:List (Nat×Nat×Nat)).length+_+_≤_;simp only[length_nil];omega }
theorem vZ {k:Ks}{i j:Nat}{p:Pe}(hi:i<k.ps.length):(k.ps.set i p).getD j (fy 0)=if j=i then p else ar k j:=by
 simp only[ar,bl,jF];by_cases h:i=j
 ·subst h;simp[hi]
 ·rw[ag h,ag (λe=>h e.symm)]
theorem ET {k:Ks}{i:Nat}{p:Pe}(hi:i<k.ps.length)(E:p.apart=(ar k i).apart):(k.ps.set i p).countP (λp=>!p.apart)=k.ps.countP (λp=>!p.apart):=by
 have hc:=count_set (p:=p) hi;have oV:ar k i=k.ps[i]:=by rw[ar,bl,aF hi];rfl
 rw[← oV,E]at hc;omega
theorem WC.yf (h:WC k){p:Pk}(hp:hs p)(I:p.sum<4294967296)(hn:p.aZ<k.n)(hc:k.cl=false):WC (fS k p)∧(held k→held (fS k p)):=by
 have EU:=hp.1.1;have aG:p.aZ.toNat<k.n:=by omega
 have EV:p.aZ.toNat<k.ps.length:=by rw[h.ps];exact aG
 have ik:=h.pw aG;unfold fS;split
 ·have hL:=ET (p:={ ar k p.aZ.toNat with heard:=k.now }) EV rfl;refine⟨h.AA (p:={ ar k p.aZ.toNat with heard:=k.now }) (cl:=true) ⟨ik.1,ik.2.2⟩ (bk _) (λe he=>?_) ?_,λhh=>hh.of rfl (by simp) λj hj=>?_⟩
  ·rcases eR.1 he with he | he
   ·exact h.bx e he
   ·rw[mem_singleton]at he;subst he;have:=h.n;exact⟨by simp,by simp,by show p.aZ.toNat<8;omega,by simp,.inr rfl⟩
  ·have:=h.ot;rw[hc]at this;rw[hL,aM,ji];simp at this ⊢;omega
  ·show ((k.ps.set _ _).getD j _).apart=_∧((k.ps.set _ _).getD j _).frame=_∧((k.ps.set _ _).getD j _).sum=_;rw[vZ EV];split
   ·rename_i h1;subst h1;exact⟨rfl,rfl,rfl⟩
   ·exact⟨rfl,rfl,rfl⟩
 ·refine⟨WC.kZ ?_,λ_=>KQ _⟩;have hk:p.kind=1∧eK p.first∧eK p.dd∧eK p.frame∧p.ak.length≤32:=by
   rcases hp.2.2.2.2 with h1 | h1
   ·exact h1
   ·rename_i h2;exact absurd h1.1 h2
  have Ce:(fR k.now (aI k) p (ar k p.aZ.toNat)).apart=(ar k p.aZ.toNat).apart:=by
   unfold fR;simp only;split <;> rfl
  have hL:=ET (p:=fR k.now (aI k) p (ar k p.aZ.toNat)) EV Ce;have Yq:=hk.2.2.1;have iX:=hk.2.2.2.1;simp only[eK]at Yq iX;have gL:=h.lr;have hq:(fR k.now (aI k) p (ar k p.aZ.toNat)).has≤1000∧(fR k.now (aI k) p (ar k p.aZ.toNat)).frame≤1000∧(fR k.now (aI k) p (ar k p.aZ.toNat)).sum<4294967296∧(fR k.now (aI k) p (ar k p.aZ.toNat)).heard=k.now:=by
   unfold fR;simp only;have h9:(if (ar k p.aZ.toNat).has<p.dd.toNat∧p.dd.toNat≤aI k then p.dd.toNat else (ar k p.aZ.toNat).has)≤1000:=by split <;> omega
   split
   ·exact⟨h9,by show p.frame.toNat≤1000;omega,I,rfl⟩
   ·exact⟨h9,ik.2.2.1,ik.2.2.2,rfl⟩
  have h1:=h.AA (p:=fR k.now (aI k) p (ar k p.aZ.toNat)) (i:=p.aZ.toNat) (ev:=k.ev) (cl:=k.cl) ⟨hq.1,hq.2.1,hq.2.2.1⟩ (by rw[hq.2.2.2];exact bk _) h.bx (by rw[hL];exact h.ot);have hG:=h.lS aG;exact { h1 with
   ls:=by show (k.ls.set _ _).length=_;rw[bu];exact h.ls
   m6:=λl hl=>by
    rcases mem_set hl with hl | rfl
    ·exact h.m6 l hl
    ·exact (rk hG).2 }
theorem AD {k:Ks}{bs:List UInt8}(h:(dD bs k).1=0):∃ p,eB bs=some p∧k.cl=false∧p.to=k.me∧p.aZ<k.n∧p.id=k.id∧(dD bs k).2=fS k p:=by
 unfold dD at h ⊢;split at h
 ·cases h
 ·rename_i h1;rw[ag h1];cases hd:eB bs with
  | none=>rw[hd]at h;cases h
  | some p =>
   rw[hd]at h;simp only at h ⊢;split at h
   ·cases h
   ·rename_i h2;rw[ag h2];have h3:p.to=k.me:=Decidable.of_not_not λhh=>h2 (.inl hh);have h4:p.id=k.id:=Decidable.of_not_not λhh=>h2 (.inr (.inr hh));have h5:p.aZ<k.n:=Int.not_le.1 λhh=>h2 (.inr (.inl hh));exact⟨p,rfl,by simpa using h1,h3,h5,h4,rfl⟩
theorem v7 {k:Ks}{bs:List UInt8}(h:(dD bs k).1≠0):(dD bs k).2=k:=by
 unfold dD at h ⊢;split
 ·rfl
 ·rename_i h1;rw[ag h1]at h;cases hd:eB bs with
  | none=>rfl
  | some p =>
   rw[hd]at h;simp only at h ⊢;split
   ·rfl
   ·rename_i h2;rw[ag h2]at h;exact absurd rfl h
theorem WC.recv (h:WC k)(bs:List UInt8):WC (dD bs k).2∧(held k→held (dD bs k).2):=by
 by_cases h0:(dD bs k).1=0
 ·obtain⟨p,h1,h2,h3,h4,h5,h6⟩:=AD h0;obtain⟨h7,h8,h9⟩:=Eh h1;rw[h6];exact h.yf h7 h8 h4 h2
 ·rw[v7 h0];exact⟨h,λh=>h⟩
theorem um {k:Ks}{i:Nat}:i∈bI k↔i<k.n∧i≠k.me:=by simp[bI]
theorem WC.AE (h:WC k):WC { k with now:=k.now+1 }:={ h with now:=λp hp=>Nat.le_succ_of_le (h.now p hp) }
theorem WC.late (h:WC k){i:Nat}(hi:i<8)(hc:k.cl=false):WC { k with ev:=k.ev++[(2,i,0)],cl:=true } :=
 { h with
  bx:=λe he=>by
   rcases eR.1 he with he | he
   ·exact h.bx e he
   ·rw[mem_singleton]at he;subst he;exact⟨by simp,by simp,hi,by simp,.inr rfl⟩
  ot:=by
   have:=h.ot;rw[hc]at this;rw[aM,ji];simp at this ⊢;omega }
theorem v8 (k:Ks):(bo k).2=k∨(k.cl=false∧((bo k).2={ k with now:=k.now+1 }∨∃ i,i<k.n∧(bo k).2={ k with now:=k.now+1,ev:=k.ev++[(2,i,0)],cl:=true })):=by
 unfold bo;split
 ·exact .inl rfl
 ·rename_i hc;refine .inr ⟨by simpa using hc,?_⟩;simp only;cases hf:(bI { k with now:=k.now+1 }).find? (λi=>decide (jj { k with now:=k.now+1 } i)) with
  | none=>exact .inl rfl
  | some i=>exact .inr ⟨i,(um.1 (List.mem_of_find?_eq_some hf)).1,rfl⟩
theorem WC.tick (h:WC k):WC (bo k).2∧(held k→held (bo k).2):=by
 rcases v8 k with h1 | ⟨hc,h1 | ⟨i,hi,h1⟩⟩
 ·rw[h1];exact⟨h,λh=>h⟩
 ·rw[h1];exact⟨h.AE,λh=>h⟩
 ·rw[h1];have:=h.n;exact⟨(h.AE).late (by omega) hc,λh=>h⟩
theorem WC.lu (h:WC k):WC (bG k).2∧(held k→held (bG k).2):=by
 unfold bG;split
 ·exact⟨h,λh=>h⟩
 ·rename_i hc;refine⟨{ h with ot:=?_ },λh=>h⟩;have:=h.ot;have wZ:k.cl=false:=by simpa using hc
  rw[wZ]at this;simp at this ⊢;omega
theorem WC.new {c:Cf}(h:eO c):WC (fh c)∧held (fh c)∧fg (fh c)=c:=by
 obtain⟨⟨h1,h2,h3⟩,⟨h4,h5,h6,h7⟩,h8,h9,fF,mQ⟩:=h;simp only[dE] at *;refine⟨⟨?_,?_,?_,?_,?_,?_,?_,?_,?_,?_,?_,?_,?_,?_⟩,?_,?_⟩
 ·show 2≤c.n.toNat∧c.n.toNat≤8;omega
 ·show c.me.toNat<c.n.toNat;omega
 ·exact h3
 ·show c.aE.toNat≤8;omega
 ·show 1≤c.bm.toNat∧c.bm.toNat≤16;omega
 ·simp[fh]
 ·simp[fh]
 ·intro l hl;simp[fh]at hl;rw[hl.2,ke];omega
 ·simp[fh]
 ·intro s I;cases I
 ·intro p hp;simp[fh]at hp;rw[hp.2];exact Nat.zero_le _
 ·intro p hp;simp[fh]at hp;rw[hp.2];refine⟨?_,?_,?_⟩ <;> simp[fy];omega
 ·intro e he;cases he
 ·simp[fh,List.countP_replicate,fy]
 ·intro i hi hb;have h1:(ar (fh c) i).frame≤0:=hb.2.2.1;have h2:=hb.2.1;omega
 ·show Cf.mk _ _ _ _ _ _ _ _ _ _=c;simp only[fh];rw[Int.toNat_of_nonneg (by omega),Int.toNat_of_nonneg (by omega),Int.toNat_of_nonneg (by omega),Int.toNat_of_nonneg (by omega)]
end
theorem Yr {p:Pr}{fr:Int}{b:List UInt8}{g:Nat→Int}{aV:Nat}{o:gy}{m:Int}(hg:dQ g)(ho:eZ m o):dQ (et p fr b g aV o).1:=by
 have qd:=ho;simp only[eZ,eY]at qd;unfold et;split
 ·exact hg
 ·split
  ·exact hg
  ·split
   ·exact hg
   ·split
    ·exact nA hg (hg _ (by omega))
    ·exact nA hg (Jp hg ho (by assumption) (by assumption))
theorem KS {p:Pr}{fr:Int}{b:List UInt8}(hp:db p):∀ (n:Nat) {g:Nat→Int} {aV:Nat},dQ g→dQ (p7 p fr b n g aV)
 | 0,_,_,hg=>hg
 | n+1,g,aV,hg=>by
  cases ho:p.ops[aV]? with
  | none =>
   rw [DI (by rcases Nat.lt_or_ge aV p.ops.length with h | h; · rw [aF h] at ho; cases ho
              ·exact h)];exact hg
  | some o =>
   have h1:=Yr (p:=p) (fr:=fr) (b:=b) (aV:=aV) hg (hp.2 o (bJ ho));rw[DH ho];split
   ·exact KS hp n h1
   ·exact h1
theorem KT {p:Pr}{fr:Int}{b:List UInt8}{g:Nat→Int}(hp:db p)(hg:dQ g):dQ (e0 p fr b g):=KS hp 200 hg
theorem KU {p:Pr}(hp:db p):∀ (l:List (List UInt8)) {fr:Int} {g:Nat→Int},dQ g→dQ (foldI p fr g l)
 | [],_,_,hg=>hg
 | b::l,_,_,hg=>KU hp l (KT hp hg)
structure Pl where
 k:Ks
 g:Nat→Int
def nE (p:Pr)(s:Pl):Pl:=⟨lq s.k (jh (gm (e0 p s.k.mr.length (bL s.k.ls s.k.mr.length) s.g))),e0 p s.k.mr.length (bL s.k.ls s.k.mr.length) s.g⟩
def il (p:Pr):Nat→Pl→Pl
 | 0,s=>s
 | n+1,s=>il p n (nE p s)
theorem EW (p:Pr):∀ (n:Nat) (s:Pl),il p (n+1) s=nE p (il p n s)
 | 0,_=>rfl
 | n+1,s=>by rw[il,EW p n (nE p s)];rfl
def eC (p:Pr)(s:Pl):Pl:=il p (aw s.k-s.k.mr.length) s
def ou:Nat→Int:=λ_=>0
theorem Ys:dQ ou:=λ_ _=>⟨by simp[ou],by simp[ou]⟩
def lv (p:Pr)(ls:List (List UInt8))(f:Nat):Nat→Int:=foldI p 0 ou ((List.range f).map (bL ls))
def ky (p:Pr)(ls:List (List UInt8))(f:Nat):Nat:=jh (gm (lv p ls (f+1)))
theorem KV (p:Pr)(ls:List (List UInt8))(f:Nat):lv p ls (f+1)=e0 p f (bL ls f) (lv p ls f):=by
 rw[lv,range_succ,cX,map_singleton,Db,bg,length_range,Int.zero_add];rfl
def Ext (ls kz:List (List UInt8)):Prop:=kz.length=ls.length∧∀ i:Nat,i<ls.length→∃ t,kz.getD i []=ls.getD i []++t
theorem Ext.refl (ls:List (List UInt8)):Ext ls ls:=⟨rfl,λi _=>⟨[],by simp⟩⟩
theorem Ext.trans {a b c:List (List UInt8)}(h:Ext a b)(h2:Ext b c):Ext a c:=⟨h2.1.trans h.1,λi hi=>by
 obtain⟨t,ht⟩:=h.2 i hi;obtain⟨u,hu⟩:=h2.2 i (by rw[h.1];exact hi);exact⟨t++u,by rw[hu,ht,dA]⟩⟩
theorem Ext.set {ls:List (List UInt8)}{i:Nat}{t:List UInt8}:Ext ls (ls.set i (ls.getD i []++t)):=by
 refine⟨by simp,λj hj=>?_⟩;by_cases h:i=j
 ·subst h;exact⟨t,by simp[bl,hj]⟩
 ·exact⟨[],by simp[bl,getElem?_set_ne h]⟩
theorem getD_map {ls:List (List UInt8)}{f i:Nat}(h:i<ls.length):(bL ls f)[i]?=some ((ls.getD i []).getD f 0):=by
 rw[bL,bn,aF h,bl (l:=ls),aF h];rfl
theorem Ext.EX {ls kz:List (List UInt8)}(h:Ext ls kz){f:Nat}(hf:f<aW ls):bL kz f=bL ls f:=by
 apply ext_getElem?;intro i;by_cases hi:i<ls.length
 ·rw[getD_map (by rw[h.1];exact hi),getD_map hi];obtain⟨t,ht⟩:=h.2 i hi;have hl:=vV (ui hi);rw[ht,bl,lX (by omega),← bl]
 ·rw[iw (by rw[m4,h.1];omega),iw (by rw[m4];omega)]
theorem Ext.front {ls kz:List (List UInt8)}(h:Ext ls kz)(h0:ls≠[]):aW ls≤aW kz:=by
 refine EO (λh1=>?_) λl hl=>?_
 ·have:=h.1;rw[h1]at this;exact h0 (g5 this.symm)
 ·obtain⟨i,hi,rfl⟩:=List.getElem_of_mem hl;have u9:i<ls.length:=by rw[← h.1];exact hi
  obtain⟨t,ht⟩:=h.2 i u9;have h3:=vV (ui u9);rw[bl,aF hi]at ht;simp only[Option.getD_some]at ht;rw[ht,aM];omega
theorem Ext.lv {ls kz:List (List UInt8)}(h:Ext ls kz){p:Pr}{f:Nat}(hf:f≤aW ls):lv p kz f=lv p ls f:=by
 unfold Go.Proofs.YteoldcfapaiobaaGreat.lv
 congr 1
 refine List.map_congr_left λi hi=>h.EX ?_;rw[mem_range]at hi;omega
theorem Ext.ky {ls kz:List (List UInt8)}(h:Ext ls kz){p:Pr}{f:Nat}(hf:f<aW ls):ky p kz f=ky p ls f:=by
 rw[Go.Proofs.YteoldcfapaiobaaGreat.ky,h.lv (by omega)];rfl
structure WP (p:Pr)(s:Pl):Prop where
 wc:WC s.k
 held:held s.k
 low:s.k.mr.length≤aw s.k
 rq:s.g=lv p s.k.ls s.k.mr.length
 marks:s.k.mr=(List.range s.k.mr.length).map (ky p s.k.ls)
section
variable {p:Pr}{s:Pl}
theorem WP.py (h:WP p s)(hp:db p):dQ s.g:=by rw[h.rq];exact KU hp _ Ys
theorem WC.k0 {k:Ks}(h:WC k):k.ls≠[]:=λe=>by
 have:=h.ls;have:=h.n;rw[e] at *;simp at *;omega
theorem WP.one (h:WP p s)(hl:s.k.mr.length<aw s.k):WP p (nE p s)∧(nE p s).k.ls=s.k.ls∧(nE p s).k.mr.length=s.k.mr.length+1:=by
 have h9:=h.wc.m7;have h8:=h.wc.lr;obtain⟨ps,ev,h1,h2⟩:=KR s.k (jh (gm (e0 p s.k.mr.length (bL s.k.ls s.k.mr.length) s.g))) (by omega);have hk:(nE p s).k={ s.k with ps:=ps,ev:=ev,mr:=s.k.mr++[jh (gm (e0 p s.k.mr.length (bL s.k.ls s.k.mr.length) s.g))] }:=h1;have hm:(nE p s).k.mr.length=s.k.mr.length+1:=by rw[hk];simp
 have e6:(nE p s).k.ls=s.k.ls:=by rw[hk]
 have hg:e0 p s.k.mr.length (bL s.k.ls s.k.mr.length) s.g=lv p s.k.ls (s.k.mr.length+1):=by rw[KV,h.rq]
 refine⟨⟨h.wc.mark (D2 _),?_,?_,?_,?_⟩,e6,hm⟩
 ·show Go.Proofs.YteoldcfapaiobaaGreat.held (lq _ _);rw[lq];exact KQ _
 ·rw[hm,aw,e6];exact hl
 ·rw[hm,e6];exact hg
 ·rw[hm,e6,hk,range_succ,cX,← h.marks,hg];rfl
theorem WP.ql:∀ (n:Nat) {s:Pl},WP p s→n≤aw s.k-s.k.mr.length→WP p (il p n s)∧(il p n s).k.ls=s.k.ls∧(il p n s).k.mr.length=s.k.mr.length+n
 | 0,_,h,_=>⟨h,rfl,rfl⟩
 | n+1,s,h,hn=>by
  obtain⟨h1,h2,h3⟩:=h.one (by omega);obtain⟨h4,h5,h6⟩:=h1.ql n (by rw[aw,h2,h3];simp only[aw]at hn;omega);exact⟨h4,h5.trans h2,by rw[il,h6,h3];omega⟩
theorem Yt (h:s.k.mr.length<1000):∃ ps ev mr,(nE p s).k={ s.k with ps:=ps,ev:=ev,mr:=mr }:=by
 obtain⟨ps,ev,h1,h2⟩:=KR s.k (jh (gm (e0 p s.k.mr.length (bL s.k.ls s.k.mr.length) s.g))) h;exact⟨ps,ev,_,h1⟩
theorem WP.KW:∀ (n:Nat) {s:Pl},WP p s→n≤aw s.k-s.k.mr.length→∃ ps ev mr,(il p n s).k={ s.k with ps:=ps,ev:=ev,mr:=mr }
 | 0,s,h,_=>⟨s.k.ps,s.k.ev,s.k.mr,rfl⟩
 | n+1,s,h,hn=>by
  have h9:=h.wc.m7;have h8:=h.wc.lr;obtain⟨h1,h2,h3⟩:=h.one (by omega);obtain⟨ps,ev,mr,h4⟩:=h1.KW n (by rw[aw,h2,h3];simp only[aw]at hn;omega);obtain⟨gk,KO,mr',h5⟩:=Yt (p:=p) (s:=s) (by omega);exact⟨ps,ev,mr,by rw[il,h4,h5]⟩
structure cv (p:Pr)(s:Pl):Prop extends WP p s where
 full:s.k.mr.length=aw s.k
theorem WP.eC (h:WP p s):cv p (eC p s)∧(eC p s).k.ls=s.k.ls∧∃ ps ev mr,(Go.Proofs.YteoldcfapaiobaaGreat.eC p s).k={ s.k with ps:=ps,ev:=ev,mr:=mr }:=by
 obtain⟨h1,h2,h3⟩:=h.ql _ (bk _);have hl:=h.low;refine⟨⟨h1,?_⟩,h2,h.KW _ (bk _)⟩;show (il p _ s).k.mr.length=aW (il p _ s).k.ls;rw[h3,h2];show _=aw s.k;omega
theorem cv.eC (h:cv p s):eC p s=s:=by rw[Go.Proofs.YteoldcfapaiobaaGreat.eC,h.full,Nat.sub_self];rfl
theorem WP.more {k':Ks}(h:WP p s)(hw:WC k')(hh:Go.Proofs.YteoldcfapaiobaaGreat.held k')(hm:k'.mr=s.k.mr)(he:Ext s.k.ls k'.ls):WP p ⟨k',s.g⟩:=by
 have hf:=he.front h.wc.k0;have hl:=h.low;refine⟨hw,hh,?_,?_,?_⟩
 ·show k'.mr.length≤aW k'.ls;rw[hm];simp only[aw]at hl;omega
 ·show s.g=lv p k'.ls k'.mr.length;rw[hm,he.lv hl];exact h.rq
 ·show k'.mr=(List.range k'.mr.length).map (ky p k'.ls);rw[hm]
  conv=>lhs;rw[h.marks]
  refine List.map_congr_left λi hi=>?_;rw[mem_range]at hi;simp only[aw]at hl;rw[he.ky (by omega)]
def dH (p:Pr)(b:UInt8)(s:Pl):Int×Pl:=((c3 b s.k).1,eC p ⟨(c3 b s.k).2,s.g⟩)
noncomputable def dI (p:Pr)(bs:List UInt8)(s:Pl):Int×Pl:=((dD bs s.k).1,eC p ⟨(dD bs s.k).2,s.g⟩)
def lx (s:Pl):List UInt8×Nat:=(gm s.g,aw s.k)
theorem KX (l:List UInt8)(f:Nat)(b:List UInt8):∃ t,dw l f b=l++t:=by
 unfold dw;split
 ·exact⟨[],by simp⟩
 ·exact⟨_,rfl⟩
theorem EY {k:Ks}{p:Pk}:(fS k p).mr=k.mr∧Ext k.ls (fS k p).ls:=by
 unfold fS;split
 ·exact⟨rfl,Ext.refl _⟩
 ·obtain⟨ps,ev,h1,_⟩:=vY { k with ls:=k.ls.set p.aZ.toNat (dw (k.ls.getD p.aZ.toNat []) p.first.toNat p.ak),ps:=k.ps.set p.aZ.toNat (fR k.now (aI k) p (ar k p.aZ.toNat)) };rw[h1];obtain⟨t,ht⟩:=KX (k.ls.getD p.aZ.toNat []) p.first.toNat p.ak;refine⟨rfl,?_⟩;show Ext k.ls (k.ls.set _ _);rw[ht];exact Ext.set
theorem uo (b:UInt8)(k:Ks):(c3 b k).2.mr=k.mr∧Ext k.ls (c3 b k).2.ls:=by
 by_cases h0:(c3 b k).1=0
 ·obtain⟨h1,h2,h3,h4⟩:=uj h0;rw[h4];exact⟨rfl,Ext.set⟩
 ·rw[uk h0];exact⟨rfl,Ext.refl _⟩
theorem rr (bs:List UInt8)(k:Ks):(dD bs k).2.mr=k.mr∧Ext k.ls (dD bs k).2.ls:=by
 by_cases h0:(dD bs k).1=0
 ·obtain⟨p,h1,h2,h3,h4,h5,h6⟩:=AD h0;rw[h6];exact EY
 ·rw[v7 h0];exact⟨rfl,Ext.refl _⟩
theorem cv.ak (h:cv p s)(b:UInt8):cv p (dH p b s).2:=by
 have h1:=uo b s.k;exact (h.toWP.more (h.wc.ak b) (h.held.ak b) h1.1 h1.2).eC.1
theorem cv.recv (h:cv p s)(bs:List UInt8):cv p (dI p bs s).2:=by
 have h1:=rr bs s.k;exact (h.toWP.more (h.wc.recv bs).1 ((h.wc.recv bs).2 h.held) h1.1 h1.2).eC.1
theorem cv.with {k':Ks}(h:cv p s)(hw:WC k')(hh:Go.Proofs.YteoldcfapaiobaaGreat.held k')(hm:k'.mr=s.k.mr)(he:k'.ls=s.k.ls):cv p ⟨k',s.g⟩:=by
 refine⟨h.toWP.more hw hh hm (by rw[he];exact Ext.refl _),?_⟩;show k'.mr.length=aW k'.ls;rw[hm,he];exact h.full
theorem AF (k:Ks):(bo k).2.mr=k.mr∧(bo k).2.ls=k.ls:=by
 rcases v8 k with h1 | ⟨hc,h1 | ⟨i,hi,h1⟩⟩ <;> rw[h1] <;> exact⟨rfl,rfl⟩
theorem AG (k:Ks):(bG k).2.mr=k.mr∧(bG k).2.ls=k.ls:=by
 unfold bG;split <;> exact⟨rfl,rfl⟩
theorem cv.tick (h:cv p s):cv p ⟨(bo s.k).2,s.g⟩:=h.with h.wc.tick.1 (h.wc.tick.2 h.held) (AF _).1 (AF _).2
theorem cv.lu (h:cv p s):cv p ⟨(bG s.k).2,s.g⟩:=h.with h.wc.lu.1 (h.wc.lu.2 h.held) (AG _).1 (AG _).2
theorem cv.told (h:cv p s):cv p ⟨{ s.k with ev:=[] },s.g⟩:=h.with h.wc.Yp (λi hi=>h.held i hi) rfl rfl
def eD (p:Pr)(c:Cf):Pl:=eC p ⟨fh c,ou⟩
theorem wa {c:Cf}(h:eO c):WP p ⟨fh c,ou⟩:=by
 obtain⟨h1,h2,h3⟩:=WC.new h;exact⟨h1,h2,Nat.zero_le _,rfl,rfl⟩
theorem cv.new {c:Cf}(h:eO c):cv p (eD p c):=(wa h).eC.1
end
section
variable {p:Pr}{me:Nat}{ls:List (List UInt8)}{s:Pl}{k:Ks}
theorem KY (h:WP p s):(eC p s).k.n=s.k.n∧(eC p s).k.me=s.k.me∧(eC p s).k.id=s.k.id∧(eC p s).k.cl=s.k.cl∧(eC p s).k.bm=s.k.bm∧(eC p s).k.now=s.k.now∧(eC p s).k.ls=s.k.ls:=by
 obtain⟨_,h2,ps,ev,mr,h3⟩:=h.eC;rw[h3];exact⟨rfl,rfl,rfl,rfl,rfl,rfl,rfl⟩
theorem KZ (p:Pk):(aS p).length≤507:=by
 unfold aS;split
 ·rename_i h;have:=J3 h;rw[xT];omega
 ·simp
end
end
section
def AH:TypeDesc→Bool | .interface _=>true | _=>false
section
variable {P:Program}{a:Act}{w:World}{n:Nat}{l:List (Nat×Value)}{v:Value}
theorem EZ {x t E0 ek dst ty ps af g}(E:Fr a n l)(ht:P.underlying t=some ek)(hd:AH ek=false)[e:Ev l x (.iface t v)] :
   (execOp a.eval ⟨dst,.typeAssert x E0 t true,ty,ps,af,g⟩).run P w=.ok (.value (.tuple #[v,.bool true])) w:=by
 cases ek <;> first | (simp[AH]at hd) | skip
 all_goals simp[execOp,e.ev a n E,Instr.typeAssert,eP ht]
theorem E1 {x t t' E0 ek dst z sz a2 ty ps af g}(E:Fr a n l)(ht:P.underlying t=some ek)(hd:AH ek=false)(hi:TI P t z sz a2)(hn:Nat.beq t' t=false)[e:Ev l x (.iface t' v)] :
   (execOp a.eval ⟨dst,.typeAssert x E0 t true,ty,ps,af,g⟩).run P w=.ok (.value (.tuple #[z,.bool false])) w:=by
 have bP:¬ t'=t:=λh=>by rw[h,Nat.beq_refl]at hn;cases hn
 cases ek <;> first | (simp[AH]at hd) | skip
 all_goals simp[execOp,e.ev a n E,Instr.typeAssert,eP ht,tm hi,bP]
end
abbrev jZ:=Nat×Nat×Nat
def sN (e:jZ):Prop:=e.1≤3∧1≤e.1∧e.2.1<8∧e.2.2≤1000∧(e.1=3∨e.2.2=0)
def cz (e:jZ):Value:=if e.1=1 then .iface 210 (.agg #[.int .i64 e.2.1]) else if e.1=2 then .iface 211 (.agg #[.int .i64 e.2.1]) else .iface 213 (.agg #[.int .i64 e.2.1,.int .i64 e.2.2])
theorem E2 (e:jZ):(cz e).oneCell'=true:=by
 unfold cz;split
 ·rfl
 ·split <;> rfl
instance {e:jZ}:One (cz e):=⟨E2 e⟩
abbrev bU (e:jZ):List Value:=[.int .i64 e.1,.int .i64 e.2.1,.int .i64 e.2.2]
theorem AI (e:jZ):(bU e).length=3:=rfl
theorem E3 (e:jZ):∀ v∈bU e,v.oneCell'=true:=by
 intro v hv;simp[bU]at hv;rcases hv with rfl | rfl | rfl <;> rfl
section
variable {W w:World}{L:List SP}{e:jZ}
theorem Yu (I:U W w L)(h:sN e):Calls prog 231 #[.agg (bU e).toArray] w λr V=>r=.returned (.tuple #[.agg #[cz e],.bool true])∧U W V L:=by
 obtain⟨h1,h2,h3,h4,h5⟩:=h;refine EN func231 ntmps231 rfl rfl λa E=>?_;refine BX 1 E I λb1 a w E I=>?_;change U W w (aa b1 102 (bU e)::_) at I;refine AL 0 E I λb2 a w E I=>?_;refine RN 7 E I λa E=>?_;rw[bq (by omega)]at E;refine RN 5 E I λa E=>?_;rw[bq (by omega)]at E;refine RN 5 E I λa E=>?_;rw[bq (by omega)]at E;refine RN 5 E I λa E=>?_;rw[bq (by omega)]at E;refine BY 4 E I (λpj a E=>?_) λpj a E=>?_
 ·
  refine RN 5 E I λa E=>?_;rw[bq (by omega)]at E;refine IF 8 E I (λao a E=>?_) λao a E=>?_
  ·
   refine SA 6 E I λa w E I=>?_;refine RT 1 E I ?_;exact⟨by rw[cz,al (by omega)],I.sub⟩
  refine IF 3 E I (λaz a E=>?_) λaz a E=>?_
  ·
   refine SA 6 E I λa w E I=>?_;refine RT 1 E I ?_;exact⟨by rw[cz,ag (by omega),al (by omega)],I.sub⟩
  refine IF 3 E I (λbh a E=>?_) λbh a E=>?_
  ·
   refine SA 8 E I λa w E I=>?_;refine RT 1 E I ?_;exact⟨by rw[cz,ag (by omega),ag (by omega)],I.sub⟩
  exfalso;omega
 refine IF 13 E I (λao a E=>?_) λao a E=>?_
 ·
  refine SA 6 E I λa w E I=>?_;refine RT 1 E I ?_;exact⟨by rw[cz,al (by omega)],I.sub⟩
 refine IF 3 E I (λaz a E=>?_) λaz a E=>?_
 ·
  refine SA 6 E I λa w E I=>?_;refine RT 1 E I ?_;exact⟨by rw[cz,ag (by omega),al (by omega)],I.sub⟩
 refine IF 3 E I (λbh a E=>?_) λbh a E=>?_
 ·
  refine SA 8 E I λa w E I=>?_;refine RT 1 E I ?_;exact⟨by rw[cz,ag (by omega),ag (by omega)],I.sub⟩
 exfalso;omega
theorem Yv (I:U W w L)(h:sN e)(hk:e.1=1):Calls prog 80 #[.agg #[cz e]] w λr V=>r=.returned (.agg (bU e).toArray)∧U W V L:=by
 have he:cz e=.iface 210 (.agg #[.int .i64 e.2.1]):=by rw[cz,al hk]
 have hz:e.2.2=0:=by have:=h.2.2.2.2;omega
 rw[he];refine EN func80 ntmps80 rfl rfl λa E=>?_;refine BX 1 E I λb1 a w E I=>?_;refine AL 0 E I λb2 a w E I=>?_;refine RN 5 E I λa E=>?_;refine SK (bC E rfl (EZ E underlying210 rfl) rfl ?_);clear E a;intro a E;refine RN 2 E I λa E=>?_;replace E:=E.dX 9;refine AL 2 E I λb3 a w E I=>?_
 skip
 refine SA 0 E I λa w E I=>?_;refine SA 4 E I λa w E I=>?_;refine RT 0 E I ?_;exact⟨by rw[bU,hk,hz];rfl,I.sub⟩
theorem Yw (I:U W w L)(h:sN e)(hk:e.1=2):Calls prog 80 #[.agg #[cz e]] w λr V=>r=.returned (.agg (bU e).toArray)∧U W V L:=by
 have he:cz e=.iface 211 (.agg #[.int .i64 e.2.1]):=by rw[cz,ag (by omega),al hk]
 have hz:e.2.2=0:=by have:=h.2.2.2.2;omega
 rw[he];refine EN func80 ntmps80 rfl rfl λa E=>?_;refine BX 1 E I λb1 a w E I=>?_;refine AL 0 E I λb2 a w E I=>?_;refine RN 5 E I λa E=>?_;refine SK (bC E rfl (E1 E underlying210 rfl Ty.t210 rfl) rfl ?_);clear E a;intro a E;refine RN 2 E I λa E=>?_;replace E:=E.aK 9;refine RN 2 E I λa E=>?_;refine SK (bC E rfl (EZ E underlying211 rfl) rfl ?_);clear E a;intro a E;refine RN 2 E I λa E=>?_;replace E:=E.dX 15;refine AL 2 E I λb4 a w E I=>?_;refine SA 0 E I λa w E I=>?_;refine SA 4 E I λa w E I=>?_;refine RT 0 E I ?_;exact⟨by rw[bU,hk,hz];rfl,I.sub⟩
theorem Yx (I:U W w L)(h:sN e)(hk:e.1=3):Calls prog 80 #[.agg #[cz e]] w λr V=>r=.returned (.agg (bU e).toArray)∧U W V L:=by
 have he:cz e=.iface 213 (.agg #[.int .i64 e.2.1,.int .i64 e.2.2]):=by rw[cz,ag (by omega),ag (by omega)]
 rw[he];refine EN func80 ntmps80 rfl rfl λa E=>?_;refine BX 1 E I λb1 a w E I=>?_;refine AL 0 E I λb2 a w E I=>?_;refine RN 5 E I λa E=>?_;refine SK (bC E rfl (E1 E underlying210 rfl Ty.t210 rfl) rfl ?_);clear E a;intro a E;refine RN 2 E I λa E=>?_;replace E:=E.aK 9;refine RN 2 E I λa E=>?_;refine SK (bC E rfl (E1 E underlying211 rfl Ty.t211 rfl) rfl ?_);clear E a;intro a E;refine RN 2 E I λa E=>?_;replace E:=E.aK 15;refine RN 2 E I λa E=>?_;refine SK (bC E rfl (EZ E underlying213 rfl) rfl ?_);clear E a;intro a E;refine RN 2 E I λa E=>?_;replace E:=E.dX 21;refine AL 2 E I λb5 a w E I=>?_;refine SA 0 E I λa w E I=>?_;refine SA 6 E I λa w E I=>?_;refine RT 0 E I ?_;exact⟨by rw[bU,hk];rfl,I.sub⟩
theorem Yy (I:U W w L)(h:sN e):Calls prog 80 #[.agg #[cz e]] w λr V=>r=.returned (.agg (bU e).toArray)∧U W V L:=by
 have h1:=h.1;have h2:=h.2.1;by_cases k1:e.1=1
 ·exact Yv I h k1
 ·by_cases k2:e.1=2
  ·exact Yw I h k2
  ·exact Yx I h (by omega)
end
end
end Go.Proofs.YteoldcfapaiobaaGreat
