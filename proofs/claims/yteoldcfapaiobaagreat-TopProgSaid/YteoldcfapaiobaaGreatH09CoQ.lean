/- Plain side of what a player knows: the document's P21 and P22. -/
import Derived.Test.YteoldcfapaiobaaGreatH08Pkt3
import Derived.Test.YteoldcfapaiobaaGreatH05Vm
namespace Go.Proofs.YteoldcfapaiobaaGreat
open Tryz
open List (length_range length_nil mem_range eraseIdx_set_eq ext_getElem? range_succ getElem?_set_ne map_singleton)
open Go.RowKit
set_option linter.unusedVariables false
set_option linter.unusedSimpArgs false
set_option maxRecDepth 10000
set_option synthInstance.maxSize 4000
set_option synthInstance.maxHeartbeats 400000
section
structure Cf where
 n:Int
 me:Int
 id:Int
 aJ:Int
 bo:Int
 a8:Int
 order:Int
 cw:Int
 workers:Int
 room:Int
abbrev bV (c:Cf):List Value:=[.int .i64 c.n,.int .i64 c.me,.int .i64 c.id,.int .i64 c.aJ,.int .i64 c.bo,.int .i64 c.a8,.int .i64 c.order,.int .i64 c.cw,.int .i64 c.workers,.int .i64 c.room]
def dE (n l h:Int):Prop:=l≤n∧n≤h
instance (n l h:Int):Decidable (dE n l h):=inferInstanceAs (Decidable (_∧_))
def ft (c:Cf):Prop:=(dE c.n 2 8∧dE c.me 0 (c.n-1)∧dE c.id 0 1099511627776)∧(dE c.aJ 0 8∧dE c.bo 1 16∧dE c.a8 1 3∧dE c.order 0 3) ∧
 (c.order=0∨c.a8=2)∧dE c.cw 0 8∧dE c.workers 0 4∧dE c.room 3 50
instance (c:Cf):Decidable (ft c):=inferInstanceAs (Decidable (_∧_))
structure Pe where
 has:Nat
 heard:Nat
 frame:Nat
 sum:Nat
 apart:Bool
structure Ks where
 n:Nat
 me:Nat
 aJ:Nat
 bo:Nat
 id:Int
 a8:Int
 order:Int
 cw:Int
 workers:Int
 room:Int
 ls:List (List UInt8)
 ps:List Pe
 mr:List Nat
 ev:List (Nat×Nat×Nat)
 now:Nat
 cl:Bool
def fu (k:Ks):Cf:=⟨k.n,k.me,k.id,k.aJ,k.bo,k.a8,k.order,k.cw,k.workers,k.room⟩
def fG (d:Nat):Pe:=⟨d,0,0,0,false⟩
def fv (c:Cf):Ks:=⟨c.n.toNat,c.me.toNat,c.aJ.toNat,c.bo.toNat,c.id,c.a8,c.order,c.cw,c.workers,c.room,
 List.replicate c.n.toNat (List.replicate c.aJ.toNat 0),List.replicate c.n.toNat (fG c.aJ.toNat),[],[],0,false⟩
def aH (k:Ks):Nat:=(k.ls.getD k.me []).length
def aw (k:Ks):Nat:=aV k.ls
def xf (mk:List Nat)(p:Pe):Prop:=p.apart=false∧1≤p.frame∧p.frame≤mk.length∧mk.getD (p.frame-1) 0≠p.sum
instance (mk:List Nat)(p:Pe):Decidable (xf mk p):=inferInstanceAs (Decidable (_∧_))
def ar (k:Ks)(i:Nat):Pe:=k.ps.getD i (fG 0)
def lp (k:Ks)(i:Nat):Ks:=if xf k.mr (ar k i) then { k with ps:=k.ps.set i { ar k i with apart:=true },ev:=k.ev++[(3,i,(ar k i).frame)] } else k
def gx (k:Ks):Nat→Ks
 | 0=>k
 | i+1=>lp (gx k i) i
def lq (k:Ks):Ks:=gx k k.ps.length
def lN (k:Ks)(s:Nat):Ks:=lq (if k.mr.length<1000 then { k with mr:=k.mr++[s] } else k)
def cZ (b:UInt8)(k:Ks):Int×Ks:=if k.cl=true then (6,k) else if 1000≤aH k then (4,k) else if k.bo+aw k≤aH k then (5,k) else (0,{ k with ls:=k.ls.set k.me (k.ls.getD k.me []++[b]) })
def ga (now head:Nat)(p:Pk)(x:Pe):Pe :=
 let h:=if x.has<p.c8.toNat∧p.c8.toNat≤head then p.c8.toNat else x.has
 if 0<p.frame∧(x.frame:Int)≤p.frame then { x with heard:=now,has:=h,frame:=p.frame.toNat,sum:=p.sum } else { x with heard:=now,has:=h }
def gb (k:Ks)(p:Pk):Ks :=
 if p.kind=2 then { k with ps:=k.ps.set p.aY.toNat { ar k p.aY.toNat with heard:=k.now },ev:=k.ev++[(1,p.aY.toNat,0)],cl:=true }
 else lq { k with ls:=k.ls.set p.aY.toNat (dw (k.ls.getD p.aY.toNat []) p.first.toNat p.al),ps:=k.ps.set p.aY.toNat (ga k.now (aH k) p (ar k p.aY.toNat)) }
noncomputable def dC (bs:List UInt8)(k:Ks):Int×Ks:=if k.cl=true then (6,k) else match eJ bs with
 | none=>(1,k)
 | some p=>if p.to≠k.me∨(k.n:Int)≤p.aY∨p.id≠k.id then (1,k) else (0,gb k p)
def dV (k:Ks)(i:Nat):Pk:=⟨1,k.me,i,k.id,(ar k i).has,(k.ls.getD i []).length,k.mr.length,k.mr.getLastD 0,((k.ls.getD k.me []).drop (ar k i).has).take 32⟩
def gy (k:Ks)(i:Nat):Pk:=⟨2,k.me,i,k.id,0,0,0,0,[]⟩
def bI (k:Ks):List Nat:=(List.range k.n).filter (·≠k.me)
def jD (k:Ks)(i:Nat):Prop:=(ar k i).heard+40≤k.now
instance (k:Ks)(i:Nat):Decidable (jD k i):=inferInstanceAs (Decidable (_≤_))
abbrev Ml:=Nat×Nat×List UInt8
def bq (k:Ks):List Ml×Ks:=if k.cl=true then ([],k) else
 let k:={ k with now:=k.now+1 }
 match (bI k).find? (λi=>decide (jD k i)) with
 | some i=>([],{ k with ev:=k.ev++[(2,i,0)],cl:=true })
 | none=>((bI k).map λi=>(k.me,i,aS (dV k i)),k)
def bF (k:Ks):List Ml×Ks:=if k.cl=true then ([],k) else ((bI k).map λi=>(k.me,i,aS (gy k i)),{ k with cl:=true })
def held (k:Ks):Prop:=∀ i,i<k.ps.length→¬ xf k.mr (ar k i)
structure WC (k:Ks):Prop where
 n:2≤k.n∧k.n≤8
 me:k.me<k.n
 id:0≤k.id∧k.id≤1099511627776
 aJ:k.aJ≤8
 bo:1≤k.bo∧k.bo≤16
 ls:k.ls.length=k.n
 ps:k.ps.length=k.n
 nx:∀ l∈k.ls,l.length≤1000
 mr:k.mr.length≤1000
 sg:∀ s∈k.mr,s<4294967296
 now:∀ p∈k.ps,p.heard≤k.now
 pe:∀ p∈k.ps,p.has≤1000∧p.frame≤1000∧p.sum<4294967296
 bw:∀ e∈k.ev,e.1≤3∧1≤e.1∧e.2.1<8∧e.2.2≤1000∧(e.1=3∨e.2.2=0)
 oZ:k.ev.length+k.ps.countP (λp=>!p.apart)+(if k.cl=true then 0 else 1)≤k.n+1
section
variable {k:Ks}{i:Nat}
theorem WC.kQ (h:WC k):k.ev.length≤9:=by have:=h.oZ;have:=h.n;omega
theorem ZD (h:i<k.ps.length):ar k i∈k.ps:=by
 rw[ar,bl,aD h];exact iI _
theorem vb {ls:List (List UInt8)}(h:i<ls.length):ls.getD i []∈ls:=by
 rw[bl,aD h];exact iI _
theorem WC.p4 (h:WC k)(hi:i<k.n):(ar k i).has≤1000∧(ar k i).heard≤k.now∧(ar k i).frame≤1000∧(ar k i).sum<4294967296:=by
 have hm:=ZD (k:=k) (i:=i) (by rw[h.ps];exact hi);exact⟨(h.pe _ hm).1,h.now _ hm,(h.pe _ hm).2⟩
theorem WC.ml (h:WC k)(hi:i<k.n):(k.ls.getD i []).length≤1000:=h.nx _ (vb (by rw[h.ls];exact hi))
theorem WC.lO (h:WC k):aH k≤1000:=h.ml h.me
theorem WC.ny (h:WC k):aw k≤aH k:=xd (vb (by rw[h.ls];exact h.me))
theorem mem_set {α:Type}{l:List α}{x y:α}(h:y∈l.set i x):y∈l∨y=x:=qA h
theorem WC.BT (h:WC k){p:Pe}{ev:List (Nat×Nat×Nat)}{cl:Bool}(hp:p.has≤1000∧p.frame≤1000∧p.sum<4294967296)(hh:p.heard≤k.now)
   (he:∀ e∈ev,e.1≤3∧1≤e.1∧e.2.1<8∧e.2.2≤1000∧(e.1=3∨e.2.2=0)) (hn:ev.length+(k.ps.set i p).countP (λp=>!p.apart)+(if cl=true then 0 else 1)≤k.n+1):WC { k with ps:=k.ps.set i p,ev:=ev,cl:=cl } :=
 { h with
  ps:=by show (k.ps.set i p).length=_;rw[bt];exact h.ps
  now:=λq hq=>by
   rcases mem_set hq with hq | rfl
   ·exact h.now q hq
   ·exact hh
  pe:=λq hq=>by
   rcases mem_set hq with hq | rfl
   ·exact h.pe q hq
   ·exact hp
  bw:=he
  oZ:=hn }
theorem count_set {l:List Pe}{p:Pe}(h:i<l.length):(l.set i p).countP (λp=>!p.apart)+(if l[i].apart=true then 0 else 1)=l.countP (λp=>!p.apart)+(if p.apart=true then 0 else 1):=by
 have h1:l.countP (λp=>!p.apart)=(l[i]::l.eraseIdx i).countP (λp=>!p.apart):=List.Perm.countP_eq _ (sQ _ h);have hi:i<(l.set i p).length:=by simpa using h
 have h2:(l.set i p).countP (λp=>!p.apart)=((l.set i p)[i]::(l.set i p).eraseIdx i).countP (λp=>!p.apart):=List.Perm.countP_eq _ (sQ _ hi);rw[h1,h2,List.countP_cons,List.countP_cons,ou,eraseIdx_set_eq];cases l[i].apart <;> cases p.apart <;> simp <;> omega
theorem WC.lp (h:WC k)(hi:i<k.n):WC (lp k i):=by
 unfold Go.Proofs.YteoldcfapaiobaaGreat.lp;split
 ·rename_i hb;have aF:i<k.ps.length:=by rw[h.ps];exact hi
  have hp:=h.p4 hi;have pE:ar k i=k.ps[i]:=by rw[ar,bl,aD aF];rfl
  refine h.BT ⟨hp.1,hp.2.2⟩ hp.2.1 (λe he=>?_) ?_
  ·rcases eX.1 he with he | he
   ·exact h.bw e he
   ·rw[iF]at he;subst he;have:=h.n;exact⟨by simp,by simp,by simp;omega,hp.2.2.1,.inl rfl⟩
  ·have hc:=count_set (p:={ ar k i with apart:=true }) aF;rw[← pE,hb.1]at hc;have:=h.oZ;rw[aN,jC];simp at hc ⊢;omega
 ·exact h
end
section
variable {k:Ks}{i:Nat}
theorem L2 (k:Ks)(i:Nat):∃ ps ev,lp k i={ k with ps:=ps,ev:=ev }∧ps.length=k.ps.length:=by
 unfold lp;split
 ·exact⟨_,_,rfl,by simp⟩
 ·exact⟨k.ps,k.ev,rfl,rfl⟩
theorem zg (k:Ks):∀ i,∃ ps ev,gx k i={ k with ps:=ps,ev:=ev }∧ps.length=k.ps.length
 | 0=>⟨k.ps,k.ev,rfl,rfl⟩
 | i+1=>by
  obtain⟨ps,ev,h1,h2⟩:=zg k i;obtain⟨gu,L3,h3,h4⟩:=L2 (gx k i) i;refine⟨gu,L3,?_,?_⟩
  ·rw[gx,h3,h1]
  ·rw[h4,h1];exact h2
theorem xg (k:Ks):∃ ps ev,lq k={ k with ps:=ps,ev:=ev }∧ps.length=k.ps.length:=zg k _
theorem WC.gx (h:WC k):∀ {i},i≤k.n→WC (gx k i)
 | 0,_=>h
 | i+1,hi=>by
  rw[Go.Proofs.YteoldcfapaiobaaGreat.gx];refine (h.gx (i:=i) (by omega)).lp ?_;obtain⟨ps,ev,h1,_⟩:=zg k i;rw[h1];show i<k.n;omega
theorem WC.lq (h:WC k):WC (lq k):=h.gx (by rw[h.ps];exact bh _)
theorem ZE (k:Ks)(i:Nat)(hi:i<k.ps.length):¬ xf (lp k i).mr (ar (lp k i) i):=by
 unfold lp;split
 ·intro hb;have:=hb.1;simp[ar,hi]at this
 ·assumption
theorem ZF (k:Ks){i j:Nat}(h:j≠i):ar (lp k i) j=ar k j:=by
 unfold lp;split
 ·simp only[ar,bl];rw[getElem?_set_ne (by omega)]
 ·rfl
theorem ZG (k:Ks)(i:Nat):(lp k i).mr=k.mr:=by
 obtain⟨ps,ev,h1,_⟩:=L2 k i;rw[h1]
theorem BU (k:Ks)(i:Nat):(gx k i).ps.length=k.ps.length:=by
 obtain⟨ps,ev,h1,h2⟩:=zg k i;rw[h1];exact h2
theorem L5 (k:Ks):∀ {i j},i≤k.ps.length→j<i→¬ xf (gx k i).mr (ar (gx k i) j)
 | 0,_,_,h=>absurd h (by omega)
 | i+1,j,hi,hj=>by
  rw[Go.Proofs.YteoldcfapaiobaaGreat.gx];by_cases h:j=i
  ·subst h;exact ZE _ _ (by rw[BU];omega)
  ·rw[ZG,ZF _ h];exact L5 k (by omega) (by omega)
theorem L6 (k:Ks):held (lq k):=λi hi=>L5 k (bh _) (by rw[lq,BU]at hi;exact hi)
theorem held.gx (h:held k):∀ {i},i≤k.ps.length→gx k i=k
 | 0,_=>rfl
 | i+1,hi=>by
  rw[Go.Proofs.YteoldcfapaiobaaGreat.gx,h.gx (i:=i) (by omega),lp,ag (h i (by omega))]
theorem held.lq (h:held k):lq k=k:=h.gx (bh _)
theorem held.of {k':Ks}(h:held k)(hm:k'.mr=k.mr)(hl:k'.ps.length=k.ps.length)(hp:∀ i,i<k.ps.length→(ar k' i).apart=(ar k i).apart∧(ar k' i).frame=(ar k i).frame∧(ar k' i).sum=(ar k i).sum):held k':=by
 intro i hi hb;rw[hl]at hi;obtain⟨h1,h2,h3⟩:=hp i hi;refine h i hi ?_;simp only[xf,hm,h1,h2,h3]at hb;exact hb
theorem WC.mark (h:WC k){s:Nat}(I:s<4294967296):WC (lN k s):=by
 unfold lN;refine WC.lq ?_;split
 ·exact { h with
   mr:=by show (k.mr++[s]).length≤1000;rw[aN,jC];omega
   sg:=λx hx=>by
    rcases eX.1 hx with hx | hx
    ·exact h.sg x hx
    ·rw[iF]at hx;rw[hx];exact I }
 ·exact h
theorem L7 (k:Ks)(s:Nat)(hl:k.mr.length<1000):∃ ps ev,lN k s={ k with ps:=ps,ev:=ev,mr:=k.mr++[s] }∧ps.length=k.ps.length:=by
 obtain⟨ps,ev,h1,h2⟩:=xg { k with mr:=k.mr++[s] };refine⟨ps,ev,?_,h2⟩;rw[lN,ak hl,h1]
theorem vc {k:Ks}{b:UInt8}(h:(cZ b k).1=0):k.cl=false∧aH k<1000∧aH k<k.bo+aw k∧(cZ b k).2={ k with ls:=k.ls.set k.me (k.ls.getD k.me []++[b]) }:=by
 unfold cZ at h ⊢;split at h
 ·cases h
 ·split at h
  ·cases h
  ·split at h
   ·cases h
   ·rename_i h1 h2 h3;refine⟨by simpa using h1,by omega,by omega,?_⟩;rw[ag h1,ag h2,ag h3]
theorem vd {k:Ks}{b:UInt8}(h:(cZ b k).1≠0):(cZ b k).2=k:=by
 unfold cZ at h ⊢;split
 ·rfl
 ·rename_i h1;rw[ag h1]at h;split
  ·rfl
  ·rename_i h2;rw[ag h2]at h;split
   ·rfl
   ·rename_i h3;rw[ag h3]at h;exact absurd rfl h
theorem WC.al (h:WC k)(b:UInt8):WC (cZ b k).2:=by
 by_cases h0:(cZ b k).1=0
 ·obtain⟨h1,h2,h3,h4⟩:=vc h0;rw[h4];exact { h with
   ls:=by show (k.ls.set _ _).length=_;rw[bt];exact h.ls
   nx:=λl hl=>by
    rcases mem_set hl with hl | rfl
    ·exact h.nx l hl
    ·rw[aN,jC];simp only[aH]at h2;omega }
 ·rw[vd h0];exact h
theorem held.al (h:held k)(b:UInt8):held (cZ b k).2:=by
 by_cases h0:(cZ b k).1=0
 ·obtain⟨h1,h2,h3,h4⟩:=vc h0;rw[h4];exact h
 ·rw[vd h0];exact h
theorem WC.ZH (h:WC k):WC { k with ev:=[] } :=
 { h with
  bw:=λe he=>by cases he
  oZ:=by have:=h.oZ;show ([]:List (Nat×Nat×Nat)).length+_+_≤_;simp only[length_nil];omega }
theorem xh {k:Ks}{i j:Nat}{p:Pe}(hi:i<k.ps.length):(k.ps.set i p).getD j (fG 0)=if j=i then p else ar k j:=by
 simp only[ar,bl,jX];by_cases h:i=j
 ·subst h;simp[hi]
 ·rw[ag h,ag (λe=>h e.symm)]
theorem F5 {k:Ks}{i:Nat}{p:Pe}(hi:i<k.ps.length)(E:p.apart=(ar k i).apart):(k.ps.set i p).countP (λp=>!p.apart)=k.ps.countP (λp=>!p.apart):=by
 have hc:=count_set (p:=p) hi;have pE:ar k i=k.ps[i]:=by rw[ar,bl,aD hi];rfl
 rw[← pE,E]at hc;omega
theorem WC.zh (h:WC k){p:Pk}(hp:hS p)(I:p.sum<4294967296)(hn:p.aY<k.n)(hc:k.cl=false):WC (gb k p)∧(held k→held (gb k p)):=by
 have F6:=hp.1.1;have aF:p.aY.toNat<k.n:=by omega
 have F7:p.aY.toNat<k.ps.length:=by rw[h.ps];exact aF
 have ix:=h.p4 aF;unfold gb;split
 ·have eu:=F5 (p:={ ar k p.aY.toNat with heard:=k.now }) F7 rfl;refine⟨h.BT (p:={ ar k p.aY.toNat with heard:=k.now }) (cl:=true) ⟨ix.1,ix.2.2⟩ (bh _) (λe he=>?_) ?_,λhh=>hh.of rfl (by simp) λj hj=>?_⟩
  ·rcases eX.1 he with he | he
   ·exact h.bw e he
   ·rw[iF]at he;subst he;have:=h.n;exact⟨by simp,by simp,by show p.aY.toNat<8;omega,by simp,.inr rfl⟩
  ·have:=h.oZ;rw[hc]at this;rw[eu,aN,jC];simp at this ⊢;omega
  ·show ((k.ps.set _ _).getD j _).apart=_∧((k.ps.set _ _).getD j _).frame=_∧((k.ps.set _ _).getD j _).sum=_;rw[xh F7];split
   ·rename_i h1;subst h1;exact⟨rfl,rfl,rfl⟩
   ·exact⟨rfl,rfl,rfl⟩
 ·refine⟨WC.lq ?_,λ_=>L6 _⟩;have hk:p.kind=1∧eR p.first∧eR p.c8∧eR p.frame∧p.al.length≤32:=by
   rcases hp.2.2.2.2 with h1 | h1
   ·exact h1
   ·rename_i h2;exact absurd h1.1 h2
  have Dy:(ga k.now (aH k) p (ar k p.aY.toNat)).apart=(ar k p.aY.toNat).apart:=by
   unfold ga;simp only;split <;> rfl
  have eu:=F5 (p:=ga k.now (aH k) p (ar k p.aY.toNat)) F7 Dy;have ZI:=hk.2.2.1;have ju:=hk.2.2.2.1;simp only[eR]at ZI ju;have gS:=h.lO;have hq:(ga k.now (aH k) p (ar k p.aY.toNat)).has≤1000∧(ga k.now (aH k) p (ar k p.aY.toNat)).frame≤1000∧(ga k.now (aH k) p (ar k p.aY.toNat)).sum<4294967296∧(ga k.now (aH k) p (ar k p.aY.toNat)).heard=k.now:=by
   unfold ga;simp only;have h9:(if (ar k p.aY.toNat).has<p.c8.toNat∧p.c8.toNat≤aH k then p.c8.toNat else (ar k p.aY.toNat).has)≤1000:=by split <;> omega
   split
   ·exact⟨h9,by show p.frame.toNat≤1000;omega,I,rfl⟩
   ·exact⟨h9,ix.2.2.1,ix.2.2.2,rfl⟩
  have h1:=h.BT (p:=ga k.now (aH k) p (ar k p.aY.toNat)) (i:=p.aY.toNat) (ev:=k.ev) (cl:=k.cl) ⟨hq.1,hq.2.1,hq.2.2.1⟩ (by rw[hq.2.2.2];exact bh _) h.bw (by rw[eu];exact h.oZ);have hV:=h.ml aF;exact { h1 with
   ls:=by show (k.ls.set _ _).length=_;rw[bt];exact h.ls
   nx:=λl hl=>by
    rcases mem_set hl with hl | rfl
    ·exact h.nx l hl
    ·exact (se hV).2 }
theorem BV {k:Ks}{bs:List UInt8}(h:(dC bs k).1=0):∃ p,eJ bs=some p∧k.cl=false∧p.to=k.me∧p.aY<k.n∧p.id=k.id∧(dC bs k).2=gb k p:=by
 unfold dC at h ⊢;split at h
 ·cases h
 ·rename_i h1;rw[ag h1];cases hd:eJ bs with
  | none=>rw[hd]at h;cases h
  | some p =>
   rw[hd]at h;simp only at h ⊢;split at h
   ·cases h
   ·rename_i h2;rw[ag h2];have h3:p.to=k.me:=Decidable.of_not_not λhh=>h2 (.inl hh);have h4:p.id=k.id:=Decidable.of_not_not λhh=>h2 (.inr (.inr hh));have h5:p.aY<k.n:=Int.not_le.1 λhh=>h2 (.inr (.inl hh));exact⟨p,rfl,by simpa using h1,h3,h5,h4,rfl⟩
theorem xi {k:Ks}{bs:List UInt8}(h:(dC bs k).1≠0):(dC bs k).2=k:=by
 unfold dC at h ⊢;split
 ·rfl
 ·rename_i h1;rw[ag h1]at h;cases hd:eJ bs with
  | none=>rfl
  | some p =>
   rw[hd]at h;simp only at h ⊢;split
   ·rfl
   ·rename_i h2;rw[ag h2]at h;exact absurd rfl h
theorem WC.recv (h:WC k)(bs:List UInt8):WC (dC bs k).2∧(held k→held (dC bs k).2):=by
 by_cases h0:(dC bs k).1=0
 ·obtain⟨p,h1,h2,h3,h4,h5,h6⟩:=BV h0;obtain⟨h7,h8,h9⟩:=Fy h1;rw[h6];exact h.zh h7 h8 h4 h2
 ·rw[xi h0];exact⟨h,λh=>h⟩
theorem ve {k:Ks}{i:Nat}:i∈bI k↔i<k.n∧i≠k.me:=by simp[bI]
theorem WC.BW (h:WC k):WC { k with now:=k.now+1 }:={ h with now:=λp hp=>Nat.le_succ_of_le (h.now p hp) }
theorem WC.late (h:WC k){i:Nat}(hi:i<8)(hc:k.cl=false):WC { k with ev:=k.ev++[(2,i,0)],cl:=true } :=
 { h with
  bw:=λe he=>by
   rcases eX.1 he with he | he
   ·exact h.bw e he
   ·rw[iF]at he;subst he;exact⟨by simp,by simp,hi,by simp,.inr rfl⟩
  oZ:=by
   have:=h.oZ;rw[hc]at this;rw[aN,jC];simp at this ⊢;omega }
theorem xj (k:Ks):(bq k).2=k∨(k.cl=false∧((bq k).2={ k with now:=k.now+1 }∨∃ i,i<k.n∧(bq k).2={ k with now:=k.now+1,ev:=k.ev++[(2,i,0)],cl:=true })):=by
 unfold bq;split
 ·exact .inl rfl
 ·rename_i hc;refine .inr ⟨by simpa using hc,?_⟩;simp only;cases hf:(bI { k with now:=k.now+1 }).find? (λi=>decide (jD { k with now:=k.now+1 } i)) with
  | none=>exact .inl rfl
  | some i=>exact .inr ⟨i,(ve.1 (List.mem_of_find?_eq_some hf)).1,rfl⟩
theorem WC.tick (h:WC k):WC (bq k).2∧(held k→held (bq k).2):=by
 rcases xj k with h1 | ⟨hc,h1 | ⟨i,hi,h1⟩⟩
 ·rw[h1];exact⟨h,λh=>h⟩
 ·rw[h1];exact⟨h.BW,λh=>h⟩
 ·rw[h1];have:=h.n;exact⟨(h.BW).late (by omega) hc,λh=>h⟩
theorem WC.lP (h:WC k):WC (bF k).2∧(held k→held (bF k).2):=by
 unfold bF;split
 ·exact⟨h,λh=>h⟩
 ·rename_i hc;refine⟨{ h with oZ:=?_ },λh=>h⟩;have:=h.oZ;have x7:k.cl=false:=by simpa using hc
  rw[x7]at this;simp at this ⊢;omega
theorem WC.new {c:Cf}(h:ft c):WC (fv c)∧held (fv c)∧fu (fv c)=c:=by
 obtain⟨⟨h1,h2,h3⟩,⟨h4,h5,h6,h7⟩,h8,h9,fP,m9⟩:=h;simp only[dE] at *;refine⟨⟨?_,?_,?_,?_,?_,?_,?_,?_,?_,?_,?_,?_,?_,?_⟩,?_,?_⟩
 ·show 2≤c.n.toNat∧c.n.toNat≤8;omega
 ·show c.me.toNat<c.n.toNat;omega
 ·exact h3
 ·show c.aJ.toNat≤8;omega
 ·show 1≤c.bo.toNat∧c.bo.toNat≤16;omega
 ·simp[fv]
 ·simp[fv]
 ·intro l hl;simp[fv]at hl;rw[hl.2,kC];omega
 ·simp[fv]
 ·intro s I;cases I
 ·intro p hp;simp[fv]at hp;rw[hp.2];exact Nat.zero_le _
 ·intro p hp;simp[fv]at hp;rw[hp.2];refine⟨?_,?_,?_⟩ <;> simp[fG];omega
 ·intro e he;cases he
 ·simp[fv,List.countP_replicate,fG]
 ·intro i hi hb;have h1:(ar (fv c) i).frame≤0:=hb.2.2.1;have h2:=hb.2.1;omega
 ·show Cf.mk _ _ _ _ _ _ _ _ _ _=c;simp only[fv];rw[Int.toNat_of_nonneg (by omega),Int.toNat_of_nonneg (by omega),Int.toNat_of_nonneg (by omega),Int.toNat_of_nonneg (by omega)]
end
theorem ZJ {p:Pr}{fr:Int}{b:List UInt8}{g:Nat→Int}{aU:Nat}{o:fZ}{m:Int}(hg:dT g)(ho:e9 m o):dT (eC p fr b g aU o).1:=by
 have qL:=ho;simp only[e9,e8]at qL;unfold eC;split
 ·exact hg
 ·split
  ·exact hg
  ·split
   ·exact hg
   ·split
    ·exact nW hg (hg _ (by omega))
    ·exact nW hg (Ky hg ho (by assumption) (by assumption))
theorem L8 {p:Pr}{fr:Int}{b:List UInt8}(hp:dq p):∀ (n:Nat) {g:Nat→Int} {aU:Nat},dT g→dT (qG p fr b n g aU)
 | 0,_,_,hg=>hg
 | n+1,g,aU,hg=>by
  cases ho:p.ops[aU]? with
  | none =>
   rw [EY (by rcases gE aU p.ops.length with h | h; · rw [aD h] at ho; cases ho
              ·exact h)];exact hg
  | some o =>
   have h1:=ZJ (p:=p) (fr:=fr) (b:=b) (aU:=aU) hg (hp.2 o (bH ho));rw[EX ho];split
   ·exact L8 hp n h1
   ·exact h1
theorem L9 {p:Pr}{fr:Int}{b:List UInt8}{g:Nat→Int}(hp:dq p)(hg:dT g):dT (fa p fr b g):=L8 hp 200 hg
theorem Ma {p:Pr}(hp:dq p):∀ (l:List (List UInt8)) {fr:Int} {g:Nat→Int},dT g→dT (foldI p fr g l)
 | [],_,_,hg=>hg
 | b::l,_,_,hg=>Ma hp l (L9 hp hg)
structure Pl where
 k:Ks
 g:Nat→Int
def n1 (p:Pr)(s:Pl):Pl:=⟨lN s.k (jB (gw (fa p s.k.mr.length (bM s.k.ls s.k.mr.length) s.g))),fa p s.k.mr.length (bM s.k.ls s.k.mr.length) s.g⟩
def iy (p:Pr):Nat→Pl→Pl
 | 0,s=>s
 | n+1,s=>iy p n (n1 p s)
theorem F8 (p:Pr):∀ (n:Nat) (s:Pl),iy p (n+1) s=n1 p (iy p n s)
 | 0,_=>rfl
 | n+1,s=>by rw[iy,F8 p n (n1 p s)];rfl
def eL (p:Pr)(s:Pl):Pl:=iy p (aw s.k-s.k.mr.length) s
def o0:Nat→Int:=λ_=>0
theorem ZK:dT o0:=λ_ _=>⟨by simp[o0],by simp[o0]⟩
def lQ (p:Pr)(ls:List (List UInt8))(f:Nat):Nat→Int:=foldI p 0 o0 ((List.range f).map (bM ls))
def kR (p:Pr)(ls:List (List UInt8))(f:Nat):Nat:=jB (gw (lQ p ls (f+1)))
theorem Mb (p:Pr)(ls:List (List UInt8))(f:Nat):lQ p ls (f+1)=fa p f (bM ls f) (lQ p ls f):=by
 rw[lQ,range_succ,cS,map_singleton,Eu,bf,length_range,Int.zero_add];rfl
def Ext (ls kS:List (List UInt8)):Prop:=kS.length=ls.length∧∀ i:Nat,i<ls.length→∃ t,kS.getD i []=ls.getD i []++t
theorem Ext.refl (ls:List (List UInt8)):Ext ls ls:=⟨rfl,λi _=>⟨[],by simp⟩⟩
theorem Ext.trans {a b c:List (List UInt8)}(h:Ext a b)(h2:Ext b c):Ext a c:=⟨h2.1.trans h.1,λi hi=>by
 obtain⟨t,ht⟩:=h.2 i hi;obtain⟨u,hu⟩:=h2.2 i (by rw[h.1];exact hi);exact⟨t++u,by rw[hu,ht,dA]⟩⟩
theorem Ext.set {ls:List (List UInt8)}{i:Nat}{t:List UInt8}:Ext ls (ls.set i (ls.getD i []++t)):=by
 refine⟨by simp,λj hj=>?_⟩;by_cases h:i=j
 ·subst h;exact⟨t,by simp[bl,hj]⟩
 ·exact⟨[],by simp[bl,getElem?_set_ne h]⟩
theorem getD_map {ls:List (List UInt8)}{f i:Nat}(h:i<ls.length):(bM ls f)[i]?=some ((ls.getD i []).getD f 0):=by
 rw[bM,bm,aD h,bl (l:=ls),aD h];rfl
theorem Ext.F9 {ls kS:List (List UInt8)}(h:Ext ls kS){f:Nat}(hf:f<aV ls):bM kS f=bM ls f:=by
 apply ext_getElem?;intro i;by_cases hi:i<ls.length
 ·rw[getD_map (by rw[h.1];exact hi),getD_map hi];obtain⟨t,ht⟩:=h.2 i hi;have hl:=xd (vb hi);rw[ht,bl,mv (by omega),← bl]
 ·rw[iD (by rw[nu,h.1];omega),iD (by rw[nu];omega)]
theorem Ext.front {ls kS:List (List UInt8)}(h:Ext ls kS)(h0:ls≠[]):aV ls≤aV kS:=by
 refine F1 (λh1=>?_) λl hl=>?_
 ·have:=h.1;rw[h1]at this;exact h0 (hG this.symm)
 ·obtain⟨i,hi,rfl⟩:=za hl;have vY:i<ls.length:=by rw[← h.1];exact hi
  obtain⟨t,ht⟩:=h.2 i vY;have h3:=xd (vb vY);rw[bl,aD hi]at ht;simp only[Option.getD_some]at ht;rw[ht,aN];omega
theorem Ext.lQ {ls kS:List (List UInt8)}(h:Ext ls kS){p:Pr}{f:Nat}(hf:f≤aV ls):lQ p kS f=lQ p ls f:=by
 unfold Go.Proofs.YteoldcfapaiobaaGreat.lQ
 congr 1
 refine List.map_congr_left λi hi=>h.F9 ?_;rw[mem_range]at hi;omega
theorem Ext.kR {ls kS:List (List UInt8)}(h:Ext ls kS){p:Pr}{f:Nat}(hf:f<aV ls):kR p kS f=kR p ls f:=by
 rw[Go.Proofs.YteoldcfapaiobaaGreat.kR,h.lQ (by omega)];rfl
structure WP (p:Pr)(s:Pl):Prop where
 wc:WC s.k
 held:held s.k
 low:s.k.mr.length≤aw s.k
 sh:s.g=lQ p s.k.ls s.k.mr.length
 marks:s.k.mr=(List.range s.k.mr.length).map (kR p s.k.ls)
section
variable {p:Pr}{s:Pl}
theorem WP.p5 (h:WP p s)(hp:dq p):dT s.g:=by rw[h.sh];exact Ma hp _ ZK
theorem WC.lr {k:Ks}(h:WC k):k.ls≠[]:=λe=>by
 have:=h.ls;have:=h.n;rw[e] at *;simp at *;omega
theorem WP.one (h:WP p s)(hl:s.k.mr.length<aw s.k):WP p (n1 p s)∧(n1 p s).k.ls=s.k.ls∧(n1 p s).k.mr.length=s.k.mr.length+1:=by
 have h9:=h.wc.ny;have h8:=h.wc.lO;obtain⟨ps,ev,h1,h2⟩:=L7 s.k (jB (gw (fa p s.k.mr.length (bM s.k.ls s.k.mr.length) s.g))) (by omega);have hk:(n1 p s).k={ s.k with ps:=ps,ev:=ev,mr:=s.k.mr++[jB (gw (fa p s.k.mr.length (bM s.k.ls s.k.mr.length) s.g))] }:=h1;have hm:(n1 p s).k.mr.length=s.k.mr.length+1:=by rw[hk];simp
 have eD:(n1 p s).k.ls=s.k.ls:=by rw[hk]
 have hg:fa p s.k.mr.length (bM s.k.ls s.k.mr.length) s.g=lQ p s.k.ls (s.k.mr.length+1):=by rw[Mb,h.sh]
 refine⟨⟨h.wc.mark (Fg _),?_,?_,?_,?_⟩,eD,hm⟩
 ·show Go.Proofs.YteoldcfapaiobaaGreat.held (lN _ _);rw[lN];exact L6 _
 ·rw[hm,aw,eD];exact hl
 ·rw[hm,eD];exact hg
 ·rw[hm,eD,hk,range_succ,cS,← h.marks,hg];rfl
theorem WP.qU:∀ (n:Nat) {s:Pl},WP p s→n≤aw s.k-s.k.mr.length→WP p (iy p n s)∧(iy p n s).k.ls=s.k.ls∧(iy p n s).k.mr.length=s.k.mr.length+n
 | 0,_,h,_=>⟨h,rfl,rfl⟩
 | n+1,s,h,hn=>by
  obtain⟨h1,h2,h3⟩:=h.one (by omega);obtain⟨h4,h5,h6⟩:=h1.qU n (by rw[aw,h2,h3];simp only[aw]at hn;omega);exact⟨h4,h5.trans h2,by rw[iy,h6,h3];omega⟩
theorem ZL (h:s.k.mr.length<1000):∃ ps ev mr,(n1 p s).k={ s.k with ps:=ps,ev:=ev,mr:=mr }:=by
 obtain⟨ps,ev,h1,h2⟩:=L7 s.k (jB (gw (fa p s.k.mr.length (bM s.k.ls s.k.mr.length) s.g))) h;exact⟨ps,ev,_,h1⟩
theorem WP.Mc:∀ (n:Nat) {s:Pl},WP p s→n≤aw s.k-s.k.mr.length→∃ ps ev mr,(iy p n s).k={ s.k with ps:=ps,ev:=ev,mr:=mr }
 | 0,s,h,_=>⟨s.k.ps,s.k.ev,s.k.mr,rfl⟩
 | n+1,s,h,hn=>by
  have h9:=h.wc.ny;have h8:=h.wc.lO;obtain⟨h1,h2,h3⟩:=h.one (by omega);obtain⟨ps,ev,mr,h4⟩:=h1.Mc n (by rw[aw,h2,h3];simp only[aw]at hn;omega);obtain⟨gu,L3,mr',h5⟩:=ZL (p:=p) (s:=s) (by omega);exact⟨ps,ev,mr,by rw[iy,h4,h5]⟩
structure cx (p:Pr)(s:Pl):Prop extends WP p s where
 full:s.k.mr.length=aw s.k
theorem WP.eL (h:WP p s):cx p (eL p s)∧(eL p s).k.ls=s.k.ls∧∃ ps ev mr,(Go.Proofs.YteoldcfapaiobaaGreat.eL p s).k={ s.k with ps:=ps,ev:=ev,mr:=mr }:=by
 obtain⟨h1,h2,h3⟩:=h.qU _ (bh _);have hl:=h.low;refine⟨⟨h1,?_⟩,h2,h.Mc _ (bh _)⟩;show (iy p _ s).k.mr.length=aV (iy p _ s).k.ls;rw[h3,h2];show _=aw s.k;omega
theorem cx.eL (h:cx p s):eL p s=s:=by rw[Go.Proofs.YteoldcfapaiobaaGreat.eL,h.full,Nat.sub_self];rfl
theorem WP.more {k':Ks}(h:WP p s)(hw:WC k')(hh:Go.Proofs.YteoldcfapaiobaaGreat.held k')(hm:k'.mr=s.k.mr)(he:Ext s.k.ls k'.ls):WP p ⟨k',s.g⟩:=by
 have hf:=he.front h.wc.lr;have hl:=h.low;refine⟨hw,hh,?_,?_,?_⟩
 ·show k'.mr.length≤aV k'.ls;rw[hm];simp only[aw]at hl;omega
 ·show s.g=lQ p k'.ls k'.mr.length;rw[hm,he.lQ hl];exact h.sh
 ·show k'.mr=(List.range k'.mr.length).map (kR p k'.ls);rw[hm]
  conv=>lhs;rw[h.marks]
  refine List.map_congr_left λi hi=>?_;rw[mem_range]at hi;simp only[aw]at hl;rw[he.kR (by omega)]
def dK (p:Pr)(b:UInt8)(s:Pl):Int×Pl:=((cZ b s.k).1,eL p ⟨(cZ b s.k).2,s.g⟩)
noncomputable def dL (p:Pr)(bs:List UInt8)(s:Pl):Int×Pl:=((dC bs s.k).1,eL p ⟨(dC bs s.k).2,s.g⟩)
def lR (s:Pl):List UInt8×Nat:=(gw s.g,aw s.k)
theorem Md (l:List UInt8)(f:Nat)(b:List UInt8):∃ t,dw l f b=l++t:=by
 unfold dw;split
 ·exact⟨[],by simp⟩
 ·exact⟨_,rfl⟩
theorem Ga {k:Ks}{p:Pk}:(gb k p).mr=k.mr∧Ext k.ls (gb k p).ls:=by
 unfold gb;split
 ·exact⟨rfl,Ext.refl _⟩
 ·obtain⟨ps,ev,h1,_⟩:=xg { k with ls:=k.ls.set p.aY.toNat (dw (k.ls.getD p.aY.toNat []) p.first.toNat p.al),ps:=k.ps.set p.aY.toNat (ga k.now (aH k) p (ar k p.aY.toNat)) };rw[h1];obtain⟨t,ht⟩:=Md (k.ls.getD p.aY.toNat []) p.first.toNat p.al;refine⟨rfl,?_⟩;show Ext k.ls (k.ls.set _ _);rw[ht];exact Ext.set
theorem vf (b:UInt8)(k:Ks):(cZ b k).2.mr=k.mr∧Ext k.ls (cZ b k).2.ls:=by
 by_cases h0:(cZ b k).1=0
 ·obtain⟨h1,h2,h3,h4⟩:=vc h0;rw[h4];exact⟨rfl,Ext.set⟩
 ·rw[vd h0];exact⟨rfl,Ext.refl _⟩
theorem sj (bs:List UInt8)(k:Ks):(dC bs k).2.mr=k.mr∧Ext k.ls (dC bs k).2.ls:=by
 by_cases h0:(dC bs k).1=0
 ·obtain⟨p,h1,h2,h3,h4,h5,h6⟩:=BV h0;rw[h6];exact Ga
 ·rw[xi h0];exact⟨rfl,Ext.refl _⟩
theorem cx.al (h:cx p s)(b:UInt8):cx p (dK p b s).2:=by
 have h1:=vf b s.k;exact (h.toWP.more (h.wc.al b) (h.held.al b) h1.1 h1.2).eL.1
theorem cx.recv (h:cx p s)(bs:List UInt8):cx p (dL p bs s).2:=by
 have h1:=sj bs s.k;exact (h.toWP.more (h.wc.recv bs).1 ((h.wc.recv bs).2 h.held) h1.1 h1.2).eL.1
theorem cx.with {k':Ks}(h:cx p s)(hw:WC k')(hh:Go.Proofs.YteoldcfapaiobaaGreat.held k')(hm:k'.mr=s.k.mr)(he:k'.ls=s.k.ls):cx p ⟨k',s.g⟩:=by
 refine⟨h.toWP.more hw hh hm (by rw[he];exact Ext.refl _),?_⟩;show k'.mr.length=aV k'.ls;rw[hm,he];exact h.full
theorem BZ (k:Ks):(bq k).2.mr=k.mr∧(bq k).2.ls=k.ls:=by
 rcases xj k with h1 | ⟨hc,h1 | ⟨i,hi,h1⟩⟩ <;> rw[h1] <;> exact⟨rfl,rfl⟩
theorem B0 (k:Ks):(bF k).2.mr=k.mr∧(bF k).2.ls=k.ls:=by
 unfold bF;split <;> exact⟨rfl,rfl⟩
theorem cx.tick (h:cx p s):cx p ⟨(bq s.k).2,s.g⟩:=h.with h.wc.tick.1 (h.wc.tick.2 h.held) (BZ _).1 (BZ _).2
theorem cx.lP (h:cx p s):cx p ⟨(bF s.k).2,s.g⟩:=h.with h.wc.lP.1 (h.wc.lP.2 h.held) (B0 _).1 (B0 _).2
theorem cx.told (h:cx p s):cx p ⟨{ s.k with ev:=[] },s.g⟩:=h.with h.wc.ZH (λi hi=>h.held i hi) rfl rfl
def eM (p:Pr)(c:Cf):Pl:=eL p ⟨fv c,o0⟩
theorem xk {c:Cf}(h:ft c):WP p ⟨fv c,o0⟩:=by
 obtain⟨h1,h2,h3⟩:=WC.new h;exact⟨h1,h2,Nat.zero_le _,rfl,rfl⟩
theorem cx.new {c:Cf}(h:ft c):cx p (eM p c):=(xk h).eL.1
end
section
variable {p:Pr}{me:Nat}{ls:List (List UInt8)}{s:Pl}{k:Ks}
theorem Me (h:WP p s):(eL p s).k.n=s.k.n∧(eL p s).k.me=s.k.me∧(eL p s).k.id=s.k.id∧(eL p s).k.cl=s.k.cl∧(eL p s).k.bo=s.k.bo∧(eL p s).k.now=s.k.now∧(eL p s).k.ls=s.k.ls:=by
 obtain⟨_,h2,ps,ev,mr,h3⟩:=h.eL;rw[h3];exact⟨rfl,rfl,rfl,rfl,rfl,rfl,rfl⟩
theorem Mf (p:Pk):(aS p).length≤507:=by
 unfold aS;split
 ·rename_i h;have:=Ld h;rw[yZ];omega
 ·simp
end
end
section
def B1:TypeDesc→Bool | .interface _=>true | _=>false
section
variable {P:Program}{a:Act}{w:World}{n:Nat}{l:List (Nat×Value)}{v:Value}
theorem Gb {x t Gc et dst ty ps af g}(E:Fr a n l)(ht:P.underlying t=some et)(hd:B1 et=false)[e:Ev l x (.iface t v)] :
   (execOp a.eval ⟨dst,.typeAssert x Gc t true,ty,ps,af,g⟩).run P w=.ok (.value (.tuple #[v,.bool true])) w:=by
 cases et <;> first | (simp[B1]at hd) | skip
 all_goals simp[execOp,e.ev a n E,Instr.typeAssert,eW ht]
theorem Ge {x t t' Gc et dst z sz a6 ty ps af g}(E:Fr a n l)(ht:P.underlying t=some et)(hd:B1 et=false)(hi:TI P t z sz a6)(hn:Nat.beq t' t=false)[e:Ev l x (.iface t' v)] :
   (execOp a.eval ⟨dst,.typeAssert x Gc t true,ty,ps,af,g⟩).run P w=.ok (.value (.tuple #[z,.bool false])) w:=by
 have bT:¬ t'=t:=λh=>by rw[h,Nat.beq_refl]at hn;cases hn
 cases et <;> first | (simp[B1]at hd) | skip
 all_goals simp[execOp,e.ev a n E,Instr.typeAssert,eW ht,uk hi,bT]
end
abbrev kj:=Nat×Nat×Nat
def tD (e:kj):Prop:=e.1≤3∧1≤e.1∧e.2.1<8∧e.2.2≤1000∧(e.1=3∨e.2.2=0)
def cz (e:kj):Value:=if e.1=1 then .iface 210 (.agg #[.int .i64 e.2.1]) else if e.1=2 then .iface 211 (.agg #[.int .i64 e.2.1]) else .iface 213 (.agg #[.int .i64 e.2.1,.int .i64 e.2.2])
theorem Gf (e:kj):(cz e).oneCell'=true:=by
 unfold cz;split
 ·rfl
 ·split <;> rfl
instance {e:kj}:One (cz e):=⟨Gf e⟩
abbrev bZ (e:kj):List Value:=[.int .i64 e.1,.int .i64 e.2.1,.int .i64 e.2.2]
theorem B2 (e:kj):(bZ e).length=3:=rfl
theorem Gg (e:kj):∀ v∈bZ e,v.oneCell'=true:=by
 intro v hv;simp[bZ]at hv;rcases hv with rfl | rfl | rfl <;> rfl
section
variable {W w:World}{L:List SP}{e:kj}
theorem ZM (I:U W w L)(h:tD e):Calls prog 231 #[.agg (bZ e).toArray] w λr V=>r=.returned (.tuple #[.agg #[cz e],.bool true])∧U W V L:=by
 obtain⟨h1,h2,h3,h4,h5⟩:=h;refine EN func231 ntmps231 rfl rfl λa E=>?_;refine BX 1 E I λb1 a w E I=>?_;change U W w (aa b1 102 (bZ e)::_) at I;refine AL 0 E I λb2 a w E I=>?_;refine RN 7 E I λa E=>?_;rw[bn (by omega)]at E;refine RN 5 E I λa E=>?_;rw[bn (by omega)]at E;refine RN 5 E I λa E=>?_;rw[bn (by omega)]at E;refine RN 5 E I λa E=>?_;rw[bn (by omega)]at E;refine BY 4 E I (λpY a E=>?_) λpY a E=>?_
 ·
  refine RN 5 E I λa E=>?_;rw[bn (by omega)]at E;refine IF 8 E I (λao a E=>?_) λao a E=>?_
  ·
   refine SA 6 E I λa w E I=>?_;refine RT 1 E I ?_;exact⟨by rw[cz,ak (by omega)],I.sub⟩
  refine IF 3 E I (λay a E=>?_) λay a E=>?_
  ·
   refine SA 6 E I λa w E I=>?_;refine RT 1 E I ?_;exact⟨by rw[cz,ag (by omega),ak (by omega)],I.sub⟩
  refine IF 3 E I (λbj a E=>?_) λbj a E=>?_
  ·
   refine SA 8 E I λa w E I=>?_;refine RT 1 E I ?_;exact⟨by rw[cz,ag (by omega),ag (by omega)],I.sub⟩
  exfalso;omega
 refine IF 13 E I (λao a E=>?_) λao a E=>?_
 ·
  refine SA 6 E I λa w E I=>?_;refine RT 1 E I ?_;exact⟨by rw[cz,ak (by omega)],I.sub⟩
 refine IF 3 E I (λay a E=>?_) λay a E=>?_
 ·
  refine SA 6 E I λa w E I=>?_;refine RT 1 E I ?_;exact⟨by rw[cz,ag (by omega),ak (by omega)],I.sub⟩
 refine IF 3 E I (λbj a E=>?_) λbj a E=>?_
 ·
  refine SA 8 E I λa w E I=>?_;refine RT 1 E I ?_;exact⟨by rw[cz,ag (by omega),ag (by omega)],I.sub⟩
 exfalso;omega
theorem ZN (I:U W w L)(h:tD e)(hk:e.1=1):Calls prog 80 #[.agg #[cz e]] w λr V=>r=.returned (.agg (bZ e).toArray)∧U W V L:=by
 have he:cz e=.iface 210 (.agg #[.int .i64 e.2.1]):=by rw[cz,ak hk]
 have hz:e.2.2=0:=by have:=h.2.2.2.2;omega
 rw[he];refine EN func80 ntmps80 rfl rfl λa E=>?_;refine BX 1 E I λb1 a w E I=>?_;refine AL 0 E I λb2 a w E I=>?_;refine RN 5 E I λa E=>?_;refine SK (bu E rfl (Gb E underlying210 rfl) rfl ?_);clear E a;intro a E;refine RN 2 E I λa E=>?_;replace E:=E.eG 9;refine AL 2 E I λb3 a w E I=>?_
 skip
 refine SA 0 E I λa w E I=>?_;refine SA 4 E I λa w E I=>?_;refine RT 0 E I ?_;exact⟨by rw[bZ,hk,hz];rfl,I.sub⟩
theorem ZO (I:U W w L)(h:tD e)(hk:e.1=2):Calls prog 80 #[.agg #[cz e]] w λr V=>r=.returned (.agg (bZ e).toArray)∧U W V L:=by
 have he:cz e=.iface 211 (.agg #[.int .i64 e.2.1]):=by rw[cz,ag (by omega),ak hk]
 have hz:e.2.2=0:=by have:=h.2.2.2.2;omega
 rw[he];refine EN func80 ntmps80 rfl rfl λa E=>?_;refine BX 1 E I λb1 a w E I=>?_;refine AL 0 E I λb2 a w E I=>?_;refine RN 5 E I λa E=>?_;refine SK (bu E rfl (Ge E underlying210 rfl Ty.t210 rfl) rfl ?_);clear E a;intro a E;refine RN 2 E I λa E=>?_;replace E:=E.aK 9;refine RN 2 E I λa E=>?_;refine SK (bu E rfl (Gb E underlying211 rfl) rfl ?_);clear E a;intro a E;refine RN 2 E I λa E=>?_;replace E:=E.eG 15;refine AL 2 E I λb4 a w E I=>?_;refine SA 0 E I λa w E I=>?_;refine SA 4 E I λa w E I=>?_;refine RT 0 E I ?_;exact⟨by rw[bZ,hk,hz];rfl,I.sub⟩
theorem ZP (I:U W w L)(h:tD e)(hk:e.1=3):Calls prog 80 #[.agg #[cz e]] w λr V=>r=.returned (.agg (bZ e).toArray)∧U W V L:=by
 have he:cz e=.iface 213 (.agg #[.int .i64 e.2.1,.int .i64 e.2.2]):=by rw[cz,ag (by omega),ag (by omega)]
 rw[he];refine EN func80 ntmps80 rfl rfl λa E=>?_;refine BX 1 E I λb1 a w E I=>?_;refine AL 0 E I λb2 a w E I=>?_;refine RN 5 E I λa E=>?_;refine SK (bu E rfl (Ge E underlying210 rfl Ty.t210 rfl) rfl ?_);clear E a;intro a E;refine RN 2 E I λa E=>?_;replace E:=E.aK 9;refine RN 2 E I λa E=>?_;refine SK (bu E rfl (Ge E underlying211 rfl Ty.t211 rfl) rfl ?_);clear E a;intro a E;refine RN 2 E I λa E=>?_;replace E:=E.aK 15;refine RN 2 E I λa E=>?_;refine SK (bu E rfl (Gb E underlying213 rfl) rfl ?_);clear E a;intro a E;refine RN 2 E I λa E=>?_;replace E:=E.eG 21;refine AL 2 E I λb5 a w E I=>?_;refine SA 0 E I λa w E I=>?_;refine SA 6 E I λa w E I=>?_;refine RT 0 E I ?_;exact⟨by rw[bZ,hk];rfl,I.sub⟩
theorem ZQ (I:U W w L)(h:tD e):Calls prog 80 #[.agg #[cz e]] w λr V=>r=.returned (.agg (bZ e).toArray)∧U W V L:=by
 have h1:=h.1;have h2:=h.2.1;by_cases k1:e.1=1
 ·exact ZN I h k1
 ·by_cases k2:e.1=2
  ·exact ZO I h k2
  ·exact ZP I h (by omega)
end
end
end Go.Proofs.YteoldcfapaiobaaGreat
