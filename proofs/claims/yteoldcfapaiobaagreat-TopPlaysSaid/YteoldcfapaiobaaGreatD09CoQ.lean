/- Plain side of what a player knows: the document's P21 and P22. -/
import Derived.Test.YteoldcfapaiobaaGreatD08Pkt3
import Derived.Test.YteoldcfapaiobaaGreatD05Vm
namespace Go.Proofs.YteoldcfapaiobaaGreat
open Tryz
open List (length_range length_nil mem_range getElem_set_self eraseIdx_set_eq ext_getElem? mem_or_eq_of_mem_set getElem_mem mem_singleton range_succ getElem?_set_ne map_singleton)
open Go.RowKit
set_option linter.unusedVariables false
set_option linter.unusedSimpArgs false
set_option maxRecDepth 10000
set_option synthInstance.maxSize 4000
set_option synthInstance.maxHeartbeats 400000
section
structure Cf where
 n:Int
 me:Int
 id:Int
 aJ:Int
 br:Int
 bf:Int
 order:Int
 ct:Int
 workers:Int
 room:Int
abbrev bS (c:Cf):List Value:=[.int .i64 c.n,.int .i64 c.me,.int .i64 c.id,.int .i64 c.aJ,.int .i64 c.br,.int .i64 c.bf,.int .i64 c.order,.int .i64 c.ct,.int .i64 c.workers,.int .i64 c.room]
def fv (n l h:Int):Prop:=l≤n∧n≤h
instance (n l h:Int):Decidable (fv n l h):=inferInstanceAs (Decidable (_∧_))
def eQ (c:Cf):Prop:=(fv c.n 2 8∧fv c.me 0 (c.n-1)∧fv c.id 0 1099511627776)∧(fv c.aJ 0 8∧fv c.br 1 16∧fv c.bf 1 3∧fv c.order 0 3) ∧
 (c.order=0∨c.bf=2)∧fv c.ct 0 8∧fv c.workers 0 4∧fv c.room 3 50
instance (c:Cf):Decidable (eQ c):=inferInstanceAs (Decidable (_∧_))
structure Pe where
 has:Nat
 heard:Nat
 frame:Nat
 sum:Nat
 apart:Bool
structure Ks where
 n:Nat
 me:Nat
 aJ:Nat
 br:Nat
 id:Int
 bf:Int
 order:Int
 ct:Int
 workers:Int
 room:Int
 ls:List (List UInt8)
 ps:List Pe
 mr:List Nat
 ev:List (Nat×Nat×Nat)
 now:Nat
 cl:Bool
def fe (k:Ks):Cf:=⟨k.n,k.me,k.id,k.aJ,k.br,k.bf,k.order,k.ct,k.workers,k.room⟩
def fw (d:Nat):Pe:=⟨d,0,0,0,false⟩
def ff (c:Cf):Ks:=⟨c.n.toNat,c.me.toNat,c.aJ.toNat,c.br.toNat,c.id,c.bf,c.order,c.ct,c.workers,c.room,
 List.replicate c.n.toNat (List.replicate c.aJ.toNat 0),List.replicate c.n.toNat (fw c.aJ.toNat),[],[],0,false⟩
def aE (k:Ks):Nat:=(k.ls.getD k.me []).length
def aw (k:Ks):Nat:=aV k.ls
def wq (mk:List Nat)(p:Pe):Prop:=p.apart=false∧1≤p.frame∧p.frame≤mk.length∧mk.getD (p.frame-1) 0≠p.sum
instance (mk:List Nat)(p:Pe):Decidable (wq mk p):=inferInstanceAs (Decidable (_∧_))
def au (k:Ks)(i:Nat):Pe:=k.ps.getD i (fw 0)
def kW (k:Ks)(i:Nat):Ks:=if wq k.mr (au k i) then { k with ps:=k.ps.set i { au k i with apart:=true },ev:=k.ev++[(3,i,(au k i).frame)] } else k
def gn (k:Ks):Nat→Ks
 | 0=>k
 | i+1=>kW (gn k i) i
def kX (k:Ks):Ks:=gn k k.ps.length
def lu (k:Ks)(s:Nat):Ks:=kX (if k.mr.length<1000 then { k with mr:=k.mr++[s] } else k)
def cZ (b:UInt8)(k:Ks):Int×Ks:=if k.cl=true then (6,k) else if 1000≤aE k then (4,k) else if k.br+aw k≤aE k then (5,k) else (0,{ k with ls:=k.ls.set k.me (k.ls.getD k.me []++[b]) })
def fO (now head:Nat)(p:Pk)(x:Pe):Pe :=
 let h:=if x.has<p.c7.toNat∧p.c7.toNat≤head then p.c7.toNat else x.has
 if 0<p.frame∧(x.frame:Int)≤p.frame then { x with heard:=now,has:=h,frame:=p.frame.toNat,sum:=p.sum } else { x with heard:=now,has:=h }
def fP (k:Ks)(p:Pk):Ks :=
 if p.kind=2 then { k with ps:=k.ps.set p.aW.toNat { au k p.aW.toNat with heard:=k.now },ev:=k.ev++[(1,p.aW.toNat,0)],cl:=true }
 else kX { k with ls:=k.ls.set p.aW.toNat (dr (k.ls.getD p.aW.toNat []) p.first.toNat p.al),ps:=k.ps.set p.aW.toNat (fO k.now (aE k) p (au k p.aW.toNat)) }
noncomputable def dx (bs:List UInt8)(k:Ks):Int×Ks:=if k.cl=true then (6,k) else match ep bs with
 | none=>(1,k)
 | some p=>if p.to≠k.me∨(k.n:Int)≤p.aW∨p.id≠k.id then (1,k) else (0,fP k p)
def dL (k:Ks)(i:Nat):Pk:=⟨1,k.me,i,k.id,(au k i).has,(k.ls.getD i []).length,k.mr.length,k.mr.getLastD 0,((k.ls.getD k.me []).drop (au k i).has).take 32⟩
def im (k:Ks)(i:Nat):Pk:=⟨2,k.me,i,k.id,0,0,0,0,[]⟩
def bF (k:Ks):List Nat:=(List.range k.n).filter (·≠k.me)
def jk (k:Ks)(i:Nat):Prop:=(au k i).heard+40≤k.now
instance (k:Ks)(i:Nat):Decidable (jk k i):=inferInstanceAs (Decidable (_≤_))
abbrev Ml:=Nat×Nat×List UInt8
def bo (k:Ks):List Ml×Ks:=if k.cl=true then ([],k) else
 let k:={ k with now:=k.now+1 }
 match (bF k).find? (λi=>decide (jk k i)) with
 | some i=>([],{ k with ev:=k.ev++[(2,i,0)],cl:=true })
 | none=>((bF k).map λi=>(k.me,i,aR (dL k i)),k)
def cx (k:Ks):List Ml×Ks:=if k.cl=true then ([],k) else ((bF k).map λi=>(k.me,i,aR (im k i)),{ k with cl:=true })
def held (k:Ks):Prop:=∀ i,i<k.ps.length→¬ wq k.mr (au k i)
structure WC (k:Ks):Prop where
 n:2≤k.n∧k.n≤8
 me:k.me<k.n
 id:0≤k.id∧k.id≤1099511627776
 aJ:k.aJ≤8
 br:1≤k.br∧k.br≤16
 ls:k.ls.length=k.n
 ps:k.ps.length=k.n
 m5:∀ l∈k.ls,l.length≤1000
 mr:k.mr.length≤1000
 rB:∀ s∈k.mr,s<4294967296
 now:∀ p∈k.ps,p.heard≤k.now
 pe:∀ p∈k.ps,p.has≤1000∧p.frame≤1000∧p.sum<4294967296
 bx:∀ e∈k.ev,e.1≤3∧1≤e.1∧e.2.1<8∧e.2.2≤1000∧(e.1=3∨e.2.2=0)
 ov:k.ev.length+k.ps.countP (λp=>!p.apart)+(if k.cl=true then 0 else 1)≤k.n+1
section
variable {k:Ks}{i:Nat}
theorem WC.kA (h:WC k):k.ev.length≤9:=by have:=h.ov;have:=h.n;omega
theorem Yx (h:i<k.ps.length):au k i∈k.ps:=by
 rw[au,bl,aD h];exact getElem_mem _
theorem ux {ls:List (List UInt8)}(h:i<ls.length):ls.getD i []∈ls:=by
 rw[bl,aD h];exact getElem_mem _
theorem WC.pC (h:WC k)(hi:i<k.n):(au k i).has≤1000∧(au k i).heard≤k.now∧(au k i).frame≤1000∧(au k i).sum<4294967296:=by
 have hm:=Yx (k:=k) (i:=i) (by rw[h.ps];exact hi);exact⟨(h.pe _ hm).1,h.now _ hm,(h.pe _ hm).2⟩
theorem WC.lT (h:WC k)(hi:i<k.n):(k.ls.getD i []).length≤1000:=h.m5 _ (ux (by rw[h.ls];exact hi))
theorem WC.lv (h:WC k):aE k≤1000:=h.lT h.me
theorem WC.m6 (h:WC k):aw k≤aE k:=wm (ux (by rw[h.ls];exact h.me))
theorem mem_set {α:Type}{l:List α}{x y:α}(h:y∈l.set i x):y∈l∨y=x:=mem_or_eq_of_mem_set h
theorem WC.AK (h:WC k){p:Pe}{ev:List (Nat×Nat×Nat)}{cl:Bool}(hp:p.has≤1000∧p.frame≤1000∧p.sum<4294967296)(hh:p.heard≤k.now)
   (he:∀ e∈ev,e.1≤3∧1≤e.1∧e.2.1<8∧e.2.2≤1000∧(e.1=3∨e.2.2=0)) (hn:ev.length+(k.ps.set i p).countP (λp=>!p.apart)+(if cl=true then 0 else 1)≤k.n+1):WC { k with ps:=k.ps.set i p,ev:=ev,cl:=cl } :=
 { h with
  ps:=by show (k.ps.set i p).length=_;rw[bu];exact h.ps
  now:=λq hq=>by
   rcases mem_set hq with hq | rfl
   ·exact h.now q hq
   ·exact hh
  pe:=λq hq=>by
   rcases mem_set hq with hq | rfl
   ·exact h.pe q hq
   ·exact hp
  bx:=he
  ov:=hn }
theorem count_set {l:List Pe}{p:Pe}(h:i<l.length):(l.set i p).countP (λp=>!p.apart)+(if l[i].apart=true then 0 else 1)=l.countP (λp=>!p.apart)+(if p.apart=true then 0 else 1):=by
 have h1:l.countP (λp=>!p.apart)=(l[i]::l.eraseIdx i).countP (λp=>!p.apart):=List.Perm.countP_eq _ (r8 _ h);have hi:i<(l.set i p).length:=by simpa using h
 have h2:(l.set i p).countP (λp=>!p.apart)=((l.set i p)[i]::(l.set i p).eraseIdx i).countP (λp=>!p.apart):=List.Perm.countP_eq _ (r8 _ hi);rw[h1,h2,List.countP_cons,List.countP_cons,getElem_set_self,eraseIdx_set_eq];cases l[i].apart <;> cases p.apart <;> simp <;> omega
theorem WC.kW (h:WC k)(hi:i<k.n):WC (kW k i):=by
 unfold Go.Proofs.YteoldcfapaiobaaGreat.kW;split
 ·rename_i hb;have aH:i<k.ps.length:=by rw[h.ps];exact hi
  have hp:=h.pC hi;have o3:au k i=k.ps[i]:=by rw[au,bl,aD aH];rfl
  refine h.AK ⟨hp.1,hp.2.2⟩ hp.2.1 (λe he=>?_) ?_
  ·rcases eN.1 he with he | he
   ·exact h.bx e he
   ·rw[mem_singleton]at he;subst he;have:=h.n;exact⟨by simp,by simp,by simp;omega,hp.2.2.1,.inl rfl⟩
  ·have hc:=count_set (p:={ au k i with apart:=true }) aH;rw[← o3,hb.1]at hc;have:=h.ov;rw[aL,jj];simp at hc ⊢;omega
 ·exact h
end
section
variable {k:Ks}{i:Nat}
theorem KQ (k:Ks)(i:Nat):∃ ps ev,kW k i={ k with ps:=ps,ev:=ev }∧ps.length=k.ps.length:=by
 unfold kW;split
 ·exact⟨_,_,rfl,by simp⟩
 ·exact⟨k.ps,k.ev,rfl,rfl⟩
theorem yn (k:Ks):∀ i,∃ ps ev,gn k i={ k with ps:=ps,ev:=ev }∧ps.length=k.ps.length
 | 0=>⟨k.ps,k.ev,rfl,rfl⟩
 | i+1=>by
  obtain⟨ps,ev,h1,h2⟩:=yn k i;obtain⟨gj,KR,h3,h4⟩:=KQ (gn k i) i;refine⟨gj,KR,?_,?_⟩
  ·rw[gn,h3,h1]
  ·rw[h4,h1];exact h2
theorem wu (k:Ks):∃ ps ev,kX k={ k with ps:=ps,ev:=ev }∧ps.length=k.ps.length:=yn k _
theorem WC.gn (h:WC k):∀ {i},i≤k.n→WC (gn k i)
 | 0,_=>h
 | i+1,hi=>by
  rw[Go.Proofs.YteoldcfapaiobaaGreat.gn];refine (h.gn (i:=i) (by omega)).kW ?_;obtain⟨ps,ev,h1,_⟩:=yn k i;rw[h1];show i<k.n;omega
theorem WC.kX (h:WC k):WC (kX k):=h.gn (by rw[h.ps];exact bd _)
theorem Yy (k:Ks)(i:Nat)(hi:i<k.ps.length):¬ wq (kW k i).mr (au (kW k i) i):=by
 unfold kW;split
 ·intro hb;have:=hb.1;simp[au,hi]at this
 ·assumption
theorem Yz (k:Ks){i j:Nat}(h:j≠i):au (kW k i) j=au k j:=by
 unfold kW;split
 ·simp only[au,bl];rw[getElem?_set_ne (by omega)]
 ·rfl
theorem YA (k:Ks)(i:Nat):(kW k i).mr=k.mr:=by
 obtain⟨ps,ev,h1,_⟩:=KQ k i;rw[h1]
theorem AM (k:Ks)(i:Nat):(gn k i).ps.length=k.ps.length:=by
 obtain⟨ps,ev,h1,h2⟩:=yn k i;rw[h1];exact h2
theorem KS (k:Ks):∀ {i j},i≤k.ps.length→j<i→¬ wq (gn k i).mr (au (gn k i) j)
 | 0,_,_,h=>absurd h (by omega)
 | i+1,j,hi,hj=>by
  rw[Go.Proofs.YteoldcfapaiobaaGreat.gn];by_cases h:j=i
  ·subst h;exact Yy _ _ (by rw[AM];omega)
  ·rw[YA,Yz _ h];exact KS k (by omega) (by omega)
theorem KT (k:Ks):held (kX k):=λi hi=>KS k (bd _) (by rw[kX,AM]at hi;exact hi)
theorem held.gn (h:held k):∀ {i},i≤k.ps.length→gn k i=k
 | 0,_=>rfl
 | i+1,hi=>by
  rw[Go.Proofs.YteoldcfapaiobaaGreat.gn,h.gn (i:=i) (by omega),kW,ag (h i (by omega))]
theorem held.kX (h:held k):kX k=k:=h.gn (bd _)
theorem held.of {k':Ks}(h:held k)(hm:k'.mr=k.mr)(hl:k'.ps.length=k.ps.length)(hp:∀ i,i<k.ps.length→(au k' i).apart=(au k i).apart∧(au k' i).frame=(au k i).frame∧(au k' i).sum=(au k i).sum):held k':=by
 intro i hi hb;rw[hl]at hi;obtain⟨h1,h2,h3⟩:=hp i hi;refine h i hi ?_;simp only[wq,hm,h1,h2,h3]at hb;exact hb
theorem WC.mark (h:WC k){s:Nat}(I:s<4294967296):WC (lu k s):=by
 unfold lu;refine WC.kX ?_;split
 ·exact { h with
   mr:=by show (k.mr++[s]).length≤1000;rw[aL,jj];omega
   rB:=λx hx=>by
    rcases eN.1 hx with hx | hx
    ·exact h.rB x hx
    ·rw[mem_singleton]at hx;rw[hx];exact I }
 ·exact h
theorem KU (k:Ks)(s:Nat)(hl:k.mr.length<1000):∃ ps ev,lu k s={ k with ps:=ps,ev:=ev,mr:=k.mr++[s] }∧ps.length=k.ps.length:=by
 obtain⟨ps,ev,h1,h2⟩:=wu { k with mr:=k.mr++[s] };refine⟨ps,ev,?_,h2⟩;rw[lu,ak hl,h1]
theorem uy {k:Ks}{b:UInt8}(h:(cZ b k).1=0):k.cl=false∧aE k<1000∧aE k<k.br+aw k∧(cZ b k).2={ k with ls:=k.ls.set k.me (k.ls.getD k.me []++[b]) }:=by
 unfold cZ at h ⊢;split at h
 ·cases h
 ·split at h
  ·cases h
  ·split at h
   ·cases h
   ·rename_i h1 h2 h3;refine⟨by simpa using h1,by omega,by omega,?_⟩;rw[ag h1,ag h2,ag h3]
theorem uz {k:Ks}{b:UInt8}(h:(cZ b k).1≠0):(cZ b k).2=k:=by
 unfold cZ at h ⊢;split
 ·rfl
 ·rename_i h1;rw[ag h1]at h;split
  ·rfl
  ·rename_i h2;rw[ag h2]at h;split
   ·rfl
   ·rename_i h3;rw[ag h3]at h;exact absurd rfl h
theorem WC.al (h:WC k)(b:UInt8):WC (cZ b k).2:=by
 by_cases h0:(cZ b k).1=0
 ·obtain⟨h1,h2,h3,h4⟩:=uy h0;rw[h4];exact { h with
   ls:=by show (k.ls.set _ _).length=_;rw[bu];exact h.ls
   m5:=λl hl=>by
    rcases mem_set hl with hl | rfl
    ·exact h.m5 l hl
    ·rw[aL,jj];simp only[aE]at h2;omega }
 ·rw[uz h0];exact h
theorem held.al (h:held k)(b:UInt8):held (cZ b k).2:=by
 by_cases h0:(cZ b k).1=0
 ·obtain⟨h1,h2,h3,h4⟩:=uy h0;rw[h4];exact h
 ·rw[uz h0];exact h
theorem WC.YB (h:WC k):WC { k with ev:=[] } :=
 { h with
  bx:=λe he=>by cases he
  ov:=by have:=h.ov;show ([]:List (Nat×Nat×Nat)).length+_+_≤_;simp only[length_nil];omega }
theorem wv {k:Ks}{i j:Nat}{p:Pe}(hi:i<k.ps.length):(k.ps.set i p).getD j (fw 0)=if j=i then p else au k j:=by
 simp only[au,bl,jK];by_cases h:i=j
 ·subst h;simp[hi]
 ·rw[ag h,ag (λe=>h e.symm)]
theorem EW {k:Ks}{i:Nat}{p:Pe}(hi:i<k.ps.length)(E:p.apart=(au k i).apart):(k.ps.set i p).countP (λp=>!p.apart)=k.ps.countP (λp=>!p.apart):=by
 have hc:=count_set (p:=p) hi;have o3:au k i=k.ps[i]:=by rw[au,bl,aD hi];rfl
 rw[← o3,E]at hc;omega
theorem WC.yo (h:WC k){p:Pk}(hp:hJ p)(I:p.sum<4294967296)(hn:p.aW<k.n)(hc:k.cl=false):WC (fP k p)∧(held k→held (fP k p)):=by
 have EX:=hp.1.1;have aH:p.aW.toNat<k.n:=by omega
 have EY:p.aW.toNat<k.ps.length:=by rw[h.ps];exact aH
 have iq:=h.pC aH;unfold fP;split
 ·have hR:=EW (p:={ au k p.aW.toNat with heard:=k.now }) EY rfl;refine⟨h.AK (p:={ au k p.aW.toNat with heard:=k.now }) (cl:=true) ⟨iq.1,iq.2.2⟩ (bd _) (λe he=>?_) ?_,λhh=>hh.of rfl (by simp) λj hj=>?_⟩
  ·rcases eN.1 he with he | he
   ·exact h.bx e he
   ·rw[mem_singleton]at he;subst he;have:=h.n;exact⟨by simp,by simp,by show p.aW.toNat<8;omega,by simp,.inr rfl⟩
  ·have:=h.ov;rw[hc]at this;rw[hR,aL,jj];simp at this ⊢;omega
  ·show ((k.ps.set _ _).getD j _).apart=_∧((k.ps.set _ _).getD j _).frame=_∧((k.ps.set _ _).getD j _).sum=_;rw[wv EY];split
   ·rename_i h1;subst h1;exact⟨rfl,rfl,rfl⟩
   ·exact⟨rfl,rfl,rfl⟩
 ·refine⟨WC.kX ?_,λ_=>KT _⟩;have hk:p.kind=1∧eD p.first∧eD p.c7∧eD p.frame∧p.al.length≤32:=by
   rcases hp.2.2.2.2 with h1 | h1
   ·exact h1
   ·rename_i h2;exact absurd h1.1 h2
  have Ck:(fO k.now (aE k) p (au k p.aW.toNat)).apart=(au k p.aW.toNat).apart:=by
   unfold fO;simp only;split <;> rfl
  have hR:=EW (p:=fO k.now (aE k) p (au k p.aW.toNat)) EY Ck;have YC:=hk.2.2.1;have iX:=hk.2.2.2.1;simp only[eD]at YC iX;have gP:=h.lv;have hq:(fO k.now (aE k) p (au k p.aW.toNat)).has≤1000∧(fO k.now (aE k) p (au k p.aW.toNat)).frame≤1000∧(fO k.now (aE k) p (au k p.aW.toNat)).sum<4294967296∧(fO k.now (aE k) p (au k p.aW.toNat)).heard=k.now:=by
   unfold fO;simp only;have h9:(if (au k p.aW.toNat).has<p.c7.toNat∧p.c7.toNat≤aE k then p.c7.toNat else (au k p.aW.toNat).has)≤1000:=by split <;> omega
   split
   ·exact⟨h9,by show p.frame.toNat≤1000;omega,I,rfl⟩
   ·exact⟨h9,iq.2.2.1,iq.2.2.2,rfl⟩
  have h1:=h.AK (p:=fO k.now (aE k) p (au k p.aW.toNat)) (i:=p.aW.toNat) (ev:=k.ev) (cl:=k.cl) ⟨hq.1,hq.2.1,hq.2.2.1⟩ (by rw[hq.2.2.2];exact bd _) h.bx (by rw[hR];exact h.ov);have hO:=h.lT aH;exact { h1 with
   ls:=by show (k.ls.set _ _).length=_;rw[bu];exact h.ls
   m5:=λl hl=>by
    rcases mem_set hl with hl | rfl
    ·exact h.m5 l hl
    ·exact (rz hO).2 }
theorem AN {k:Ks}{bs:List UInt8}(h:(dx bs k).1=0):∃ p,ep bs=some p∧k.cl=false∧p.to=k.me∧p.aW<k.n∧p.id=k.id∧(dx bs k).2=fP k p:=by
 unfold dx at h ⊢;split at h
 ·cases h
 ·rename_i h1;rw[ag h1];cases hd:ep bs with
  | none=>rw[hd]at h;cases h
  | some p =>
   rw[hd]at h;simp only at h ⊢;split at h
   ·cases h
   ·rename_i h2;rw[ag h2];have h3:p.to=k.me:=Decidable.of_not_not λhh=>h2 (.inl hh);have h4:p.id=k.id:=Decidable.of_not_not λhh=>h2 (.inr (.inr hh));have h5:p.aW<k.n:=Int.not_le.1 λhh=>h2 (.inr (.inl hh));exact⟨p,rfl,by simpa using h1,h3,h5,h4,rfl⟩
theorem wx {k:Ks}{bs:List UInt8}(h:(dx bs k).1≠0):(dx bs k).2=k:=by
 unfold dx at h ⊢;split
 ·rfl
 ·rename_i h1;rw[ag h1]at h;cases hd:ep bs with
  | none=>rfl
  | some p =>
   rw[hd]at h;simp only at h ⊢;split
   ·rfl
   ·rename_i h2;rw[ag h2]at h;exact absurd rfl h
theorem WC.recv (h:WC k)(bs:List UInt8):WC (dx bs k).2∧(held k→held (dx bs k).2):=by
 by_cases h0:(dx bs k).1=0
 ·obtain⟨p,h1,h2,h3,h4,h5,h6⟩:=AN h0;obtain⟨h7,h8,h9⟩:=Em h1;rw[h6];exact h.yo h7 h8 h4 h2
 ·rw[wx h0];exact⟨h,λh=>h⟩
theorem wy {k:Ks}{i:Nat}:i∈bF k↔i<k.n∧i≠k.me:=by simp[bF]
theorem WC.AO (h:WC k):WC { k with now:=k.now+1 }:={ h with now:=λp hp=>Nat.le_succ_of_le (h.now p hp) }
theorem WC.late (h:WC k){i:Nat}(hi:i<8)(hc:k.cl=false):WC { k with ev:=k.ev++[(2,i,0)],cl:=true } :=
 { h with
  bx:=λe he=>by
   rcases eN.1 he with he | he
   ·exact h.bx e he
   ·rw[mem_singleton]at he;subst he;exact⟨by simp,by simp,hi,by simp,.inr rfl⟩
  ov:=by
   have:=h.ov;rw[hc]at this;rw[aL,jj];simp at this ⊢;omega }
theorem wz (k:Ks):(bo k).2=k∨(k.cl=false∧((bo k).2={ k with now:=k.now+1 }∨∃ i,i<k.n∧(bo k).2={ k with now:=k.now+1,ev:=k.ev++[(2,i,0)],cl:=true })):=by
 unfold bo;split
 ·exact .inl rfl
 ·rename_i hc;refine .inr ⟨by simpa using hc,?_⟩;simp only;cases hf:(bF { k with now:=k.now+1 }).find? (λi=>decide (jk { k with now:=k.now+1 } i)) with
  | none=>exact .inl rfl
  | some i=>exact .inr ⟨i,(wy.1 (List.mem_of_find?_eq_some hf)).1,rfl⟩
theorem WC.tick (h:WC k):WC (bo k).2∧(held k→held (bo k).2):=by
 rcases wz k with h1 | ⟨hc,h1 | ⟨i,hi,h1⟩⟩
 ·rw[h1];exact⟨h,λh=>h⟩
 ·rw[h1];exact⟨h.AO,λh=>h⟩
 ·rw[h1];have:=h.n;exact⟨(h.AO).late (by omega) hc,λh=>h⟩
theorem WC.ow (h:WC k):WC (cx k).2∧(held k→held (cx k).2):=by
 unfold cx;split
 ·exact⟨h,λh=>h⟩
 ·rename_i hc;refine⟨{ h with ov:=?_ },λh=>h⟩;have:=h.ov;have vk:k.cl=false:=by simpa using hc
  rw[vk]at this;simp at this ⊢;omega
theorem WC.new {c:Cf}(h:eQ c):WC (ff c)∧held (ff c)∧fe (ff c)=c:=by
 obtain⟨⟨h1,h2,h3⟩,⟨h4,h5,h6,h7⟩,h8,h9,e9,lk⟩:=h;simp only[fv] at *;refine⟨⟨?_,?_,?_,?_,?_,?_,?_,?_,?_,?_,?_,?_,?_,?_⟩,?_,?_⟩
 ·show 2≤c.n.toNat∧c.n.toNat≤8;omega
 ·show c.me.toNat<c.n.toNat;omega
 ·exact h3
 ·show c.aJ.toNat≤8;omega
 ·show 1≤c.br.toNat∧c.br.toNat≤16;omega
 ·simp[ff]
 ·simp[ff]
 ·intro l hl;simp[ff]at hl;rw[hl.2,kl];omega
 ·simp[ff]
 ·intro s I;cases I
 ·intro p hp;simp[ff]at hp;rw[hp.2];exact Nat.zero_le _
 ·intro p hp;simp[ff]at hp;rw[hp.2];refine⟨?_,?_,?_⟩ <;> simp[fw];omega
 ·intro e he;cases he
 ·simp[ff,List.countP_replicate,fw]
 ·intro i hi hb;have h1:(au (ff c) i).frame≤0:=hb.2.2.1;have h2:=hb.2.1;omega
 ·show Cf.mk _ _ _ _ _ _ _ _ _ _=c;simp only[ff];rw[Int.toNat_of_nonneg (by omega),Int.toNat_of_nonneg (by omega),Int.toNat_of_nonneg (by omega),Int.toNat_of_nonneg (by omega)]
end
theorem YD {p:Pr}{fr:Int}{b:List UInt8}{g:Nat→Int}{aU:Nat}{o:gA}{m:Int}(hg:dO g)(ho:eY m o):dO (ei p fr b g aU o).1:=by
 have qh:=ho;simp only[eY,eX]at qh;unfold ei;split
 ·exact hg
 ·split
  ·exact hg
  ·split
   ·exact hg
   ·split
    ·exact nA hg (hg _ (by omega))
    ·exact nA hg (Jx hg ho (by assumption) (by assumption))
theorem KV {p:Pr}{fr:Int}{b:List UInt8}(hp:di p):∀ (n:Nat) {g:Nat→Int} {aU:Nat},dO g→dO (qc p fr b n g aU)
 | 0,_,_,hg=>hg
 | n+1,g,aU,hg=>by
  cases ho:p.ops[aU]? with
  | none =>
   rw [DL (by rcases Nat.lt_or_ge aU p.ops.length with h | h; · rw [aD h] at ho; cases ho
              ·exact h)];exact hg
  | some o =>
   have h1:=YD (p:=p) (fr:=fr) (b:=b) (aU:=aU) hg (hp.2 o (bG ho));rw[DK ho];split
   ·exact KV hp n h1
   ·exact h1
theorem KW {p:Pr}{fr:Int}{b:List UInt8}{g:Nat→Int}(hp:di p)(hg:dO g):dO (eZ p fr b g):=KV hp 200 hg
theorem KX {p:Pr}(hp:di p):∀ (l:List (List UInt8)) {fr:Int} {g:Nat→Int},dO g→dO (foldI p fr g l)
 | [],_,_,hg=>hg
 | b::l,_,_,hg=>KX hp l (KW hp hg)
structure Pl where
 k:Ks
 g:Nat→Int
def nE (p:Pr)(s:Pl):Pl:=⟨lu s.k (ji (gm (eZ p s.k.mr.length (bI s.k.ls s.k.mr.length) s.g))),eZ p s.k.mr.length (bI s.k.ls s.k.mr.length) s.g⟩
def iu (p:Pr):Nat→Pl→Pl
 | 0,s=>s
 | n+1,s=>iu p n (nE p s)
theorem EZ (p:Pr):∀ (n:Nat) (s:Pl),iu p (n+1) s=nE p (iu p n s)
 | 0,_=>rfl
 | n+1,s=>by rw[iu,EZ p n (nE p s)];rfl
def et (p:Pr)(s:Pl):Pl:=iu p (aw s.k-s.k.mr.length) s
def oy:Nat→Int:=λ_=>0
theorem YE:dO oy:=λ_ _=>⟨by simp[oy],by simp[oy]⟩
def lx (p:Pr)(ls:List (List UInt8))(f:Nat):Nat→Int:=foldI p 0 oy ((List.range f).map (bI ls))
def kB (p:Pr)(ls:List (List UInt8))(f:Nat):Nat:=ji (gm (lx p ls (f+1)))
theorem KY (p:Pr)(ls:List (List UInt8))(f:Nat):lx p ls (f+1)=eZ p f (bI ls f) (lx p ls f):=by
 rw[lx,range_succ,cW,map_singleton,Dg,a8,length_range,Int.zero_add];rfl
def Ext (ls kC:List (List UInt8)):Prop:=kC.length=ls.length∧∀ i:Nat,i<ls.length→∃ t,kC.getD i []=ls.getD i []++t
theorem Ext.refl (ls:List (List UInt8)):Ext ls ls:=⟨rfl,λi _=>⟨[],by simp⟩⟩
theorem Ext.trans {a b c:List (List UInt8)}(h:Ext a b)(h2:Ext b c):Ext a c:=⟨h2.1.trans h.1,λi hi=>by
 obtain⟨t,ht⟩:=h.2 i hi;obtain⟨u,hu⟩:=h2.2 i (by rw[h.1];exact hi);exact⟨t++u,by rw[hu,ht,du]⟩⟩
theorem Ext.set {ls:List (List UInt8)}{i:Nat}{t:List UInt8}:Ext ls (ls.set i (ls.getD i []++t)):=by
 refine⟨by simp,λj hj=>?_⟩;by_cases h:i=j
 ·subst h;exact⟨t,by simp[bl,hj]⟩
 ·exact⟨[],by simp[bl,getElem?_set_ne h]⟩
theorem getD_map {ls:List (List UInt8)}{f i:Nat}(h:i<ls.length):(bI ls f)[i]?=some ((ls.getD i []).getD f 0):=by
 rw[bI,bm,aD h,bl (l:=ls),aD h];rfl
theorem Ext.E0 {ls kC:List (List UInt8)}(h:Ext ls kC){f:Nat}(hf:f<aV ls):bI kC f=bI ls f:=by
 apply ext_getElem?;intro i;by_cases hi:i<ls.length
 ·rw[getD_map (by rw[h.1];exact hi),getD_map hi];obtain⟨t,ht⟩:=h.2 i hi;have hl:=wm (ux hi);rw[ht,bl,lZ (by omega),← bl]
 ·rw[iU (by rw[m3,h.1];omega),iU (by rw[m3];omega)]
theorem Ext.front {ls kC:List (List UInt8)}(h:Ext ls kC)(h0:ls≠[]):aV ls≤aV kC:=by
 refine ES (λh1=>?_) λl hl=>?_
 ·have:=h.1;rw[h1]at this;exact h0 (gT this.symm)
 ·obtain⟨i,hi,rfl⟩:=List.getElem_of_mem hl;have vo:i<ls.length:=by rw[← h.1];exact hi
  obtain⟨t,ht⟩:=h.2 i vo;have h3:=wm (ux vo);rw[bl,aD hi]at ht;simp only[Option.getD_some]at ht;rw[ht,aL];omega
theorem Ext.lx {ls kC:List (List UInt8)}(h:Ext ls kC){p:Pr}{f:Nat}(hf:f≤aV ls):lx p kC f=lx p ls f:=by
 unfold Go.Proofs.YteoldcfapaiobaaGreat.lx
 congr 1
 refine List.map_congr_left λi hi=>h.E0 ?_;rw[mem_range]at hi;omega
theorem Ext.kB {ls kC:List (List UInt8)}(h:Ext ls kC){p:Pr}{f:Nat}(hf:f<aV ls):kB p kC f=kB p ls f:=by
 rw[Go.Proofs.YteoldcfapaiobaaGreat.kB,h.lx (by omega)];rfl
structure WP (p:Pr)(s:Pl):Prop where
 wc:WC s.k
 held:held s.k
 low:s.k.mr.length≤aw s.k
 rC:s.g=lx p s.k.ls s.k.mr.length
 marks:s.k.mr=(List.range s.k.mr.length).map (kB p s.k.ls)
section
variable {p:Pr}{s:Pl}
theorem WP.pD (h:WP p s)(hp:di p):dO s.g:=by rw[h.rC];exact KX hp _ YE
theorem WC.kY {k:Ks}(h:WC k):k.ls≠[]:=λe=>by
 have:=h.ls;have:=h.n;rw[e] at *;simp at *;omega
theorem WP.one (h:WP p s)(hl:s.k.mr.length<aw s.k):WP p (nE p s)∧(nE p s).k.ls=s.k.ls∧(nE p s).k.mr.length=s.k.mr.length+1:=by
 have h9:=h.wc.m6;have h8:=h.wc.lv;obtain⟨ps,ev,h1,h2⟩:=KU s.k (ji (gm (eZ p s.k.mr.length (bI s.k.ls s.k.mr.length) s.g))) (by omega);have hk:(nE p s).k={ s.k with ps:=ps,ev:=ev,mr:=s.k.mr++[ji (gm (eZ p s.k.mr.length (bI s.k.ls s.k.mr.length) s.g))] }:=h1;have hm:(nE p s).k.mr.length=s.k.mr.length+1:=by rw[hk];simp
 have eP:(nE p s).k.ls=s.k.ls:=by rw[hk]
 have hg:eZ p s.k.mr.length (bI s.k.ls s.k.mr.length) s.g=lx p s.k.ls (s.k.mr.length+1):=by rw[KY,h.rC]
 refine⟨⟨h.wc.mark (D6 _),?_,?_,?_,?_⟩,eP,hm⟩
 ·show Go.Proofs.YteoldcfapaiobaaGreat.held (lu _ _);rw[lu];exact KT _
 ·rw[hm,aw,eP];exact hl
 ·rw[hm,eP];exact hg
 ·rw[hm,eP,hk,range_succ,cW,← h.marks,hg];rfl
theorem WP.qs:∀ (n:Nat) {s:Pl},WP p s→n≤aw s.k-s.k.mr.length→WP p (iu p n s)∧(iu p n s).k.ls=s.k.ls∧(iu p n s).k.mr.length=s.k.mr.length+n
 | 0,_,h,_=>⟨h,rfl,rfl⟩
 | n+1,s,h,hn=>by
  obtain⟨h1,h2,h3⟩:=h.one (by omega);obtain⟨h4,h5,h6⟩:=h1.qs n (by rw[aw,h2,h3];simp only[aw]at hn;omega);exact⟨h4,h5.trans h2,by rw[iu,h6,h3];omega⟩
theorem YF (h:s.k.mr.length<1000):∃ ps ev mr,(nE p s).k={ s.k with ps:=ps,ev:=ev,mr:=mr }:=by
 obtain⟨ps,ev,h1,h2⟩:=KU s.k (ji (gm (eZ p s.k.mr.length (bI s.k.ls s.k.mr.length) s.g))) h;exact⟨ps,ev,_,h1⟩
theorem WP.KZ:∀ (n:Nat) {s:Pl},WP p s→n≤aw s.k-s.k.mr.length→∃ ps ev mr,(iu p n s).k={ s.k with ps:=ps,ev:=ev,mr:=mr }
 | 0,s,h,_=>⟨s.k.ps,s.k.ev,s.k.mr,rfl⟩
 | n+1,s,h,hn=>by
  have h9:=h.wc.m6;have h8:=h.wc.lv;obtain⟨h1,h2,h3⟩:=h.one (by omega);obtain⟨ps,ev,mr,h4⟩:=h1.KZ n (by rw[aw,h2,h3];simp only[aw]at hn;omega);obtain⟨gj,KR,mr',h5⟩:=YF (p:=p) (s:=s) (by omega);exact⟨ps,ev,mr,by rw[iu,h4,h5]⟩
structure cu (p:Pr)(s:Pl):Prop extends WP p s where
 full:s.k.mr.length=aw s.k
theorem WP.et (h:WP p s):cu p (et p s)∧(et p s).k.ls=s.k.ls∧∃ ps ev mr,(Go.Proofs.YteoldcfapaiobaaGreat.et p s).k={ s.k with ps:=ps,ev:=ev,mr:=mr }:=by
 obtain⟨h1,h2,h3⟩:=h.qs _ (bd _);have hl:=h.low;refine⟨⟨h1,?_⟩,h2,h.KZ _ (bd _)⟩;show (iu p _ s).k.mr.length=aV (iu p _ s).k.ls;rw[h3,h2];show _=aw s.k;omega
theorem cu.et (h:cu p s):et p s=s:=by rw[Go.Proofs.YteoldcfapaiobaaGreat.et,h.full,Nat.sub_self];rfl
theorem WP.more {k':Ks}(h:WP p s)(hw:WC k')(hh:Go.Proofs.YteoldcfapaiobaaGreat.held k')(hm:k'.mr=s.k.mr)(he:Ext s.k.ls k'.ls):WP p ⟨k',s.g⟩:=by
 have hf:=he.front h.wc.kY;have hl:=h.low;refine⟨hw,hh,?_,?_,?_⟩
 ·show k'.mr.length≤aV k'.ls;rw[hm];simp only[aw]at hl;omega
 ·show s.g=lx p k'.ls k'.mr.length;rw[hm,he.lx hl];exact h.rC
 ·show k'.mr=(List.range k'.mr.length).map (kB p k'.ls);rw[hm]
  conv=>lhs;rw[h.marks]
  refine List.map_congr_left λi hi=>?_;rw[mem_range]at hi;simp only[aw]at hl;rw[he.kB (by omega)]
def dF (p:Pr)(b:UInt8)(s:Pl):Int×Pl:=((cZ b s.k).1,et p ⟨(cZ b s.k).2,s.g⟩)
noncomputable def dG (p:Pr)(bs:List UInt8)(s:Pl):Int×Pl:=((dx bs s.k).1,et p ⟨(dx bs s.k).2,s.g⟩)
def ly (s:Pl):List UInt8×Nat:=(gm s.g,aw s.k)
theorem K0 (l:List UInt8)(f:Nat)(b:List UInt8):∃ t,dr l f b=l++t:=by
 unfold dr;split
 ·exact⟨[],by simp⟩
 ·exact⟨_,rfl⟩
theorem E1 {k:Ks}{p:Pk}:(fP k p).mr=k.mr∧Ext k.ls (fP k p).ls:=by
 unfold fP;split
 ·exact⟨rfl,Ext.refl _⟩
 ·obtain⟨ps,ev,h1,_⟩:=wu { k with ls:=k.ls.set p.aW.toNat (dr (k.ls.getD p.aW.toNat []) p.first.toNat p.al),ps:=k.ps.set p.aW.toNat (fO k.now (aE k) p (au k p.aW.toNat)) };rw[h1];obtain⟨t,ht⟩:=K0 (k.ls.getD p.aW.toNat []) p.first.toNat p.al;refine⟨rfl,?_⟩;show Ext k.ls (k.ls.set _ _);rw[ht];exact Ext.set
theorem uA (b:UInt8)(k:Ks):(cZ b k).2.mr=k.mr∧Ext k.ls (cZ b k).2.ls:=by
 by_cases h0:(cZ b k).1=0
 ·obtain⟨h1,h2,h3,h4⟩:=uy h0;rw[h4];exact⟨rfl,Ext.set⟩
 ·rw[uz h0];exact⟨rfl,Ext.refl _⟩
theorem rD (bs:List UInt8)(k:Ks):(dx bs k).2.mr=k.mr∧Ext k.ls (dx bs k).2.ls:=by
 by_cases h0:(dx bs k).1=0
 ·obtain⟨p,h1,h2,h3,h4,h5,h6⟩:=AN h0;rw[h6];exact E1
 ·rw[wx h0];exact⟨rfl,Ext.refl _⟩
theorem cu.al (h:cu p s)(b:UInt8):cu p (dF p b s).2:=by
 have h1:=uA b s.k;exact (h.toWP.more (h.wc.al b) (h.held.al b) h1.1 h1.2).et.1
theorem cu.recv (h:cu p s)(bs:List UInt8):cu p (dG p bs s).2:=by
 have h1:=rD bs s.k;exact (h.toWP.more (h.wc.recv bs).1 ((h.wc.recv bs).2 h.held) h1.1 h1.2).et.1
theorem cu.with {k':Ks}(h:cu p s)(hw:WC k')(hh:Go.Proofs.YteoldcfapaiobaaGreat.held k')(hm:k'.mr=s.k.mr)(he:k'.ls=s.k.ls):cu p ⟨k',s.g⟩:=by
 refine⟨h.toWP.more hw hh hm (by rw[he];exact Ext.refl _),?_⟩;show k'.mr.length=aV k'.ls;rw[hm,he];exact h.full
theorem AP (k:Ks):(bo k).2.mr=k.mr∧(bo k).2.ls=k.ls:=by
 rcases wz k with h1 | ⟨hc,h1 | ⟨i,hi,h1⟩⟩ <;> rw[h1] <;> exact⟨rfl,rfl⟩
theorem E2 (k:Ks):(cx k).2.mr=k.mr∧(cx k).2.ls=k.ls:=by
 unfold cx;split <;> exact⟨rfl,rfl⟩
theorem cu.tick (h:cu p s):cu p ⟨(bo s.k).2,s.g⟩:=h.with h.wc.tick.1 (h.wc.tick.2 h.held) (AP _).1 (AP _).2
theorem cu.ow (h:cu p s):cu p ⟨(cx s.k).2,s.g⟩:=h.with h.wc.ow.1 (h.wc.ow.2 h.held) (E2 _).1 (E2 _).2
theorem cu.told (h:cu p s):cu p ⟨{ s.k with ev:=[] },s.g⟩:=h.with h.wc.YB (λi hi=>h.held i hi) rfl rfl
def eu (p:Pr)(c:Cf):Pl:=et p ⟨ff c,oy⟩
theorem wA {c:Cf}(h:eQ c):WP p ⟨ff c,oy⟩:=by
 obtain⟨h1,h2,h3⟩:=WC.new h;exact⟨h1,h2,Nat.zero_le _,rfl,rfl⟩
theorem cu.new {c:Cf}(h:eQ c):cu p (eu p c):=(wA h).et.1
end
section
variable {p:Pr}{me:Nat}{ls:List (List UInt8)}{s:Pl}{k:Ks}
theorem K1 (h:WP p s):(et p s).k.n=s.k.n∧(et p s).k.me=s.k.me∧(et p s).k.id=s.k.id∧(et p s).k.cl=s.k.cl∧(et p s).k.br=s.k.br∧(et p s).k.now=s.k.now∧(et p s).k.ls=s.k.ls:=by
 obtain⟨_,h2,ps,ev,mr,h3⟩:=h.et;rw[h3];exact⟨rfl,rfl,rfl,rfl,rfl,rfl,rfl⟩
theorem K2 (p:Pk):(aR p).length≤507:=by
 unfold aR;split
 ·rename_i h;have:=J6 h;rw[x7];omega
 ·simp
end
end
section
def AQ:TypeDesc→Bool | .interface _=>true | _=>false
section
variable {P:Program}{a:Act}{w:World}{n:Nat}{l:List (Nat×Value)}{v:Value}
theorem E3 {x t E4 ec dst ty ps af g}(E:Fr a n l)(ht:P.underlying t=some ec)(hd:AQ ec=false)[e:Ev l x (.iface t v)] :
   (execOp a.eval ⟨dst,.typeAssert x E4 t true,ty,ps,af,g⟩).run P w=.ok (.value (.tuple #[v,.bool true])) w:=by
 cases ec <;> first | (simp[AQ]at hd) | skip
 all_goals simp[execOp,e.ev a n E,Instr.typeAssert,eI ht]
theorem E5 {x t t' E4 ec dst z sz a1 ty ps af g}(E:Fr a n l)(ht:P.underlying t=some ec)(hd:AQ ec=false)(hi:TI P t z sz a1)(hn:Nat.beq t' t=false)[e:Ev l x (.iface t' v)] :
   (execOp a.eval ⟨dst,.typeAssert x E4 t true,ty,ps,af,g⟩).run P w=.ok (.value (.tuple #[z,.bool false])) w:=by
 have bB:¬ t'=t:=λh=>by rw[h,Nat.beq_refl]at hn;cases hn
 cases ec <;> first | (simp[AQ]at hd) | skip
 all_goals simp[execOp,e.ev a n E,Instr.typeAssert,eI ht,tx hi,bB]
end
abbrev j5:=Nat×Nat×Nat
def s0 (e:j5):Prop:=e.1≤3∧1≤e.1∧e.2.1<8∧e.2.2≤1000∧(e.1=3∨e.2.2=0)
def cA (e:j5):Value:=if e.1=1 then .iface 210 (.agg #[.int .i64 e.2.1]) else if e.1=2 then .iface 211 (.agg #[.int .i64 e.2.1]) else .iface 213 (.agg #[.int .i64 e.2.1,.int .i64 e.2.2])
theorem E6 (e:j5):(cA e).oneCell'=true:=by
 unfold cA;split
 ·rfl
 ·split <;> rfl
instance {e:j5}:One (cA e):=⟨E6 e⟩
abbrev bT (e:j5):List Value:=[.int .i64 e.1,.int .i64 e.2.1,.int .i64 e.2.2]
theorem AR (e:j5):(bT e).length=3:=rfl
theorem E7 (e:j5):∀ v∈bT e,v.oneCell'=true:=by
 intro v hv;simp[bT]at hv;rcases hv with rfl | rfl | rfl <;> rfl
section
variable {W w:World}{L:List SP}{e:j5}
theorem YG (I:U W w L)(h:s0 e):Calls prog 231 #[.agg (bT e).toArray] w λr w'=>r=.returned (.tuple #[.agg #[cA e],.bool true])∧U W w' L:=by
 obtain⟨h1,h2,h3,h4,h5⟩:=h;refine EN func231 ntmps231 rfl rfl λa E=>?_;refine BX 1 E I λb1 a w E I=>?_;change U W w (aa b1 102 (bT e)::_) at I;refine AL 0 E I λb2 a w E I=>?_;refine RN 7 E I λa E=>?_;rw[bn (by omega)]at E;refine RN 5 E I λa E=>?_;rw[bn (by omega)]at E;refine RN 5 E I λa E=>?_;rw[bn (by omega)]at E;refine RN 5 E I λa E=>?_;rw[bn (by omega)]at E;refine BY 4 E I (λpy a E=>?_) λpy a E=>?_
 ·
  refine RN 5 E I λa E=>?_;rw[bn (by omega)]at E;refine IF 8 E I (λao a E=>?_) λao a E=>?_
  ·
   refine SA 6 E I λa w E I=>?_;refine RT 1 E I ?_;exact⟨by rw[cA,ak (by omega)],I.sub⟩
  refine IF 3 E I (λay a E=>?_) λay a E=>?_
  ·
   refine SA 6 E I λa w E I=>?_;refine RT 1 E I ?_;exact⟨by rw[cA,ag (by omega),ak (by omega)],I.sub⟩
  refine IF 3 E I (λbk a E=>?_) λbk a E=>?_
  ·
   refine SA 8 E I λa w E I=>?_;refine RT 1 E I ?_;exact⟨by rw[cA,ag (by omega),ag (by omega)],I.sub⟩
  exfalso;omega
 refine IF 13 E I (λao a E=>?_) λao a E=>?_
 ·
  refine SA 6 E I λa w E I=>?_;refine RT 1 E I ?_;exact⟨by rw[cA,ak (by omega)],I.sub⟩
 refine IF 3 E I (λay a E=>?_) λay a E=>?_
 ·
  refine SA 6 E I λa w E I=>?_;refine RT 1 E I ?_;exact⟨by rw[cA,ag (by omega),ak (by omega)],I.sub⟩
 refine IF 3 E I (λbk a E=>?_) λbk a E=>?_
 ·
  refine SA 8 E I λa w E I=>?_;refine RT 1 E I ?_;exact⟨by rw[cA,ag (by omega),ag (by omega)],I.sub⟩
 exfalso;omega
theorem YH (I:U W w L)(h:s0 e)(hk:e.1=1):Calls prog 80 #[.agg #[cA e]] w λr w'=>r=.returned (.agg (bT e).toArray)∧U W w' L:=by
 have he:cA e=.iface 210 (.agg #[.int .i64 e.2.1]):=by rw[cA,ak hk]
 have hz:e.2.2=0:=by have:=h.2.2.2.2;omega
 rw[he];refine EN func80 ntmps80 rfl rfl λa E=>?_;refine BX 1 E I λb1 a w E I=>?_;refine AL 0 E I λb2 a w E I=>?_;refine RN 5 E I λa E=>?_;refine SK (bt E rfl (E3 E underlying210 rfl) rfl ?_);clear E a;intro a E;refine RN 2 E I λa E=>?_;replace E:=E.eg 9;refine AL 2 E I λb3 a w E I=>?_
 skip
 refine SA 0 E I λa w E I=>?_;refine SA 4 E I λa w E I=>?_;refine RT 0 E I ?_;exact⟨by rw[bT,hk,hz];rfl,I.sub⟩
theorem YI (I:U W w L)(h:s0 e)(hk:e.1=2):Calls prog 80 #[.agg #[cA e]] w λr w'=>r=.returned (.agg (bT e).toArray)∧U W w' L:=by
 have he:cA e=.iface 211 (.agg #[.int .i64 e.2.1]):=by rw[cA,ag (by omega),ak hk]
 have hz:e.2.2=0:=by have:=h.2.2.2.2;omega
 rw[he];refine EN func80 ntmps80 rfl rfl λa E=>?_;refine BX 1 E I λb1 a w E I=>?_;refine AL 0 E I λb2 a w E I=>?_;refine RN 5 E I λa E=>?_;refine SK (bt E rfl (E5 E underlying210 rfl Ty.t210 rfl) rfl ?_);clear E a;intro a E;refine RN 2 E I λa E=>?_;replace E:=E.aM 9;refine RN 2 E I λa E=>?_;refine SK (bt E rfl (E3 E underlying211 rfl) rfl ?_);clear E a;intro a E;refine RN 2 E I λa E=>?_;replace E:=E.eg 15;refine AL 2 E I λb4 a w E I=>?_;refine SA 0 E I λa w E I=>?_;refine SA 4 E I λa w E I=>?_;refine RT 0 E I ?_;exact⟨by rw[bT,hk,hz];rfl,I.sub⟩
theorem YJ (I:U W w L)(h:s0 e)(hk:e.1=3):Calls prog 80 #[.agg #[cA e]] w λr w'=>r=.returned (.agg (bT e).toArray)∧U W w' L:=by
 have he:cA e=.iface 213 (.agg #[.int .i64 e.2.1,.int .i64 e.2.2]):=by rw[cA,ag (by omega),ag (by omega)]
 rw[he];refine EN func80 ntmps80 rfl rfl λa E=>?_;refine BX 1 E I λb1 a w E I=>?_;refine AL 0 E I λb2 a w E I=>?_;refine RN 5 E I λa E=>?_;refine SK (bt E rfl (E5 E underlying210 rfl Ty.t210 rfl) rfl ?_);clear E a;intro a E;refine RN 2 E I λa E=>?_;replace E:=E.aM 9;refine RN 2 E I λa E=>?_;refine SK (bt E rfl (E5 E underlying211 rfl Ty.t211 rfl) rfl ?_);clear E a;intro a E;refine RN 2 E I λa E=>?_;replace E:=E.aM 15;refine RN 2 E I λa E=>?_;refine SK (bt E rfl (E3 E underlying213 rfl) rfl ?_);clear E a;intro a E;refine RN 2 E I λa E=>?_;replace E:=E.eg 21;refine AL 2 E I λb5 a w E I=>?_;refine SA 0 E I λa w E I=>?_;refine SA 6 E I λa w E I=>?_;refine RT 0 E I ?_;exact⟨by rw[bT,hk];rfl,I.sub⟩
theorem YK (I:U W w L)(h:s0 e):Calls prog 80 #[.agg #[cA e]] w λr w'=>r=.returned (.agg (bT e).toArray)∧U W w' L:=by
 have h1:=h.1;have h2:=h.2.1;by_cases k1:e.1=1
 ·exact YH I h k1
 ·by_cases k2:e.1=2
  ·exact YI I h k2
  ·exact YJ I h (by omega)
end
end
end Go.Proofs.YteoldcfapaiobaaGreat
