/- Plain side of what a player knows: the document's P21 and P22. -/
import Derived.Test.YteoldcfapaiobaaGreatC08Pkt3
import Derived.Test.YteoldcfapaiobaaGreatC05Vm
namespace Go.Proofs.YteoldcfapaiobaaGreat
open Tryz
open List (length_range length_nil mem_range getElem_set_self eraseIdx_set_eq ext_getElem? mem_or_eq_of_mem_set getElem_mem mem_singleton range_succ getElem?_set_ne map_singleton)
open Go.RowKit
set_option linter.unusedVariables false
set_option linter.unusedSimpArgs false
set_option maxRecDepth 10000
set_option synthInstance.maxSize 4000
set_option synthInstance.maxHeartbeats 400000
section
structure Cf where
 n:Int
 me:Int
 id:Int
 aK:Int
 bt:Int
 ba:Int
 order:Int
 ct:Int
 workers:Int
 room:Int
abbrev cc (c:Cf):List Value:=[.int .i64 c.n,.int .i64 c.me,.int .i64 c.id,.int .i64 c.aK,.int .i64 c.bt,.int .i64 c.ba,.int .i64 c.order,.int .i64 c.ct,.int .i64 c.workers,.int .i64 c.room]
def fv (n l h:Int):Prop:=l≤n∧n≤h
instance (n l h:Int):Decidable (fv n l h):=inferInstanceAs (Decidable (_∧_))
def eN (c:Cf):Prop:=(fv c.n 2 8∧fv c.me 0 (c.n-1)∧fv c.id 0 1099511627776)∧(fv c.aK 0 8∧fv c.bt 1 16∧fv c.ba 1 3∧fv c.order 0 3) ∧
 (c.order=0∨c.ba=2)∧fv c.ct 0 8∧fv c.workers 0 4∧fv c.room 3 50
instance (c:Cf):Decidable (eN c):=inferInstanceAs (Decidable (_∧_))
structure Pe where
 has:Nat
 heard:Nat
 frame:Nat
 sum:Nat
 apart:Bool
structure Ks where
 n:Nat
 me:Nat
 aK:Nat
 bt:Nat
 id:Int
 ba:Int
 order:Int
 ct:Int
 workers:Int
 room:Int
 ls:List (List UInt8)
 ps:List Pe
 mr:List Nat
 ev:List (Nat×Nat×Nat)
 now:Nat
 cl:Bool
def ff (k:Ks):Cf:=⟨k.n,k.me,k.id,k.aK,k.bt,k.ba,k.order,k.ct,k.workers,k.room⟩
def fw (d:Nat):Pe:=⟨d,0,0,0,false⟩
def fg (c:Cf):Ks:=⟨c.n.toNat,c.me.toNat,c.aK.toNat,c.bt.toNat,c.id,c.ba,c.order,c.ct,c.workers,c.room,
 List.replicate c.n.toNat (List.replicate c.aK.toNat 0),List.replicate c.n.toNat (fw c.aK.toNat),[],[],0,false⟩
def aF (k:Ks):Nat:=(k.ls.getD k.me []).length
def ax (k:Ks):Nat:=aU k.ls
def vU (mk:List Nat)(p:Pe):Prop:=p.apart=false∧1≤p.frame∧p.frame≤mk.length∧mk.getD (p.frame-1) 0≠p.sum
instance (mk:List Nat)(p:Pe):Decidable (vU mk p):=inferInstanceAs (Decidable (_∧_))
def ar (k:Ks)(i:Nat):Pe:=k.ps.getD i (fw 0)
def kO (k:Ks)(i:Nat):Ks:=if vU k.mr (ar k i) then { k with ps:=k.ps.set i { ar k i with apart:=true },ev:=k.ev++[(3,i,(ar k i).frame)] } else k
def gk (k:Ks):Nat→Ks
 | 0=>k
 | i+1=>kO (gk k i) i
def kP (k:Ks):Ks:=gk k k.ps.length
def lg (k:Ks)(s:Nat):Ks:=kP (if k.mr.length<1000 then { k with mr:=k.mr++[s] } else k)
def cW (b:UInt8)(k:Ks):Int×Ks:=if k.cl=true then (6,k) else if 1000≤aF k then (4,k) else if k.bt+ax k≤aF k then (5,k) else (0,{ k with ls:=k.ls.set k.me (k.ls.getD k.me []++[b]) })
def fQ (now head:Nat)(p:Pk)(x:Pe):Pe :=
 let h:=if x.has<p.c9.toNat∧p.c9.toNat≤head then p.c9.toNat else x.has
 if 0<p.frame∧(x.frame:Int)≤p.frame then { x with heard:=now,has:=h,frame:=p.frame.toNat,sum:=p.sum } else { x with heard:=now,has:=h }
def fR (k:Ks)(p:Pk):Ks :=
 if p.kind=2 then { k with ps:=k.ps.set p.aV.toNat { ar k p.aV.toNat with heard:=k.now },ev:=k.ev++[(1,p.aV.toNat,0)],cl:=true }
 else kP { k with ls:=k.ls.set p.aV.toNat (ds (k.ls.getD p.aV.toNat []) p.first.toNat p.al),ps:=k.ps.set p.aV.toNat (fQ k.now (aF k) p (ar k p.aV.toNat)) }
noncomputable def dh (bs:List UInt8)(k:Ks):Int×Ks:=if k.cl=true then (6,k) else match ew bs with
 | none=>(1,k)
 | some p=>if p.to≠k.me∨(k.n:Int)≤p.aV∨p.id≠k.id then (1,k) else (0,fR k p)
def dP (k:Ks)(i:Nat):Pk:=⟨1,k.me,i,k.id,(ar k i).has,(k.ls.getD i []).length,k.mr.length,k.mr.getLastD 0,((k.ls.getD k.me []).drop (ar k i).has).take 32⟩
def gl (k:Ks)(i:Nat):Pk:=⟨2,k.me,i,k.id,0,0,0,0,[]⟩
def bH (k:Ks):List Nat:=(List.range k.n).filter (·≠k.me)
def jg (k:Ks)(i:Nat):Prop:=(ar k i).heard+40≤k.now
instance (k:Ks)(i:Nat):Decidable (jg k i):=inferInstanceAs (Decidable (_≤_))
abbrev Ml:=Nat×Nat×List UInt8
def bo (k:Ks):List Ml×Ks:=if k.cl=true then ([],k) else
 let k:={ k with now:=k.now+1 }
 match (bH k).find? (λi=>decide (jg k i)) with
 | some i=>([],{ k with ev:=k.ev++[(2,i,0)],cl:=true })
 | none=>((bH k).map λi=>(k.me,i,aS (dP k i)),k)
def bu (k:Ks):List Ml×Ks:=if k.cl=true then ([],k) else ((bH k).map λi=>(k.me,i,aS (gl k i)),{ k with cl:=true })
def held (k:Ks):Prop:=∀ i,i<k.ps.length→¬ vU k.mr (ar k i)
structure WC (k:Ks):Prop where
 n:2≤k.n∧k.n≤8
 me:k.me<k.n
 id:0≤k.id∧k.id≤1099511627776
 aK:k.aK≤8
 bt:1≤k.bt∧k.bt≤16
 ls:k.ls.length=k.n
 ps:k.ps.length=k.n
 m5:∀ l∈k.ls,l.length≤1000
 mr:k.mr.length≤1000
 rf:∀ s∈k.mr,s<4294967296
 now:∀ p∈k.ps,p.heard≤k.now
 pe:∀ p∈k.ps,p.has≤1000∧p.frame≤1000∧p.sum<4294967296
 bx:∀ e∈k.ev,e.1≤3∧1≤e.1∧e.2.1<8∧e.2.2≤1000∧(e.1=3∨e.2.2=0)
 oq:k.ev.length+k.ps.countP (λp=>!p.apart)+(if k.cl=true then 0 else 1)≤k.n+1
section
variable {k:Ks}{i:Nat}
theorem WC.kQ (h:WC k):k.ev.length≤9:=by have:=h.oq;have:=h.n;omega
theorem Ya (h:i<k.ps.length):ar k i∈k.ps:=by
 rw[ar,bl,aI h];exact getElem_mem _
theorem ui {ls:List (List UInt8)}(h:i<ls.length):ls.getD i []∈ls:=by
 rw[bl,aI h];exact getElem_mem _
theorem WC.pq (h:WC k)(hi:i<k.n):(ar k i).has≤1000∧(ar k i).heard≤k.now∧(ar k i).frame≤1000∧(ar k i).sum<4294967296:=by
 have hm:=Ya (k:=k) (i:=i) (by rw[h.ps];exact hi);exact⟨(h.pe _ hm).1,h.now _ hm,(h.pe _ hm).2⟩
theorem WC.lL (h:WC k)(hi:i<k.n):(k.ls.getD i []).length≤1000:=h.m5 _ (ui (by rw[h.ls];exact hi))
theorem WC.lM (h:WC k):aF k≤1000:=h.lL h.me
theorem WC.nA (h:WC k):ax k≤aF k:=vS (ui (by rw[h.ls];exact h.me))
theorem mem_set {α:Type}{l:List α}{x y:α}(h:y∈l.set i x):y∈l∨y=x:=mem_or_eq_of_mem_set h
theorem WC.Ao (h:WC k){p:Pe}{ev:List (Nat×Nat×Nat)}{cl:Bool}(hp:p.has≤1000∧p.frame≤1000∧p.sum<4294967296)(hh:p.heard≤k.now)
   (he:∀ e∈ev,e.1≤3∧1≤e.1∧e.2.1<8∧e.2.2≤1000∧(e.1=3∨e.2.2=0)) (hn:ev.length+(k.ps.set i p).countP (λp=>!p.apart)+(if cl=true then 0 else 1)≤k.n+1):WC { k with ps:=k.ps.set i p,ev:=ev,cl:=cl } :=
 { h with
  ps:=by show (k.ps.set i p).length=_;rw[br];exact h.ps
  now:=λq hq=>by
   rcases mem_set hq with hq | rfl
   ·exact h.now q hq
   ·exact hh
  pe:=λq hq=>by
   rcases mem_set hq with hq | rfl
   ·exact h.pe q hq
   ·exact hp
  bx:=he
  oq:=hn }
theorem count_set {l:List Pe}{p:Pe}(h:i<l.length):(l.set i p).countP (λp=>!p.apart)+(if l[i].apart=true then 0 else 1)=l.countP (λp=>!p.apart)+(if p.apart=true then 0 else 1):=by
 have h1:l.countP (λp=>!p.apart)=(l[i]::l.eraseIdx i).countP (λp=>!p.apart):=List.Perm.countP_eq _ (rN _ h);have hi:i<(l.set i p).length:=by simpa using h
 have h2:(l.set i p).countP (λp=>!p.apart)=((l.set i p)[i]::(l.set i p).eraseIdx i).countP (λp=>!p.apart):=List.Perm.countP_eq _ (rN _ hi);rw[h1,h2,List.countP_cons,List.countP_cons,getElem_set_self,eraseIdx_set_eq];cases l[i].apart <;> cases p.apart <;> simp <;> omega
theorem WC.kO (h:WC k)(hi:i<k.n):WC (kO k i):=by
 unfold Go.Proofs.YteoldcfapaiobaaGreat.kO;split
 ·rename_i hb;have aJ:i<k.ps.length:=by rw[h.ps];exact hi
  have hp:=h.pq hi;have oW:ar k i=k.ps[i]:=by rw[ar,bl,aI aJ];rfl
  refine h.Ao ⟨hp.1,hp.2.2⟩ hp.2.1 (λe he=>?_) ?_
  ·rcases eM.1 he with he | he
   ·exact h.bx e he
   ·rw[mem_singleton]at he;subst he;have:=h.n;exact⟨by simp,by simp,by simp;omega,hp.2.2.1,.inl rfl⟩
  ·have hc:=count_set (p:={ ar k i with apart:=true }) aJ;rw[← oW,hb.1]at hc;have:=h.oq;rw[aL,iP];simp at hc ⊢;omega
 ·exact h
end
section
variable {k:Ks}{i:Nat}
theorem Kl (k:Ks)(i:Nat):∃ ps ev,kO k i={ k with ps:=ps,ev:=ev }∧ps.length=k.ps.length:=by
 unfold kO;split
 ·exact⟨_,_,rfl,by simp⟩
 ·exact⟨k.ps,k.ev,rfl,rfl⟩
theorem x5 (k:Ks):∀ i,∃ ps ev,gk k i={ k with ps:=ps,ev:=ev }∧ps.length=k.ps.length
 | 0=>⟨k.ps,k.ev,rfl,rfl⟩
 | i+1=>by
  obtain⟨ps,ev,h1,h2⟩:=x5 k i;obtain⟨gh,Km,h3,h4⟩:=Kl (gk k i) i;refine⟨gh,Km,?_,?_⟩
  ·rw[gk,h3,h1]
  ·rw[h4,h1];exact h2
theorem vV (k:Ks):∃ ps ev,kP k={ k with ps:=ps,ev:=ev }∧ps.length=k.ps.length:=x5 k _
theorem WC.gk (h:WC k):∀ {i},i≤k.n→WC (gk k i)
 | 0,_=>h
 | i+1,hi=>by
  rw[Go.Proofs.YteoldcfapaiobaaGreat.gk];refine (h.gk (i:=i) (by omega)).kO ?_;obtain⟨ps,ev,h1,_⟩:=x5 k i;rw[h1];show i<k.n;omega
theorem WC.kP (h:WC k):WC (kP k):=h.gk (by rw[h.ps];exact bf _)
theorem Yb (k:Ks)(i:Nat)(hi:i<k.ps.length):¬ vU (kO k i).mr (ar (kO k i) i):=by
 unfold kO;split
 ·intro hb;have:=hb.1;simp[ar,hi]at this
 ·assumption
theorem Yc (k:Ks){i j:Nat}(h:j≠i):ar (kO k i) j=ar k j:=by
 unfold kO;split
 ·simp only[ar,bl];rw[getElem?_set_ne (by omega)]
 ·rfl
theorem Yd (k:Ks)(i:Nat):(kO k i).mr=k.mr:=by
 obtain⟨ps,ev,h1,_⟩:=Kl k i;rw[h1]
theorem Ap (k:Ks)(i:Nat):(gk k i).ps.length=k.ps.length:=by
 obtain⟨ps,ev,h1,h2⟩:=x5 k i;rw[h1];exact h2
theorem Kn (k:Ks):∀ {i j},i≤k.ps.length→j<i→¬ vU (gk k i).mr (ar (gk k i) j)
 | 0,_,_,h=>absurd h (by omega)
 | i+1,j,hi,hj=>by
  rw[Go.Proofs.YteoldcfapaiobaaGreat.gk];by_cases h:j=i
  ·subst h;exact Yb _ _ (by rw[Ap];omega)
  ·rw[Yd,Yc _ h];exact Kn k (by omega) (by omega)
theorem Ko (k:Ks):held (kP k):=λi hi=>Kn k (bf _) (by rw[kP,Ap]at hi;exact hi)
theorem held.gk (h:held k):∀ {i},i≤k.ps.length→gk k i=k
 | 0,_=>rfl
 | i+1,hi=>by
  rw[Go.Proofs.YteoldcfapaiobaaGreat.gk,h.gk (i:=i) (by omega),kO,ae (h i (by omega))]
theorem held.kP (h:held k):kP k=k:=h.gk (bf _)
theorem held.of {k':Ks}(h:held k)(hm:k'.mr=k.mr)(hl:k'.ps.length=k.ps.length)(hp:∀ i,i<k.ps.length→(ar k' i).apart=(ar k i).apart∧(ar k' i).frame=(ar k i).frame∧(ar k' i).sum=(ar k i).sum):held k':=by
 intro i hi hb;rw[hl]at hi;obtain⟨h1,h2,h3⟩:=hp i hi;refine h i hi ?_;simp only[vU,hm,h1,h2,h3]at hb;exact hb
theorem WC.mark (h:WC k){s:Nat}(I:s<4294967296):WC (lg k s):=by
 unfold lg;refine WC.kP ?_;split
 ·exact { h with
   mr:=by show (k.mr++[s]).length≤1000;rw[aL,iP];omega
   rf:=λx hx=>by
    rcases eM.1 hx with hx | hx
    ·exact h.rf x hx
    ·rw[mem_singleton]at hx;rw[hx];exact I }
 ·exact h
theorem Kp (k:Ks)(s:Nat)(hl:k.mr.length<1000):∃ ps ev,lg k s={ k with ps:=ps,ev:=ev,mr:=k.mr++[s] }∧ps.length=k.ps.length:=by
 obtain⟨ps,ev,h1,h2⟩:=vV { k with mr:=k.mr++[s] };refine⟨ps,ev,?_,h2⟩;rw[lg,ak hl,h1]
theorem uj {k:Ks}{b:UInt8}(h:(cW b k).1=0):k.cl=false∧aF k<1000∧aF k<k.bt+ax k∧(cW b k).2={ k with ls:=k.ls.set k.me (k.ls.getD k.me []++[b]) }:=by
 unfold cW at h ⊢;split at h
 ·cases h
 ·split at h
  ·cases h
  ·split at h
   ·cases h
   ·rename_i h1 h2 h3;refine⟨by simpa using h1,by omega,by omega,?_⟩;rw[ae h1,ae h2,ae h3]
theorem uk {k:Ks}{b:UInt8}(h:(cW b k).1≠0):(cW b k).2=k:=by
 unfold cW at h ⊢;split
 ·rfl
 ·rename_i h1;rw[ae h1]at h;split
  ·rfl
  ·rename_i h2;rw[ae h2]at h;split
   ·rfl
   ·rename_i h3;rw[ae h3]at h;exact absurd rfl h
theorem WC.al (h:WC k)(b:UInt8):WC (cW b k).2:=by
 by_cases h0:(cW b k).1=0
 ·obtain⟨h1,h2,h3,h4⟩:=uj h0;rw[h4];exact { h with
   ls:=by show (k.ls.set _ _).length=_;rw[br];exact h.ls
   m5:=λl hl=>by
    rcases mem_set hl with hl | rfl
    ·exact h.m5 l hl
    ·rw[aL,iP];simp only[aF]at h2;omega }
 ·rw[uk h0];exact h
theorem held.al (h:held k)(b:UInt8):held (cW b k).2:=by
 by_cases h0:(cW b k).1=0
 ·obtain⟨h1,h2,h3,h4⟩:=uj h0;rw[h4];exact h
 ·rw[uk h0];exact h
theorem WC.Ye (h:WC k):WC { k with ev:=[] } :=
 { h with
  bx:=λe he=>by cases he
  oq:=by have:=h.oq;show ([]:List (Nat×Nat×Nat)).length+_+_≤_;simp only[length_nil];omega }
theorem vW {k:Ks}{i j:Nat}{p:Pe}(hi:i<k.ps.length):(k.ps.set i p).getD j (fw 0)=if j=i then p else ar k j:=by
 simp only[ar,bl,jF];by_cases h:i=j
 ·subst h;simp[hi]
 ·rw[ae h,ae (λe=>h e.symm)]
theorem Eu {k:Ks}{i:Nat}{p:Pe}(hi:i<k.ps.length)(E:p.apart=(ar k i).apart):(k.ps.set i p).countP (λp=>!p.apart)=k.ps.countP (λp=>!p.apart):=by
 have hc:=count_set (p:=p) hi;have oW:ar k i=k.ps[i]:=by rw[ar,bl,aI hi];rfl
 rw[← oW,E]at hc;omega
theorem WC.x6 (h:WC k){p:Pk}(hp:hs p)(I:p.sum<4294967296)(hn:p.aV<k.n)(hc:k.cl=false):WC (fR k p)∧(held k→held (fR k p)):=by
 have Ew:=hp.1.1;have aJ:p.aV.toNat<k.n:=by omega
 have Ey:p.aV.toNat<k.ps.length:=by rw[h.ps];exact aJ
 have ij:=h.pq aJ;unfold fR;split
 ·have hL:=Eu (p:={ ar k p.aV.toNat with heard:=k.now }) Ey rfl;refine⟨h.Ao (p:={ ar k p.aV.toNat with heard:=k.now }) (cl:=true) ⟨ij.1,ij.2.2⟩ (bf _) (λe he=>?_) ?_,λhh=>hh.of rfl (by simp) λj hj=>?_⟩
  ·rcases eM.1 he with he | he
   ·exact h.bx e he
   ·rw[mem_singleton]at he;subst he;have:=h.n;exact⟨by simp,by simp,by show p.aV.toNat<8;omega,by simp,.inr rfl⟩
  ·have:=h.oq;rw[hc]at this;rw[hL,aL,iP];simp at this ⊢;omega
  ·show ((k.ps.set _ _).getD j _).apart=_∧((k.ps.set _ _).getD j _).frame=_∧((k.ps.set _ _).getD j _).sum=_;rw[vW Ey];split
   ·rename_i h1;subst h1;exact⟨rfl,rfl,rfl⟩
   ·exact⟨rfl,rfl,rfl⟩
 ·refine⟨WC.kP ?_,λ_=>Ko _⟩;have hk:p.kind=1∧eG p.first∧eG p.c9∧eG p.frame∧p.al.length≤32:=by
   rcases hp.2.2.2.2 with h1 | h1
   ·exact h1
   ·rename_i h2;exact absurd h1.1 h2
  have BT:(fQ k.now (aF k) p (ar k p.aV.toNat)).apart=(ar k p.aV.toNat).apart:=by
   unfold fQ;simp only;split <;> rfl
  have hL:=Eu (p:=fQ k.now (aF k) p (ar k p.aV.toNat)) Ey BT;have Yf:=hk.2.2.1;have iV:=hk.2.2.2.1;simp only[eG]at Yf iV;have gJ:=h.lM;have hq:(fQ k.now (aF k) p (ar k p.aV.toNat)).has≤1000∧(fQ k.now (aF k) p (ar k p.aV.toNat)).frame≤1000∧(fQ k.now (aF k) p (ar k p.aV.toNat)).sum<4294967296∧(fQ k.now (aF k) p (ar k p.aV.toNat)).heard=k.now:=by
   unfold fQ;simp only;have h9:(if (ar k p.aV.toNat).has<p.c9.toNat∧p.c9.toNat≤aF k then p.c9.toNat else (ar k p.aV.toNat).has)≤1000:=by split <;> omega
   split
   ·exact⟨h9,by show p.frame.toNat≤1000;omega,I,rfl⟩
   ·exact⟨h9,ij.2.2.1,ij.2.2.2,rfl⟩
  have h1:=h.Ao (p:=fQ k.now (aF k) p (ar k p.aV.toNat)) (i:=p.aV.toNat) (ev:=k.ev) (cl:=k.cl) ⟨hq.1,hq.2.1,hq.2.2.1⟩ (by rw[hq.2.2.2];exact bf _) h.bx (by rw[hL];exact h.oq);have hG:=h.lL aJ;exact { h1 with
   ls:=by show (k.ls.set _ _).length=_;rw[br];exact h.ls
   m5:=λl hl=>by
    rcases mem_set hl with hl | rfl
    ·exact h.m5 l hl
    ·exact (ra hG).2 }
theorem Aq {k:Ks}{bs:List UInt8}(h:(dh bs k).1=0):∃ p,ew bs=some p∧k.cl=false∧p.to=k.me∧p.aV<k.n∧p.id=k.id∧(dh bs k).2=fR k p:=by
 unfold dh at h ⊢;split at h
 ·cases h
 ·rename_i h1;rw[ae h1];cases hd:ew bs with
  | none=>rw[hd]at h;cases h
  | some p =>
   rw[hd]at h;simp only at h ⊢;split at h
   ·cases h
   ·rename_i h2;rw[ae h2];have h3:p.to=k.me:=Decidable.of_not_not λhh=>h2 (.inl hh);have h4:p.id=k.id:=Decidable.of_not_not λhh=>h2 (.inr (.inr hh));have h5:p.aV<k.n:=Int.not_le.1 λhh=>h2 (.inr (.inl hh));exact⟨p,rfl,by simpa using h1,h3,h5,h4,rfl⟩
theorem vX {k:Ks}{bs:List UInt8}(h:(dh bs k).1≠0):(dh bs k).2=k:=by
 unfold dh at h ⊢;split
 ·rfl
 ·rename_i h1;rw[ae h1]at h;cases hd:ew bs with
  | none=>rfl
  | some p =>
   rw[hd]at h;simp only at h ⊢;split
   ·rfl
   ·rename_i h2;rw[ae h2]at h;exact absurd rfl h
theorem WC.recv (h:WC k)(bs:List UInt8):WC (dh bs k).2∧(held k→held (dh bs k).2):=by
 by_cases h0:(dh bs k).1=0
 ·obtain⟨p,h1,h2,h3,h4,h5,h6⟩:=Aq h0;obtain⟨h7,h8,h9⟩:=DY h1;rw[h6];exact h.x6 h7 h8 h4 h2
 ·rw[vX h0];exact⟨h,λh=>h⟩
theorem um {k:Ks}{i:Nat}:i∈bH k↔i<k.n∧i≠k.me:=by simp[bH]
theorem WC.Ar (h:WC k):WC { k with now:=k.now+1 }:={ h with now:=λp hp=>Nat.le_succ_of_le (h.now p hp) }
theorem WC.late (h:WC k){i:Nat}(hi:i<8)(hc:k.cl=false):WC { k with ev:=k.ev++[(2,i,0)],cl:=true } :=
 { h with
  bx:=λe he=>by
   rcases eM.1 he with he | he
   ·exact h.bx e he
   ·rw[mem_singleton]at he;subst he;exact⟨by simp,by simp,hi,by simp,.inr rfl⟩
  oq:=by
   have:=h.oq;rw[hc]at this;rw[aL,iP];simp at this ⊢;omega }
theorem vY (k:Ks):(bo k).2=k∨(k.cl=false∧((bo k).2={ k with now:=k.now+1 }∨∃ i,i<k.n∧(bo k).2={ k with now:=k.now+1,ev:=k.ev++[(2,i,0)],cl:=true })):=by
 unfold bo;split
 ·exact .inl rfl
 ·rename_i hc;refine .inr ⟨by simpa using hc,?_⟩;simp only;cases hf:(bH { k with now:=k.now+1 }).find? (λi=>decide (jg { k with now:=k.now+1 } i)) with
  | none=>exact .inl rfl
  | some i=>exact .inr ⟨i,(um.1 (List.mem_of_find?_eq_some hf)).1,rfl⟩
theorem WC.tick (h:WC k):WC (bo k).2∧(held k→held (bo k).2):=by
 rcases vY k with h1 | ⟨hc,h1 | ⟨i,hi,h1⟩⟩
 ·rw[h1];exact⟨h,λh=>h⟩
 ·rw[h1];exact⟨h.Ar,λh=>h⟩
 ·rw[h1];have:=h.n;exact⟨(h.Ar).late (by omega) hc,λh=>h⟩
theorem WC.ko (h:WC k):WC (bu k).2∧(held k→held (bu k).2):=by
 unfold bu;split
 ·exact⟨h,λh=>h⟩
 ·rename_i hc;refine⟨{ h with oq:=?_ },λh=>h⟩;have:=h.oq;have wS:k.cl=false:=by simpa using hc
  rw[wS]at this;simp at this ⊢;omega
theorem WC.new {c:Cf}(h:eN c):WC (fg c)∧held (fg c)∧ff (fg c)=c:=by
 obtain⟨⟨h1,h2,h3⟩,⟨h4,h5,h6,h7⟩,h8,h9,fF,mO⟩:=h;simp only[fv] at *;refine⟨⟨?_,?_,?_,?_,?_,?_,?_,?_,?_,?_,?_,?_,?_,?_⟩,?_,?_⟩
 ·show 2≤c.n.toNat∧c.n.toNat≤8;omega
 ·show c.me.toNat<c.n.toNat;omega
 ·exact h3
 ·show c.aK.toNat≤8;omega
 ·show 1≤c.bt.toNat∧c.bt.toNat≤16;omega
 ·simp[fg]
 ·simp[fg]
 ·intro l hl;simp[fg]at hl;rw[hl.2,jK];omega
 ·simp[fg]
 ·intro s I;cases I
 ·intro p hp;simp[fg]at hp;rw[hp.2];exact Nat.zero_le _
 ·intro p hp;simp[fg]at hp;rw[hp.2];refine⟨?_,?_,?_⟩ <;> simp[fw];omega
 ·intro e he;cases he
 ·simp[fg,List.countP_replicate,fw]
 ·intro i hi hb;have h1:(ar (fg c) i).frame≤0:=hb.2.2.1;have h2:=hb.2.1;omega
 ·show Cf.mk _ _ _ _ _ _ _ _ _ _=c;simp only[fg];rw[Int.toNat_of_nonneg (by omega),Int.toNat_of_nonneg (by omega),Int.toNat_of_nonneg (by omega),Int.toNat_of_nonneg (by omega)]
end
theorem Yg {p:Pr}{fr:Int}{b:List UInt8}{g:Nat→Int}{aT:Nat}{o:gy}{m:Int}(hg:dM g)(ho:eV m o):dM (ej p fr b g aT o).1:=by
 have qa:=ho;simp only[eV,eU]at qa;unfold ej;split
 ·exact hg
 ·split
  ·exact hg
  ·split
   ·exact hg
   ·split
    ·exact nv hg (hg _ (by omega))
    ·exact nv hg (I3 hg ho (by assumption) (by assumption))
theorem Kq {p:Pr}{fr:Int}{b:List UInt8}(hp:dg p):∀ (n:Nat) {g:Nat→Int} {aT:Nat},dM g→dM (p5 p fr b n g aT)
 | 0,_,_,hg=>hg
 | n+1,g,aT,hg=>by
  cases ho:p.ops[aT]? with
  | none =>
   rw [Dk (by rcases Nat.lt_or_ge aT p.ops.length with h | h; · rw [aI h] at ho; cases ho
              ·exact h)];exact hg
  | some o =>
   have h1:=Yg (p:=p) (fr:=fr) (b:=b) (aT:=aT) hg (hp.2 o (bK ho));rw[Di ho];split
   ·exact Kq hp n h1
   ·exact h1
theorem Kr {p:Pr}{fr:Int}{b:List UInt8}{g:Nat→Int}(hp:dg p)(hg:dM g):dM (eW p fr b g):=Kq hp 200 hg
theorem Kt {p:Pr}(hp:dg p):∀ (l:List (List UInt8)) {fr:Int} {g:Nat→Int},dM g→dM (foldI p fr g l)
 | [],_,_,hg=>hg
 | b::l,_,_,hg=>Kt hp l (Kr hp hg)
structure Pl where
 k:Ks
 g:Nat→Int
def nB (p:Pr)(s:Pl):Pl:=⟨lg s.k (jf (gj (eW p s.k.mr.length (cr s.k.ls s.k.mr.length) s.g))),eW p s.k.mr.length (cr s.k.ls s.k.mr.length) s.g⟩
def ik (p:Pr):Nat→Pl→Pl
 | 0,s=>s
 | n+1,s=>ik p n (nB p s)
theorem Ez (p:Pr):∀ (n:Nat) (s:Pl),ik p (n+1) s=nB p (ik p n s)
 | 0,_=>rfl
 | n+1,s=>by rw[ik,Ez p n (nB p s)];rfl
def ey (p:Pr)(s:Pl):Pl:=ik p (ax s.k-s.k.mr.length) s
def ot:Nat→Int:=λ_=>0
theorem Yh:dM ot:=λ_ _=>⟨by simp[ot],by simp[ot]⟩
def lh (p:Pr)(ls:List (List UInt8))(f:Nat):Nat→Int:=foldI p 0 ot ((List.range f).map (cr ls))
def lj (p:Pr)(ls:List (List UInt8))(f:Nat):Nat:=jf (gj (lh p ls (f+1)))
theorem Ku (p:Pr)(ls:List (List UInt8))(f:Nat):lh p ls (f+1)=eW p f (cr ls f) (lh p ls f):=by
 rw[lh,range_succ,cQ,map_singleton,CR,bd,length_range,Int.zero_add];rfl
def Ext (ls kq:List (List UInt8)):Prop:=kq.length=ls.length∧∀ i:Nat,i<ls.length→∃ t,kq.getD i []=ls.getD i []++t
theorem Ext.refl (ls:List (List UInt8)):Ext ls ls:=⟨rfl,λi _=>⟨[],by simp⟩⟩
theorem Ext.trans {a b c:List (List UInt8)}(h:Ext a b)(h2:Ext b c):Ext a c:=⟨h2.1.trans h.1,λi hi=>by
 obtain⟨t,ht⟩:=h.2 i hi;obtain⟨u,hu⟩:=h2.2 i (by rw[h.1];exact hi);exact⟨t++u,by rw[hu,ht,dv]⟩⟩
theorem Ext.set {ls:List (List UInt8)}{i:Nat}{t:List UInt8}:Ext ls (ls.set i (ls.getD i []++t)):=by
 refine⟨by simp,λj hj=>?_⟩;by_cases h:i=j
 ·subst h;exact⟨t,by simp[bl,hj]⟩
 ·exact⟨[],by simp[bl,getElem?_set_ne h]⟩
theorem getD_map {ls:List (List UInt8)}{f i:Nat}(h:i<ls.length):(cr ls f)[i]?=some ((ls.getD i []).getD f 0):=by
 rw[cr,bm,aI h,bl (l:=ls),aI h];rfl
theorem Ext.Yi {ls kq:List (List UInt8)}(h:Ext ls kq){f:Nat}(hf:f<aU ls):cr kq f=cr ls f:=by
 apply ext_getElem?;intro i;by_cases hi:i<ls.length
 ·rw[getD_map (by rw[h.1];exact hi),getD_map hi];obtain⟨t,ht⟩:=h.2 i hi;have hl:=vS (ui hi);rw[ht,bl,lS (by omega),← bl]
 ·rw[iH (by rw[m3,h.1];omega),iH (by rw[m3];omega)]
theorem Ext.front {ls kq:List (List UInt8)}(h:Ext ls kq)(h0:ls≠[]):aU ls≤aU kq:=by
 refine Ep (λh1=>?_) λl hl=>?_
 ·have:=h.1;rw[h1]at this;exact h0 (g5 this.symm)
 ·obtain⟨i,hi,rfl⟩:=List.getElem_of_mem hl;have u7:i<ls.length:=by rw[← h.1];exact hi
  obtain⟨t,ht⟩:=h.2 i u7;have h3:=vS (ui u7);rw[bl,aI hi]at ht;simp only[Option.getD_some]at ht;rw[ht,aL];omega
theorem Ext.lh {ls kq:List (List UInt8)}(h:Ext ls kq){p:Pr}{f:Nat}(hf:f≤aU ls):lh p kq f=lh p ls f:=by
 unfold Go.Proofs.YteoldcfapaiobaaGreat.lh
 congr 1
 refine List.map_congr_left λi hi=>h.Yi ?_;rw[mem_range]at hi;omega
theorem Ext.lj {ls kq:List (List UInt8)}(h:Ext ls kq){p:Pr}{f:Nat}(hf:f<aU ls):lj p kq f=lj p ls f:=by
 rw[Go.Proofs.YteoldcfapaiobaaGreat.lj,h.lh (by omega)];rfl
structure WP (p:Pr)(s:Pl):Prop where
 wc:WC s.k
 held:held s.k
 low:s.k.mr.length≤ax s.k
 rh:s.g=lh p s.k.ls s.k.mr.length
 marks:s.k.mr=(List.range s.k.mr.length).map (lj p s.k.ls)
section
variable {p:Pr}{s:Pl}
theorem WP.pv (h:WP p s)(hp:dg p):dM s.g:=by rw[h.rh];exact Kt hp _ Yh
theorem WC.kR {k:Ks}(h:WC k):k.ls≠[]:=λe=>by
 have:=h.ls;have:=h.n;rw[e] at *;simp at *;omega
theorem WP.one (h:WP p s)(hl:s.k.mr.length<ax s.k):WP p (nB p s)∧(nB p s).k.ls=s.k.ls∧(nB p s).k.mr.length=s.k.mr.length+1:=by
 have h9:=h.wc.nA;have h8:=h.wc.lM;obtain⟨ps,ev,h1,h2⟩:=Kp s.k (jf (gj (eW p s.k.mr.length (cr s.k.ls s.k.mr.length) s.g))) (by omega);have hk:(nB p s).k={ s.k with ps:=ps,ev:=ev,mr:=s.k.mr++[jf (gj (eW p s.k.mr.length (cr s.k.ls s.k.mr.length) s.g))] }:=h1;have hm:(nB p s).k.mr.length=s.k.mr.length+1:=by rw[hk];simp
 have fe:(nB p s).k.ls=s.k.ls:=by rw[hk]
 have hg:eW p s.k.mr.length (cr s.k.ls s.k.mr.length) s.g=lh p s.k.ls (s.k.mr.length+1):=by rw[Ku,h.rh]
 refine⟨⟨h.wc.mark (DF _),?_,?_,?_,?_⟩,fe,hm⟩
 ·show Go.Proofs.YteoldcfapaiobaaGreat.held (lg _ _);rw[lg];exact Ko _
 ·rw[hm,ax,fe];exact hl
 ·rw[hm,fe];exact hg
 ·rw[hm,fe,hk,range_succ,cQ,← h.marks,hg];rfl
theorem WP.qi:∀ (n:Nat) {s:Pl},WP p s→n≤ax s.k-s.k.mr.length→WP p (ik p n s)∧(ik p n s).k.ls=s.k.ls∧(ik p n s).k.mr.length=s.k.mr.length+n
 | 0,_,h,_=>⟨h,rfl,rfl⟩
 | n+1,s,h,hn=>by
  obtain⟨h1,h2,h3⟩:=h.one (by omega);obtain⟨h4,h5,h6⟩:=h1.qi n (by rw[ax,h2,h3];simp only[ax]at hn;omega);exact⟨h4,h5.trans h2,by rw[ik,h6,h3];omega⟩
theorem Yj (h:s.k.mr.length<1000):∃ ps ev mr,(nB p s).k={ s.k with ps:=ps,ev:=ev,mr:=mr }:=by
 obtain⟨ps,ev,h1,h2⟩:=Kp s.k (jf (gj (eW p s.k.mr.length (cr s.k.ls s.k.mr.length) s.g))) h;exact⟨ps,ev,_,h1⟩
theorem WP.Kv:∀ (n:Nat) {s:Pl},WP p s→n≤ax s.k-s.k.mr.length→∃ ps ev mr,(ik p n s).k={ s.k with ps:=ps,ev:=ev,mr:=mr }
 | 0,s,h,_=>⟨s.k.ps,s.k.ev,s.k.mr,rfl⟩
 | n+1,s,h,hn=>by
  have h9:=h.wc.nA;have h8:=h.wc.lM;obtain⟨h1,h2,h3⟩:=h.one (by omega);obtain⟨ps,ev,mr,h4⟩:=h1.Kv n (by rw[ax,h2,h3];simp only[ax]at hn;omega);obtain⟨gh,Km,mr',h5⟩:=Yj (p:=p) (s:=s) (by omega);exact⟨ps,ev,mr,by rw[ik,h4,h5]⟩
structure cw (p:Pr)(s:Pl):Prop extends WP p s where
 full:s.k.mr.length=ax s.k
theorem WP.ey (h:WP p s):cw p (ey p s)∧(ey p s).k.ls=s.k.ls∧∃ ps ev mr,(Go.Proofs.YteoldcfapaiobaaGreat.ey p s).k={ s.k with ps:=ps,ev:=ev,mr:=mr }:=by
 obtain⟨h1,h2,h3⟩:=h.qi _ (bf _);have hl:=h.low;refine⟨⟨h1,?_⟩,h2,h.Kv _ (bf _)⟩;show (ik p _ s).k.mr.length=aU (ik p _ s).k.ls;rw[h3,h2];show _=ax s.k;omega
theorem cw.ey (h:cw p s):ey p s=s:=by rw[Go.Proofs.YteoldcfapaiobaaGreat.ey,h.full,Nat.sub_self];rfl
theorem WP.more {k':Ks}(h:WP p s)(hw:WC k')(hh:Go.Proofs.YteoldcfapaiobaaGreat.held k')(hm:k'.mr=s.k.mr)(he:Ext s.k.ls k'.ls):WP p ⟨k',s.g⟩:=by
 have hf:=he.front h.wc.kR;have hl:=h.low;refine⟨hw,hh,?_,?_,?_⟩
 ·show k'.mr.length≤aU k'.ls;rw[hm];simp only[ax]at hl;omega
 ·show s.g=lh p k'.ls k'.mr.length;rw[hm,he.lh hl];exact h.rh
 ·show k'.mr=(List.range k'.mr.length).map (lj p k'.ls);rw[hm]
  conv=>lhs;rw[h.marks]
  refine List.map_congr_left λi hi=>?_;rw[mem_range]at hi;simp only[ax]at hl;rw[he.lj (by omega)]
def dE (p:Pr)(b:UInt8)(s:Pl):Int×Pl:=((cW b s.k).1,ey p ⟨(cW b s.k).2,s.g⟩)
noncomputable def dz (p:Pr)(bs:List UInt8)(s:Pl):Int×Pl:=((dh bs s.k).1,ey p ⟨(dh bs s.k).2,s.g⟩)
def lk (s:Pl):List UInt8×Nat:=(gj s.g,ax s.k)
theorem Kw (l:List UInt8)(f:Nat)(b:List UInt8):∃ t,ds l f b=l++t:=by
 unfold ds;split
 ·exact⟨[],by simp⟩
 ·exact⟨_,rfl⟩
theorem EA {k:Ks}{p:Pk}:(fR k p).mr=k.mr∧Ext k.ls (fR k p).ls:=by
 unfold fR;split
 ·exact⟨rfl,Ext.refl _⟩
 ·obtain⟨ps,ev,h1,_⟩:=vV { k with ls:=k.ls.set p.aV.toNat (ds (k.ls.getD p.aV.toNat []) p.first.toNat p.al),ps:=k.ps.set p.aV.toNat (fQ k.now (aF k) p (ar k p.aV.toNat)) };rw[h1];obtain⟨t,ht⟩:=Kw (k.ls.getD p.aV.toNat []) p.first.toNat p.al;refine⟨rfl,?_⟩;show Ext k.ls (k.ls.set _ _);rw[ht];exact Ext.set
theorem uo (b:UInt8)(k:Ks):(cW b k).2.mr=k.mr∧Ext k.ls (cW b k).2.ls:=by
 by_cases h0:(cW b k).1=0
 ·obtain⟨h1,h2,h3,h4⟩:=uj h0;rw[h4];exact⟨rfl,Ext.set⟩
 ·rw[uk h0];exact⟨rfl,Ext.refl _⟩
theorem ri (bs:List UInt8)(k:Ks):(dh bs k).2.mr=k.mr∧Ext k.ls (dh bs k).2.ls:=by
 by_cases h0:(dh bs k).1=0
 ·obtain⟨p,h1,h2,h3,h4,h5,h6⟩:=Aq h0;rw[h6];exact EA
 ·rw[vX h0];exact⟨rfl,Ext.refl _⟩
theorem cw.al (h:cw p s)(b:UInt8):cw p (dE p b s).2:=by
 have h1:=uo b s.k;exact (h.toWP.more (h.wc.al b) (h.held.al b) h1.1 h1.2).ey.1
theorem cw.recv (h:cw p s)(bs:List UInt8):cw p (dz p bs s).2:=by
 have h1:=ri bs s.k;exact (h.toWP.more (h.wc.recv bs).1 ((h.wc.recv bs).2 h.held) h1.1 h1.2).ey.1
theorem cw.with {k':Ks}(h:cw p s)(hw:WC k')(hh:Go.Proofs.YteoldcfapaiobaaGreat.held k')(hm:k'.mr=s.k.mr)(he:k'.ls=s.k.ls):cw p ⟨k',s.g⟩:=by
 refine⟨h.toWP.more hw hh hm (by rw[he];exact Ext.refl _),?_⟩;show k'.mr.length=aU k'.ls;rw[hm,he];exact h.full
theorem As (k:Ks):(bo k).2.mr=k.mr∧(bo k).2.ls=k.ls:=by
 rcases vY k with h1 | ⟨hc,h1 | ⟨i,hi,h1⟩⟩ <;> rw[h1] <;> exact⟨rfl,rfl⟩
theorem Au (k:Ks):(bu k).2.mr=k.mr∧(bu k).2.ls=k.ls:=by
 unfold bu;split <;> exact⟨rfl,rfl⟩
theorem cw.tick (h:cw p s):cw p ⟨(bo s.k).2,s.g⟩:=h.with h.wc.tick.1 (h.wc.tick.2 h.held) (As _).1 (As _).2
theorem cw.ko (h:cw p s):cw p ⟨(bu s.k).2,s.g⟩:=h.with h.wc.ko.1 (h.wc.ko.2 h.held) (Au _).1 (Au _).2
theorem cw.told (h:cw p s):cw p ⟨{ s.k with ev:=[] },s.g⟩:=h.with h.wc.Ye (λi hi=>h.held i hi) rfl rfl
def ez (p:Pr)(c:Cf):Pl:=ey p ⟨fg c,ot⟩
theorem vZ {c:Cf}(h:eN c):WP p ⟨fg c,ot⟩:=by
 obtain⟨h1,h2,h3⟩:=WC.new h;exact⟨h1,h2,Nat.zero_le _,rfl,rfl⟩
theorem cw.new {c:Cf}(h:eN c):cw p (ez p c):=(vZ h).ey.1
end
section
variable {p:Pr}{me:Nat}{ls:List (List UInt8)}{s:Pl}{k:Ks}
theorem Ky (h:WP p s):(ey p s).k.n=s.k.n∧(ey p s).k.me=s.k.me∧(ey p s).k.id=s.k.id∧(ey p s).k.cl=s.k.cl∧(ey p s).k.bt=s.k.bt∧(ey p s).k.now=s.k.now∧(ey p s).k.ls=s.k.ls:=by
 obtain⟨_,h2,ps,ev,mr,h3⟩:=h.ey;rw[h3];exact⟨rfl,rfl,rfl,rfl,rfl,rfl,rfl⟩
theorem Kz (p:Pk):(aS p).length≤507:=by
 unfold aS;split
 ·rename_i h;have:=JE h;rw[xL];omega
 ·simp
end
end
section
def Av:TypeDesc→Bool | .interface _=>true | _=>false
section
variable {P:Program}{a:Act}{w:World}{n:Nat}{l:List (Nat×Value)}{v:Value}
theorem EB {x t EC ee dst ty ps af g}(E:Fr a n l)(ht:P.underlying t=some ee)(hd:Av ee=false)[e:Ev l x (.iface t v)] :
   (execOp a.eval ⟨dst,.typeAssert x EC t true,ty,ps,af,g⟩).run P w=.ok (.value (.tuple #[v,.bool true])) w:=by
 cases ee <;> first | (simp[Av]at hd) | skip
 all_goals simp[execOp,e.ev a n E,Instr.typeAssert,eK ht]
theorem ED {x t t' EC ee dst z sz aX ty ps af g}(E:Fr a n l)(ht:P.underlying t=some ee)(hd:Av ee=false)(hi:TI P t z sz aX)(hn:Nat.beq t' t=false)[e:Ev l x (.iface t' v)] :
   (execOp a.eval ⟨dst,.typeAssert x EC t true,ty,ps,af,g⟩).run P w=.ok (.value (.tuple #[z,.bool false])) w:=by
 have bN:¬ t'=t:=λh=>by rw[h,Nat.beq_refl]at hn;cases hn
 cases ee <;> first | (simp[Av]at hd) | skip
 all_goals simp[execOp,e.ev a n E,Instr.typeAssert,eK ht,ti hi,bN]
end
abbrev jy:=Nat×Nat×Nat
def sL (e:jy):Prop:=e.1≤3∧1≤e.1∧e.2.1<8∧e.2.2≤1000∧(e.1=3∨e.2.2=0)
def cx (e:jy):Value:=if e.1=1 then .iface 210 (.agg #[.int .i64 e.2.1]) else if e.1=2 then .iface 211 (.agg #[.int .i64 e.2.1]) else .iface 213 (.agg #[.int .i64 e.2.1,.int .i64 e.2.2])
theorem EE (e:jy):(cx e).oneCell'=true:=by
 unfold cx;split
 ·rfl
 ·split <;> rfl
instance {e:jy}:One (cx e):=⟨EE e⟩
abbrev bW (e:jy):List Value:=[.int .i64 e.1,.int .i64 e.2.1,.int .i64 e.2.2]
theorem EF (e:jy):(bW e).length=3:=rfl
theorem EG (e:jy):∀ v∈bW e,v.oneCell'=true:=by
 intro v hv;simp[bW]at hv;rcases hv with rfl | rfl | rfl <;> rfl
section
variable {W w:World}{L:List SP}{e:jy}
theorem Yk (I:U W w L)(h:sL e):Calls prog 231 #[.agg (bW e).toArray] w λr V=>r=.returned (.tuple #[.agg #[cx e],.bool true])∧U W V L:=by
 obtain⟨h1,h2,h3,h4,h5⟩:=h;refine EN func231 ntmps231 rfl rfl λa E=>?_;refine BX 1 E I λb1 a w E I=>?_;change U W w (aa b1 102 (bW e)::_) at I;refine AL 0 E I λb2 a w E I=>?_;refine RN 7 E I λa E=>?_;rw[bn (by omega)]at E;refine RN 5 E I λa E=>?_;rw[bn (by omega)]at E;refine RN 5 E I λa E=>?_;rw[bn (by omega)]at E;refine RN 5 E I λa E=>?_;rw[bn (by omega)]at E;refine BY 4 E I (λph a E=>?_) λph a E=>?_
 ·
  refine RN 5 E I λa E=>?_;rw[bn (by omega)]at E;refine IF 8 E I (λao a E=>?_) λao a E=>?_
  ·
   refine SA 6 E I λa w E I=>?_;refine RT 1 E I ?_;exact⟨by rw[cx,ak (by omega)],I.sub⟩
  refine IF 3 E I (λay a E=>?_) λay a E=>?_
  ·
   refine SA 6 E I λa w E I=>?_;refine RT 1 E I ?_;exact⟨by rw[cx,ae (by omega),ak (by omega)],I.sub⟩
  refine IF 3 E I (λbh a E=>?_) λbh a E=>?_
  ·
   refine SA 8 E I λa w E I=>?_;refine RT 1 E I ?_;exact⟨by rw[cx,ae (by omega),ae (by omega)],I.sub⟩
  exfalso;omega
 refine IF 13 E I (λao a E=>?_) λao a E=>?_
 ·
  refine SA 6 E I λa w E I=>?_;refine RT 1 E I ?_;exact⟨by rw[cx,ak (by omega)],I.sub⟩
 refine IF 3 E I (λay a E=>?_) λay a E=>?_
 ·
  refine SA 6 E I λa w E I=>?_;refine RT 1 E I ?_;exact⟨by rw[cx,ae (by omega),ak (by omega)],I.sub⟩
 refine IF 3 E I (λbh a E=>?_) λbh a E=>?_
 ·
  refine SA 8 E I λa w E I=>?_;refine RT 1 E I ?_;exact⟨by rw[cx,ae (by omega),ae (by omega)],I.sub⟩
 exfalso;omega
theorem Yl (I:U W w L)(h:sL e)(hk:e.1=1):Calls prog 80 #[.agg #[cx e]] w λr V=>r=.returned (.agg (bW e).toArray)∧U W V L:=by
 have he:cx e=.iface 210 (.agg #[.int .i64 e.2.1]):=by rw[cx,ak hk]
 have hz:e.2.2=0:=by have:=h.2.2.2.2;omega
 rw[he];refine EN func80 ntmps80 rfl rfl λa E=>?_;refine BX 1 E I λb1 a w E I=>?_;refine AL 0 E I λb2 a w E I=>?_;refine RN 5 E I λa E=>?_;refine SK (bE E rfl (EB E underlying210 rfl) rfl ?_);clear E a;intro a E;refine RN 2 E I λa E=>?_;replace E:=E.ef 9;refine AL 2 E I λb3 a w E I=>?_
 skip
 refine SA 0 E I λa w E I=>?_;refine SA 4 E I λa w E I=>?_;refine RT 0 E I ?_;exact⟨by rw[bW,hk,hz];rfl,I.sub⟩
theorem Ym (I:U W w L)(h:sL e)(hk:e.1=2):Calls prog 80 #[.agg #[cx e]] w λr V=>r=.returned (.agg (bW e).toArray)∧U W V L:=by
 have he:cx e=.iface 211 (.agg #[.int .i64 e.2.1]):=by rw[cx,ae (by omega),ak hk]
 have hz:e.2.2=0:=by have:=h.2.2.2.2;omega
 rw[he];refine EN func80 ntmps80 rfl rfl λa E=>?_;refine BX 1 E I λb1 a w E I=>?_;refine AL 0 E I λb2 a w E I=>?_;refine RN 5 E I λa E=>?_;refine SK (bE E rfl (ED E underlying210 rfl Ty.t210 rfl) rfl ?_);clear E a;intro a E;refine RN 2 E I λa E=>?_;replace E:=E.aN 9;refine RN 2 E I λa E=>?_;refine SK (bE E rfl (EB E underlying211 rfl) rfl ?_);clear E a;intro a E;refine RN 2 E I λa E=>?_;replace E:=E.ef 15;refine AL 2 E I λb4 a w E I=>?_;refine SA 0 E I λa w E I=>?_;refine SA 4 E I λa w E I=>?_;refine RT 0 E I ?_;exact⟨by rw[bW,hk,hz];rfl,I.sub⟩
theorem Yn (I:U W w L)(h:sL e)(hk:e.1=3):Calls prog 80 #[.agg #[cx e]] w λr V=>r=.returned (.agg (bW e).toArray)∧U W V L:=by
 have he:cx e=.iface 213 (.agg #[.int .i64 e.2.1,.int .i64 e.2.2]):=by rw[cx,ae (by omega),ae (by omega)]
 rw[he];refine EN func80 ntmps80 rfl rfl λa E=>?_;refine BX 1 E I λb1 a w E I=>?_;refine AL 0 E I λb2 a w E I=>?_;refine RN 5 E I λa E=>?_;refine SK (bE E rfl (ED E underlying210 rfl Ty.t210 rfl) rfl ?_);clear E a;intro a E;refine RN 2 E I λa E=>?_;replace E:=E.aN 9;refine RN 2 E I λa E=>?_;refine SK (bE E rfl (ED E underlying211 rfl Ty.t211 rfl) rfl ?_);clear E a;intro a E;refine RN 2 E I λa E=>?_;replace E:=E.aN 15;refine RN 2 E I λa E=>?_;refine SK (bE E rfl (EB E underlying213 rfl) rfl ?_);clear E a;intro a E;refine RN 2 E I λa E=>?_;replace E:=E.ef 21;refine AL 2 E I λb5 a w E I=>?_;refine SA 0 E I λa w E I=>?_;refine SA 6 E I λa w E I=>?_;refine RT 0 E I ?_;exact⟨by rw[bW,hk];rfl,I.sub⟩
theorem Yo (I:U W w L)(h:sL e):Calls prog 80 #[.agg #[cx e]] w λr V=>r=.returned (.agg (bW e).toArray)∧U W V L:=by
 have h1:=h.1;have h2:=h.2.1;by_cases k1:e.1=1
 ·exact Yl I h k1
 ·by_cases k2:e.1=2
  ·exact Ym I h k2
  ·exact Yn I h (by omega)
end
end
end Go.Proofs.YteoldcfapaiobaaGreat
